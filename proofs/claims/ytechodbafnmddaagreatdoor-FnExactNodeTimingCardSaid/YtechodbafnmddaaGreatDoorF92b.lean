/- Functions of this program as plain functions of data, and that they are so: printed by program. -/
import Derived.Test.YtechodbafnmddaaGreatDoorF92a
section
namespace Go.Proofs.YtechodbafnmddaaGreatDoor
open Go Go.Proofs Go.Proofs.Sv Go.Proofs.Xv Go.Proofs.Xl Go.RowKit
open Tryz
def XX:Unit->Option Bool
 | _ =>
 some true
def D0Z(b:List r7)(c:List r7)(d:Int->Option Bool):Int->Option Bool
 | a =>
 if(decide (a < (b.length:Int))) then
  gd (ix a b.length/\ix a c.length/\(Kc (b.getD a.toNat (a6 y158)) (c.getD a.toNat (a6 y158))).isSome/\True) <|
  if(!vl (Kc (b.getD a.toNat (a6 y158)) (c.getD a.toNat (a6 y158)))) then
   some false
  else
   gd (b7 (a+1)/\True) <|
   d (a+1)
 else
  XX ()
def Ke(b:List r7)(a:List r7):Option Bool :=
 if((b.length:Int) != (a.length:Int)) then
  some false
 else
  lp (D0Z b a) 0
def P0c:Ct:=b9 221 [.dat y158.sl,.dat y158.sl] (fun x=>Ke x.1 x.2.1) (fun r:Bool=>B r) (fun _=>())
theorem M0Y:Ok prog P0c:=by
 refine c8 [.tmp 4] func221 ?_;intro y ⟨h,e,_⟩ r H Q hn hr;have:=hz (tc M0Q tn);refine iA [0,1]<|vQ<|iA [0,1,10]<|cD H (fun H=>iA [4]<|a7<|fR<|hr H) fun H=>vK<|fQ<|jN r (fun(_:Unit)=>Z [] []) (XX) (fun _ H=>?_) (fun _ b j g=>?_)
 ·refine iA [4]<|a7<|hr H
 refine iA [0,1,5]<|vB<|lX (fun(a:Int)=>Z [p 0 (L y158 h),p 1 (L y158 e),p 5 (I a)] []) 0 H fun _ i f c d a H=>vQ<|iA [0,1,5,14]<|cD H (fun H=>?_) (fun H=>?_)
 ·refine vK<|fQ<|vQ<|vB<|iB [0,1,5,26] H fun H=>cD H (fun H=>iA [4]<|a7<|h9<|fR<|d<|h9<|g<|hr H) fun H=>vK<|fK<|fQ<|jB [0,1,5] H fun H=>f H
 exact vE<|fE<|c<|fX rfl<|b H
def Kg(b:A6)(a:A6):Option Bool :=
 if(!decide (b.1=a.1)) then
  some false
 else
  if(b.2.1 != a.2.1) then
   some false
  else
   if(b.2.2.1 != a.2.2.1) then
    some false
   else
    if(!b.2.2.2==a.2.2.2) then
     some false
    else
     some true
def O0L:Ct:=b9 249 [.agg y293,.agg y293] (fun x=>Kg x.1 x.2.1) (fun r:Bool=>B r) (fun _=>())
theorem M0R:Ok prog O0L:=by
 refine c8 [.tmp 4] func249 ?_;intro y ⟨_,_,_⟩ r H Q hn hr;refine iA [2,3]<|vQ<|iA [2,3,9]<|cD H (fun H=>iA [4]<|a7<|fR<|hr H) fun H=>vK<|fQ<|vQ<|iA [2,3,14]<|cD H (fun H=>iA [4]<|a7<|fR<|hr H) fun H=>vK<|fQ<|vQ<|iA [2,3,19]<|cD H (fun H=>iA [4]<|a7<|fR<|hr H) fun H=>vK<|fQ<|vQ<|iA [24]<|cD H (fun H=>iA [4]<|a7<|fR<|hr H) fun H=>vK<|fQ<|iA [4]<|a7<|hr H
def XY:Unit->Option Bool
 | _ =>
 some true
def E0b(b:List A6)(c:List A6)(d:Int->Option Bool):Int->Option Bool
 | a =>
 if(decide (a < (b.length:Int))) then
  gd (ix a b.length/\ix a c.length/\(Kg (b.getD a.toNat (a6 y293)) (c.getD a.toNat (a6 y293))).isSome/\True) <|
  if(!vl (Kg (b.getD a.toNat (a6 y293)) (c.getD a.toNat (a6 y293)))) then
   some false
  else
   gd (b7 (a+1)/\True) <|
   d (a+1)
 else
  XY ()
def Kh(b:List A6)(a:List A6):Option Bool :=
 if((b.length:Int) != (a.length:Int)) then
  some false
 else
  lp (E0b b a) 0
def P0d:Ct:=b9 220 [.dat y293.sl,.dat y293.sl] (fun x=>Kh x.1 x.2.1) (fun r:Bool=>B r) (fun _=>())
theorem M0Z:Ok prog P0d:=by
 refine c8 [.tmp 4] func220 ?_;intro y ⟨h,e,_⟩ r H Q hn hr;have:=hz (tc M0R tn);refine iA [0,1]<|vQ<|iA [0,1,10]<|cD H (fun H=>iA [4]<|a7<|fR<|hr H) fun H=>vK<|fQ<|jN r (fun(_:Unit)=>Z [] []) (XY) (fun _ H=>?_) (fun _ b j g=>?_)
 ·refine iA [4]<|a7<|hr H
 refine iA [0,1,5]<|vB<|lX (fun(a:Int)=>Z [p 0 (L y293 h),p 1 (L y293 e),p 5 (I a)] []) 0 H fun _ i f c d a H=>vQ<|iA [0,1,5,14]<|cD H (fun H=>?_) (fun H=>?_)
 ·refine vK<|fQ<|vQ<|vB<|iB [0,1,5,26] H fun H=>cD H (fun H=>iA [4]<|a7<|h9<|fR<|d<|h9<|g<|hr H) fun H=>vK<|fK<|fQ<|jB [0,1,5] H fun H=>f H
 exact vE<|fE<|c<|fX rfl<|b H
def Ki(b:k6)(a:k6):Option Bool :=
 if(!decide (b.1=a.1)) then
  some false
 else
  if(b.2.1 != a.2.1) then
   some false
  else
   gd ((Kh b.2.2.1 a.2.2.1).isSome/\True) <|
   if(!vl (Kh b.2.2.1 a.2.2.1)) then
    some false
   else
    gd ((Ke b.2.2.2.1 a.2.2.2.1).isSome/\True) <|
    if(!vl (Ke b.2.2.2.1 a.2.2.2.1)) then
     some false
    else
     gd ((H3 b.2.2.2.2.1 a.2.2.2.2.1).isSome/\True) <|
     if(!vl (H3 b.2.2.2.2.1 a.2.2.2.2.1)) then
      some false
     else
      if(b.2.2.2.2.2.1 != a.2.2.2.2.2.1) then
       some false
      else
       if(b.2.2.2.2.2.2 != a.2.2.2.2.2.2) then
        some false
       else
        some true
def P0S:Ct:=b9 172 [.agg y153,.agg y153] (fun x=>Ki x.1 x.2.1) (fun r:Bool=>B r) (fun _=>())
theorem N0s:Ok prog P0S:=by
 refine c8 [.tmp 4] func172 ?_;intro y ⟨_,_,_⟩ r H Q hn hr;have:=hz (tc JR (tc M0Y (tc M0Z tn)));refine iA [2,3]<|vQ<|iA [2,3,9]<|cD H (fun H=>iA [4]<|a7<|fR<|hr H) fun H=>vK<|fQ<|vQ<|iA [2,3,14]<|cD H (fun H=>iA [4]<|a7<|fR<|hr H) fun H=>vK<|fQ<|vQ<|iB [2,3,20] H fun H=>cD H (fun H=>iA [4]<|a7<|fR<|hr H) fun H=>vK<|fQ<|vQ<|iB [2,3,26] H fun H=>cD H (fun H=>iA [4]<|a7<|fR<|hr H) fun H=>vK<|fQ<|vQ<|iB [2,3,32] H fun H=>cD H (fun H=>iA [4]<|a7<|fR<|hr H) fun H=>vK<|fQ<|vQ<|iA [2,3,37]<|cD H (fun H=>iA [4]<|a7<|fR<|hr H) fun H=>vK<|fQ<|vQ<|iA [42]<|cD H (fun H=>iA [4]<|a7<|fR<|hr H) fun H=>vK<|fQ<|iA [4]<|a7<|hr H
def XZ:Unit->Option Bool
 | _ =>
 some true
def E0U(b:List k6)(c:List k6)(d:Int->Option Bool):Int->Option Bool
 | a =>
 if(decide (a < (b.length:Int))) then
  gd (ix a b.length/\ix a c.length/\(Ki (b.getD a.toNat (a6 y153)) (c.getD a.toNat (a6 y153))).isSome/\True) <|
  if(!vl (Ki (b.getD a.toNat (a6 y153)) (c.getD a.toNat (a6 y153)))) then
   some false
  else
   gd (b7 (a+1)/\True) <|
   d (a+1)
 else
  XZ ()
def Kj(b:List k6)(a:List k6):Option Bool :=
 if((b.length:Int) != (a.length:Int)) then
  some false
 else
  lp (E0U b a) 0
def Q0P:Ct:=b9 113 [.dat y153.sl,.dat y153.sl] (fun x=>Kj x.1 x.2.1) (fun r:Bool=>B r) (fun _=>())
theorem N0M:Ok prog Q0P:=by
 refine c8 [.tmp 4] func113 ?_;intro y ⟨h,e,_⟩ r H Q hn hr;have:=hz (tc N0s tn);refine iA [0,1]<|vQ<|iA [0,1,10]<|cD H (fun H=>iA [4]<|a7<|fR<|hr H) fun H=>vK<|fQ<|jN r (fun(_:Unit)=>Z [] []) (XZ) (fun _ H=>?_) (fun _ b j g=>?_)
 ·refine iA [4]<|a7<|hr H
 refine iA [0,1,5]<|vB<|lX (fun(a:Int)=>Z [p 0 (L y153 h),p 1 (L y153 e),p 5 (I a)] []) 0 H fun _ i f c d a H=>vQ<|iA [0,1,5,14]<|cD H (fun H=>?_) (fun H=>?_)
 ·refine vK<|fQ<|vQ<|vB<|iB [0,1,5,26] H fun H=>cD H (fun H=>iA [4]<|a7<|h9<|fR<|d<|h9<|g<|hr H) fun H=>vK<|fK<|fQ<|jB [0,1,5] H fun H=>f H
 exact vE<|fE<|c<|fX rfl<|b H
def Kk(b:List k6)(a:List k6):Option Bool :=
 gd ((Kj b a).isSome/\True) <|
 if(!vl (Kj b a)) then
  some false
 else
  some true
def k54:Ct:=b9 54 [.agg y153.sl,.agg y153.sl] (fun x=>Kk x.1 x.2.1) (fun r:Bool=>B r) (fun _=>())
theorem o54:Ok prog k54:=by
 refine c8 [.tmp 4] func54 ?_;intro y ⟨_,_,_⟩ r H Q hn hr;have:=hz (tc N0M tn);refine iA [2,3]<|vQ<|iB [10] H fun H=>cD H (fun H=>iA [4]<|a7<|fR<|hr H) fun H=>vK<|fQ<|iA [4]<|a7<|hr H
def Kl(b:j0)(a:j0):Option Bool :=
 gd ((Kk b.1 a.1).isSome/\True) <|
 if(!vl (Kk b.1 a.1)) then
  some false
 else
  gd ((JZ b.2.1 a.2.1).isSome/\True) <|
  if(!vl (JZ b.2.1 a.2.1)) then
   some false
  else
   gd ((JT b.2.2 a.2.2).isSome/\True) <|
   if(!vl (JT b.2.2 a.2.2)) then
    some false
   else
    some true
def k18:Ct:=b9 18 [.agg j7,.agg j7] (fun x=>Kl x.1 x.2.1) (fun r:Bool=>B r) (fun _=>())
theorem o18:Ok prog k18:=by
 refine c8 [.tmp 4] func18 ?_;intro y ⟨_,_,_⟩ r H Q hn hr;have:=hz (tc o56 (tc o55 (tc o54 tn)));refine iA [2,3]<|vQ<|iB [2,3,10] H fun H=>cD H (fun H=>iA [4]<|a7<|fR<|hr H) fun H=>vK<|fQ<|vQ<|iB [2,3,16] H fun H=>cD H (fun H=>iA [4]<|a7<|fR<|hr H) fun H=>vK<|fQ<|vQ<|iB [22] H fun H=>cD H (fun H=>iA [4]<|a7<|fR<|hr H) fun H=>vK<|fQ<|iA [4]<|a7<|hr H
def Cd(b:q7)(a:q7):Option Bool :=
 if(b.1 != a.1) then
  some false
 else
  if(b.2 != a.2) then
   some false
  else
   some true
def k66:Ct:=b9 66 [.agg y73,.agg y73] (fun x=>Cd x.1 x.2.1) (fun r:Bool=>B r) (fun _=>())
theorem Ya:Ok prog k66:=by
 refine c8 [.tmp 4] func66 ?_;intro y ⟨_,_,_⟩ r H Q hn hr;refine iA [2,3]<|vQ<|iA [2,3,9]<|cD H (fun H=>iA [4]<|a7<|fR<|hr H) fun H=>vK<|fQ<|vQ<|iA [14]<|cD H (fun H=>iA [4]<|a7<|fR<|hr H) fun H=>vK<|fQ<|iA [4]<|a7<|hr H
def CT(b:l6)(a:l6):Option Bool :=
 if(b.1 != a.1) then
  some false
 else
  gd ((Cd b.2.1 a.2.1).isSome/\True) <|
  if(!vl (Cd b.2.1 a.2.1)) then
   some false
  else
   gd ((Cd b.2.2 a.2.2).isSome/\True) <|
   if(!vl (Cd b.2.2 a.2.2)) then
    some false
   else
    some true
def k24:Ct:=b9 24 [.agg y75,.agg y75] (fun x=>CT x.1 x.2.1) (fun r:Bool=>B r) (fun _=>())
theorem Yb:Ok prog k24:=by
 refine c8 [.tmp 4] func24 ?_;intro y ⟨_,_,_⟩ r H Q hn hr;have:=hz (tc Ya tn);refine iA [2,3]<|vQ<|iA [2,3,9]<|cD H (fun H=>iA [4]<|a7<|fR<|hr H) fun H=>vK<|fQ<|vQ<|iB [2,3,15] H fun H=>cD H (fun H=>iA [4]<|a7<|fR<|hr H) fun H=>vK<|fQ<|vQ<|iB [21] H fun H=>cD H (fun H=>iA [4]<|a7<|fR<|hr H) fun H=>vK<|fQ<|iA [4]<|a7<|hr H
def Yc:Unit->Option Bool
 | _ =>
 some true
def H0G(b:List l6)(c:List l6)(d:Int->Option Bool):Int->Option Bool
 | a =>
 if(decide (a < (b.length:Int))) then
  gd (ix a b.length/\ix a c.length/\(CT (b.getD a.toNat (a6 y75)) (c.getD a.toNat (a6 y75))).isSome/\True) <|
  if(!vl (CT (b.getD a.toNat (a6 y75)) (c.getD a.toNat (a6 y75)))) then
   some false
  else
   gd (b7 (a+1)/\True) <|
   d (a+1)
 else
  Yc ()
def Km(b:List l6)(a:List l6):Option Bool :=
 if((b.length:Int) != (a.length:Int)) then
  some false
 else
  lp (H0G b a) 0
def k20:Ct:=b9 20 [.dat y75.sl,.dat y75.sl] (fun x=>Km x.1 x.2.1) (fun r:Bool=>B r) (fun _=>())
theorem o20:Ok prog k20:=by
 refine c8 [.tmp 4] func20 ?_;intro y ⟨h,e,_⟩ r H Q hn hr;have:=hz (tc Yb tn);refine iA [0,1]<|vQ<|iA [0,1,10]<|cD H (fun H=>iA [4]<|a7<|fR<|hr H) fun H=>vK<|fQ<|jN r (fun(_:Unit)=>Z [] []) (Yc) (fun _ H=>?_) (fun _ b j g=>?_)
 ·refine iA [4]<|a7<|hr H
 refine iA [0,1,5]<|vB<|lX (fun(a:Int)=>Z [p 0 (L y75 h),p 1 (L y75 e),p 5 (I a)] []) 0 H fun _ i f c d a H=>vQ<|iA [0,1,5,14]<|cD H (fun H=>?_) (fun H=>?_)
 ·refine vK<|fQ<|vQ<|vB<|iB [0,1,5,26] H fun H=>cD H (fun H=>iA [4]<|a7<|h9<|fR<|d<|h9<|g<|hr H) fun H=>vK<|fK<|fQ<|jB [0,1,5] H fun H=>f H
 exact vE<|fE<|c<|fX rfl<|b H
def Yd:Unit->Option Bool
 | _ =>
 some true
def H0v(b:List q7)(c:List q7)(d:Int->Option Bool):Int->Option Bool
 | a =>
 if(decide (a < (b.length:Int))) then
  gd (ix a b.length/\ix a c.length/\(Cd (b.getD a.toNat (a6 y73)) (c.getD a.toNat (a6 y73))).isSome/\True) <|
  if(!vl (Cd (b.getD a.toNat (a6 y73)) (c.getD a.toNat (a6 y73)))) then
   some false
  else
   gd (b7 (a+1)/\True) <|
   d (a+1)
 else
  Yd ()
def Fa(b:List q7)(a:List q7):Option Bool :=
 if((b.length:Int) != (a.length:Int)) then
  some false
 else
  lp (H0v b a) 0
def k58:Ct:=b9 58 [.dat y73.sl,.dat y73.sl] (fun x=>Fa x.1 x.2.1) (fun r:Bool=>B r) (fun _=>())
theorem o58:Ok prog k58:=by
 refine c8 [.tmp 4] func58 ?_;intro y ⟨h,e,_⟩ r H Q hn hr;have:=hz (tc Ya tn);refine iA [0,1]<|vQ<|iA [0,1,10]<|cD H (fun H=>iA [4]<|a7<|fR<|hr H) fun H=>vK<|fQ<|jN r (fun(_:Unit)=>Z [] []) (Yd) (fun _ H=>?_) (fun _ b j g=>?_)
 ·refine iA [4]<|a7<|hr H
 refine iA [0,1,5]<|vB<|lX (fun(a:Int)=>Z [p 0 (L y73 h),p 1 (L y73 e),p 5 (I a)] []) 0 H fun _ i f c d a H=>vQ<|iA [0,1,5,14]<|cD H (fun H=>?_) (fun H=>?_)
 ·refine vK<|fQ<|vQ<|vB<|iB [0,1,5,26] H fun H=>cD H (fun H=>iA [4]<|a7<|h9<|fR<|d<|h9<|g<|hr H) fun H=>vK<|fK<|fQ<|jB [0,1,5] H fun H=>f H
 exact vE<|fE<|c<|fX rfl<|b H
def Ye:Unit->Option Bool
 | _ =>
 some true
def H0w(b:List Bool)(c:List Bool)(d:Int->Option Bool):Int->Option Bool
 | a =>
 if(decide (a < (b.length:Int))) then
  gd (ix a b.length/\ix a c.length/\True) <|
  if(!b.getD a.toNat false==c.getD a.toNat false) then
   some false
  else
   gd (b7 (a+1)/\True) <|
   d (a+1)
 else
  Ye ()
def Kn(b:List Bool)(a:List Bool):Option Bool :=
 if((b.length:Int) != (a.length:Int)) then
  some false
 else
  lp (H0w b a) 0
def k57:Ct:=b9 57 [.dat Ty.bool.sl,.dat Ty.bool.sl] (fun x=>Kn x.1 x.2.1) (fun r:Bool=>B r) (fun _=>())
theorem o57:Ok prog k57:=by
 refine c8 [.tmp 4] func57 ?_;intro y ⟨h,e,_⟩ r H Q hn hr;refine iA [0,1]<|vQ<|iA [0,1,10]<|cD H (fun H=>iA [4]<|a7<|fR<|hr H) fun H=>vK<|fQ<|jN r (fun(_:Unit)=>Z [] []) (Ye) (fun _ H=>?_) (fun _ b j g=>?_)
 ·refine iA [4]<|a7<|hr H
 refine iA [0,1,5]<|vB<|lX (fun(a:Int)=>Z [p 0 (L Ty.bool h),p 1 (L Ty.bool e),p 5 (I a)] []) 0 H fun _ i f c d a H=>vQ<|iA [0,1,5,14]<|cD H (fun H=>?_) (fun H=>?_)
 ·refine vK<|fQ<|vQ<|vB<|iB [0,1,5,25] H fun H=>cD H (fun H=>iA [4]<|a7<|h9<|fR<|d<|h9<|g<|hr H) fun H=>vK<|fK<|fQ<|jB [0,1,5] H fun H=>f H
 exact vE<|fE<|c<|fX rfl<|b H
def Ko(b:A0)(a:A0):Option Bool :=
 gd ((Kn b.1 a.1).isSome/\True) <|
 if(!vl (Kn b.1 a.1)) then
  some false
 else
  gd ((Fa b.2.1 a.2.1).isSome/\True) <|
  if(!vl (Fa b.2.1 a.2.1)) then
   some false
  else
   gd ((Fa b.2.2 a.2.2).isSome/\True) <|
   if(!vl (Fa b.2.2 a.2.2)) then
    some false
   else
    some true
def k21:Ct:=b9 21 [.agg y65,.agg y65] (fun x=>Ko x.1 x.2.1) (fun r:Bool=>B r) (fun _=>())
theorem o21:Ok prog k21:=by
 refine c8 [.tmp 4] func21 ?_;intro y ⟨_,_,_⟩ r H Q hn hr;have:=hz (tc o58 (tc o57 tn));refine iA [2,3]<|vQ<|iB [2,3,10] H fun H=>cD H (fun H=>iA [4]<|a7<|fR<|hr H) fun H=>vK<|fQ<|vQ<|iB [2,3,16] H fun H=>cD H (fun H=>iA [4]<|a7<|fR<|hr H) fun H=>vK<|fQ<|vQ<|iB [22] H fun H=>cD H (fun H=>iA [4]<|a7<|fR<|hr H) fun H=>vK<|fQ<|iA [4]<|a7<|hr H
def Ce(b:q7)(a:q7):Option q7 :=
 gd (b7 (b.1+a.1)/\b7 (b.2+a.2)/\True) <|
 some (b.1+a.1,b.2+a.2)
def Q0Q:Ct:=b9 112 [.agg y73,.agg y73] (fun x=>Ce x.1 x.2.1) (fun r:q7=>AV.agg [I r.1,I r.2]) (fun _=>())
theorem N0N:Ok prog Q0Q:=by
 refine c8 [.cell 4 73] func112 ?_;intro y ⟨_,_,_⟩ r H Q hn hr;refine iA [2,3,4]<|iB [4] H fun H=>a7<|hr H
def AA(b:Int)(a:Int)(c:Int):Option Int :=
 gd (0<a/\0<a/\True) <|
 if(c==0&&decide (b.tmod a<0)) then
  gd (b7 (b.tdiv a-1)/\True) <|
  some (b.tdiv a-1)
 else
  if(c==1&&decide (0<b.tmod a)) then
   gd (b7 (b.tdiv a+1)/\True) <|
   some (b.tdiv a+1)
  else
   some (b.tdiv a)
def P0h:Ct:=b9 216 [.dat i64,.dat i64,.dat i64] (fun x=>AA x.1 x.2.1 x.2.2.1) (fun r:Int=>I r) (fun _=>())
theorem CU:Ok prog P0h:=by
 refine c8 [.tmp 6] func216 ?_;intro y ⟨_,_,_,_⟩ r H Q hn hr;refine iA [0,1,2]<|iB [2,7,8] H fun H=>vQ<|vB<|iA [2,7,8,15]<|cD H (fun H=>iB [6] H fun H=>a7<|h9<|fR<|hr H) fun H=>iA [7,24]<|cD H (fun H=>iB [6] H fun H=>a7<|h9<|fR<|hr H) fun H=>vK<|fK<|fQ<|iA [6]<|a7<|hr H
def Yf:Int->Option Int
 | a =>
 some a
def QK(d:Int)(c:Int×Int->Option Int):Int×Int->Option Int
 | (a,b) =>
 if(decide (a<b)) then
  gd (b7 (a+b)/\b7 (a+b+(1:Int))/\(0:Int) < (2:Int)/\True) <|
  gd (b7 ((a+b+1).tdiv 2*(a+b+1).tdiv 2)/\True) <|
  if(decide ((a+b+1).tdiv 2*(a+b+1).tdiv 2<=d)) then
   c (((a+b+1).tdiv 2,b))
  else
   gd (b7 ((a+b+1).tdiv 2-1)/\True) <|
   c ((a,(a+b+1).tdiv 2-1))
 else
  Yf a
def Kp(a:Int):Option Int :=
 lp (QK a) (0,3000000000)
def O0M:Ct:=b9 248 [.dat i64] (fun x=>Kp x.1) (fun r:Int=>I r) (fun _=>())
theorem Yg:Ok prog O0M:=by
 refine c8 [.tmp 2] func248 ?_;intro y ⟨g,_⟩ r H Q hn hr;refine iA [0]<|iA [0,3,4]<|jN r (fun(a:Int)=>Z [p 3 (I a)] []) (Yf) (fun a H=>?_) (fun _ e j k=>?_)
 ·refine iA [2]<|a7<|hr H
 refine vB<|lX (fun((d,c):Int×Int)=>Z [p 0 (J g),p 3 (I d),p 4 (I c)] []) (0,3000000000) H fun _ i b f h ⟨d,c⟩ H=>vQ<|iA [0,3,4,8]<|cD H (fun H=>?_) (fun H=>?_)
 ·refine vK<|fQ<|vB<|iB [0,3,4,5] H fun H=>iB [0,3,4,5,18] H fun H=>cD H (fun H=>jA [0,3,4]<|fK<|b H) fun H=>jB [0,3,4] H fun H=>fK<|b H
 exact vE<|fE<|f<|fX rfl<|e H
def O5(a:Int)(b:Int)(d:Int):Option Int :=
 gd (b7 (500*a)/\b7 (500*a*500)/\b7 (500*a*500*a)/\b7 (b*b)/\b7 (500*a*500*a+b*b)/\True) <|
 gd ((Kp (500*a*500*a+b*b)).isSome/\True)<|lt (vl (Kp (500*a*500*a+b*b))) fun c =>
 gd (((d==1)=true/\True->b7 (c*c))/\True) <|
 if(d==1&&decide (c*c<500*a*500*a+b*b)) then
  gd ((0:Int) < (500:Int)/\b7 (c.tdiv (500:Int)+(1:Int))/\True) <|
  some (c.tdiv 500+1)
 else
  gd ((AA c 500 d).isSome/\True)<|lt (vl (AA c 500 d)) fun e =>
  some e
def P0e:Ct:=b9 219 [.dat i64,.dat i64,.dat i64] (fun x=>O5 x.1 x.2.1 x.2.2.1) (fun r:Int=>I r) (fun _=>())
theorem Yh:Ok prog P0e:=by
 refine c8 [.tmp 6] func219 ?_;intro y ⟨_,_,_,_⟩ r H Q hn hr;have:=hz (tc CU (tc Yg tn));refine iA [0,1,2]<|iB [2,7] H fun H=>iD Yg [2,7,8] H fun _ H=>vQ<|iB [2,8,28] H fun H=>cD H (fun H=>iB [6] H fun H=>a7<|fR<|hr H) fun H=>vK<|fQ<|iD CU [6] H fun _ H=>a7<|hr H
def Fb(a:Int):Option Bool :=
 some (a != a)
def O0m:Ct:=b9 283 [.dat i64] (fun x=>Fb x.1) (fun r:Bool=>B r) (fun _=>())
theorem M0D:Ok prog O0m:=by
 refine c8 [.tmp 2] func283 ?_;intro y ⟨_,_⟩ r H Q hn hr;refine iA [0]<|iA [2]<|a7<|hr H
def Fc(a:Int):Option Bool :=
 some (a != a)
def O0e:Ct:=b9 295 [.dat i64] (fun x=>Fc x.1) (fun r:Bool=>B r) (fun _=>())
theorem M0y:Ok prog O0e:=by
 refine c8 [.tmp 2] func295 ?_;intro y ⟨_,_⟩ r H Q hn hr;refine iA [0]<|iA [2]<|a7<|hr H
def Kq(a:Int)(b:Int):Option Bool :=
 gd ((Fc a).isSome/\(vl (Fc a)=true/\True->(Fc b).isSome)/\True) <|
 some (vl (Fc a)&&!vl (Fc b)||decide (a<b))
def O0n:Ct:=b9 282 [.dat i64,.dat i64] (fun x=>Kq x.1 x.2.1) (fun r:Bool=>B r) (fun _=>())
theorem M0E:Ok prog O0n:=by
 refine c8 [.tmp 4] func282 ?_;intro y ⟨_,_,_⟩ r H Q hn hr;have:=hz (tc M0y tn);refine iA [0,1]<|iB [4] H fun H=>a7<|hr H
def QL(b:List Int)(c:Int):Int->Option (Int×Bool)
 | a =>
 gd ((decide (a < (b.length:Int))=true/\True->ix a b.length)/\((b.getD a.toNat 0==c)=false/\decide (a < (b.length:Int))=true/\True->ix a b.length)/\((b.getD a.toNat 0==c)=false/\decide (a < (b.length:Int))=true/\True->(Fb (b.getD a.toNat 0)).isSome)/\(vl (Fb (b.getD a.toNat 0))=true/\(b.getD a.toNat 0==c)=false/\decide (a < (b.length:Int))=true/\True->(Fb c).isSome)/\True) <|
 some ((a,decide (a < (b.length:Int))&&(b.getD a.toNat 0==c||vl (Fb (b.getD a.toNat 0))&&vl (Fb c))))
def Kr(c:List Int)(d:Int)(e:Int×Int->Option (Int×Bool)):Int×Int->Option (Int×Bool)
 | (a,b) =>
 if(decide (a<b)) then
  gd (b7 (a+b)/\((0:Int)<=a+b/\a+b<=(18446744073709551615:Int))/\(((0:Int)<=(1:Int)/\(1:Int)<=(62:Int))/\(0:Int)<=(a+b).fdiv ((2:Int) ^ Int.toNat (1:Int))/\(a+b).fdiv ((2:Int) ^ Int.toNat (1:Int))<=(18446744073709551615:Int))/\b7 ((a+b).fdiv ((2:Int) ^ Int.toNat (1:Int)))/\True) <|
  gd (ix ((a+b).fdiv ((2:Int) ^ Int.toNat (1:Int))) c.length/\(Kq (c.getD ((a+b).fdiv ((2:Int) ^ Int.toNat (1:Int))).toNat (0:Int)) d).isSome/\True) <|
  if(vl (Kq (c.getD ((a+b).fdiv ((2:Int) ^ Int.toNat (1:Int))).toNat (0:Int)) d)) then
   gd (b7 ((a+b).fdiv ((2:Int) ^ Int.toNat (1:Int))+(1:Int))/\True) <|
   e (((a+b).fdiv ((2:Int) ^ Int.toNat (1:Int))+(1:Int),b))
  else
   e ((a,(a+b).fdiv ((2:Int) ^ Int.toNat (1:Int))))
 else
  QL c d a
def Ks(a:List Int)(b:Int):Option (Int×Bool) :=
 lp (Kr a b) ((0,(a.length:Int)))
def O0y:Ct:=b9 267 [.dat i64.sl,.dat i64] (fun x=>Ks x.1 x.2.1) (fun r:Int×Bool=>AV.tup [I r.1,B r.2]) (fun _=>())
theorem Yi:Ok prog O0y:=by
 refine c8 [.tmp 4,.tmp 5] func267 ?_;intro y ⟨a,b,_⟩ r H Q hn hr;have:=hz (tc M0D (tc M0E tn));refine iA [0,1]<|iA [0,1,6]<|iA [0,1,6,7,8]<|jN r (fun(f:Int)=>Z [p 0 (L i64 a),p 1 (J b),p 6 (I (a.length:Int)),p 7 (I f)] []) (QL a b) (fun f H=>?_) (fun _ g k l=>?_)
 ·refine iB [4,5] H fun H=>a7<|hr H
 refine vB<|lX (fun((e,c):Int×Int)=>Z [p 0 (L i64 a),p 1 (J b),p 6 (I (a.length:Int)),p 7 (I e),p 8 (I c)] []) ((0,(a.length:Int))) H fun _ j d h i ⟨e,c⟩ H=>vQ<|iA [0,1,6,7,8,15]<|cD H (fun H=>?_) (fun H=>?_)
 ·refine vK<|fQ<|vB<|iB [0,1,6,7,8,9] H fun H=>iB [0,1,6,7,8,9,27] H fun H=>cD H (fun H=>jB [0,1,6,7,8] H fun H=>fK<|d H) fun H=>jA [0,1,6,7,8]<|fK<|d H
 exact vE<|fE<|h<|fX rfl<|g H
def J7(a:List Int)(e:Int):Option (List AB×Int) :=
 gd (ix 0 a.length/\b7 ((a.length:Int)-1)/\ix ((a.length:Int)-1) a.length/\True)<|lt (min (max e (a.getD (Int.toNat (0:Int)) (0:Int))) (a.getD ((a.length:Int)-(1:Int)).toNat (0:Int))) fun c =>
 gd ((Ks a c).isSome/\True)<|lt (vl (Ks a c)) fun b =>
 if b.2 then
  some (([(b.1,(1:Int))],(1:Int)))
 else
  gd (b7 (b.1-1)/\ix b.1 a.length/\b7 (a.getD b.1.toNat 0-c)/\b7 (b.1-1)/\ix (b.1-1) a.length/\b7 (c-a.getD (b.1-1).toNat 0)/\ix b.1 a.length/\b7 (b.1-1)/\ix (b.1-1) a.length/\b7 (a.getD b.1.toNat 0-a.getD (b.1-1).toNat 0)/\True)<|lt ([(b.1-1,a.getD b.1.toNat 0-c),(b.1,c-a.getD (b.1-1).toNat 0)]) fun d =>
  some ((d,a.getD b.1.toNat 0-a.getD (b.1-1).toNat 0))
def O0N:Ct:=b9 247 [.dat i64.sl,.dat i64] (fun x=>J7 x.1 x.2.1) (fun r:List AB×Int=>AV.tup [AV.ow 322 true M8 r.1,I r.2]) (fun _=>())
theorem QM:Ok prog O0N:=by
 refine c8 [.tmp 4,.tmp 5] func247 ?_;intro y ⟨a,_,_⟩ r H Q hn hr;have:=hz (tc Yi tn);refine iA [0,1]<|qD (fun d=>Z [p 0 (L i64 a),p 1 (I d)] []) H fun d H=>iD Yi [0,1,6,7] H fun b H=>vQ<|iA [0,1,6,26]<|cD H (fun H=>iA [4,5]<|a7<|fR<|hr H) fun H=>vK<|fQ<|qD (fun c=>Z [p 4 (O 48),p 5 (I (a.getD b.1.toNat 0-a.getD (b.1-1).toNat 0))] [(48,A 322 M8 c 0)]) H fun c H=>a7<|hr H
def GR(d:List AB×Int)(b:List AB×Int)(e:Int):Int->Option Int
 | a =>
 gd (b7 (d.2*b.2)/\(AA a (d.2*b.2) e).isSome/\True)<|lt (vl (AA a (d.2*b.2) e)) fun c =>
 some c
def QN(a:Int)(c:Int×Int->Option Int):Int->Option Int
 | b =>
 gd (b7 (a+1)/\True) <|
 c (b,a+1)
def GS(d:m4)(a:AB)(f:List AB×Int)(h:Int)(i:Int×Int->Option Int)(j:Int×Int->Option Int):Int×Int->Option Int
 | (e,c) =>
 if(decide (c < (f.1.length:Int))) then
  gd (ix c f.1.length/\c.toNat<f.1.length/\True)<|lt (f.1.getD c.toNat (a6 M8)) fun b =>
  gd (b7 (a.1*(d.2.1.length:Int))/\b7 (a.1*(d.2.1.length:Int)+b.1)/\ix (a.1*(d.2.1.length:Int)+b.1) d.2.2.length/\b7 (d.2.2.getD (a.1*(d.2.1.length:Int)+b.1).toNat 0*a.2)/\b7 (d.2.2.getD (a.1*(d.2.1.length:Int)+b.1).toNat 0*a.2*b.2)/\b7 (e+d.2.2.getD (a.1*(d.2.1.length:Int)+b.1).toNat 0*a.2*b.2)/\True)<|lt (e+d.2.2.getD (a.1*(d.2.1.length:Int)+b.1).toNat 0*a.2*b.2) fun g =>
  gd (b7 (c+1)/\True) <|
  j (g,c+1)
 else
  QN h i e
def Fe(h:m4)(e:List AB×Int)(c:List AB×Int)(f:Int)(g:Int×Int->Option Int):Int×Int->Option Int
 | (b,a) =>
 if(decide (a < (c.1.length:Int))) then
  gd (ix a c.1.length/\a.toNat<c.1.length/\True)<|lt (c.1.getD a.toNat (a6 M8)) fun d =>
  lp (GS h d e a g) (b,0)
 else
  GR c e f b
def F5(a:m4)(b:Int)(c:Int)(d:Int):Option Int :=
 gd ((J7 a.1 b).isSome/\True)<|lt (vl (J7 a.1 b)) fun f =>
 gd ((J7 a.2.1 c).isSome/\True)<|lt (vl (J7 a.2.1 c)) fun e =>
 lp (Fe a e f d) (0,0)
def P0i:Ct:=b9 215 [.agg y269,.dat i64,.dat i64,.dat i64] (fun x=>F5 x.1 x.2.1 x.2.2.1 x.2.2.2.1) (fun r:Int=>I r) (fun _=>())
theorem MZ:Ok prog P0i:=by
 refine c8 [.tmp 8] func215 ?_;intro y ⟨j,_,_,g,_⟩ r H Q hn hr;have:=hz (tc CU (tc QM tn));refine iA [1,2,3,4]<|iD QM [2,3,4,9,10] H fun a H=>iD QM [3,4,9,10,11,12] H fun c H=>iA [3,4,9,10,11,12,13]<|jN r (fun(k:Int)=>Z [p 3 (J g),p 10 (I a.2),p 12 (I c.2),p 13 (I k)] []) (GR a c g) (fun k H=>?_) (fun _ n x P=>?_)
 ·refine iD CU [8] H fun _ H=>a7<|hr H
 refine iA [3,4,10,11,12,13,32,33,34]<|vB<|lX (fun((f,b):Int×Int)=>Z (G7 g a.2 c.2 f [p 32 (O 22),p 33 (I (a.1.length:Int)),p 34 (I b)]) (Gx c.1 a.1 j)) (0,0) H fun _ t u o w ⟨f,b⟩ H=>iA [3,4,10,11,12,13,32,33,34,35]<|vQ<|cD H (fun H=>?_) (fun H=>?_)
 ·refine vK<|fQ<|jN r (fun(l:Int)=>Z (G7 g a.2 c.2 l [p 32 (O 22),p 33 (I (a.1.length:Int)),p 34 (I b)]) (Gx c.1 a.1 j)) (QN b t) (fun l H=>?_) (fun _ v F z=>?_)
  ·refine jB [3,4,10,11,12,13,32,33,34] H fun H=>u H
  refine vB<|qD (fun d=>Z (G7 g a.2 c.2 f [p 15 (R 15),p 32 (O 22),p 33 (I (a.1.length:Int)),p 34 (I b)]) ((15,bx 322 (s5 true M8 d))::Gx c.1 a.1 j)) H fun d H=>iA [3,4,10,11,12,13,15,32,33,34,38,39,40]<|vB<|lX (fun((i,e):Int×Int)=>Z (G7 g a.2 c.2 i [p 15 (R 15),p 32 (O 22),p 33 (I (a.1.length:Int)),p 34 (I b),p 38 (O 29),p 39 (I (c.1.length:Int)),p 40 (I e)]) ((15,bx 322 (s5 true M8 d))::Gx c.1 a.1 j)) (f,0) H fun _ G s q E ⟨i,e⟩ H=>iA [3,4,10,11,12,13,15,32,33,34,38,39,40,41]<|vQ<|cD H (fun H=>vK<|fQ<|vQ<|vB<|qD (fun h=>Z (G7 g a.2 c.2 i [p 15 (R 15),p 17 (R 17),p 32 (O 22),p 33 (I (a.1.length:Int)),p 34 (I b),p 38 (O 29),p 39 (I (c.1.length:Int)),p 40 (I e)]) ((17,bx 322 (s5 true M8 h))::(15,bx 322 (s5 true M8 d))::Gx c.1 a.1 j)) H fun h H=>zD (fun m=>Z (G7 g a.2 c.2 m [p 15 (R 15),p 32 (O 22),p 33 (I (a.1.length:Int)),p 34 (I b),p 38 (O 29),p 39 (I (c.1.length:Int)),p 40 (I e)]) ((17,bx 322 (s5 true M8 h))::(15,bx 322 (s5 true M8 d))::Gx c.1 a.1 j)) H fun m H=>fK<|fQ<|jB [3,4,10,11,12,13,15,32,33,34,38,39,40] H fun H=>s H) fun H=>vE<|fE<|q<|fX rfl<|fK<|v H
 exact vE<|fE<|o<|fX rfl<|n H
def AD(a:x5)(b:j2):Option r7 :=
 gd ((0:Int) < (2:Int)/\ix (b.2.1.tdiv (2:Int)) a.2.1.length/\ix (a.2.1.getD (b.2.1.tdiv (2:Int)).toNat (a6 y235)).1 a.1.2.1.1.length/\True)<|lt (a.1.2.1.1.getD (a.2.1.getD (b.2.1.tdiv 2).toNat (a6 y235)).1.toNat (a6 y155)) fun c =>
 gd (ix c.2.1 a.1.1.length/\ix b.2.2.2 (a.1.1.getD c.2.1.toNat (a6 y153)).2.2.2.1.length/\True)<|lt ((a.1.1.getD c.2.1.toNat (a6 y153)).2.2.2.1.getD b.2.2.2.toNat (a6 y158)) fun d =>
 some d
def P0j:Ct:=b9 214 [.dat y189.pt,.agg y138] (fun x=>AD x.1 x.2.1) (fun r:r7=>AV.agg [I r.1,I r.2.1,I r.2.2.1,I r.2.2.2.1,L y269 r.2.2.2.2.1,L y269 r.2.2.2.2.2]) (fun _=>())
theorem Yj:Ok prog P0j:=by
 refine c8 [.cell 4 158] func214 ?_;intro y ⟨d,c,_⟩ r H Q hn hr;refine iA [0,3,4]<|qD (fun a=>Z [p 0 (D y189.pt d),p 3 (R 3),p 4 (R 4),p 5 (R 5)] [(5,K 155 y155 a),(4,bx 158 [I 0,I 0,I 0,I 0,nil,nil]),(3,K 138 y138 c)]) H fun a H=>qD (fun b=>Z [p 4 (R 4)] [(4,K 158 y158 b),(5,K 155 y155 a),(3,K 138 y138 c)]) H fun b H=>a7<|hr H
def Bo(a:x5)(b:j2):Option Int :=
 gd ((0:Int) < (2:Int)/\ix (b.2.1.tdiv (2:Int)) a.2.1.length/\True)<|lt (a.2.1.getD (b.2.1.tdiv 2).toNat (a6 y235)) fun c =>
 some c.2.2.1
def P0U:Ct:=b9 170 [.dat y189.pt,.agg y138] (fun x=>Bo x.1 x.2.1) (fun r:Int=>I r) (fun _=>())
theorem GU:Ok prog P0U:=by
 refine c8 [.tmp 4] func170 ?_;intro y ⟨_,b,_⟩ r H Q hn hr;refine iA [0,3]<|qD (fun a=>Z [p 4 (J a.2.2.1)] [(3,K 138 y138 b)]) H fun a H=>a7<|hr H
def B4(a:x5)(f:Int)(e:Int)(d:Int):Option Int :=
 gd (ix f a.2.2.1.length/\True)<|lt (a.2.2.1.getD f.toNat (a6 y138)) fun b =>
 gd ((Bo a b).isSome/\True)<|lt (vl (Bo a b)) fun c =>
 if(b.2.2.1==1) then
  gd ((AD a b).isSome/\(0:Int) < (2:Int)/\ix (b.2.1.tmod (2:Int)) (vl (AD a b)).2.2.2.2.2.length/\ix c a.2.2.2.1.length/\(F5 ((vl (AD a b)).2.2.2.2.2.getD (b.2.1.tmod (2:Int)).toNat (a6 y269)) e (a.2.2.2.1.getD c.toNat (0:Int)) d).isSome/\True)<|lt (vl (F5 ((vl (AD a b)).2.2.2.2.2.getD (b.2.1.tmod 2).toNat (a6 y269)) e (a.2.2.2.1.getD c.toNat 0) d)) fun g =>
  some (min g 1000000)
 else
  gd (ix c a.2.2.2.2.1.length/\ix b.2.2.2 (List.length (a.2.2.2.2.1.getD c.toNat []))/\(O5 e (List.getD (a.2.2.2.2.1.getD c.toNat []) b.2.2.2.toNat 0) d).isSome/\True)<|lt (vl (O5 e (List.getD (a.2.2.2.2.1.getD c.toNat []) b.2.2.2.toNat 0) d)) fun h =>
  some (min h 1000000)
def P0T:Ct:=b9 171 [.dat y189.pt,.dat i64,.dat i64,.dat i64] (fun x=>B4 x.1 x.2.1 x.2.2.1 x.2.2.2.1) (fun r:Int=>I r) (fun _=>())
theorem N0t:Ok prog P0T:=by
 refine c8 [.tmp 8] func171 ?_;intro y ⟨b,_,d,c,_⟩ r H Q hn hr;have:=hz (tc Yh (tc MZ (tc Yj (tc GU tn))));refine iA [0,1,2,3]<|qD (fun a=>Z [p 0 (D y189.pt b),p 2 (J d),p 3 (J c),p 9 (R 9)] [(9,K 138 y138 a)]) H fun a H=>iD GU [0,2,3,9,10] H fun _ H=>vQ<|iA [0,2,3,9,10,23]<|cD H (fun H=>iD MZ [8] H fun _ H=>a7<|fR<|hr H) fun H=>vK<|fQ<|iD Yh [8] H fun _ H=>a7<|hr H
def V8(a:Int)(b:Int)(c:Int):Option Int :=
 gd (b7 (a*b)/\(AA (a*b) 1000 c).isSome/\True)<|lt (vl (AA (a*b) 1000 c)) fun d =>
 some d
def P0g:Ct:=b9 217 [.dat i64,.dat i64,.dat i64] (fun x=>V8 x.1 x.2.1 x.2.2.1) (fun r:Int=>I r) (fun _=>())
theorem Yk:Ok prog P0g:=by
 refine c8 [.tmp 6] func217 ?_;intro y ⟨_,_,_,_⟩ r H Q hn hr;have:=hz (tc CU tn);refine iA [0,1,2]<|iD CU [6] H fun _ H=>a7<|hr H
def GV(a:p7)(b:Int)(c:Int):Option Int :=
 if(b==1&&c==0) then
  some a.2.1
 else
  if(b==1) then
   some a.2.2.1
  else
   if(c==0) then
    some a.2.2.2.1
   else
    some a.2.2.2.2
def P0f:Ct:=b9 218 [.agg u5,.dat i64,.dat i64] (fun x=>GV x.1 x.2.1 x.2.2.1) (fun r:Int=>I r) (fun _=>())
theorem N0a:Ok prog P0f:=by
 refine c8 [.tmp 6] func218 ?_;intro y ⟨_,_,_,_⟩ r H Q hn hr;refine iA [1,2,3]<|vQ<|vB<|iA [1,2,3,7]<|cD H (fun H=>iA [6]<|a7<|h9<|fR<|hr H) fun H=>iA [2,3,16]<|cD H (fun H=>iA [6]<|a7<|h9<|fR<|hr H) fun H=>iA [3,21]<|cD H (fun H=>iA [6]<|a7<|h9<|fR<|hr H) fun H=>vK<|fK<|fQ<|iA [6]<|a7<|hr H
def V9(b:p7)(c:j2)(a:Int):Int->Option Int
 | d =>
 gd ((GV b c.2.2.1 a).isSome/\(V8 d (vl (GV b c.2.2.1 a)) a).isSome/\True)<|lt (vl (V8 d (vl (GV b c.2.2.1 a)) a)) fun e =>
 some e
def H4(b:x5)(f:p7)(g:Int)(e:Int)(d:Int):Option Int :=
 gd (ix g b.2.2.1.length/\True)<|lt (b.2.2.1.getD g.toNat (a6 y138)) fun a =>
 gd ((Bo b a).isSome/\True)<|lt (vl (Bo b a)) fun c =>
 if(a.2.2.1==1) then
  gd ((AD b a).isSome/\(0:Int) < (2:Int)/\ix (a.2.1.tmod (2:Int)) (vl (AD b a)).2.2.2.2.1.length/\ix c b.2.2.2.1.length/\(F5 ((vl (AD b a)).2.2.2.2.1.getD (a.2.1.tmod (2:Int)).toNat (a6 y269)) e (b.2.2.2.1.getD c.toNat (0:Int)) d).isSome/\True)<|lt (vl (F5 ((vl (AD b a)).2.2.2.2.1.getD (a.2.1.tmod 2).toNat (a6 y269)) e (b.2.2.2.1.getD c.toNat 0) d)) fun h =>
  V9 f a d h
 else
  gd (ix c b.2.2.2.2.1.length/\ix a.2.2.2 (List.length (b.2.2.2.2.1.getD c.toNat []))/\(AA (List.getD (b.2.2.2.2.1.getD c.toNat []) a.2.2.2.toNat 0) 1000 d).isSome/\True)<|lt (vl (AA (List.getD (b.2.2.2.2.1.getD c.toNat []) a.2.2.2.toNat 0) 1000 d)) fun i =>
  V9 f a d i
def P0V:Ct:=b9 169 [.dat y189.pt,.agg u5,.dat i64,.dat i64,.dat i64] (fun x=>H4 x.1 x.2.1 x.2.2.1 x.2.2.2.1 x.2.2.2.2.1) (fun r:Int=>I r) (fun _=>())
theorem N0u:Ok prog P0V:=by
 refine c8 [.tmp 10] func169 ?_;intro y ⟨g,c,_,f,b,_⟩ r H Q hn hr;have:=hz (tc Yk (tc N0a (tc CU (tc MZ (tc Yj (tc GU tn))))));refine iA [0,2,3,4,6]<|qD (fun a=>Z [p 0 (D y189.pt g),p 3 (J f),p 4 (J b),p 6 (R 6),p 11 (R 11)] [(11,K 138 y138 a),(6,K 58 u5 c)]) H fun a H=>iD GU [0,3,4,6,11,12] H fun _ H=>iA [0,3,4,6,11,12]<|jN r (fun(d:Int)=>Z [p 4 (J b),p 6 (R 6),p 11 (R 11),p 13 (I d)] [(11,K 138 y138 a),(6,K 58 u5 c)]) (V9 c a b) (fun d H=>?_) (fun _ e h i=>?_)
 ·refine iD Yk [10] H fun _ H=>a7<|hr H
 refine iA [0,3,4,6,11,12,26]<|cD H (fun H=>jD MZ [4,6,11,13] H fun _ H=>e H) fun H=>jD CU [4,6,11,13] H fun _ H=>e H
def Ff(c:x5)(b:Int)(a:q7):Int×Int->Option (q7×q7)
 | (i,g) =>
 gd ((B4 c b a.1 0).isSome/\(B4 c b a.2 0).isSome/\(B4 c b a.1 1).isSome/\(B4 c b a.2 1).isSome/\True)<|lt ((vl (B4 c b a.1 0),vl (B4 c b a.2 0),vl (B4 c b a.1 1),vl (B4 c b a.2 1))) fun(h,f,d,e) =>
 some (((i,g),min h f,max d e))
def Cf(a:x5)(d:p7)(b:Int)(c:q7):Option (q7×q7) :=
 gd ((H4 a d b c.1 0).isSome/\(H4 a d b c.2 0).isSome/\(H4 a d b c.1 1).isSome/\(H4 a d b c.2 1).isSome/\True)<|lt ((vl (H4 a d b c.1 0),vl (H4 a d b c.2 0),vl (H4 a d b c.1 1),vl (H4 a d b c.2 1))) fun(j,h,g,i) =>
 gd (ix b a.2.2.1.length/\True)<|lt (a.2.2.1.getD b.toNat (a6 y138)) fun e =>
 if(decide (0 < (a.2.2.2.2.2.length:Int))&&e.2.2.1==2) then
  gd ((Bo a e).isSome/\ix (vl (Bo a e)) a.2.2.2.2.2.length/\True)<|lt (vl (Bo a e)) fun f =>
  gd (b7 (min j h-a.2.2.2.2.2.getD f.toNat 0)/\b7 (max g i+a.2.2.2.2.2.getD f.toNat 0)/\True) <|
  Ff a b c (min j h-a.2.2.2.2.2.getD f.toNat 0,max g i+a.2.2.2.2.2.getD f.toNat 0)
 else
  Ff a b c (min j h,max g i)
def Q0R:Ct:=b9 111 [.dat y189.pt,.agg u5,.dat i64,.agg y73] (fun x=>Cf x.1 x.2.1 x.2.2.1 x.2.2.2.1) (fun r:q7×q7=>AV.tup [AV.agg [I r.1.1,I r.1.2],AV.agg [I r.2.1,I r.2.2]]) (fun _=>())
theorem Yl:Ok prog Q0R:=by
 refine c8 [.cell 8 73,.cell 9 73] func111 ?_;intro y ⟨e,o,d,a,_⟩ r H Q hn hr;have:=hz (tc N0t (tc GU (tc N0u tn)));refine iA [0,2,5,7,8,9]<|iA [0,2,5,8,9,10,11]<|qD (fun(g,i,f,k)=>Z [p 0 (D y189.pt e),p 2 (J d),p 8 (R 8),p 9 (R 9),p 10 (J a.1),p 11 (J a.2),p 12 (R 12)] [(12,bx 73 [I (min g i),I (max f k)]),(9,bx 73 [I 0,I 0]),(8,bx 73 [I 0,I 0]),(7,K 73 y73 a),(5,K 58 u5 o)]) H fun⟨g,i,f,k⟩ H =>
  jN r (fun((j,h):Int×Int)=>Z [p 0 (D y189.pt e),p 2 (J d),p 8 (R 8),p 9 (R 9),p 10 (J a.1),p 11 (J a.2),p 12 (R 12)] [(12,bx 73 [I j,I h]),(9,bx 73 [I 0,I 0]),(8,bx 73 [I 0,I 0])]) (Ff e d a) (fun⟨j,h⟩ H=>?_) (fun _ m s t=>?_)
 ·refine qD (fun(q,n,b,c)=>Z [p 8 (R 8),p 9 (R 9),p 12 (R 12),p 15 (R 15)] [(15,bx 73 [I (min q n),I (max b c)]),(12,bx 73 [I j,I h]),(9,bx 73 [I 0,I 0]),(8,bx 73 [I 0,I 0])]) H fun⟨q,n,b,c⟩ H =>
   iA [8,9] <|
   a7<|hr H
 refine qD (fun l=>Z [p 0 (D y189.pt e),p 2 (J d),p 8 (R 8),p 9 (R 9),p 10 (J a.1),p 11 (J a.2),p 12 (R 12),p 13 (R 13)] [(13,K 138 y138 l),(12,bx 73 [I (min g i),I (max f k)]),(9,bx 73 [I 0,I 0]),(8,bx 73 [I 0,I 0]),(7,K 73 y73 a),(5,K 58 u5 o)]) H fun l H=>iA [0,2,8,9,10,11,12,13,60]<|cD H (fun H=>iD GU [0,2,8,9,10,11,12,14] H fun _ H=>jB [0,2,8,9,10,11,12] H fun H=>m H) fun H=>vK<|m H
def QO(b:j2)(a:Int):Option Bool :=
 some (b.2.1==a)
def P0W:Ct:=b9 168 [.agg y138,.dat (.pt i64)] (fun x=>QO x.1 x.2.1) (fun r:Bool=>B r) (fun _=>())
theorem Ym:Ok prog P0W:=by
 refine c8 [.tmp 3] func168 ?_;intro y ⟨_,_,_⟩ r H Q hn hr;refine iA [1,2]<|iA [3]<|a7<|hr H
def Yn:List Int->Option (List Int)
 | a =>
 some a
def QP(a:Int)(c:List Int×Int->Option (List Int)):List Int->Option (List Int)
 | b =>
 gd (b7 (a+1)/\True) <|
 c (b,a+1)
def Yo(b:D4)(f:Int)(e:List Int×Int->Option (List Int)):List Int×Int->Option (List Int)
 | (c,a) =>
 if(decide (a < (b.1.2.2.1.length:Int))) then
  gd (ix a b.1.2.2.1.length/\True)<|lt (b.1.2.2.1.getD a.toNat (a6 y138)) fun d =>
  gd (ix a b.2.length/\(b.2.getD a.toNat false=true/\True->(QO d f).isSome)/\True) <|
  if(b.2.getD a.toNat false&&vl (QO d f)) then
   gd ((c.length+[a].length<=9223372036854775807/\(c.length+[a].length)*8<=140737488355328)/\True) <|
   QP a e (c++[a])
  else
   QP a e c
 else
  Yn c
def Na(b:D4)(a:Int):Option (List Int) :=
 lp (Yo b a) ([],0)
def w0x:Ct:=b9 162 [.dat y126.pt,.fn 168 (.pt i64)] (fun x=>Na x.1 x.2.1) (fun r:List Int=>AV.ow 2 true i64 r) (fun _=>())
theorem Nb:Ok prog w0x:=by
 refine c8 [.tmp 4] func162 ?_;intro y ⟨a,d,_⟩ r H Q hn hr;have:=hz (tc Ym tn);refine iA [0,1]<|iA [0,1,5]<|jN r (fun(g:List Int)=>Z [p 5 (O 36)] [(36,A 2 i64 g 0)]) (Yn) (fun g H=>?_) (fun _ i n s=>?_)
 ·refine iA [4]<|a7<|hr H
 refine iA [0,1,5,14,15,16]<|vB<|lX (fun((c,b):List Int×Int)=>Z [p 0 (D y126.pt a),p 1 (AV.fn 168 [D i64.pt d]),p 5 (O 36),p 14 (L y138 a.1.2.2.1),p 15 (I (a.1.2.2.1.length:Int)),p 16 (I b)] [(36,A 2 i64 c 0)]) ([],0) H fun _ k l j m ⟨c,b⟩ H=>iA [0,1,5,14,15,16,17]<|vQ<|cD H (fun H=>?_) (fun H=>?_)
 ·refine vK<|fQ<|jN r (fun(h:List Int)=>Z [p 0 (D y126.pt a),p 1 (AV.fn 168 [D i64.pt d]),p 5 (O 36),p 14 (L y138 a.1.2.2.1),p 15 (I (a.1.2.2.1.length:Int)),p 16 (I b)] [(36,A 2 i64 h 0)]) (QP b k) (fun h H=>?_) (fun _ e o q=>?_)
  ·refine jB [0,1,5,14,15,16] H fun H=>l H
  refine vB<|qD (fun f=>Z [p 0 (D y126.pt a),p 1 (AV.fn 168 [D i64.pt d]),p 5 (O 36),p 6 (I b),p 7 (R 7),p 14 (L y138 a.1.2.2.1),p 15 (I (a.1.2.2.1.length:Int)),p 16 (I b)] [(7,K 138 y138 f),(36,A 2 i64 c 0)]) H fun f H=>iB [0,1,5,6,14,15,16,32] H fun H=>cD H (fun H=>jB [0,1,5,14,15,16] H fun H=>fK<|e H) fun H=>vK<|fK<|e H
 exact vE<|fE<|j<|fX rfl<|i H
def Kt(a:D4)(b:Int):Option (List Int) :=
 gd ((Na a b).isSome/\True)<|lt (vl (Na a b)) fun c =>
 some c
def Q0S:Ct:=b9 110 [.dat y126.pt,.dat i64] (fun x=>Kt x.1 x.2.1) (fun r:List Int=>AV.ow 2 true i64 r) (fun _=>())
theorem Yp:Ok prog Q0S:=by
 refine c8 [.tmp 4] func110 ?_;intro y ⟨_,_,_⟩ r H Q hn hr;have:=hz (tc Nb (tc Ym tn));refine iA [0,3]<|iD Nb [4] H fun _ H=>a7<|hr H
def QQ(b:l6)(a:Int):Option Bool :=
 some (b.1==a)
def P0X:Ct:=b9 167 [.agg y75,.dat (.pt i64)] (fun x=>QQ x.1 x.2.1) (fun r:Bool=>B r) (fun _=>())
theorem Yq:Ok prog P0X:=by
 refine c8 [.tmp 3] func167 ?_;intro y ⟨_,_,_⟩ r H Q hn hr;refine iA [1,2]<|iA [3]<|a7<|hr H
def Yr:Unit->Option Int
 | _ =>
 some (-1)
def Ys(b:List l6)(c:Int)(d:Int->Option Int):Int->Option Int
 | a =>
 if(decide (a < (b.length:Int))) then
  gd (ix a b.length/\(QQ (b.getD a.toNat (a6 y75)) c).isSome/\True) <|
  if(vl (QQ (b.getD a.toNat (a6 y75)) c)) then
   some a
  else
   gd (b7 (a+1)/\True) <|
   d (a+1)
 else
  Yr ()
def Nc(b:List l6)(a:Int):Option Int :=
 lp (Ys b a) 0
def w0v:Ct:=b9 166 [.dat y75.sl,.fn 167 (.pt i64)] (fun x=>Nc x.1 x.2.1) (fun r:Int=>I r) (fun _=>())
theorem Yt:Ok prog w0v:=by
 refine c8 [.tmp 4] func166 ?_;intro y ⟨b,f,_⟩ r H Q hn hr;have:=hz (tc Yq tn);refine iA [0,1]<|jN r (fun(_:Unit)=>Z [] []) (Yr) (fun _ H=>?_) (fun _ c j h=>?_)
 ·refine iA [4]<|a7<|hr H
 refine iA [0,1,7,8]<|vB<|lX (fun(a:Int)=>Z [p 0 (L y75 b),p 1 (AV.fn 167 [D i64.pt f]),p 7 (I (b.length:Int)),p 8 (I a)] []) 0 H fun _ i g d e a H=>iA [0,1,7,8,9]<|vQ<|cD H (fun H=>?_) (fun H=>?_)
 ·refine vK<|fQ<|vQ<|vB<|iA [0,1,5,7,8]<|iB [0,1,5,7,8,16] H fun H=>cD H (fun H=>iA [4]<|a7<|h9<|fR<|e<|h9<|h<|hr H) fun H=>vK<|fK<|fQ<|jB [0,1,7,8] H fun H=>g H
 exact vE<|fE<|d<|fX rfl<|c H
def Ku(a:List l6)(c:Int):Option (l6×Bool) :=
 gd ((Nc a c).isSome/\True)<|lt (vl (Nc a c)) fun b =>
 if(decide (0<=b)) then
  gd (ix b a.length/\True)<|lt (a.getD b.toNat (a6 y75)) fun d =>
  some (d,true)
 else
  some ((((0:Int),((0:Int),(0:Int)),(0:Int),(0:Int)),false))
def Q0T:Ct:=b9 109 [.dat y75.sl,.dat i64] (fun x=>Ku x.1 x.2.1) (fun r:l6×Bool=>AV.tup [AV.agg (Q2 r.1),B r.2]) (fun _=>())
theorem Yu:Ok prog Q0T:=by
 refine c8 [.cell 4 75,.tmp 5] func109 ?_;intro y ⟨_,b,_⟩ r H Q hn hr;have:=hz (tc Yt (tc Yq tn));refine iA [0,3,4]<|vQ<|iD Yt [0,4,6] H fun _ H=>iA [0,4,6,11]<|cD H (fun H=>qD (fun a=>Z [p 4 (R 4),p 5 (B true)] [(4,K 75 y75 a),(3,bx 2 [J b])]) H fun a H=>a7<|fR<|hr H) fun H=>vK<|fQ<|iA [4,5]<|a7<|hr H
def r9(a:Int)(b:Int)(c:Int):Option Bool :=
 some (decide (b<=a)&&decide (a<=c))
def Q0I:Ct:=b9 120 [.dat i64,.dat i64,.dat i64] (fun x=>r9 x.1 x.2.1 x.2.2.1) (fun r:Bool=>B r) (fun _=>())
theorem T9:Ok prog Q0I:=by
 refine c8 [.tmp 6] func120 ?_;intro y ⟨_,_,_,_⟩ r H Q hn hr;refine iA [0,1,2]<|iA [6]<|a7<|hr H
def GW(a:List w4):Option Int :=
 some (a.length:Int)
def P0P:Ct:=b9 175 [.dat y235.sl] (fun x=>GW x.1) (fun r:Int=>I r) (fun _=>())
theorem Yv:Ok prog P0P:=by
 refine c8 [.tmp 2] func175 ?_;intro y ⟨_,_⟩ r H Q hn hr;refine iA [0]<|iA [2]<|a7<|hr H
def L6(a:x5):Option Int :=
 gd ((GW a.2.1).isSome/\b7 (2*vl (GW a.2.1))/\True)<|lt (vl (GW a.2.1)) fun b =>
 some (2*b)
def Q0H:Ct:=b9 121 [.dat y189.pt] (fun x=>L6 x.1) (fun r:Int=>I r) (fun _=>())
theorem Kv:Ok prog Q0H:=by
 refine c8 [.tmp 2] func121 ?_;intro y ⟨_,_⟩ r H Q hn hr;have:=hz (tc Yv tn);refine iA [0]<|iD Yv [2] H fun _ H=>a7<|hr H
def Q6(a:x5)(b:Int):Option Bool :=
 gd ((L6 a).isSome/\b7 (vl (L6 a)-1)/\(r9 b 0 (vl (L6 a)-1)).isSome/\True) <|
 some (vl (r9 b 0 (vl (L6 a)-1)))
def k63:Ct:=b9 63 [.dat y189.pt,.dat i64] (fun x=>Q6 x.1 x.2.1) (fun r:Bool=>B r) (fun _=>())
theorem Yw:Ok prog k63:=by
 refine c8 [.tmp 4] func63 ?_;intro y ⟨_,_,_⟩ r H Q hn hr;have:=hz (tc T9 (tc Kv tn));refine iA [0,1]<|iB [4] H fun H=>a7<|hr H
def CV(a:Int):Option Bool :=
 gd ((r9 a (-1000000000) 1000000000).isSome/\True) <|
 some (vl (r9 a (-1000000000) 1000000000))
def Q0G:Ct:=b9 123 [.dat i64] (fun x=>CV x.1) (fun r:Bool=>B r) (fun _=>())
theorem N0H:Ok prog Q0G:=by
 refine c8 [.tmp 2] func123 ?_;intro y ⟨_,_⟩ r H Q hn hr;have:=hz (tc T9 tn);refine iA [0]<|iB [2] H fun H=>a7<|hr H
def I2(a:q7):Option Bool :=
 gd ((CV a.1).isSome/\(vl (CV a.1)=true/\True->(CV a.2).isSome)/\True) <|
 some (vl (CV a.1)&&vl (CV a.2)&&decide (a.1<=a.2))
def k65:Ct:=b9 65 [.agg y73] (fun x=>I2 x.1) (fun r:Bool=>B r) (fun _=>())
theorem Nd:Ok prog k65:=by
 refine c8 [.tmp 2] func65 ?_;intro y ⟨_,_⟩ r H Q hn hr;have:=hz (tc N0H tn);refine iA [1]<|iB [2] H fun H=>a7<|hr H
def Kw(b:Int)(a:Int)(c:Int):Option Bool :=
 gd ((r9 b a c).isSome/\True) <|
 some (!vl (r9 b a c))
def P0l:Ct:=b9 212 [.dat i64,.dat (.pt i64),.dat (.pt i64)] (fun x=>Kw x.1 x.2.1 x.2.2.1) (fun r:Bool=>B r) (fun _=>())
theorem QR:Ok prog P0l:=by
 refine c8 [.tmp 4] func212 ?_;intro y ⟨_,_,_,_⟩ r H Q hn hr;have:=hz (tc T9 tn);refine iA [0,1,2]<|iB [4] H fun H=>a7<|hr H
def Yx:Unit->Option Int
 | _ =>
 some (-1)
def p0X(b:List Int)(c:Int×Int)(d:Int->Option Int):Int->Option Int
 | a =>
 if(decide (a < (b.length:Int))) then
  gd (ix a b.length/\(Kw (b.getD a.toNat 0) c.1 c.2).isSome/\True) <|
  if(vl (Kw (b.getD a.toNat 0) c.1 c.2)) then
   some a
  else
   gd (b7 (a+1)/\True) <|
   d (a+1)
 else
  Yx ()
def Nf(b:List Int)(a:Int×Int):Option Int :=
 lp (p0X b a) 0
def w0q:Ct:=b9 246 [.dat i64.sl,.fn 212 (.pr i64.pt i64.pt)] (fun x=>Nf x.1 x.2.1) (fun r:Int=>I r) (fun _=>())
theorem QS:Ok prog w0q:=by
 refine c8 [.tmp 4] func246 ?_;intro y ⟨c,a,_⟩ r H Q hn hr;have:=hz (tc QR tn);refine iA [0,1]<|jN r (fun(_:Unit)=>Z [] []) (Yx) (fun _ H=>?_) (fun _ d j h=>?_)
 ·refine iA [4]<|a7<|hr H
 refine iA [0,1,7,8]<|vB<|lX (fun(b:Int)=>Z [p 0 (L i64 c),p 1 (AV.fn 212 [D i64.pt a.1,D i64.pt a.2]),p 7 (I (c.length:Int)),p 8 (I b)] []) 0 H fun _ i g e f b H=>iA [0,1,7,8,9]<|vQ<|cD H (fun H=>?_) (fun H=>?_)
 ·refine vK<|fQ<|vQ<|vB<|iA [0,1,5,7,8]<|iB [0,1,5,7,8,16] H fun H=>cD H (fun H=>iA [4]<|a7<|h9<|fR<|f<|h9<|h<|hr H) fun H=>vK<|fK<|fQ<|jB [0,1,7,8] H fun H=>g H
 exact vE<|fE<|e<|fX rfl<|d H
def Ng(a:List Int)(b:Int×Int):Option Bool :=
 gd ((Nf a b).isSome/\True)<|lt (vl (Nf a b)) fun c =>
 some (decide (0<=c))
def w0t:Ct:=b9 211 [.dat i64.sl,.fn 212 (.pr (.pt i64) (.pt i64))] (fun x=>Ng x.1 x.2.1) (fun r:Bool=>B r) (fun _=>())
theorem Yy:Ok prog w0t:=by
 refine c8 [.tmp 4] func211 ?_;intro y ⟨_,_,_⟩ r H Q hn hr;have:=hz (tc QS (tc QR tn));refine iA [0,1]<|iD QS [4] H fun _ H=>a7<|hr H
def D0(b:List Int)(a:Int)(c:Int):Option Bool :=
 gd ((Ng b (a,c)).isSome/\True) <|
 some (!vl (Ng b (a,c)))
def Q0d:Ct:=b9 159 [.dat i64.sl,.dat i64,.dat i64] (fun x=>D0 x.1 x.2.1 x.2.2.1) (fun r:Bool=>B r) (fun _=>())
theorem Kx:Ok prog Q0d:=by
 refine c8 [.tmp 6] func159 ?_;intro y ⟨_,_,_,_⟩ r H Q hn hr;have:=hz (tc Yy (tc QR tn));refine iA [0,4,5]<|iB [6] H fun H=>a7<|hr H
def A4(a:List Int):Option Int :=
 some (a.length:Int)
def Q0j:Ct:=b9 153 [.dat i64.sl] (fun x=>A4 x.1) (fun r:Int=>I r) (fun _=>())
theorem Ky:Ok prog Q0j:=by
 refine c8 [.tmp 2] func153 ?_;intro y ⟨_,_⟩ r H Q hn hr;refine iA [0]<|iA [2]<|a7<|hr H
def Yz:Unit->Option Bool
 | _ =>
 some true
def YA(b:w9)(c:Int->Option Bool):Int->Option Bool
 | a =>
 if(decide (a < (b.1.length:Int))) then
  gd (ix a b.1.length/\True) <|
  gd (((b.1.getD a.toNat (0:Int) != (-1:Int))=false/\(a==(0:Int))=true/\True->ix (0:Int) b.2.1.length)/\(decide ((0:Int)<a)=true/\(a==(0:Int)&&(b.1.getD a.toNat (0:Int) != (-1:Int)||b.2.1.getD (Int.toNat (0:Int)) (0:Int) != (0:Int)))=false/\True->b7 (a-(1:Int)))/\(decide ((0:Int)<a)=true/\(a==(0:Int)&&(b.1.getD a.toNat (0:Int) != (-1:Int)||b.2.1.getD (Int.toNat (0:Int)) (0:Int) != (0:Int)))=false/\True->(r9 (b.1.getD a.toNat (0:Int)) (0:Int) (a-(1:Int))).isSome)/\True) <|
  if(a==(0:Int)&&(b.1.getD a.toNat (0:Int) != (-1:Int)||b.2.1.getD (Int.toNat (0:Int)) (0:Int) != (0:Int))||decide ((0:Int)<a)&&!vl (r9 (b.1.getD a.toNat (0:Int)) (0:Int) (a-(1:Int)))) then
   some false
  else
   gd (b7 (a+1)/\True) <|
   c (a+1)
 else
  Yz ()
def Bp(a:w9):Option Bool :=
 lp (YA a) 0
def P0s:Ct:=b9 202 [.agg y172] (fun x=>Bp x.1) (fun r:Bool=>B r) (fun _=>())
theorem N0f:Ok prog P0s:=by
 refine c8 [.tmp 2] func202 ?_;intro y ⟨a,_⟩ r H Q hn hr;have:=hz (tc T9 tn);refine iA [1]<|jN r (fun(_:Unit)=>Z [] []) (Yz) (fun _ H=>?_) (fun _ c i g=>?_)
 ·refine iA [2]<|a7<|hr H
 refine iA [1,6,7,8]<|vB<|lX (fun(b:Int)=>Z [p 1 (R 1),p 6 (L i64 a.1),p 7 (I (a.1.length:Int)),p 8 (I b)] [(1,K 172 y172 a)]) 0 H fun _ h f d e b H=>iA [1,6,7,8,9]<|vQ<|cD H (fun H=>?_) (fun H=>?_)
 ·refine vK<|fQ<|vQ<|vB<|iB [1,3,4,6,7,8] H fun H=>iB [1,6,7,8,36] H fun H=>cD H (fun H=>iA [2]<|a7<|h9<|fR<|e<|h9<|g<|hr H) fun H=>vK<|fK<|fQ<|jB [1,6,7,8] H fun H=>f H
 exact vE<|fE<|d<|fX rfl<|c H
def Kz(a:w9)(c:Int):Option Bool :=
 gd ((A4 a.1).isSome/\True)<|lt (vl (A4 a.1)) fun b =>
 gd ((r9 b 1 8).isSome/\(vl (r9 b 1 8)=true/\True->(A4 a.2.1).isSome)/\((vl (r9 b 1 8)&&vl (A4 a.2.1)==b)=true/\True->(A4 a.2.2.1).isSome)/\((vl (r9 b 1 8)&&vl (A4 a.2.1)==b&&vl (A4 a.2.2.1)==b)=true/\True->(Bp a).isSome)/\((vl (r9 b 1 8)&&vl (A4 a.2.1)==b&&vl (A4 a.2.2.1)==b&&vl (Bp a))=true/\True->(D0 a.2.1 0 1000).isSome)/\((vl (r9 b 1 8)&&vl (A4 a.2.1)==b&&vl (A4 a.2.2.1)==b&&vl (Bp a)&&vl (D0 a.2.1 0 1000))=true/\True->(D0 a.2.2.1 0 500).isSome)/\((vl (r9 b 1 8)&&vl (A4 a.2.1)==b&&vl (A4 a.2.2.1)==b&&vl (Bp a)&&vl (D0 a.2.1 0 1000)&&vl (D0 a.2.2.1 0 500))=true/\True->(A4 a.2.2.2).isSome)/\((vl (r9 b 1 8)&&vl (A4 a.2.1)==b&&vl (A4 a.2.2.1)==b&&vl (Bp a)&&vl (D0 a.2.1 0 1000)&&vl (D0 a.2.2.1 0 500)&&vl (A4 a.2.2.2)==c)=true/\True->b7 (b-1))/\((vl (r9 b 1 8)&&vl (A4 a.2.1)==b&&vl (A4 a.2.2.1)==b&&vl (Bp a)&&vl (D0 a.2.1 0 1000)&&vl (D0 a.2.2.1 0 500)&&vl (A4 a.2.2.2)==c)=true/\True->(D0 a.2.2.2 0 (b-1)).isSome)/\True)<|lt ((vl (A4 a.2.1),vl (A4 a.2.2.1),vl (A4 a.2.2.2))) fun(e,d,f) =>
 some (vl (r9 b 1 8)&&e==b&&d==b&&vl (Bp a)&&vl (D0 a.2.1 0 1000)&&vl (D0 a.2.2.1 0 500)&&f==c&&vl (D0 a.2.2.2 0 (b-1)))
def Q0n:Ct:=b9 149 [.agg y172,.dat i64] (fun x=>Kz x.1 x.2.1) (fun r:Bool=>B r) (fun _=>())
theorem N0A:Ok prog Q0n:=by
 refine c8 [.tmp 4] func149 ?_;intro y ⟨a,f,_⟩ r H Q hn hr;have:=hz (tc Kx (tc Ky (tc N0f (tc T9 tn))));refine iA [1,2]<|iD Ky [1,2,5] H fun b H=>qD (fun(d,c,e)=>Z [p 4 (B (vl (r9 b 1 8)&&d==b&&c==b&&vl (Bp a)&&vl (D0 a.2.1 0 1000)&&vl (D0 a.2.2.1 0 500)&&e==f&&vl (D0 a.2.2.2 0 (b-1))))] [(2,K 172 y172 a)]) H fun⟨d,c,e⟩ H =>
  a7<|hr H
def YB:List w4->Option (List w4)
 | a =>
 some a
def YC(d:m6)(e:Int×List w4->Option (List w4)):Int×List w4->Option (List w4)
 | (a,c) =>
 if(decide (a < (d.2.2.length:Int))) then
  gd (ix a d.2.2.length/\True)<|lt (d.2.2.getD a.toNat (a6 y231)) fun b =>
  gd ((c.length+[(-1,a,b.2.2,b.2.1==1)].length<=9223372036854775807/\(c.length+[(-1,a,b.2.2,b.2.1==1)].length)*32<=140737488355328)/\True) <|
  gd (b7 (a+1)/\True) <|
  e ((a+1,c++[(-1,a,b.2.2,b.2.1==1)]))
 else
  YB c
def KA(b:m6):List w4->Option (List w4)
 | a =>
 lp (YC b) (0,a)
def QT(b:Int)(c:List w4×Int->Option (List w4)):List w4->Option (List w4)
 | a =>
 gd (b7 (b+1)/\True) <|
 c (a,b+1)
def YD(d:Int)(b:A9)(f:List w4×Int->Option (List w4))(g:Int×List w4->Option (List w4)):Int×List w4->Option (List w4)
 | (a,c) =>
 if(decide (a < (b.2.2.length:Int))) then
  gd (ix a b.2.2.length/\True) <|
  gd (b7 ((b.2.2.length:Int)-1)/\(c.length+[(d,a,b.2.2.getD a.toNat 0,a==(b.2.2.length:Int)-1)].length<=9223372036854775807/\(c.length+[(d,a,b.2.2.getD a.toNat 0,a==(b.2.2.length:Int)-1)].length)*32<=140737488355328)/\True)<|lt ((c++[(d,a,b.2.2.getD a.toNat 0,a==(b.2.2.length:Int)-1)],[(d,a,b.2.2.getD a.toNat 0,a==(b.2.2.length:Int)-1)])) fun(e,_) =>
  gd (b7 (a+1)/\True) <|
  g (a+1,e)
 else
  QT d f c
def YE(b:m6)(e:List w4×Int->Option (List w4)):List w4×Int->Option (List w4)
 | (c,a) =>
 if(decide (a < (b.1.length:Int))) then
  gd (ix a b.1.length/\True)<|lt (b.1.getD a.toNat (a6 y155)) fun d =>
  lp (YD a d e) (0,c)
 else
  KA b c
def AE(a:m6):Option (List w4) :=
 lp (YE a) ([],0)
def Q0o:Ct:=b9 148 [.agg y53] (fun x=>AE x.1) (fun r:List w4=>AV.ow 235 true y235 r) (fun _=>())
theorem CW:Ok prog Q0o:=by
 refine c8 [.tmp 2] func148 ?_;intro y ⟨a,_⟩ r H Q hn hr;refine iA [1]<|iA [1,3]<|jN r (fun(f:List w4)=>Z [p 1 (R 1),p 3 (O 38)] [(1,K 53 y53 a),(38,A 235 y235 f 0)]) (KA a) (fun f H=>?_) (fun _ o P t0=>?_)
 ·refine jN r (fun(i:List w4)=>Z [p 3 (O 38)] [(38,A 235 y235 i 0)]) (YB) (fun i H=>?_) (fun _ s F V=>?_)
  ·refine iA [2]<|a7<|hr H
  refine iA [3,42,43,44]<|vB<|lX (fun((c,g):Int×List w4)=>Z [p 3 (O 38),p 42 (L y231 a.2.2),p 43 (I (a.2.2.length:Int)),p 44 (I c)] [(38,A 235 y235 g 0)]) (0,f) H fun _ T u w t5 ⟨c,g⟩ H=>iA [3,42,43,44,45]<|vQ<|cD H (fun H=>vK<|fQ<|vQ<|vB<|qD (fun j=>Z [p 3 (O 38),p 8 (I c),p 9 (R 9),p 42 (L y231 a.2.2),p 43 (I (a.2.2.length:Int)),p 44 (I c)] [(9,K 231 y231 j),(38,A 235 y235 g 0)]) H fun j H=>jB [3,42,43,44] H fun H=>fK<|fQ<|jB [3,42,43,44] H fun H=>u H) fun H=>vE<|fE<|w<|fX rfl<|s H
 refine iA [1,3,11,12,13]<|vB<|lX (fun((n,b):List w4×Int)=>Z [p 1 (R 1),p 3 (O 38),p 11 (L y155 a.1),p 12 (I (a.1.length:Int)),p 13 (I b)] [(1,K 53 y53 a),(38,A 235 y235 n 0)]) ([],0) H fun _ x z q G ⟨n,b⟩ H=>iA [1,3,11,12,13,14]<|vQ<|cD H (fun H=>?_) (fun H=>?_)
 ·refine vK<|fQ<|jN r (fun(l:List w4)=>Z [p 1 (R 1),p 3 (O 38),p 11 (L y155 a.1),p 12 (I (a.1.length:Int)),p 13 (I b)] [(1,K 53 y53 a),(38,A 235 y235 l 0)]) (QT b x) (fun l H=>?_) (fun _ E Y W=>?_)
  ·refine jB [1,3,11,12,13] H fun H=>z H
  refine vB<|qD (fun d=>Z [p 1 (R 1),p 3 (O 38),p 4 (I b),p 5 (R 5),p 11 (L y155 a.1),p 12 (I (a.1.length:Int)),p 13 (I b)] [(5,K 155 y155 d),(1,K 53 y53 a),(38,A 235 y235 n 0)]) H fun d H=>iA [1,3,4,5,11,12,13,19,20,21]<|vB<|lX (fun((e,m):Int×List w4)=>Z [p 1 (R 1),p 3 (O 38),p 4 (I b),p 5 (R 5),p 11 (L y155 a.1),p 12 (I (a.1.length:Int)),p 13 (I b),p 19 (L i64 d.2.2),p 20 (I (d.2.2.length:Int)),p 21 (I e)] [(5,K 155 y155 d),(1,K 53 y53 a),(38,A 235 y235 m 0)]) (0,n) H fun _ g3 v t X ⟨e,m⟩ H=>iA [1,3,4,5,11,12,13,19,20,21,22]<|vQ<|cD H (fun H=>?_) (fun H=>?_)
  ·refine vK<|fQ<|vQ<|vB<|iB [1,3,4,5,6,7,11,12,13,19,20,21] H fun H=>zD (fun(h,k)=>Z [p 1 (R 1),p 3 (AV.os 38 1),p 4 (I b),p 5 (R 5),p 11 (L y155 a.1),p 12 (I (a.1.length:Int)),p 13 (I b),p 19 (L i64 d.2.2),p 20 (I (d.2.2.length:Int)),p 21 (I e)] [(38,A 235 y235 h 1),(37,A 235 y235 k 0),(5,K 155 y155 d),(1,K 53 y53 a)]) H fun⟨h,k⟩ H =>
    fK<|fQ <|
    jB [1,3,4,5,11,12,13,19,20,21] H fun H =>
    v H
  exact vE<|fE<|t<|fX rfl<|fK<|E H
 exact vE<|fE<|q<|fX rfl<|o H
def QU(a:Int):Option Bool :=
 some (a != 1)
def P0t:Ct:=b9 201 [.dat i64] (fun x=>QU x.1) (fun r:Bool=>B r) (fun _=>())
theorem QV:Ok prog P0t:=by
 refine c8 [.tmp 2] func201 ?_;intro y ⟨_,_⟩ r H Q hn hr;refine iA [0]<|iA [2]<|a7<|hr H
def GX(a:List ByteArray):Option Int :=
 some (a.length:Int)
def O0O:Ct:=b9 236 [.dat Ty.str.sl] (fun x=>GX x.1) (fun r:Int=>I r) (fun _=>())
theorem M0S:Ok prog O0O:=by
 refine c8 [.tmp 2] func236 ?_;intro y ⟨_,_⟩ r H Q hn hr;refine iA [0]<|iA [2]<|a7<|hr H
def Fg(a:m6)(b:Int):Option Bool :=
 gd ((GX a.2.1).isSome/\b7 (vl (GX a.2.1)-1)/\(r9 b 0 (vl (GX a.2.1)-1)).isSome/\True) <|
 some (vl (r9 b 0 (vl (GX a.2.1)-1)))
def P0u:Ct:=b9 199 [.agg y53,.dat i64] (fun x=>Fg x.1 x.2.1) (fun r:Bool=>B r) (fun _=>())
theorem YF:Ok prog P0u:=by
 refine c8 [.tmp 4] func199 ?_;intro y ⟨_,_,_⟩ r H Q hn hr;have:=hz (tc T9 (tc M0S tn));refine iA [1,2]<|iB [4] H fun H=>a7<|hr H
def CX(a:List k6):Option Int :=
 some (a.length:Int)
def O0Q:Ct:=b9 234 [.dat y153.sl] (fun x=>CX x.1) (fun r:Int=>I r) (fun _=>())
theorem M0T:Ok prog O0Q:=by
 refine c8 [.tmp 2] func234 ?_;intro y ⟨_,_⟩ r H Q hn hr;refine iA [0]<|iA [2]<|a7<|hr H
def KB(b:Int)(a:m6):Option Bool :=
 gd ((Fg a b).isSome/\True) <|
 some (!vl (Fg a b))
def O0P:Ct:=b9 235 [.dat i64,.dat (.pt y53)] (fun x=>KB x.1 x.2.1) (fun r:Bool=>B r) (fun _=>())
theorem QW:Ok prog O0P:=by
 refine c8 [.tmp 3] func235 ?_;intro y ⟨_,_,_⟩ r H Q hn hr;have:=hz (tc YF tn);refine iA [0,1]<|iB [3] H fun H=>a7<|hr H
def YG:Unit->Option Int
 | _ =>
 some (-1)
def p0W(b:List Int)(c:m6)(d:Int->Option Int):Int->Option Int
 | a =>
 if(decide (a < (b.length:Int))) then
  gd (ix a b.length/\(KB (b.getD a.toNat 0) c).isSome/\True) <|
  if(vl (KB (b.getD a.toNat 0) c)) then
   some a
  else
   gd (b7 (a+1)/\True) <|
   d (a+1)
 else
  YG ()
def Nh(b:List Int)(a:m6):Option Int :=
 lp (p0W b a) 0
def w0p:Ct:=b9 246 [.dat i64.sl,.fn 235 y53.pt] (fun x=>Nh x.1 x.2.1) (fun r:Int=>I r) (fun _=>())
theorem YH:Ok prog w0p:=by
 refine c8 [.tmp 4] func246 ?_;intro y ⟨b,f,_⟩ r H Q hn hr;have:=hz (tc QW tn);refine iA [0,1]<|jN r (fun(_:Unit)=>Z [] []) (YG) (fun _ H=>?_) (fun _ c j h=>?_)
 ·refine iA [4]<|a7<|hr H
 refine iA [0,1,7,8]<|vB<|lX (fun(a:Int)=>Z [p 0 (L i64 b),p 1 (AV.fn 235 [D y53.pt f]),p 7 (I (b.length:Int)),p 8 (I a)] []) 0 H fun _ i g d e a H=>iA [0,1,7,8,9]<|vQ<|cD H (fun H=>?_) (fun H=>?_)
 ·refine vK<|fQ<|vQ<|vB<|iA [0,1,5,7,8]<|iB [0,1,5,7,8,16] H fun H=>cD H (fun H=>iA [4]<|a7<|h9<|fR<|e<|h9<|h<|hr H) fun H=>vK<|fK<|fQ<|jB [0,1,7,8] H fun H=>g H
 exact vE<|fE<|d<|fX rfl<|c H
def Ni(a:List Int)(b:m6):Option Bool :=
 gd ((Nh a b).isSome/\True)<|lt (vl (Nh a b)) fun c =>
 some (decide (0<=c))
def w0s:Ct:=b9 211 [.dat i64.sl,.fn 235 (.pt y53)] (fun x=>Ni x.1 x.2.1) (fun r:Bool=>B r) (fun _=>())
theorem v0X:Ok prog w0s:=by
 refine c8 [.tmp 4] func211 ?_;intro y ⟨_,_,_⟩ r H Q hn hr;have:=hz (tc QS (tc YH (tc QW tn)));refine iA [0,1]<|iD YH [4] H fun _ H=>a7<|hr H
def KC(c:m6)(b:List k6)(a:A9):Option Bool :=
 gd ((CX b).isSome/\b7 (vl (CX b)-1)/\(r9 a.2.1 0 (vl (CX b)-1)).isSome/\(vl (r9 a.2.1 0 (vl (CX b)-1))=true/\True->ix a.2.1 b.length)/\((vl (r9 a.2.1 0 (vl (CX b)-1))&&(a.2.2.length:Int)==(↑(b.getD a.2.1.toNat (a6 y153)).2.2.1.length:Int))=true/\True->(Ni a.2.2 c).isSome)/\True) <|
 some (vl (r9 a.2.1 0 (vl (CX b)-1))&&(a.2.2.length:Int)==(↑(b.getD a.2.1.toNat (a6 y153)).2.2.1.length:Int)&&!vl (Ni a.2.2 c))
def P0v:Ct:=b9 198 [.agg y53,.agg y153.sl,.agg y155] (fun x=>KC x.1 x.2.1 x.2.2.1) (fun r:Bool=>B r) (fun _=>())
theorem N0g:Ok prog P0v:=by
 refine c8 [.tmp 6] func198 ?_;intro y ⟨_,_,_,_⟩ r H Q hn hr;have:=hz (tc Yy (tc v0X (tc QW (tc T9 (tc M0T tn)))));refine iA [3,4,5]<|iB [6] H fun H=>a7<|hr H
def YI:Unit->Option Int
 | _ =>
 some (-1)
def D0H(d:ByteArray)(b:List ByteArray)(c:Int->Option Int):Int->Option Int
 | a =>
 if(decide (a < (b.length:Int))) then
  gd (ix a b.length/\True) <|
  if(decide (d=b.getD a.toNat (a6 Ty.str))) then
   some a
  else
   gd (b7 (a+1)/\True) <|
   c (a+1)
 else
  YI ()
def Nj(b:List ByteArray)(a:ByteArray):Option Int :=
 lp (D0H a b) 0
def O0o:Ct:=b9 278 [.dat Ty.str.sl,.dat Ty.str] (fun x=>Nj x.1 x.2.1) (fun r:Int=>I r) (fun _=>())
theorem YJ:Ok prog O0o:=by
 refine c8 [.tmp 4] func278 ?_;intro y ⟨b,f,_⟩ r H Q hn hr;refine iA [0,1]<|jN r (fun(_:Unit)=>Z [] []) (YI) (fun _ H=>?_) (fun _ c j h=>?_)
 ·refine iA [4]<|a7<|hr H
 refine iA [0,1,7,8]<|vB<|lX (fun(a:Int)=>Z [p 0 (L Ty.str b),p 1 (U f),p 7 (I (b.length:Int)),p 8 (I a)] []) 0 H fun _ i g d e a H=>iA [0,1,7,8,9]<|vQ<|cD H (fun H=>?_) (fun H=>?_)
 ·refine vK<|fQ<|vQ<|vB<|iA [0,1,5,7,8]<|iB [0,1,5,7,8,16] H fun H=>cD H (fun H=>iA [4]<|a7<|h9<|fR<|e<|h9<|h<|hr H) fun H=>vK<|fK<|fQ<|jB [0,1,7,8] H fun H=>g H
 exact vE<|fE<|d<|fX rfl<|c H
def Nk(a:List ByteArray)(b:ByteArray):Option Bool :=
 gd ((Nj a b).isSome/\True)<|lt (vl (Nj a b)) fun c =>
 some (decide (0<=c))
def O0z:Ct:=b9 261 [.dat Ty.str.sl,.dat Ty.str] (fun x=>Nk x.1 x.2.1) (fun r:Bool=>B r) (fun _=>())
theorem M0K:Ok prog O0z:=by
 refine c8 [.tmp 4] func261 ?_;intro y ⟨_,_,_⟩ r H Q hn hr;have:=hz (tc YJ tn);refine iA [0,1]<|iD YJ [4] H fun _ H=>a7<|hr H
def L7(a:ByteArray):Option Bool :=
 gd ((r9 (a.size:Int) (1:Int) (8:Int)).isSome/\(vl (r9 (a.size:Int) (1:Int) (8:Int))=true/\True->(CY a (ByteArray.mk #[(97:UInt8),(98:UInt8),(99:UInt8),(100:UInt8),(101:UInt8),(102:UInt8),(103:UInt8),(104:UInt8),(105:UInt8),(106:UInt8),(107:UInt8),(108:UInt8),(109:UInt8),(110:UInt8),(111:UInt8),(112:UInt8),(113:UInt8),(114:UInt8),(115:UInt8),(116:UInt8),(117:UInt8),(118:UInt8),(119:UInt8),(120:UInt8),(121:UInt8),(122:UInt8),(48:UInt8),(49:UInt8),(50:UInt8),(51:UInt8),(52:UInt8),(53:UInt8),(54:UInt8),(55:UInt8),(56:UInt8),(57:UInt8)])).isSome)/\((vl (r9 (a.size:Int) (1:Int) (8:Int))&&decide (vl (CY a (ByteArray.mk #[(97:UInt8),(98:UInt8),(99:UInt8),(100:UInt8),(101:UInt8),(102:UInt8),(103:UInt8),(104:UInt8),(105:UInt8),(106:UInt8),(107:UInt8),(108:UInt8),(109:UInt8),(110:UInt8),(111:UInt8),(112:UInt8),(113:UInt8),(114:UInt8),(115:UInt8),(116:UInt8),(117:UInt8),(118:UInt8),(119:UInt8),(120:UInt8),(121:UInt8),(122:UInt8),(48:UInt8),(49:UInt8),(50:UInt8),(51:UInt8),(52:UInt8),(53:UInt8),(54:UInt8),(55:UInt8),(56:UInt8),(57:UInt8)]))=ByteArray.mk #[]))=true/\True->ix (0:Int) a.size)/\((vl (r9 (a.size:Int) (1:Int) (8:Int))&&decide (vl (CY a (ByteArray.mk #[(97:UInt8),(98:UInt8),(99:UInt8),(100:UInt8),(101:UInt8),(102:UInt8),(103:UInt8),(104:UInt8),(105:UInt8),(106:UInt8),(107:UInt8),(108:UInt8),(109:UInt8),(110:UInt8),(111:UInt8),(112:UInt8),(113:UInt8),(114:UInt8),(115:UInt8),(116:UInt8),(117:UInt8),(118:UInt8),(119:UInt8),(120:UInt8),(121:UInt8),(122:UInt8),(48:UInt8),(49:UInt8),(50:UInt8),(51:UInt8),(52:UInt8),(53:UInt8),(54:UInt8),(55:UInt8),(56:UInt8),(57:UInt8)]))=ByteArray.mk #[]))=true/\True->(Nl (ByteArray.mk #[(97:UInt8),(98:UInt8),(99:UInt8),(100:UInt8),(101:UInt8),(102:UInt8),(103:UInt8),(104:UInt8),(105:UInt8),(106:UInt8),(107:UInt8),(108:UInt8),(109:UInt8),(110:UInt8),(111:UInt8),(112:UInt8),(113:UInt8),(114:UInt8),(115:UInt8),(116:UInt8),(117:UInt8),(118:UInt8),(119:UInt8),(120:UInt8),(121:UInt8),(122:UInt8)]) (B3 a (Int.toNat (0:Int)))).isSome)/\True)<|lt ((vl (CY a (ByteArray.mk #[97,98,99,100,101,102,103,104,105,106,107,108,109,110,111,112,113,114,115,116,117,118,119,120,121,122,48,49,50,51,52,53,54,55,56,57])),vl (Nl (ByteArray.mk #[(97:UInt8),(98:UInt8),(99:UInt8),(100:UInt8),(101:UInt8),(102:UInt8),(103:UInt8),(104:UInt8),(105:UInt8),(106:UInt8),(107:UInt8),(108:UInt8),(109:UInt8),(110:UInt8),(111:UInt8),(112:UInt8),(113:UInt8),(114:UInt8),(115:UInt8),(116:UInt8),(117:UInt8),(118:UInt8),(119:UInt8),(120:UInt8),(121:UInt8),(122:UInt8)]) (B3 a (Int.toNat (0:Int)))))) fun(c,b) =>
 some (vl (r9 (a.size:Int) 1 8)&&decide (c=ByteArray.mk #[])&&decide (0<=b))
def Q0m:Ct:=b9 150 [.dat Ty.str] (fun x=>L7 x.1) (fun r:Bool=>B r) (fun _=>())
theorem QX:Ok prog Q0m:=by
 refine c8 [.tmp 2] func150 ?_;intro y ⟨c,_⟩ r H Q hn hr;have:=hz (tc N0d (tc N0e (tc T9 tn)));refine iA [0]<|qD (fun(b,a)=>Z [p 2 (B (vl (r9 (c.size:Int) 1 8)&&decide (b=ByteArray.mk #[])&&decide (0<=a)))] []) H fun⟨b,a⟩ H =>
  a7<|hr H
def YK:Unit->Option Bool
 | _ =>
 some true
def YL(b:List ByteArray)(c:Int->Option Bool):Int->Option Bool
 | a =>
 if(decide (a < (b.length:Int))) then
  gd (ix a b.length/\True) <|
  gd ((L7 (b.getD a.toNat (a6 Ty.str))).isSome/\((!vl (L7 (b.getD a.toNat (a6 Ty.str))))=false/\True->(0:Int)<=(0:Int)/\(0:Int)<=a/\a<=(b.length:Int))/\((!vl (L7 (b.getD a.toNat (a6 Ty.str))))=false/\True->(Nk (List.take a.toNat b) (b.getD a.toNat (a6 Ty.str))).isSome)/\True) <|
  if(!vl (L7 (b.getD a.toNat (a6 Ty.str)))||vl (Nk (List.take a.toNat b) (b.getD a.toNat (a6 Ty.str)))) then
   some false
  else
   gd (b7 (a+1)/\True) <|
   c (a+1)
 else
  YK ()
def Q7(a:List ByteArray):Option Bool :=
 lp (YL a) 0
def O0R:Ct:=b9 233 [.dat Ty.str.sl] (fun x=>Q7 x.1) (fun r:Bool=>B r) (fun _=>())
theorem QY:Ok prog O0R:=by
 refine c8 [.tmp 2] func233 ?_;intro y ⟨a,_⟩ r H Q hn hr;have:=hz (tc M0K (tc QX tn));refine iA [0]<|jN r (fun(_:Unit)=>Z [] []) (YK) (fun _ H=>?_) (fun _ c i g=>?_)
 ·refine iA [2]<|a7<|hr H
 refine iA [0,5,6,7]<|vB<|lX (fun(b:Int)=>Z [p 0 (L Ty.str a),p 5 (L Ty.str a),p 6 (I (a.length:Int)),p 7 (I b)] []) 0 H fun _ h f d e b H=>iA [0,5,6,7,8]<|vQ<|cD H (fun H=>?_) (fun H=>?_)
 ·refine vK<|fQ<|vQ<|vB<|iB [0,3,4,5,6,7] H fun H=>iB [0,5,6,7,21] H fun H=>cD H (fun H=>iA [2]<|a7<|h9<|fR<|e<|h9<|g<|hr H) fun H=>vK<|fK<|fQ<|jB [0,5,6,7] H fun H=>f H
 exact vE<|fE<|d<|fX rfl<|c H
def KD(a:List ByteArray)(b:m6):List ByteArray->Option Bool
 | c =>
 gd (((decide ((a.length:Int)<=14)&&decide ((b.2.1.length:Int)<=30)&&decide ((c.length:Int)<=8))=true/\True->(Q7 a).isSome)/\((decide ((a.length:Int)<=14)&&decide ((b.2.1.length:Int)<=30)&&decide ((c.length:Int)<=8)&&vl (Q7 a))=true/\True->(Q7 b.2.1).isSome)/\((decide ((a.length:Int)<=14)&&decide ((b.2.1.length:Int)<=30)&&decide ((c.length:Int)<=8)&&vl (Q7 a)&&vl (Q7 b.2.1))=true/\True->(Q7 c).isSome)/\True) <|
 some (decide ((a.length:Int)<=14)&&decide ((b.2.1.length:Int)<=30)&&decide ((c.length:Int)<=8)&&vl (Q7 a)&&vl (Q7 b.2.1)&&vl (Q7 c))
def YM(c:m6)(e:List ByteArray)(f:List ByteArray×Int->Option Bool):List ByteArray×Int->Option Bool
 | (b,a) =>
 if(decide (a < (c.2.2.length:Int))) then
  gd (ix a c.2.2.length/\True)<|lt (c.2.2.getD a.toNat (a6 y231)) fun d =>
  gd ((b.length+[d.1].length<=9223372036854775807/\(b.length+[d.1].length)*16<=140737488355328)/\True) <|
  gd (b7 (a+1)/\True) <|
  f (b++[d.1],a+1)
 else
  KD e c b
def KE(b:m6):List ByteArray->Option Bool
 | a =>
 lp (YM b a) ([],0)
def YN(c:m6)(e:List ByteArray×Int->Option Bool):List ByteArray×Int->Option Bool
 | (b,a) =>
 if(decide (a < (c.1.length:Int))) then
  gd (ix a c.1.length/\True)<|lt (c.1.getD a.toNat (a6 y155)) fun d =>
  gd ((b.length+[d.1].length<=9223372036854775807/\(b.length+[d.1].length)*16<=140737488355328)/\True) <|
  gd (b7 (a+1)/\True) <|
  e (b++[d.1],a+1)
 else
  KE c b
def Nn(a:m6):Option Bool :=
 lp (YN a) ([],0)
def P0w:Ct:=b9 197 [.agg y53] (fun x=>Nn x.1) (fun r:Bool=>B r) (fun _=>())
theorem N0h:Ok prog P0w:=by
 refine c8 [.tmp 2] func197 ?_;intro y ⟨a,_⟩ r H Q hn hr;have:=hz (tc QY tn);refine iA [1]<|iA [1,3,4]<|jN r (fun(b:List ByteArray)=>Z (BT [p 4 (nil)]) [(1,K 53 y53 a),(20,A 9 Ty.str b 0)]) (KE a) (fun b H=>?_) (fun _ j s z=>?_)
 ·refine jN r (fun(g:List ByteArray)=>Z (BT [p 4 (O 33)]) [(1,K 53 y53 a),(20,A 9 Ty.str b 0),(33,A 9 Ty.str g 0)]) (KD b a) (fun g H=>?_) (fun _ o v t=>?_)
  ·refine iB [2] H fun H=>a7<|hr H
  refine iA [1,3,4,23,24,25]<|vB<|lX (fun((f,e):List ByteArray×Int)=>Z (BT [p 4 (O 33),p 23 (L y231 a.2.2),p 24 (I (a.2.2.length:Int)),p 25 (I e)]) [(1,K 53 y53 a),(20,A 9 Ty.str b 0),(33,A 9 Ty.str f 0)]) ([],0) H fun _ w m l u ⟨f,e⟩ H=>iA [1,3,4,23,24,25,26]<|vQ<|cD H (fun H=>vK<|fQ<|vQ<|vB<|qD (fun h=>Z (BT [p 4 (O 33),p 8 (R 8),p 23 (L y231 a.2.2),p 24 (I (a.2.2.length:Int)),p 25 (I e)]) [(8,K 231 y231 h),(1,K 53 y53 a),(20,A 9 Ty.str b 0),(33,A 9 Ty.str f 0)]) H fun h H=>jB [1,3,4,23,24,25] H fun H=>fK<|fQ<|jB [1,3,4,23,24,25] H fun H=>m H) fun H=>vE<|fE<|l<|fX rfl<|o H
 refine iA [1,3,4,10,11,12]<|vB<|lX (fun((d,c):List ByteArray×Int)=>Z (BT [p 4 (nil),p 10 (L y155 a.1),p 11 (I (a.1.length:Int)),p 12 (I c)]) [(1,K 53 y53 a),(20,A 9 Ty.str d 0)]) ([],0) H fun _ x n k q ⟨d,c⟩ H=>iA [1,3,4,10,11,12,13]<|vQ<|cD H (fun H=>vK<|fQ<|vQ<|vB<|qD (fun i=>Z (BT [p 4 (nil),p 6 (R 6),p 10 (L y155 a.1),p 11 (I (a.1.length:Int)),p 12 (I c)]) [(6,K 155 y155 i),(1,K 53 y53 a),(20,A 9 Ty.str d 0)]) H fun i H=>jB [1,3,4,10,11,12] H fun H=>fK<|fQ<|jB [1,3,4,10,11,12] H fun H=>n H) fun H=>vE<|fE<|k<|fX rfl<|j H
def QZ(b:r7)(a:Int):Option Bool :=
 some (b.1==a)
def O0f:Ct:=b9 291 [.agg y158,.dat (.pt i64)] (fun x=>QZ x.1 x.2.1) (fun r:Bool=>B r) (fun _=>())
theorem Ra:Ok prog O0f:=by
 refine c8 [.tmp 3] func291 ?_;intro y ⟨_,_,_⟩ r H Q hn hr;refine iA [1,2]<|iA [3]<|a7<|hr H
def YO:Unit->Option Int
 | _ =>
 some (-1)
def p0U(b:List r7)(c:Int)(d:Int->Option Int):Int->Option Int
 | a =>
 if(decide (a < (b.length:Int))) then
  gd (ix a b.length/\(QZ (b.getD a.toNat (a6 y158)) c).isSome/\True) <|
  if(vl (QZ (b.getD a.toNat (a6 y158)) c)) then
   some a
  else
   gd (b7 (a+1)/\True) <|
   d (a+1)
 else
  YO ()
def No(b:List r7)(a:Int):Option Int :=
 lp (p0U b a) 0
def w0l:Ct:=b9 290 [.dat y158.sl,.fn 291 i64.pt] (fun x=>No x.1 x.2.1) (fun r:Int=>I r) (fun _=>())
theorem Rb:Ok prog w0l:=by
 refine c8 [.tmp 4] func290 ?_;intro y ⟨b,f,_⟩ r H Q hn hr;have:=hz (tc Ra tn);refine iA [0,1]<|jN r (fun(_:Unit)=>Z [] []) (YO) (fun _ H=>?_) (fun _ c j h=>?_)
 ·refine iA [4]<|a7<|hr H
 refine iA [0,1,7,8]<|vB<|lX (fun(a:Int)=>Z [p 0 (L y158 b),p 1 (AV.fn 291 [D i64.pt f]),p 7 (I (b.length:Int)),p 8 (I a)] []) 0 H fun _ i g d e a H=>iA [0,1,7,8,9]<|vQ<|cD H (fun H=>?_) (fun H=>?_)
 ·refine vK<|fQ<|vQ<|vB<|iA [0,1,5,7,8]<|iB [0,1,5,7,8,16] H fun H=>cD H (fun H=>iA [4]<|a7<|h9<|fR<|e<|h9<|h<|hr H) fun H=>vK<|fK<|fQ<|jB [0,1,7,8] H fun H=>g H
 exact vE<|fE<|d<|fX rfl<|c H
def Np(a:List r7)(b:Int):Option Bool :=
 gd ((No a b).isSome/\True)<|lt (vl (No a b)) fun c =>
 some (decide (0<=c))
def w0n:Ct:=b9 274 [.dat y158.sl,.fn 291 (.pt i64)] (fun x=>Np x.1 x.2.1) (fun r:Bool=>B r) (fun _=>())
theorem YP:Ok prog w0n:=by
 refine c8 [.tmp 4] func274 ?_;intro y ⟨_,_,_⟩ r H Q hn hr;have:=hz (tc Rb (tc Ra tn));refine iA [0,1]<|iD Rb [4] H fun _ H=>a7<|hr H
def J8(b:k6)(a:Int):Option Bool :=
 gd ((Np b.2.2.2.1 a).isSome/\True) <|
 some (vl (Np b.2.2.2.1 a))
def O0p:Ct:=b9 277 [.agg y153,.dat i64] (fun x=>J8 x.1 x.2.1) (fun r:Bool=>B r) (fun _=>())
theorem M0F:Ok prog O0p:=by
 refine c8 [.tmp 4] func277 ?_;intro y ⟨_,_,_⟩ r H Q hn hr;have:=hz (tc YP (tc Ra tn));refine iA [2,3]<|iB [4] H fun H=>a7<|hr H
def Bq(a:List A6):Option Int :=
 some (a.length:Int)
def O0t:Ct:=b9 272 [.dat y293.sl] (fun x=>Bq x.1) (fun r:Int=>I r) (fun _=>())
theorem Rc:Ok prog O0t:=by
 refine c8 [.tmp 2] func272 ?_;intro y ⟨_,_⟩ r H Q hn hr;refine iA [0]<|iA [2]<|a7<|hr H
def O6(a:k6):Option Int :=
 gd ((Bq a.2.2.1).isSome/\b7 (vl (Bq a.2.2.1)-1)/\True)<|lt (vl (Bq a.2.2.1)) fun b =>
 some (b-1)
def O0q:Ct:=b9 276 [.agg y153] (fun x=>O6 x.1) (fun r:Int=>I r) (fun _=>())
theorem KF:Ok prog O0q:=by
 refine c8 [.tmp 2] func276 ?_;intro y ⟨_,_⟩ r H Q hn hr;have:=hz (tc Rc tn);refine iA [1]<|iD Rc [2] H fun _ H=>a7<|hr H
def GY(a:k6):Int->Option Bool
 | b =>
 if(a.2.1==1) then
  gd (((b==(0:Int))=true/\True->(O6 a).isSome)/\((b==(0:Int))=true/\True->((0:Int)<=vl (O6 a)/\vl (O6 a)<=(62:Int))/\b7 ((1:Int)*(2:Int) ^ (vl (O6 a)).toNat))/\((b==(0:Int)&&(a.2.2.2.2.1.length:Int)==(1:Int)*(2:c7 i64) ^ (vl (O6 a)).toNat)=true/\True->(D0 a.2.2.2.2.1 (0:Int) (1:Int)).isSome)/\True)<|lt (vl (O6 a)) fun c =>
  some (b==(0:Int)&&(a.2.2.2.2.1.length:Int)==(1:Int)*(2:c7 i64) ^ c.toNat&&vl (D0 a.2.2.2.2.1 (0:Int) (1:Int)))
 else
  if(a.2.1==2) then
   gd (((b==1&&(a.2.2.2.2.1.length:Int)==0)=true/\True->(J8 a 1).isSome)/\((b==1&&(a.2.2.2.2.1.length:Int)==0&&!vl (J8 a 1))=true/\True->(J8 a 2).isSome)/\((b==1&&(a.2.2.2.2.1.length:Int)==0&&!vl (J8 a 1))=true/\True->(J8 a 3).isSome)/\True) <|
   some (b==1&&(a.2.2.2.2.1.length:Int)==0&&!vl (J8 a 1)&&!vl (J8 a 2)==vl (J8 a 3))
  else
   if(a.2.1==3) then
    gd (((b==1&&(a.2.2.2.2.1.length:Int)==0)=true/\True->(J8 a 1).isSome)/\((b==1&&(a.2.2.2.2.1.length:Int)==0&&vl (J8 a 1))=true/\True->(J8 a 2).isSome)/\((b==1&&(a.2.2.2.2.1.length:Int)==0&&vl (J8 a 1)&&vl (J8 a 2))=true/\True->(J8 a 3).isSome)/\True) <|
    some (b==1&&(a.2.2.2.2.1.length:Int)==0&&vl (J8 a 1)&&vl (J8 a 2)&&!vl (J8 a 3))
   else
    some false
def Nq(a:Int)(c:Int×Int->Option Bool):Int->Option Bool
 | b =>
 gd (b7 (a+1)/\True) <|
 c (b,a+1)
def YQ(c:k6)(d:Int×Int->Option Bool):Int×Int->Option Bool
 | (b,a) =>
 if(decide (a < (c.2.2.1.length:Int))) then
  gd (ix a c.2.2.1.length/\True)<|lt (c.2.2.1.getD a.toNat (a6 y293)) fun e =>
  if e.2.2.2 then
   gd (b7 (b+1)/\True) <|
   Nq a d (b+1)
  else
   Nq a d b
 else
  GY c b
def Nr(a:k6):Option Bool :=
 lp (YQ a) (0,0)
def O0A:Ct:=b9 260 [.agg y153] (fun x=>Nr x.1) (fun r:Bool=>B r) (fun _=>())
theorem M0L:Ok prog O0A:=by
 refine c8 [.tmp 2] func260 ?_;intro y ⟨a,_⟩ r H Q hn hr;have:=hz (tc M0F (tc Kx (tc KF tn)));refine iA [1]<|iA [1,3]<|jN r (fun(f:Int)=>Z (G8 f []) [(1,K 153 y153 a)]) (GY a) (fun f H=>?_) (fun _ h m q=>?_)
 ·refine vQ<|iA [1,3,19]<|vB<|iA [1,3,19,20]<|cD H (fun H=>iD KF [2] H fun _ H=>a7<|h9<|fR<|hr H) fun H=>iA [1,3,19,38]<|cD H (fun H=>iB [2] H fun H=>a7<|h9<|fR<|hr H) fun H=>iA [1,3,60]<|cD H (fun H=>iB [2] H fun H=>a7<|h9<|fR<|hr H) fun H=>vK<|fK<|fQ<|iA [2]<|a7<|hr H
 refine iA [1,3,7,8,9]<|vB<|lX (fun((c,b):Int×Int)=>Z (G8 c [p 7 (L y293 a.2.2.1),p 8 (I (a.2.2.1.length:Int)),p 9 (I b)]) [(1,K 153 y153 a)]) (0,0) H fun _ j k i l ⟨c,b⟩ H=>iA [1,3,7,8,9,10]<|vQ<|cD H (fun H=>?_) (fun H=>?_)
 ·refine vK<|fQ<|jN r (fun(g:Int)=>Z (G8 g [p 7 (L y293 a.2.2.1),p 8 (I (a.2.2.1.length:Int)),p 9 (I b)]) [(1,K 153 y153 a)]) (Nq b j) (fun g H=>?_) (fun _ d n o=>?_)
  ·refine jB [1,3,7,8,9] H fun H=>k H
  refine vB<|qD (fun e=>Z (G8 c [p 5 (R 5),p 7 (L y293 a.2.2.1),p 8 (I (a.2.2.1.length:Int)),p 9 (I b)]) [(5,K 293 y293 e),(1,K 153 y153 a)]) H fun e H=>iA [1,3,7,8,9,14]<|cD H (fun H=>jB [1,3,7,8,9] H fun H=>fK<|d H) fun H=>vK<|fK<|d H
 exact vE<|fE<|i<|fX rfl<|h H
def Fh(a:k6)(b:Int):Option Bool :=
 gd ((O6 a).isSome/\b7 (vl (O6 a)-1)/\(r9 b 0 (vl (O6 a)-1)).isSome/\True) <|
 some (vl (r9 b 0 (vl (O6 a)-1)))
def O0g:Ct:=b9 289 [.agg y153,.dat i64] (fun x=>Fh x.1 x.2.1) (fun r:Bool=>B r) (fun _=>())
theorem M0z:Ok prog O0g:=by
 refine c8 [.tmp 4] func289 ?_;intro y ⟨_,_,_⟩ r H Q hn hr;have:=hz (tc T9 (tc KF tn));refine iA [1,2]<|iB [4] H fun H=>a7<|hr H
def YR:Int->Option Int
 | a =>
 some a
def Rd(b:List Int)(d:Int×Int->Option Int):Int×Int->Option Int
 | (c,a) =>
 if(decide (a < (b.length:Int))) then
  gd (ix a b.length/\True) <|
  gd (b7 (a+1)/\True) <|
  d ((min c (b.getD a.toNat 0),a+1))
 else
  YR c
def Re(a:List Int):Unit->Option Int
 | _ =>
 gd (ix 0 a.length/\True) <|
 lp (Rd a) ((a.getD (Int.toNat (0:Int)) (0:Int),1))
def GZ(a:List Int):Option Int :=
 if(decide ((a.length:Int)<1)) then
  none
 else
  Re a ()
def O0a:Ct:=b9 300 [.dat i64.sl] (fun x=>GZ x.1) (fun r:Int=>I r) (fun _=>())
theorem YS:Ok prog O0a:=by
 refine c8 [.tmp 2] func300 ?_;intro y ⟨a,_⟩ r H Q hn hr;refine iA [0]<|jN r (fun(_:Unit)=>Z [p 0 (L i64 a)] []) (Re a) (fun _ H=>?_) (fun _ f k m=>?_)
 ·refine iB [0,3] H fun H=>jN r (fun(d:Int)=>Z [p 3 (J d)] []) (YR) (fun d H=>?_) (fun _ g i j=>?_)
  ·refine iA [2]<|a7<|hr H
  refine iA [0,3,4]<|vB<|lX (fun((c,b):Int×Int)=>Z [p 0 (L i64 a),p 3 (J c),p 4 (I b)] []) ((a.getD (Int.toNat (0:Int)) (0:Int),1)) H fun _ n e h l ⟨c,b⟩ H=>vQ<|iA [0,3,4,15]<|cD H (fun H=>vK<|fQ<|vQ<|vB<|jB [0,3,4] H fun H=>fK<|fQ<|jB [0,3,4] H fun H=>e H) fun H=>vE<|fE<|h<|fX rfl<|g H
 refine iA [0,7]<|cD H (fun H=>YT H) fun H=>vK<|f H
def YU:Unit->Option Bool
 | _ =>
 some true
def YV(b:List Int)(c:Int->Option Bool):Int->Option Bool
 | a =>
 if(decide (a < (b.length:Int))) then
  gd (b7 (a-1)/\ix (a-1) b.length/\ix a b.length/\True) <|
  if(decide (b.getD a.toNat 0<=b.getD (a-1).toNat 0)) then
   some false
  else
   gd (b7 (a+1)/\True) <|
   c (a+1)
 else
  YU ()
def Br(a:List Int):Option Bool :=
 lp (YV a) 1
def Q0b:Ct:=b9 161 [.dat i64.sl] (fun x=>Br x.1) (fun r:Bool=>B r) (fun _=>())
theorem YW:Ok prog Q0b:=by
 refine c8 [.tmp 2] func161 ?_;intro y ⟨g,_⟩ r H Q hn hr;refine iA [0]<|jN r (fun(_:Unit)=>Z [] []) (YU) (fun _ H=>?_) (fun _ b i f=>?_)
 ·refine iA [2]<|a7<|hr H
 refine iA [0,3]<|vB<|lX (fun(a:Int)=>Z [p 0 (L i64 g),p 3 (I a)] []) 1 H fun _ h e c d a H=>vQ<|iA [0,3,7]<|cD H (fun H=>?_) (fun H=>?_)
 ·refine vK<|fQ<|vQ<|vB<|iB [0,3,19] H fun H=>cD H (fun H=>iA [2]<|a7<|h9<|fR<|d<|h9<|f<|hr H) fun H=>vK<|fK<|fQ<|jB [0,3] H fun H=>e H
 exact vE<|fE<|c<|fX rfl<|b H
def Z1(a:List Int):Option Bool :=
 gd ((A4 a).isSome/\(r9 (vl (A4 a)) 1 4).isSome/\(vl (r9 (vl (A4 a)) 1 4)=true/\True->(D0 a 0 100000).isSome)/\((vl (r9 (vl (A4 a)) 1 4)&&vl (D0 a 0 100000))=true/\True->(Br a).isSome)/\True) <|
 some (vl (r9 (vl (A4 a)) 1 4)&&vl (D0 a 0 100000)&&vl (Br a))
def N0X:Ct:=b9 305 [.dat i64.sl] (fun x=>Z1 x.1) (fun r:Bool=>B r) (fun _=>())
theorem M0u:Ok prog N0X:=by
 refine c8 [.tmp 2] func305 ?_;intro y ⟨_,_⟩ r H Q hn hr;have:=hz (tc YW (tc Kx (tc T9 (tc Ky tn))));refine iA [0]<|iB [2] H fun H=>a7<|hr H
def Ha(a:m4):Option Bool :=
 gd ((Z1 a.1).isSome/\(vl (Z1 a.1)=true/\True->(Z1 a.2.1).isSome)/\((vl (Z1 a.1)&&vl (Z1 a.2.1))=true/\True->b7 ((a.1.length:Int)*(a.2.1.length:Int)))/\((vl (Z1 a.1)&&vl (Z1 a.2.1)&&(a.2.2.length:Int)==(a.1.length:Int)*(a.2.1.length:Int))=true/\True->(D0 a.2.2 (-1000000) 1000000).isSome)/\True) <|
 some (vl (Z1 a.1)&&vl (Z1 a.2.1)&&(a.2.2.length:Int)==(a.1.length:Int)*(a.2.1.length:Int)&&vl (D0 a.2.2 (-1000000) 1000000))
def O0b:Ct:=b9 299 [.agg y269] (fun x=>Ha x.1) (fun r:Bool=>B r) (fun _=>())
theorem M0w:Ok prog O0b:=by
 refine c8 [.tmp 2] func299 ?_;intro y ⟨_,_⟩ r H Q hn hr;have:=hz (tc Kx (tc M0u tn));refine iA [1]<|iB [2] H fun H=>a7<|hr H
def KG(a:m4)(b:Bool):Option Bool :=
 gd ((Ha a).isSome/\(b=true/\(!vl (Ha a))=false/\True->(GZ a.2.2).isSome)/\True)<|lt (vl (GZ a.2.2)) fun c =>
 some (!vl (Ha a)||b&&decide (c<0))
def O0c:Ct:=b9 298 [.agg y269,.dat (.pt Ty.bool)] (fun x=>KG x.1 x.2.1) (fun r:Bool=>B r) (fun _=>())
theorem Rf:Ok prog O0c:=by
 refine c8 [.tmp 3] func298 ?_;intro y ⟨_,_,_⟩ r H Q hn hr;have:=hz (tc YS (tc M0w tn));refine iA [1,2]<|iD YS [3] H fun _ H=>a7<|hr H
def YX:Unit->Option Int
 | _ =>
 some (-1)
def p0S(b:List m4)(c:Bool)(d:Int->Option Int):Int->Option Int
 | a =>
 if(decide (a < (b.length:Int))) then
  gd (ix a b.length/\(KG (b.getD a.toNat (a6 y269)) c).isSome/\True) <|
  if(vl (KG (b.getD a.toNat (a6 y269)) c)) then
   some a
  else
   gd (b7 (a+1)/\True) <|
   d (a+1)
 else
  YX ()
def Ns(b:List m4)(a:Bool):Option Int :=
 lp (p0S b a) 0
def w0i:Ct:=b9 304 [.dat y269.sl,.fn 298 Ty.bool.pt] (fun x=>Ns x.1 x.2.1) (fun r:Int=>I r) (fun _=>())
theorem YY:Ok prog w0i:=by
 refine c8 [.tmp 4] func304 ?_;intro y ⟨b,f,_⟩ r H Q hn hr;have:=hz (tc Rf tn);refine iA [0,1]<|jN r (fun(_:Unit)=>Z [] []) (YX) (fun _ H=>?_) (fun _ c j h=>?_)
 ·refine iA [4]<|a7<|hr H
 refine iA [0,1,7,8]<|vB<|lX (fun(a:Int)=>Z [p 0 (L y269 b),p 1 (AV.fn 298 [D Ty.bool.pt f]),p 7 (I (b.length:Int)),p 8 (I a)] []) 0 H fun _ i g d e a H=>iA [0,1,7,8,9]<|vQ<|cD H (fun H=>?_) (fun H=>?_)
 ·refine vK<|fQ<|vQ<|vB<|iA [0,1,5,7,8]<|iB [0,1,5,7,8,16] H fun H=>cD H (fun H=>iA [4]<|a7<|h9<|fR<|e<|h9<|h<|hr H) fun H=>vK<|fK<|fQ<|jB [0,1,7,8] H fun H=>g H
 exact vE<|fE<|d<|fX rfl<|c H
def Nt(a:List m4)(b:Bool):Option Bool :=
 gd ((Ns a b).isSome/\True)<|lt (vl (Ns a b)) fun c =>
 some (decide (0<=c))
def w0k:Ct:=b9 297 [.dat y269.sl,.fn 298 (.pt Ty.bool)] (fun x=>Nt x.1 x.2.1) (fun r:Bool=>B r) (fun _=>())
theorem v0V:Ok prog w0k:=by
 refine c8 [.tmp 4] func297 ?_;intro y ⟨_,_,_⟩ r H Q hn hr;have:=hz (tc YY (tc Rf tn));refine iA [0,1]<|iD YY [4] H fun _ H=>a7<|hr H
def O7(a:List m4)(b:Bool):Option Bool :=
 gd ((((a.length:Int)==2)=true/\True->(Nt a b).isSome)/\True) <|
 some ((a.length:Int)==2&&!vl (Nt a b))
def O0i:Ct:=b9 287 [.dat y269.sl,.dat Ty.bool] (fun x=>O7 x.1 x.2.1) (fun r:Bool=>B r) (fun _=>())
theorem M0A:Ok prog O0i:=by
 refine c8 [.tmp 4] func287 ?_;intro y ⟨_,_,_⟩ r H Q hn hr;have:=hz (tc v0V (tc Rf tn));refine iA [0,3]<|iB [4] H fun H=>a7<|hr H
def Rg(a:A6):Option Bool :=
 some a.2.2.2
def N0Z:Ct:=b9 302 [.agg y293] (fun x=>Rg x.1) (fun r:Bool=>B r) (fun _=>())
theorem YZ:Ok prog N0Z:=by
 refine c8 [.tmp 2] func302 ?_;intro y ⟨_,_⟩ r H Q hn hr;refine iA [1]<|iA [2]<|a7<|hr H
def Za:Unit->Option Int
 | _ =>
 some (-1)
def p0T(b:List A6)(c:Int->Option Int):Int->Option Int
 | a =>
 if(decide (a < (b.length:Int))) then
  gd (ix a b.length/\(Rg (b.getD a.toNat (a6 y293))).isSome/\True) <|
  if(vl (Rg (b.getD a.toNat (a6 y293)))) then
   some a
  else
   gd (b7 (a+1)/\True) <|
   c (a+1)
 else
  Za ()
def Nu(a:List A6):Option Int :=
 lp (p0T a) 0
def w0j:Ct:=b9 301 [.dat y293.sl,.nof 302] (fun x=>Nu x.1) (fun r:Int=>I r) (fun _=>())
theorem Zb:Ok prog w0j:=by
 refine c8 [.tmp 4] func301 ?_;intro y ⟨b,_,_⟩ r H Q hn hr;have:=hz (tc YZ tn);refine iA [0,1]<|jN r (fun(_:Unit)=>Z [] []) (Za) (fun _ H=>?_) (fun _ c i g=>?_)
 ·refine iA [4]<|a7<|hr H
 refine iA [0,1,7,8]<|vB<|lX (fun(a:Int)=>Z [p 0 (L y293 b),p 1 (AV.fn 302 []),p 7 (I (b.length:Int)),p 8 (I a)] []) 0 H fun _ h f d e a H=>iA [0,1,7,8,9]<|vQ<|cD H (fun H=>?_) (fun H=>?_)
 ·refine vK<|fQ<|vQ<|vB<|iA [0,1,5,7,8]<|iB [0,1,5,7,8,16] H fun H=>cD H (fun H=>iA [4]<|a7<|h9<|fR<|e<|h9<|g<|hr H) fun H=>vK<|fK<|fQ<|jB [0,1,7,8] H fun H=>f H
 exact vE<|fE<|d<|fX rfl<|c H
def Hb(a:k6):Option Int :=
 gd ((Nu a.2.2.1).isSome/\True)<|lt (vl (Nu a.2.2.1)) fun b =>
 some b
def O0h:Ct:=b9 288 [.agg y153] (fun x=>Hb x.1) (fun r:Int=>I r) (fun _=>())
theorem Zc:Ok prog O0h:=by
 refine c8 [.tmp 2] func288 ?_;intro y ⟨_,_⟩ r H Q hn hr;have:=hz (tc YZ (tc Zb tn));refine iA [1]<|iD Zb [2] H fun _ H=>a7<|hr H
def Nv(a:Int):Option Bool :=
 some (a==4||a==5)
def O0j:Ct:=b9 286 [.dat i64] (fun x=>Nv x.1) (fun r:Bool=>B r) (fun _=>())
theorem M0B:Ok prog O0j:=by
 refine c8 [.tmp 2] func286 ?_;intro y ⟨_,_⟩ r H Q hn hr;refine iA [0]<|iA [2]<|a7<|hr H
def KH(b:k6)(a:r7):Bool->Option Bool
 | c =>
 if c then
  gd (ix a.2.1 b.2.2.1.length/\True) <|
  some ((b.2.2.1.getD a.2.1.toNat (a6 y293)).2.2.2&&a.2.2.2.1==0)
 else
  some false
def Fi(b:k6)(a:r7):Option Bool :=
 gd ((Nv a.1).isSome/\True) <|
 if(vl (Nv a.1)) then
  gd (((a.2.2.2.1==0&&(a.2.2.2.2.2.length:Int)==0)=true/\True->(O7 a.2.2.2.2.1 false).isSome)/\((a.2.2.2.1==0&&(a.2.2.2.2.2.length:Int)==0&&vl (O7 a.2.2.2.2.1 false))=true/\True->(Hb b).isSome)/\((a.2.2.2.1==0&&(a.2.2.2.2.2.length:Int)==0&&vl (O7 a.2.2.2.2.1 false)&&a.2.1==vl (Hb b)&&decide (0<=a.2.1))=true/\True->(Fh b a.2.2.1).isSome)/\True)<|lt (vl (Hb b)) fun d =>
  some (a.2.2.2.1==0&&(a.2.2.2.2.2.length:Int)==0&&vl (O7 a.2.2.2.2.1 false)&&a.2.1==d&&decide (0<=a.2.1)&&vl (Fh b a.2.2.1)&&a.2.2.1 != a.2.1)
 else
  gd ((O7 a.2.2.2.2.1 true).isSome/\((!vl (O7 a.2.2.2.2.1 true))=false/\True->(O7 a.2.2.2.2.2 true).isSome)/\((!vl (O7 a.2.2.2.2.1 true)||!vl (O7 a.2.2.2.2.2 true))=false/\True->(O6 b).isSome)/\((!vl (O7 a.2.2.2.2.1 true)||!vl (O7 a.2.2.2.2.2 true)||a.2.2.1 != vl (O6 b))=false/\True->(Fh b a.2.1).isSome)/\True)<|lt (vl (O6 b)) fun c =>
  if(!vl (O7 a.2.2.2.2.1 true)||!vl (O7 a.2.2.2.2.2 true)||a.2.2.1 != c||!vl (Fh b a.2.1)) then
   some false
  else
   if(a.1==1) then
    gd (ix a.2.1 b.2.2.1.length/\((!(b.2.2.1.getD a.2.1.toNat (a6 y293)).2.2.2)=true/\True->(r9 a.2.2.2.1 1 3).isSome)/\True) <|
    some (!(b.2.2.1.getD a.2.1.toNat (a6 y293)).2.2.2&&vl (r9 a.2.2.2.1 1 3))
   else
    if(a.1==2) then
     KH b a (a.1==2)
    else
     KH b a (a.1==3)
def O0s:Ct:=b9 273 [.agg y153,.agg y158] (fun x=>Fi x.1 x.2.1) (fun r:Bool=>B r) (fun _=>())
theorem M0G:Ok prog O0s:=by
 refine c8 [.tmp 4] func273 ?_;intro y ⟨d,c,_⟩ r H Q hn hr;have:=hz (tc T9 (tc M0z (tc KF (tc M0A (tc Zc (tc M0B tn))))));refine iA [2,3]<|vQ<|iB [2,3,7] H fun H=>cD H (fun H=>iD Zc [4] H fun _ H=>a7<|fR<|hr H) fun H=>vK<|fQ<|vQ<|iD KF [2,3,70] H fun _ H=>cD H (fun H=>iA [4]<|a7<|fR<|hr H) fun H=>vK<|fQ<|vQ<|iA [2,3,72]<|vB<|iA [2,3,72,73]<|cD H (fun H=>iB [4] H fun H=>a7<|h9<|fR<|hr H) fun H=>jN r (fun(a:Bool)=>Z (Y1 [p 88 (B a)]) [(3,K 158 y158 c),(2,K 153 y153 d)]) (KH d c) (fun a H=>?_) (fun _ b e f=>?_)
 ·refine cD H (fun H=>iB [4] H fun H=>a7<|h9<|fR<|hr H) fun H=>vK<|fK<|fQ<|iA [4]<|a7<|hr H
 refine iA [2,3,72,88]<|cD H (fun H=>vK<|b H) fun H=>jA [2,3,88]<|b H
def Rh(b:r7)(a:r7):Option Bool :=
 some (b.1==a.1&&b.2.1==a.2.1&&b.2.2.1==a.2.2.1)
def O0r:Ct:=b9 275 [.agg y158,.dat (.pt y158)] (fun x=>Rh x.1 x.2.1) (fun r:Bool=>B r) (fun _=>())
theorem Ri:Ok prog O0r:=by
 refine c8 [.tmp 3] func275 ?_;intro y ⟨_,_,_⟩ r H Q hn hr;refine iA [1,2]<|iA [3]<|a7<|hr H
def Zd:Unit->Option Int
 | _ =>
 some (-1)
def p0V(b:List r7)(c:r7)(d:Int->Option Int):Int->Option Int
 | a =>
 if(decide (a < (b.length:Int))) then
  gd (ix a b.length/\(Rh (b.getD a.toNat (a6 y158)) c).isSome/\True) <|
  if(vl (Rh (b.getD a.toNat (a6 y158)) c)) then
   some a
  else
   gd (b7 (a+1)/\True) <|
   d (a+1)
 else
  Zd ()
def Nw(b:List r7)(a:r7):Option Int :=
 lp (p0V b a) 0
def w0m:Ct:=b9 290 [.dat y158.sl,.fn 275 y158.pt] (fun x=>Nw x.1 x.2.1) (fun r:Int=>I r) (fun _=>())
theorem Ze:Ok prog w0m:=by
 refine c8 [.tmp 4] func290 ?_;intro y ⟨b,f,_⟩ r H Q hn hr;have:=hz (tc Ri tn);refine iA [0,1]<|jN r (fun(_:Unit)=>Z [] []) (Zd) (fun _ H=>?_) (fun _ c j h=>?_)
 ·refine iA [4]<|a7<|hr H
 refine iA [0,1,7,8]<|vB<|lX (fun(a:Int)=>Z [p 0 (L y158 b),p 1 (AV.fn 275 [D y158.pt f]),p 7 (I (b.length:Int)),p 8 (I a)] []) 0 H fun _ i g d e a H=>iA [0,1,7,8,9]<|vQ<|cD H (fun H=>?_) (fun H=>?_)
 ·refine vK<|fQ<|vQ<|vB<|iA [0,1,5,7,8]<|iB [0,1,5,7,8,16] H fun H=>cD H (fun H=>iA [4]<|a7<|h9<|fR<|e<|h9<|h<|hr H) fun H=>vK<|fK<|fQ<|jB [0,1,7,8] H fun H=>g H
 exact vE<|fE<|d<|fX rfl<|c H
def KI(a:List r7)(b:r7):Option Bool :=
 gd ((Nw a b).isSome/\True)<|lt (vl (Nw a b)) fun c =>
 some (decide (0<=c))
def w0o:Ct:=b9 274 [.dat y158.sl,.fn 275 (.pt y158)] (fun x=>KI x.1 x.2.1) (fun r:Bool=>B r) (fun _=>())
theorem v0W:Ok prog w0o:=by
 refine c8 [.tmp 4] func274 ?_;intro y ⟨_,_,_⟩ r H Q hn hr;have:=hz (tc Rb (tc Ze (tc Ri tn)));refine iA [0,1]<|iD Ze [4] H fun _ H=>a7<|hr H
def Nx(a:k6):Unit->Option Bool
 | _ =>
 some (decide ((a.2.2.2.1.length:Int)<=8))
def Zf(a:k6)(d:Int->Option Bool):Int->Option Bool
 | b =>
 if(decide (b < (a.2.2.2.1.length:Int))) then
  gd (ix b a.2.2.2.1.length/\True)<|lt (a.2.2.2.1.getD b.toNat (a6 y158)) fun c =>
  gd ((Fi a c).isSome/\((!vl (Fi a c))=false/\True->(0:Int)<=(0:Int)/\(0:Int)<=b/\b<=(a.2.2.2.1.length:Int))/\((!vl (Fi a c))=false/\True->(KI (List.take b.toNat a.2.2.2.1) c).isSome)/\True) <|
  if(!vl (Fi a c)||vl (KI (List.take b.toNat a.2.2.2.1) c)) then
   some false
  else
   gd (b7 (b+1)/\True) <|
   d (b+1)
 else
  Nx a ()
def Fj(a:k6):Option Bool :=
 lp (Zf a) 0
def O0B:Ct:=b9 259 [.agg y153] (fun x=>Fj x.1) (fun r:Bool=>B r) (fun _=>())
theorem M0M:Ok prog O0B:=by
 refine c8 [.tmp 2] func259 ?_;intro y ⟨a,_⟩ r H Q hn hr;have:=hz (tc YP (tc v0W (tc Ri (tc M0G tn))));refine iA [1]<|jN r (fun(_:Unit)=>Z [p 1 (R 1)] [(1,K 153 y153 a)]) (Nx a) (fun _ H=>?_) (fun _ d j h=>?_)
 ·refine iA [2]<|a7<|hr H
 refine iA [1,6,7,8]<|vB<|lX (fun(b:Int)=>Z [p 1 (R 1),p 6 (L y158 a.2.2.2.1),p 7 (I (a.2.2.2.1.length:Int)),p 8 (I b)] [(1,K 153 y153 a)]) 0 H fun _ i g e f b H=>iA [1,6,7,8,9]<|vQ<|cD H (fun H=>?_) (fun H=>?_)
 ·refine vK<|fQ<|vQ<|vB<|qD (fun c=>Z (G8 b [p 4 (R 4),p 6 (L y158 a.2.2.2.1),p 7 (I (a.2.2.2.1.length:Int)),p 8 (I b)]) [(4,K 158 y158 c),(1,K 153 y153 a)]) H fun c H=>iB [1,6,7,8,24] H fun H=>cD H (fun H=>iA [2]<|a7<|h9<|fR<|f<|h9<|h<|hr H) fun H=>vK<|fK<|fQ<|jB [1,6,7,8] H fun H=>g H
 exact vE<|fE<|e<|fX rfl<|d H
def KJ(a:List A6):List ByteArray->Option Bool
 | b =>
 gd ((Bq a).isSome/\(r9 (vl (Bq a)) 2 5).isSome/\(vl (r9 (vl (Bq a)) 2 5)=true/\True->(Q7 b).isSome)/\True) <|
 some (vl (r9 (vl (Bq a)) 2 5)&&vl (Q7 b))
def Ny(a:Int)(c:List ByteArray×Int->Option Bool):List ByteArray->Option Bool
 | b =>
 gd (b7 (a+1)/\True) <|
 c (b,a+1)
def Zg(c:List A6)(e:List ByteArray×Int->Option Bool):List ByteArray×Int->Option Bool
 | (d,b) =>
 if(decide (b < (c.length:Int))) then
  gd (ix b c.length/\True)<|lt (c.getD b.toNat (a6 y293)) fun a =>
  gd ((d.length+[a.1].length<=9223372036854775807/\(d.length+[a.1].length)*16<=140737488355328)/\True) <|
  gd (b7 ((c.length:Int)-1)/\True) <|
  if(b==(c.length:Int)-1) then
   if(a.2.1 != 2||a.2.2.1 != 0||a.2.2.2) then
    some false
   else
    Ny b e (d++[a.1])
  else
   gd (((a.2.1 != 1)=false/\True->(r9 a.2.2.1 0 500).isSome)/\True) <|
   if(a.2.1 != 1||!vl (r9 a.2.2.1 0 500)) then
    some false
   else
    Ny b e (d++[a.1])
 else
  KJ c d
def CZ(a:List A6):Option Bool :=
 lp (Zg a) ([],0)
def O0C:Ct:=b9 258 [.dat y293.sl] (fun x=>CZ x.1) (fun r:Bool=>B r) (fun _=>())
theorem M0N:Ok prog O0C:=by
 refine c8 [.tmp 2] func258 ?_;intro y ⟨a,_⟩ r H Q hn hr;have:=hz (tc QY (tc T9 (tc Rc tn)));refine iA [0]<|iA [0,3]<|jN r (fun(g:List ByteArray)=>Z [p 0 (L y293 a),p 3 (O 17)] [(17,A 9 Ty.str g 0)]) (KJ a) (fun g H=>?_) (fun _ k o j=>?_)
 ·refine iB [2] H fun H=>a7<|hr H
 refine iA [0,3,6,7,8]<|vB<|lX (fun((c,b):List ByteArray×Int)=>Z [p 0 (L y293 a),p 3 (O 17),p 6 (L y293 a),p 7 (I (a.length:Int)),p 8 (I b)] [(17,A 9 Ty.str c 0)]) ([],0) H fun _ m n l f ⟨c,b⟩ H=>iA [0,3,6,7,8,9]<|vQ<|cD H (fun H=>?_) (fun H=>?_)
 ·refine vK<|fQ<|jN r (fun(i:List ByteArray)=>Z [p 0 (L y293 a),p 3 (O 17),p 6 (L y293 a),p 7 (I (a.length:Int)),p 8 (I b)] [(17,A 9 Ty.str i 0)]) (Ny b m) (fun i H=>?_) (fun _ d q h=>?_)
  ·refine jB [0,3,6,7,8] H fun H=>n H
  refine vB<|qD (fun e=>Z [p 0 (L y293 a),p 3 (O 17),p 4 (I b),p 5 (R 5),p 6 (L y293 a),p 7 (I (a.length:Int)),p 8 (I b)] [(5,K 293 y293 e),(17,A 9 Ty.str c 0)]) H fun e H=>iB [0,3,4,5,6,7,8] H fun H=>iB [0,3,5,6,7,8,22] H fun H=>cD H (fun H=>?_) (fun H=>?_)
  ·refine iA [0,3,6,7,8,34]<|cD H (fun H=>iA [2]<|a7<|h9<|h<|f<|h9<|j<|hr H) fun H=>vK<|fK<|d H
  refine iB [0,3,6,7,8,43] H fun H=>cD H (fun H=>iA [2]<|a7<|h9<|h<|f<|h9<|j<|hr H) fun H=>vK<|fK<|d H
 exact vE<|fE<|l<|fX rfl<|k H
def KK(a:k6):Option Bool :=
 gd ((L7 a.1).isSome/\(vl (L7 a.1)=true/\True->(CZ a.2.2.1).isSome)/\((vl (L7 a.1)&&vl (CZ a.2.2.1))=true/\True->(Fj a).isSome)/\((vl (L7 a.1)&&vl (CZ a.2.2.1)&&vl (Fj a))=true/\True->(r9 a.2.2.2.2.2.1 0 100000).isSome)/\((vl (L7 a.1)&&vl (CZ a.2.2.1)&&vl (Fj a)&&vl (r9 a.2.2.2.2.2.1 0 100000))=true/\True->(r9 a.2.2.2.2.2.2 0 100000).isSome)/\((vl (L7 a.1)&&vl (CZ a.2.2.1)&&vl (Fj a)&&vl (r9 a.2.2.2.2.2.1 0 100000)&&vl (r9 a.2.2.2.2.2.2 0 100000))=true/\True->(Nr a).isSome)/\True) <|
 some (vl (L7 a.1)&&vl (CZ a.2.2.1)&&vl (Fj a)&&vl (r9 a.2.2.2.2.2.1 0 100000)&&vl (r9 a.2.2.2.2.2.2 0 100000)&&vl (Nr a))
def O0S:Ct:=b9 232 [.agg y153] (fun x=>KK x.1) (fun r:Bool=>B r) (fun _=>())
theorem M0U:Ok prog O0S:=by
 refine c8 [.tmp 2] func232 ?_;intro y ⟨_,_⟩ r H Q hn hr;have:=hz (tc M0L (tc T9 (tc M0M (tc M0N (tc QX tn)))));refine iA [1]<|iB [2] H fun H=>a7<|hr H
def KL(b:List k6):List ByteArray->Option Bool
 | a =>
 gd ((decide ((b.length:Int)<=8)=true/\True->(Q7 a).isSome)/\True) <|
 some (decide ((b.length:Int)<=8)&&vl (Q7 a))
def Zh(d:List k6)(e:List ByteArray×Int->Option Bool):List ByteArray×Int->Option Bool
 | (c,a) =>
 if(decide (a < (d.length:Int))) then
  gd (ix a d.length/\True)<|lt (d.getD a.toNat (a6 y153)) fun b =>
  gd ((KK b).isSome/\True) <|
  if(!vl (KK b)) then
   some false
  else
   gd ((c.length+[b.1].length<=9223372036854775807/\(c.length+[b.1].length)*16<=140737488355328)/\True) <|
   gd (b7 (a+1)/\True) <|
   e (c++[b.1],a+1)
 else
  KL d c
def KM(a:List k6):Option Bool :=
 lp (Zh a) ([],0)
def P0x:Ct:=b9 196 [.agg y153.sl] (fun x=>KM x.1) (fun r:Bool=>B r) (fun _=>())
theorem N0i:Ok prog P0x:=by
 refine c8 [.tmp 2] func196 ?_;intro y ⟨a,_⟩ r H Q hn hr;have:=hz (tc QY (tc M0U tn));refine iA [1]<|iA [1,3]<|jN r (fun(d:List ByteArray)=>Z (BT []) [(1,bx 49 [L y153 a]),(20,A 9 Ty.str d 0)]) (KL a) (fun d H=>?_) (fun _ f l j=>?_)
 ·refine iB [2] H fun H=>a7<|hr H
 refine iA [1,3,7,8,9]<|vB<|lX (fun((c,b):List ByteArray×Int)=>Z (BT [p 7 (L y153 a),p 8 (I (a.length:Int)),p 9 (I b)]) [(1,bx 49 [L y153 a]),(20,A 9 Ty.str c 0)]) ([],0) H fun _ k i g h ⟨c,b⟩ H=>iA [1,3,7,8,9,10]<|vQ<|cD H (fun H=>?_) (fun H=>?_)
 ·refine vK<|fQ<|vQ<|vB<|qD (fun e=>Z (BT [p 5 (R 5),p 7 (L y153 a),p 8 (I (a.length:Int)),p 9 (I b)]) [(5,K 153 y153 e),(1,bx 49 [L y153 a]),(20,A 9 Ty.str c 0)]) H fun e H=>vQ<|iB [1,3,5,7,8,9,15] H fun H=>cD H (fun H=>iA [2]<|a7<|fR<|h9<|fR<|h<|h9<|j<|hr H) fun H=>vK<|fQ<|jB [1,3,7,8,9] H fun H=>fK<|fQ<|jB [1,3,7,8,9] H fun H=>i H
 exact vE<|fE<|g<|fX rfl<|f H
def Zi:Unit->Option Int
 | _ =>
 some (-1)
def p0Y(b:List Int)(c:Int->Option Int):Int->Option Int
 | a =>
 if(decide (a < (b.length:Int))) then
  gd (ix a b.length/\(QU (b.getD a.toNat 0)).isSome/\True) <|
  if(vl (QU (b.getD a.toNat 0))) then
   some a
  else
   gd (b7 (a+1)/\True) <|
   c (a+1)
 else
  Zi ()
def Nz(a:List Int):Option Int :=
 lp (p0Y a) 0
def w0r:Ct:=b9 237 [.dat i64.sl,.nof 201] (fun x=>Nz x.1) (fun r:Int=>I r) (fun _=>())
theorem Zj:Ok prog w0r:=by
 refine c8 [.tmp 4] func237 ?_;intro y ⟨b,_,_⟩ r H Q hn hr;have:=hz (tc QV tn);refine iA [0,1]<|jN r (fun(_:Unit)=>Z [] []) (Zi) (fun _ H=>?_) (fun _ c i g=>?_)
 ·refine iA [4]<|a7<|hr H
 refine iA [0,1,7,8]<|vB<|lX (fun(a:Int)=>Z [p 0 (L i64 b),p 1 (AV.fn 201 []),p 7 (I (b.length:Int)),p 8 (I a)] []) 0 H fun _ h f d e a H=>iA [0,1,7,8,9]<|vQ<|cD H (fun H=>?_) (fun H=>?_)
 ·refine vK<|fQ<|vQ<|vB<|iA [0,1,5,7,8]<|iB [0,1,5,7,8,16] H fun H=>cD H (fun H=>iA [4]<|a7<|h9<|fR<|e<|h9<|g<|hr H) fun H=>vK<|fK<|fQ<|jB [0,1,7,8] H fun H=>f H
 exact vE<|fE<|d<|fX rfl<|c H
def NA(a:List Int):Option Bool :=
 gd ((Nz a).isSome/\True)<|lt (vl (Nz a)) fun b =>
 some (decide (0<=b))
def w0u:Ct:=b9 200 [.dat i64.sl,.nof 201] (fun x=>NA x.1) (fun r:Bool=>B r) (fun _=>())
theorem v0Y:Ok prog w0u:=by
 refine c8 [.tmp 4] func200 ?_;intro y ⟨_,_,_⟩ r H Q hn hr;have:=hz (tc Zj (tc QV tn));refine iA [0,1]<|iD Zj [4] H fun _ H=>a7<|hr H
def KN:List Int->Option Bool
 | a =>
 gd ((NA a).isSome/\True) <|
 some (!vl (NA a))
def NB(b:Int)(c:Int×List Int->Option Bool):List Int->Option Bool
 | a =>
 gd (b7 (b+1)/\True) <|
 c (b+1,a)
def Zk(d:m6)(e:Int×List Int->Option Bool):Int×List Int->Option Bool
 | (c,b) =>
 if(decide (c < (d.2.2.length:Int))) then
  gd (ix c d.2.2.length/\True)<|lt (d.2.2.getD c.toNat (a6 y231)) fun a =>
  gd (((a.2.1 != 1&&a.2.1 != 2)=false/\True->(Fg d a.2.2).isSome)/\True) <|
  if(a.2.1 != 1&&a.2.1 != 2||!vl (Fg d a.2.2)) then
   some false
  else
   if(a.2.1==1) then
    gd (ix a.2.2 b.length/\a.2.2.toNat<b.length/\b7 (b.getD a.2.2.toNat 0+1)/\ix a.2.2 b.length/\a.2.2.toNat<b.length/\True) <|
    NB c e (b.set a.2.2.toNat (b.getD a.2.2.toNat 0+1))
   else
    NB c e b
 else
  KN b
def NC(b:m6):List Int->Option Bool
 | a =>
 lp (Zk b) (0,a)
def Zl(c:m6)(e:List k6)(f:Int×List Int->Option Bool):Int×List Int->Option Bool
 | (d,b) =>
 if(decide (d < (c.1.length:Int))) then
  gd (ix d c.1.length/\True)<|lt (c.1.getD d.toNat (a6 y155)) fun a =>
  gd ((KC c e a).isSome/\True) <|
  if(!vl (KC c e a)) then
   some false
  else
   gd (b7 ((a.2.2.length:Int)-1)/\ix ((a.2.2.length:Int)-1) a.2.2.length/\ix (a.2.2.getD ((a.2.2.length:Int)-1).toNat 0) b.length/\Int.toNat (a.2.2.getD ((a.2.2.length:Int)-1).toNat 0)<b.length/\b7 (b.getD (Int.toNat (a.2.2.getD ((a.2.2.length:Int)-1).toNat 0)) 0+1)/\ix (a.2.2.getD ((a.2.2.length:Int)-1).toNat 0) b.length/\Int.toNat (a.2.2.getD ((a.2.2.length:Int)-1).toNat 0)<b.length/\True)<|lt (b.set (Int.toNat (a.2.2.getD ((a.2.2.length:Int)-1).toNat 0)) (b.getD (Int.toNat (a.2.2.getD ((a.2.2.length:Int)-1).toNat 0)) 0+1)) fun g =>
   gd (b7 (d+1)/\True) <|
   f (d+1,g)
 else
  NC c b
def KO(b:List k6)(a:m6):Option Bool :=
 gd ((KM b).isSome/\((!vl (KM b))=false/\True->(Nn a).isSome)/\True) <|
 if(!vl (KM b)||!vl (Nn a)) then
  some false
 else
  gd ((0<=(a.2.1.length:Int)/\(a.2.1.length:Int)=(a.2.1.length:Int)/\(a.2.1.length:Int).toNat*8<=281474976710656/\(a.2.1.length:Int)<=9223372036854775807)/\True) <|
  lp (Zl a b) ((0,List.replicate (a.2.1.length:Int).toNat 0))
def Q0p:Ct:=b9 147 [.agg y153.sl,.agg y53] (fun x=>KO x.1 x.2.1) (fun r:Bool=>B r) (fun _=>())
theorem N0B:Ok prog Q0p:=by
 refine c8 [.tmp 4] func147 ?_;intro y ⟨i,a,_⟩ r H Q hn hr;have:=hz (tc QV (tc v0Y (tc YF (tc N0g (tc N0h (tc N0i tn))))));refine iA [2,3]<|vQ<|iB [2,3,17] H fun H=>cD H (fun H=>iA [4]<|a7<|fR<|hr H) fun H=>vK<|fQ<|iB [2,3,5] H fun H=>jN r (fun(j:List Int)=>Z [p 3 (R 3),p 5 (O 21)] [(21,A 3 i64 j 0),(3,K 53 y53 a)]) (NC a) (fun j H=>?_) (fun _ n P F=>?_)
 ·refine jN r (fun(f:List Int)=>Z [p 5 (O 21)] [(21,A 3 i64 f 0)]) (KN) (fun f H=>?_) (fun _ s T u=>?_)
  ·refine iB [4] H fun H=>a7<|hr H
  refine iA [3,5,49,50,51]<|vB<|lX (fun((c,b):Int×List Int)=>Z [p 3 (R 3),p 5 (O 21),p 49 (L y231 a.2.2),p 50 (I (a.2.2.length:Int)),p 51 (I c)] [(21,A 3 i64 b 0),(3,K 53 y53 a)]) (0,j) H fun _ z x v w ⟨c,b⟩ H=>iA [3,5,49,50,51,52]<|vQ<|cD H (fun H=>?_) (fun H=>?_)
  ·refine vK<|fQ<|jN r (fun(e:List Int)=>Z [p 3 (R 3),p 5 (O 21),p 49 (L y231 a.2.2),p 50 (I (a.2.2.length:Int)),p 51 (I c)] [(21,A 3 i64 e 0),(3,K 53 y53 a)]) (NB c z) (fun e H=>?_) (fun _ l G t=>?_)
   ·refine jB [3,5,49,50,51] H fun H=>x H
   refine vB<|qD (fun d=>Z [p 3 (R 3),p 5 (O 21),p 9 (R 9),p 49 (L y231 a.2.2),p 50 (I (a.2.2.length:Int)),p 51 (I c)] [(9,K 231 y231 d),(21,A 3 i64 b 0),(3,K 53 y53 a)]) H fun d H=>vQ<|iB [3,5,9,49,50,51,69] H fun H=>cD H (fun H=>iA [4]<|a7<|fR<|h9<|t<|w<|h9<|u<|hr H) fun H=>vK<|fQ<|iA [3,5,9,49,50,51,72]<|cD H (fun H=>jB [3,5,49,50,51] H fun H=>fK<|l H) fun H=>vK<|fK<|l H
  exact vE<|fE<|v<|fX rfl<|s H
 refine iA [2,3,5,23,24,25]<|vB<|lX (fun((g,k):Int×List Int)=>Z (Y1 [p 5 (O 21),p 23 (L y155 a.1),p 24 (I (a.1.length:Int)),p 25 (I g)]) ((21,A 3 i64 k 0)::DN a i)) ((0,List.replicate (a.2.1.length:Int).toNat 0)) H fun _ V E o q ⟨g,k⟩ H=>iA [2,3,5,23,24,25,26]<|vQ<|cD H (fun H=>?_) (fun H=>?_)
 ·refine vK<|fQ<|vQ<|vB<|qD (fun h=>Z (Y1 [p 5 (O 21),p 7 (R 7),p 23 (L y155 a.1),p 24 (I (a.1.length:Int)),p 25 (I g)]) ((7,K 155 y155 h)::(21,A 3 i64 k 0)::DN a i)) H fun h H=>vQ<|iB [2,3,5,7,23,24,25,33] H fun H=>cD H (fun H=>iA [4]<|a7<|fR<|h9<|fR<|q<|h9<|F<|hr H) fun H=>vK<|fQ<|zD (fun m=>Z (Y1 [p 5 (O 21),p 23 (L y155 a.1),p 24 (I (a.1.length:Int)),p 25 (I g)]) ((21,A 3 i64 m 0)::(7,K 155 y155 h)::DN a i)) H fun m H=>fK<|fQ<|jB [2,3,5,23,24,25] H fun H=>E H
 exact vE<|fE<|o<|fX rfl<|n H
def Zm:Unit->Option Bool
 | _ =>
 some true
def Zn(c:List Int)(d:j0)(e:Int->Option Bool):Int->Option Bool
 | a =>
 if(decide (a < (d.2.2.length:Int))) then
  gd (ix a d.2.2.length/\True)<|lt (d.2.2.getD a.toNat (a6 y172)) fun b =>
  gd (ix a c.length/\a.toNat<c.length/\(Kz b (c.getD a.toNat 0)).isSome/\True) <|
  if(!vl (Kz b (c.getD a.toNat 0))) then
   some false
  else
   gd (b7 (a+1)/\True) <|
   e (a+1)
 else
  Zm ()
def ND(a:j0):List Int->Option Bool
 | b =>
 lp (Zn b a) 0
def NE(a:Int)(b:Int×List Int->Option Bool):List Int->Option Bool
 | c =>
 gd (b7 (a+1)/\True) <|
 b (a+1,c)
def Zo(d:List w4)(g:j0)(e:Int×List Int->Option Bool):Int×List Int->Option Bool
 | (c,a) =>
 if(decide (c < (d.length:Int))) then
  gd (ix c d.length/\c.toNat<d.length/\True)<|lt (d.getD c.toNat (a6 y235)) fun b =>
  if(!b.2.2.2) then
   gd (ix b.2.2.1 a.length/\b.2.2.1.toNat<a.length/\b7 (a.getD b.2.2.1.toNat 0+1)/\ix b.2.2.1 a.length/\b.2.2.1.toNat<a.length/\True)<|lt (a.set b.2.2.1.toNat (a.getD b.2.2.1.toNat 0+1)) fun f =>
   NE c e f
  else
   NE c e a
 else
  ND g a
def Hc(a:j0):Option Bool :=
 gd ((KO a.1 a.2.1).isSome/\True) <|
 if(!vl (KO a.1 a.2.1)||(a.2.2.length:Int) != (a.2.1.2.1.length:Int)) then
  some false
 else
  gd ((0<=(a.2.2.length:Int)/\(a.2.2.length:Int)=(a.2.2.length:Int)/\(a.2.2.length:Int).toNat*8<=281474976710656/\(a.2.2.length:Int)<=9223372036854775807)/\True) <|
  gd ((AE a.2.1).isSome/\True)<|lt (vl (AE a.2.1)) fun b =>
  lp (Zo b a) ((0,List.replicate (a.2.2.length:Int).toNat 0))
def R0b:Ct:=b9 100 [.agg j7] (fun x=>Hc x.1) (fun r:Bool=>B r) (fun _=>())
theorem N0S:Ok prog R0b:=by
 refine c8 [.tmp 2] func100 ?_;intro y ⟨a,_⟩ r H Q hn hr;have:=hz (tc N0A (tc CW (tc N0B tn)));refine iA [1]<|vQ<|iB [1,23] H fun H=>cD H (fun H=>iA [2]<|a7<|fR<|hr H) fun H=>vK<|fQ<|iB [1,3] H fun H=>jN r (fun(f:List Int)=>Z [p 1 (R 1),p 3 (O 27)] [(27,A 2 i64 f 0),(1,K 56 j7 a)]) (ND a) (fun f H=>?_) (fun _ m w G=>?_)
 ·refine jN r (fun(_:Unit)=>Z [] []) (Zm) (fun _ H=>?_) (fun _ n3 z s=>?_)
  ·refine iA [2]<|a7<|hr H
  refine iA [3,48,49,50]<|vB<|lX (fun(b:Int)=>Z [p 3 (O 27),p 48 (L y172 a.2.2),p 49 (I (a.2.2.length:Int)),p 50 (I b)] [(27,A 2 i64 f 0)]) 0 H fun _ F o l q b H=>iA [3,48,49,50,51]<|vQ<|cD H (fun H=>?_) (fun H=>?_)
  ·refine vK<|fQ<|vQ<|vB<|qD (fun e=>Z [p 3 (O 27),p 6 (I b),p 7 (R 7),p 48 (L y172 a.2.2),p 49 (I (a.2.2.length:Int)),p 50 (I b)] [(7,K 172 y172 e),(27,A 2 i64 f 0)]) H fun e H=>iB [3,48,49,50,61] H fun H=>cD H (fun H=>iA [2]<|a7<|h9<|fR<|q<|h9<|s<|hr H) fun H=>vK<|fK<|fQ<|jB [3,48,49,50] H fun H=>o H
  exact vE<|fE<|l<|fX rfl<|n3 H
 refine iD CW [1,3,30,31,32] H fun c H=>vB<|lX (fun((d,g):Int×List Int)=>Z [p 1 (R 1),p 3 (O 27),p 30 (O 30),p 31 (I (c.length:Int)),p 32 (I d)] [(30,A 235 y235 c 0),(27,A 2 i64 g 0),(1,K 56 j7 a)]) ((0,List.replicate (a.2.2.length:Int).toNat 0)) H fun _ t u n v ⟨d,g⟩ H=>iA [1,3,30,31,32,33]<|vQ<|cD H (fun H=>?_) (fun H=>?_)
 ·refine vK<|fQ<|jN r (fun(i:List Int)=>Z [p 1 (R 1),p 3 (O 27),p 30 (O 30),p 31 (I (c.length:Int)),p 32 (I d)] [(27,A 2 i64 i 0),(30,A 235 y235 c 0),(1,K 56 j7 a)]) (NE d t) (fun i H=>?_) (fun _ k E x=>?_)
  ·refine jB [1,3,30,31,32] H fun H=>u H
  refine vB<|qD (fun h=>Z [p 1 (R 1),p 3 (O 27),p 5 (R 5),p 30 (O 30),p 31 (I (c.length:Int)),p 32 (I d)] [(5,bx 235 (s5 true y235 h)),(30,A 235 y235 c 0),(27,A 2 i64 g 0),(1,K 56 j7 a)]) H fun h H=>iA [1,3,5,30,31,32,38]<|cD H (fun H=>zD (fun j=>Z [p 1 (R 1),p 3 (O 27),p 30 (O 30),p 31 (I (c.length:Int)),p 32 (I d)] [(27,A 2 i64 j 0),(5,bx 235 (s5 true y235 h)),(30,A 235 y235 c 0),(1,K 56 j7 a)]) H fun j H=>fK<|k H) fun H=>vK<|fK<|k H
 exact vE<|fE<|n<|fX rfl<|m H
def Fk(b:Int)(a:Int):Option Bool :=
 some (decide (100<=b)&&decide (b<=a)&&decide (a<=5000))
def Q0l:Ct:=b9 151 [.dat i64,.dat i64] (fun x=>Fk x.1 x.2.1) (fun r:Bool=>B r) (fun _=>())
theorem N0z:Ok prog Q0l:=by
 refine c8 [.tmp 4] func151 ?_;intro y ⟨_,_,_⟩ r H Q hn hr;refine iA [0,1]<|iA [4]<|a7<|hr H
def KP(a:p7):Option Bool :=
 gd ((L7 a.1).isSome/\(vl (L7 a.1)=true/\True->(Fk a.2.1 a.2.2.1).isSome)/\((vl (L7 a.1)&&vl (Fk a.2.1 a.2.2.1))=true/\True->(Fk a.2.2.2.1 a.2.2.2.2).isSome)/\True) <|
 some (vl (L7 a.1)&&vl (Fk a.2.1 a.2.2.1)&&vl (Fk a.2.2.2.1 a.2.2.2.2))
def R0a:Ct:=b9 101 [.agg u5] (fun x=>KP x.1) (fun r:Bool=>B r) (fun _=>())
theorem N0R:Ok prog R0a:=by
 refine c8 [.tmp 2] func101 ?_;intro y ⟨_,_⟩ r H Q hn hr;have:=hz (tc N0z (tc QX tn));refine iA [1]<|iB [2] H fun H=>a7<|hr H
def Fl(b:m6)(c:List k6)(a:w4):Option Int :=
 if(decide (a.1<0)) then
  some 0
 else
  gd (ix a.1 b.1.length/\ix (b.1.getD a.1.toNat (a6 y155)).2.1 c.length/\ix a.2.1 (c.getD (b.1.getD a.1.toNat (a6 y155)).2.1.toNat (a6 y153)).2.2.1.length/\True)<|lt ((c.getD (b.1.getD a.1.toNat (a6 y155)).2.1.toNat (a6 y153)).2.2.1.getD a.2.1.toNat (a6 y293)) fun d =>
  some d.2.2.1
def P0o:Ct:=b9 208 [.agg y53,.agg y153.sl,.agg y235] (fun x=>Fl x.1 x.2.1 x.2.2.1) (fun r:Int=>I r) (fun _=>())
theorem N0c:Ok prog P0o:=by
 refine c8 [.tmp 6] func208 ?_;intro y ⟨c,d,b,_⟩ r H Q hn hr;refine iA [3,4,5]<|vQ<|iA [3,4,5,9]<|cD H (fun H=>iA [6]<|a7<|fR<|hr H) fun H=>vK<|fQ<|qD (fun a=>Z [p 6 (J a.2.2.1)] [(5,K 235 y235 b),(4,bx 49 [L y153 d]),(3,K 53 y53 c)]) H fun a H=>a7<|hr H
def Zp:List Int->Option (List Int)
 | a =>
 some a
def NF(a:Int)(c:List Int×Int->Option (List Int)):List Int->Option (List Int)
 | b =>
 gd (b7 (a+1)/\True) <|
 c (b,a+1)
def Zq(f:Int)(c:List w4)(d:List Int×Int->Option (List Int)):List Int×Int->Option (List Int)
 | (b,a) =>
 if(decide (a < (c.length:Int))) then
  gd (ix a c.length/\a.toNat<c.length/\True)<|lt (c.getD a.toNat (a6 y235)) fun e =>
  if(e.2.2.1==f&&!e.2.2.2) then
   gd ((b.length+[a].length<=9223372036854775807/\(b.length+[a].length)*8<=140737488355328)/\True) <|
   NF a d (b++[a])
  else
   NF a d b
 else
  Zp b
def KQ(a:m6)(c:Int):Option (List Int) :=
 gd ((AE a).isSome/\True)<|lt (vl (AE a)) fun b =>
 lp (Zq c b) ([],0)
def P0p:Ct:=b9 207 [.agg y53,.dat i64] (fun x=>KQ x.1 x.2.1) (fun r:List Int=>AV.ow 2 true i64 r) (fun _=>())
theorem Zr:Ok prog P0p:=by
 refine c8 [.tmp 4] func207 ?_;intro y ⟨_,c,_⟩ r H Q hn hr;have:=hz (tc CW tn);refine iA [1,2]<|iA [1,2,5]<|jN r (fun(f:List Int)=>Z [p 5 (O 28)] [(28,A 2 i64 f 0)]) (Zp) (fun f H=>?_) (fun _ i n s=>?_)
 ·refine iA [4]<|a7<|hr H
 refine iD CW [1,5,9,10,11] H fun b H=>vB<|lX (fun((d,a):List Int×Int)=>Z [p 1 (J c),p 5 (O 28),p 9 (O 9),p 10 (I (b.length:Int)),p 11 (I a)] [(9,A 235 y235 b 0),(28,A 2 i64 d 0)]) ([],0) H fun _ k l j m ⟨d,a⟩ H=>iA [1,5,9,10,11,12]<|vQ<|cD H (fun H=>?_) (fun H=>?_)
 ·refine vK<|fQ<|jN r (fun(g:List Int)=>Z [p 1 (J c),p 5 (O 28),p 9 (O 9),p 10 (I (b.length:Int)),p 11 (I a)] [(28,A 2 i64 g 0),(9,A 235 y235 b 0)]) (NF a k) (fun g H=>?_) (fun _ e o q=>?_)
  ·refine jB [1,5,9,10,11] H fun H=>l H
  refine vB<|qD (fun h=>Z [p 1 (J c),p 5 (O 28),p 6 (I a),p 7 (R 7),p 9 (O 9),p 10 (I (b.length:Int)),p 11 (I a)] [(7,bx 235 (s5 true y235 h)),(9,A 235 y235 b 0),(28,A 2 i64 d 0)]) H fun h H=>iA [1,5,6,9,10,11,24]<|cD H (fun H=>jB [1,5,9,10,11] H fun H=>fK<|e H) fun H=>vK<|fK<|e H
 exact vE<|fE<|j<|fX rfl<|i H
def Rj:List Int->Option (List Int)
 | a =>
 some a
def Hd(c:w9)(e:Int×List Int->Option (List Int)):Int×List Int->Option (List Int)
 | (a,b) =>
 if(decide (0<a)) then
  gd (ix a c.1.length/\ix (c.1.getD a.toNat 0) b.length/\Int.toNat (c.1.getD a.toNat 0)<b.length/\ix a b.length/\a.toNat<b.length/\b7 (b.getD (Int.toNat (c.1.getD a.toNat 0)) 0+b.getD a.toNat 0)/\ix (c.1.getD a.toNat 0) b.length/\Int.toNat (c.1.getD a.toNat 0)<b.length/\True)<|lt (b.set (Int.toNat (c.1.getD a.toNat 0)) (b.getD (Int.toNat (c.1.getD a.toNat 0)) 0+b.getD a.toNat 0)) fun d =>
  gd (b7 (a-1)/\True) <|
  e (a-1,d)
 else
  Rj b
def NG(b:w9):List Int->Option (List Int)
 | a =>
 gd (b7 ((a.length:Int)-1)/\True) <|
 lp (Hd b) (((a.length:Int)-1,a))
def Zs(e:j0)(f:List w4)(b:List Int)(c:w9)(h:Int×List Int->Option (List Int)):Int×List Int->Option (List Int)
 | (a,d) =>
 if(decide (a < (b.length:Int))) then
  gd (ix a b.length/\a.toNat<b.length/\True) <|
  gd (ix a c.2.2.2.length/\ix (c.2.2.2.getD a.toNat 0) d.length/\Int.toNat (c.2.2.2.getD a.toNat 0)<d.length/\ix (b.getD a.toNat 0) f.length/\Int.toNat (b.getD a.toNat 0)<f.length/\(Fl e.2.1 e.1 (f.getD (Int.toNat (b.getD a.toNat 0)) (a6 y235))).isSome/\b7 (d.getD (Int.toNat (c.2.2.2.getD a.toNat 0)) 0+vl (Fl e.2.1 e.1 (f.getD (Int.toNat (b.getD a.toNat 0)) (a6 y235))))/\ix (c.2.2.2.getD a.toNat 0) d.length/\Int.toNat (c.2.2.2.getD a.toNat 0)<d.length/\True)<|lt ((vl (Fl e.2.1 e.1 (f.getD (Int.toNat (b.getD a.toNat 0)) (a6 y235))),d.set (Int.toNat (c.2.2.2.getD a.toNat 0)) (d.getD (Int.toNat (c.2.2.2.getD a.toNat 0)) 0+vl (Fl e.2.1 e.1 (f.getD (Int.toNat (b.getD a.toNat 0)) (a6 y235)))))) fun(_,g) =>
  gd (b7 (a+1)/\True) <|
  h (a+1,g)
 else
  NG c d
def AF(a:j0)(b:Int):Option (List Int) :=
 gd (ix b a.2.2.length/\True)<|lt (a.2.2.getD b.toNat (a6 y172)) fun c =>
 gd ((NH c.2.2.1).isSome/\True)<|lt (vl (NH c.2.2.1)) fun e =>
 gd ((AE a.2.1).isSome/\True)<|lt (vl (AE a.2.1)) fun d =>
 gd ((KQ a.2.1 b).isSome/\True)<|lt (vl (KQ a.2.1 b)) fun f =>
 lp (Zs a d f c) (0,e)
def Q0i:Ct:=b9 154 [.agg j7,.dat i64] (fun x=>AF x.1 x.2.1) (fun r:List Int=>AV.ow 2 true i64 r) (fun _=>())
theorem Rl:Ok prog Q0i:=by
 refine c8 [.tmp 4] func154 ?_;intro y ⟨h,u,_⟩ r H Q hn hr;have:=hz (tc N0c (tc Zr (tc CW (tc Zt tn))));refine iA [1,2]<|qD (fun b=>Z [p 1 (J u),p 2 (R 2),p 5 (R 5)] [(5,K 172 y172 b),(2,K 56 j7 h)]) H fun b H=>iD Zt [1,2,5,6] H fun q H=>iD CW [1,2,5,6,7] H fun k H=>jN r (fun(a:List Int)=>Z [p 5 (R 5),p 6 (O 18)] [(18,A 2 i64 a 0),(5,K 172 y172 b)]) (NG b) (fun a H=>?_) (fun _ m E x=>?_)
 ·refine jN r (fun(d:List Int)=>Z [p 6 (O 18)] [(18,A 2 i64 d 0)]) (Rj) (fun d H=>?_) (fun _ w P F=>?_)
  ·refine iA [4]<|a7<|hr H
  refine iB [5,6,10] H fun H=>vB<|lX (fun((c,e):Int×List Int)=>Z [p 5 (R 5),p 6 (O 18),p 10 (I c)] [(18,A 2 i64 e 0),(5,K 172 y172 b)]) (((a.length:Int)-1,a)) H fun _ T t s G ⟨c,e⟩ H=>vQ<|iA [5,6,10,56]<|cD H (fun H=>vK<|fQ<|vQ<|vB<|zD (fun f=>Z [p 5 (R 5),p 6 (O 18),p 10 (I c)] [(18,A 2 i64 f 0),(5,K 172 y172 b)]) H fun f H=>fK<|fQ<|jB [5,6,10] H fun H=>t H) fun H=>vE<|fE<|s<|fX rfl<|w H
 refine iD Zr [2,5,6,7,25,26,27] H fun g H=>vB<|lX (fun((i,l):Int×List Int)=>Z [p 2 (R 2),p 5 (R 5),p 6 (O 18),p 7 (O 21),p 25 (O 25),p 26 (I (g.length:Int)),p 27 (I i)] [(25,A 2 i64 g 0),(21,A 235 y235 k 0),(18,A 2 i64 l 0),(5,K 172 y172 b),(2,K 56 j7 h)]) (0,q) H fun _ V v n z ⟨i,l⟩ H=>iA [2,5,6,7,25,26,27,28]<|vQ<|cD H (fun H=>?_) (fun H=>?_)
 ·refine vK<|fQ<|vQ<|vB<|iB [2,5,6,7,8,9,25,26,27] H fun H=>zD (fun(o,j)=>Z [p 2 (R 2),p 5 (R 5),p 6 (O 18),p 7 (O 21),p 25 (O 25),p 26 (I (g.length:Int)),p 27 (I i)] [(18,A 2 i64 j 0),(25,A 2 i64 g 0),(21,A 235 y235 k 0),(5,K 172 y172 b),(2,K 56 j7 h)]) H fun⟨o,j⟩ H =>
   fK<|fQ <|
   jB [2,5,6,7,25,26,27] H fun H =>
   v H
 exact vE<|fE<|n<|fX rfl<|m H
def Zu:List Int->Option (List Int)
 | a =>
 some a
def KS(c:w9)(d:List Int)(e:Int×List Int->Option (List Int)):Int×List Int->Option (List Int)
 | (a,b) =>
 if(decide (a < (b.length:Int))) then
  gd (ix a c.1.length/\ix (c.1.getD a.toNat 0) b.length/\Int.toNat (c.1.getD a.toNat 0)<b.length/\ix a c.2.1.length/\ix a d.length/\a.toNat<d.length/\b7 (c.2.1.getD a.toNat 0*d.getD a.toNat 0)/\b7 (b.getD (Int.toNat (c.1.getD a.toNat 0)) 0+c.2.1.getD a.toNat 0*d.getD a.toNat 0)/\ix a b.length/\a.toNat<b.length/\True)<|lt (b.set a.toNat (b.getD (Int.toNat (c.1.getD a.toNat 0)) 0+c.2.1.getD a.toNat 0*d.getD a.toNat 0)) fun f =>
  gd (b7 (a+1)/\True) <|
  e (a+1,f)
 else
  Zu b
def KT(b:j0)(c:Int):Option (List Int) :=
 gd (ix c b.2.2.length/\(AF b c).isSome/\True)<|lt ((vl (AF b c),b.2.2.getD c.toNat (a6 y172))) fun(a,d) =>
 gd ((0<=(a.length:Int)/\(a.length:Int)=(a.length:Int)/\(a.length:Int).toNat*8<=281474976710656/\(a.length:Int)<=9223372036854775807)/\True) <|
 lp (KS d a) ((1,List.replicate (a.length:Int).toNat 0))
def P0n:Ct:=b9 209 [.agg j7,.dat i64] (fun x=>KT x.1 x.2.1) (fun r:List Int=>AV.ow 2 true i64 r) (fun _=>())
theorem Zv:Ok prog P0n:=by
 refine c8 [.tmp 4] func209 ?_;intro y ⟨j,_,_⟩ r H Q hn hr;have:=hz (tc Rl tn);refine iA [1,2]<|qD (fun(a,b)=>Z [p 5 (R 5),p 6 (O 16)] [(5,K 172 y172 b),(16,A 2 i64 a 0),(2,K 56 j7 j)]) H fun w H=>?_
 obtain⟨a,b⟩:=w;refine iB [5,6,7] H fun H=>jN r (fun(e:List Int)=>Z [p 7 (O 19)] [(19,A 2 i64 e 0)]) (Zu) (fun e H=>?_) (fun _ g m n=>?_)
 ·refine iA [4]<|a7<|hr H
 refine iA [5,6,7,8]<|vB<|lX (fun((c,d):Int×List Int)=>Z [p 5 (R 5),p 6 (O 16),p 7 (O 19),p 8 (I c)] [(19,A 2 i64 d 0),(5,K 172 y172 b),(16,A 2 i64 a 0)]) ((1,List.replicate (a.length:Int).toNat 0)) H fun _ l i h k ⟨c,d⟩ H=>vQ<|iA [5,6,7,8,23]<|cD H (fun H=>vK<|fQ<|vQ<|vB<|zD (fun f=>Z [p 5 (R 5),p 6 (O 16),p 7 (O 19),p 8 (I c)] [(19,A 2 i64 f 0),(5,K 172 y172 b),(16,A 2 i64 a 0)]) H fun f H=>fK<|fQ<|jB [5,6,7,8] H fun H=>i H) fun H=>vE<|fE<|h<|fX rfl<|g H
def Zw:List Int->Option (List Int)
 | a =>
 some a
def Zx(c:List Int)(b:w9)(e:List Int×Int->Option (List Int)):List Int×Int->Option (List Int)
 | (d,a) =>
 if(decide (a < (b.2.2.2.length:Int))) then
  gd (ix a b.2.2.2.length/\True) <|
  gd (ix (b.2.2.2.getD a.toNat 0) c.length/\Int.toNat (b.2.2.2.getD a.toNat 0)<c.length/\(d.length+[c.getD (Int.toNat (b.2.2.2.getD a.toNat 0)) 0].length<=9223372036854775807/\(d.length+[c.getD (Int.toNat (b.2.2.2.getD a.toNat 0)) 0].length)*8<=140737488355328)/\True)<|lt (d++[c.getD (Int.toNat (b.2.2.2.getD a.toNat 0)) 0]) fun f =>
  gd (b7 (a+1)/\True) <|
  e (f,a+1)
 else
  Zw d
def Da(a:j0)(b:Int):Option (List Int) :=
 gd ((KT a b).isSome/\True)<|lt (vl (KT a b)) fun d =>
 gd (ix b a.2.2.length/\True)<|lt (a.2.2.getD b.toNat (a6 y172)) fun c =>
 lp (Zx d c) ([],0)
def Q0h:Ct:=b9 155 [.agg j7,.dat i64] (fun x=>Da x.1 x.2.1) (fun r:List Int=>AV.ow 2 true i64 r) (fun _=>())
theorem N0y:Ok prog Q0h:=by
 refine c8 [.tmp 4] func155 ?_;intro y ⟨j,_,_⟩ r H Q hn hr;have:=hz (tc Zv tn);refine iA [1,2]<|iD Zv [1,2,5] H fun c H=>iA [1,2,5,6]<|jN r (fun(d:List Int)=>Z [p 6 (O 29)] [(29,A 2 i64 d 0)]) (Zw) (fun d H=>?_) (fun _ g m n=>?_)
 ·refine iA [4]<|a7<|hr H
 refine qD (fun a=>Z [p 5 (O 11),p 6 (nil),p 17 (L i64 a.2.2.2),p 18 (I (a.2.2.2.length:Int)),p 19 (I 0)] [(11,A 2 i64 c 0),(2,K 56 j7 j)]) H fun a H=>vB<|lX (fun((e,b):List Int×Int)=>Z [p 5 (O 11),p 6 (O 29),p 17 (L i64 a.2.2.2),p 18 (I (a.2.2.2.length:Int)),p 19 (I b)] [(11,A 2 i64 c 0),(29,A 2 i64 e 0)]) ([],0) H fun _ l i h k ⟨e,b⟩ H=>iA [5,6,17,18,19,20]<|vQ<|cD H (fun H=>vK<|fQ<|vQ<|vB<|iB [5,6,8,17,18,19] H fun H=>zD (fun f=>Z [p 5 (O 11),p 6 (AV.os 29 1),p 17 (L i64 a.2.2.2),p 18 (I (a.2.2.2.length:Int)),p 19 (I b)] [(29,A 2 i64 f 1),(28,A 2 i64 [c.getD (Int.toNat (a.2.2.2.getD b.toNat 0)) 0] 0),(11,A 2 i64 c 0)]) H fun f H=>fK<|fQ<|jB [5,6,17,18,19] H fun H=>i H) fun H=>vE<|fE<|h<|fX rfl<|g H
def I0N:Ct:=b9 155 [.agg j7,.dat i64] (fun x=>Da x.1 x.2.1) (fun r=>frz ((fun r:List Int=>AV.ow 2 true i64 r) r)) (fun _=>())
theorem I0w:Ok prog I0N:=GM N0y
def KU(a:r7):Option (List (Int×Int)) :=
 if(a.1==2) then
  some ([((0:Int),(0:Int)),((0:Int),(1:Int))])
 else
  if(a.1==3) then
   some ([((1:Int),(0:Int)),((1:Int),(1:Int))])
  else
   if(a.1 != 1) then
    some []
   else
    if(a.2.2.2.1==1) then
     some ([((0:Int),(0:Int)),((1:Int),(1:Int))])
    else
     if(a.2.2.2.1==2) then
      some ([((0:Int),(1:Int)),((1:Int),(0:Int))])
     else
      lt ([((0:Int),(0:Int)),((0:Int),(1:Int)),((1:Int),(0:Int)),((1:Int),(1:Int))]) fun b =>
      some b
def P0r:Ct:=b9 205 [.agg y158] (fun x=>KU x.1) (fun r:List (Int×Int)=>AV.ow 284 true (i64.pr i64) r) (fun _=>())
theorem Zy:Ok prog P0r:=by
 refine c8 [.tmp 2] func205 ?_;intro y ⟨b,_⟩ r H Q hn hr;refine iA [1]<|iA [1,3]<|iA [1,3,4]<|vQ<|vB<|iA [1,3,4,11]<|cD H (fun H=>iA [2]<|a7<|h9<|fR<|hr H) fun H=>iA [1,3,4,18]<|cD H (fun H=>iA [2]<|a7<|h9<|fR<|hr H) fun H=>iA [1,3,4,25]<|cD H (fun H=>iA [2]<|a7<|h9<|fR<|hr H) fun H=>iA [1,3,4,29]<|cD H (fun H=>iA [2]<|a7<|h9<|fR<|hr H) fun H=>iA [4,34]<|cD H (fun H=>iA [2]<|a7<|h9<|fR<|hr H) fun H=>vK<|fK<|fQ<|qC (fun a=>Z [p 2 (O 43)] [(43,A 284 (i64.pr i64) a 0),(10,A 284 (i64.pr i64) [((0:Int),(1:Int)),((1:Int),(0:Int))] 0),(7,A 284 (i64.pr i64) [((0:Int),(0:Int)),((1:Int),(1:Int))] 0),(1,K 158 y158 b)]) H fun a H=>a7<|hr H
def Zz:List j2->Option (List j2)
 | a =>
 some a
def Rm(a:Int)(c:List j2×Int->Option (List j2)):List j2->Option (List j2)
 | b =>
 gd (b7 (a+1)/\True) <|
 c (b,a+1)
def Rn(c:Int)(a:r7)(e:Int)(g:List (Int×Int))(i:List j2×Int->Option (List j2))(j:Int×List j2->Option (List j2)):Int×List j2->Option (List j2)
 | (d,f) =>
 if(decide (d < (g.length:Int))) then
  gd (ix d g.length/\d.toNat<g.length/\True)<|lt (g.getD d.toNat (a6 (i64.pr i64))) fun b =>
  gd (b7 (c+a.2.1)/\b7 ((2:Int)*(c+a.2.1))/\ix (0:Int) 2/\b7 ((2:Int)*(c+a.2.1)+b.1)/\b7 (c+a.2.2.1)/\b7 ((2:Int)*(c+a.2.2.1))/\ix (1:Int) 2/\b7 ((2:Int)*(c+a.2.2.1)+b.2)/\(f.length+[((2:Int)*(c+a.2.1)+b.1,(2:Int)*(c+a.2.2.1)+b.2,(1:Int),e)].length<=9223372036854775807/\(f.length+[((2:Int)*(c+a.2.1)+b.1,(2:Int)*(c+a.2.2.1)+b.2,(1:Int),e)].length)*32<=140737488355328)/\True)<|lt ((f++[((2:Int)*(c+a.2.1)+b.1,(2:Int)*(c+a.2.2.1)+b.2,(1:Int),e)],[((2:Int)*(c+a.2.1)+b.1,(2:Int)*(c+a.2.2.1)+b.2,(1:Int),e)])) fun(h,_) =>
  gd (b7 (d+1)/\True) <|
  j (d+1,h)
 else
  Rm e i f
def Ro(g:Int)(d:k6)(f:List j2×Int->Option (List j2)):List j2×Int->Option (List j2)
 | (c,a) =>
 if(decide (a < (d.2.2.2.1.length:Int))) then
  gd (ix a d.2.2.2.1.length/\True)<|lt (d.2.2.2.1.getD a.toNat (a6 y158)) fun b =>
  gd ((KU b).isSome/\True)<|lt (vl (KU b)) fun e =>
  lp (Rn g b a e f) (0,c)
 else
  Zz c
def Db(a:j0)(b:A9)(c:Int):Option (List j2) :=
 gd (ix b.2.1 a.1.length/\True)<|lt (a.1.getD b.2.1.toNat (a6 y153)) fun d =>
 lp (Ro c d) ([],0)
def Q0k:Ct:=b9 152 [.agg j7,.agg y155,.dat i64] (fun x=>Db x.1 x.2.1 x.2.2.1) (fun r:List j2=>AV.ow 138 true y138 r) (fun _=>())
theorem ZA:Ok prog Q0k:=by
 refine c8 [.tmp 6] func152 ?_;intro y ⟨s,v,h,_⟩ r H Q hn hr;have:=hz (tc Zy tn);refine iA [2,3,4]<|iA [2,3,4,7]<|jN r (fun(k:List j2)=>Z [p 7 (O 53)] [(53,A 138 y138 k 0)]) (Zz) (fun k H=>?_) (fun _ n F z=>?_)
 ·refine iA [6]<|a7<|hr H
 refine qD (fun b=>Z [p 2 (J h),p 7 (nil),p 19 (L y158 b.2.2.2.1),p 20 (I (b.2.2.2.1.length:Int)),p 21 (I 0)] [(4,K 155 y155 v),(3,K 56 j7 s)]) H fun b H=>vB<|lX (fun((e,a):List j2×Int)=>Z [p 2 (J h),p 7 (O 53),p 19 (L y158 b.2.2.2.1),p 20 (I (b.2.2.2.1.length:Int)),p 21 (I a)] [(53,A 138 y138 e 0)]) ([],0) H fun _ u w o E ⟨e,a⟩ H=>iA [2,7,19,20,21,22]<|vQ<|cD H (fun H=>?_) (fun H=>?_)
 ·refine vK<|fQ<|jN r (fun(l:List j2)=>Z [p 2 (J h),p 7 (O 53),p 19 (L y158 b.2.2.2.1),p 20 (I (b.2.2.2.1.length:Int)),p 21 (I a)] [(53,A 138 y138 l 0)]) (Rm a u) (fun l H=>?_) (fun _ x T G=>?_)
  ·refine jB [2,7,19,20,21] H fun H=>w H
  refine vB<|qD (fun d=>Z [p 2 (J h),p 7 (O 53),p 8 (I a),p 9 (R 9),p 19 (L y158 b.2.2.2.1),p 20 (I (b.2.2.2.1.length:Int)),p 21 (I a)] [(9,K 158 y158 d),(53,A 138 y138 e 0)]) H fun d H=>iD Zy [2,7,8,9,19,20,21,27,28,29] H fun c H=>vB<|lX (fun((f,i):Int×List j2)=>Z [p 2 (J h),p 7 (O 53),p 8 (I a),p 9 (R 9),p 19 (L y158 b.2.2.2.1),p 20 (I (b.2.2.2.1.length:Int)),p 21 (I a),p 27 (O 27),p 28 (I (c.length:Int)),p 29 (I f)] [(27,A 284 (i64.pr i64) c 0),(9,K 158 y158 d),(53,A 138 y138 i 0)]) (0,e) H fun _ V t q P ⟨f,i⟩ H=>iA [2,7,8,9,19,20,21,27,28,29,30]<|vQ<|cD H (fun H=>?_) (fun H=>?_)
  ·refine vK<|fQ<|vQ<|vB<|qD (fun g=>Z [p 2 (J h),p 7 (O 53),p 8 (I a),p 9 (R 9),p 11 (R 11),p 19 (L y158 b.2.2.2.1),p 20 (I (b.2.2.2.1.length:Int)),p 21 (I a),p 27 (O 27),p 28 (I (c.length:Int)),p 29 (I f)] [(11,bx 284 (s5 true (i64.pr i64) g)),(27,A 284 (i64.pr i64) c 0),(9,K 158 y158 d),(53,A 138 y138 i 0)]) H fun g H=>zD (fun(j,m)=>Z [p 2 (J h),p 7 (AV.os 53 1),p 8 (I a),p 9 (R 9),p 19 (L y158 b.2.2.2.1),p 20 (I (b.2.2.2.1.length:Int)),p 21 (I a),p 27 (O 27),p 28 (I (c.length:Int)),p 29 (I f)] [(53,A 138 y138 j 1),(52,A 138 y138 m 0),(11,bx 284 (s5 true (i64.pr i64) g)),(27,A 284 (i64.pr i64) c 0),(9,K 158 y158 d)]) H fun⟨j,m⟩ H =>
    fK<|fQ <|
    jB [2,7,8,9,19,20,21,27,28,29] H fun H =>
    t H
  exact vE<|fE<|q<|fX rfl<|fK<|x H
 exact vE<|fE<|o<|fX rfl<|n H
def ZB(e:j0)(d:List w4):List j2×List Int×List (List Int)->Option x5
 | (b,a,c) =>
 some (e,d,b,a,c,[])
def Rp(a:Int)(e:Int×List Int×List (List Int)×List j2->Option x5):List (List Int)×List Int×List j2->Option x5
 | (c,d,b) =>
 gd (b7 (a+1)/\True) <|
 e (a+1,d,c,b)
def Rq(a:Int)(c:Int×List j2->Option x5):List j2->Option x5
 | b =>
 gd (b7 (a+1)/\True) <|
 c (a+1,b)
def KV(d:List Int)(a:Int)(e:List (List Int))(c:Int)(i:Int×List j2->Option x5)(h:Int×List j2->Option x5):Int×List j2->Option x5
 | (b,f) =>
 if(decide (b<2)) then
  gd (ix a d.length/\a.toNat<d.length/\b7 ((2:Int)*d.getD a.toNat (0:Int))/\b7 ((2:Int)*d.getD a.toNat (0:Int)+b)/\b7 ((2:Int)*List.getD (e.getD a.toNat []) c.toNat (0:Int))/\b7 ((2:Int)*List.getD (e.getD a.toNat []) c.toNat (0:Int)+b)/\(f.length+[((2:Int)*d.getD a.toNat (0:Int)+b,(2:Int)*List.getD (e.getD a.toNat []) c.toNat (0:Int)+b,(2:Int),c)].length<=9223372036854775807/\(f.length+[((2:Int)*d.getD a.toNat (0:Int)+b,(2:Int)*List.getD (e.getD a.toNat []) c.toNat (0:Int)+b,(2:Int),c)].length)*32<=140737488355328)/\True)<|lt ((f++[((2:Int)*d.getD a.toNat (0:Int)+b,(2:Int)*List.getD (e.getD a.toNat []) c.toNat (0:Int)+b,(2:Int),c)],[((2:Int)*d.getD a.toNat (0:Int)+b,(2:Int)*List.getD (e.getD a.toNat []) c.toNat (0:Int)+b,(2:Int),c)])) fun(g,_) =>
  gd (b7 (b+1)/\True) <|
  h (b+1,g)
 else
  Rq c i f
def Fm(h:List Int)(a:Int)(c:List (List Int))(g:List (List Int))(f:List Int)(i:List Int)(e:List Int)(j:Int×List Int×List (List Int)×List j2->Option x5)(k:Int×List j2->Option x5):Int×List j2->Option x5
 | (b,d) =>
 if(decide (b < (↑(List.length (c.getD a.toNat [])):Int))) then
  gd (ix b (List.length (c.getD a.toNat []))/\True) <|
  lp (KV h a c b k) (0,d)
 else
  Rp a j ((g++[f],i++[e.getD (Int.toNat (0:Int)) (0:Int)],d))
def Rr(i:List Int)(f:List (List Int))(b:j0)(k:List w4)(j:Int×List Int×List (List Int)×List j2->Option x5):Int×List Int×List (List Int)×List j2->Option x5
 | (a,d,c,e) =>
 if(decide (a < (b.2.2.length:Int))) then
  gd ((AF b a).isSome/\ix (0:Int) (vl (AF b a)).length/\Int.toNat (0:Int) < (vl (AF b a)).length/\(d.length+[(vl (AF b a)).getD (Int.toNat (0:Int)) (0:Int)].length<=9223372036854775807/\(d.length+[(vl (AF b a)).getD (Int.toNat (0:Int)) (0:Int)].length)*8<=140737488355328)/\True)<|lt (vl (AF b a)) fun g =>
  gd ((Da b a).isSome/\(c.length+[vl (Da b a)].length<=9223372036854775807/\(c.length+[vl (Da b a)].length)*24<=140737488355328)/\True)<|lt (vl (Da b a)) fun h =>
  gd (ix a f.length/\True) <|
  lp (Fm i a f c h d g j) (0,e)
 else
  ZB b k (e,d,c)
def Rs(e:j0)(d:List w4)(a:List j2):List (List Int)×List Int->Option x5
 | (c,b) =>
 lp (Rr b c e d) (0,[],[],a)
def NI(a:Int)(d:Int×List (List Int)×List Int->Option x5):List Int×List (List Int)->Option x5
 | (c,b) =>
 gd (b7 (a+1)/\True) <|
 d (a+1,b,c)
def Rt(e:List w4)(i:j0)(f:List j2)(h:Int×List (List Int)×List Int->Option x5):Int×List (List Int)×List Int->Option x5
 | (c,b,d) =>
 if(decide (c < (e.length:Int))) then
  gd (ix c e.length/\c.toNat<e.length/\True)<|lt (e.getD c.toNat (a6 y235)) fun a =>
  if a.2.2.2 then
   gd (ix a.2.2.1 d.length/\a.2.2.1.toNat<d.length/\True) <|
   NI c h (d.set a.2.2.1.toNat c,b)
  else
   gd (ix a.2.2.1 b.length/\a.2.2.1.toNat<b.length/\((b.getD a.2.2.1.toNat []).length+[c].length<=9223372036854775807/\((b.getD a.2.2.1.toNat []).length+[c].length)*8<=140737488355328)/\ix a.2.2.1 b.length/\(a.2.2.1.toNat<b.length/\a.2.2.1.toNat=a.2.2.1.toNat)/\True)<|lt (b.set a.2.2.1.toNat (b.getD a.2.2.1.toNat []++[c])) fun g =>
   NI c h (d,g)
 else
  Rs i e f (b,d)
def KW(c:List w4)(a:j0):List j2->Option x5
 | b =>
 gd ((0<=(a.2.2.length:Int)/\(a.2.2.length:Int)=(a.2.2.length:Int)/\(a.2.2.length:Int).toNat*8<=281474976710656/\(a.2.2.length:Int)<=9223372036854775807)/\True) <|
 gd ((0<=(a.2.2.length:Int)/\(a.2.2.length:Int)=(a.2.2.length:Int)/\(a.2.2.length:Int).toNat*24<=281474976710656/\(a.2.2.length:Int)<=9223372036854775807)/\True) <|
 lp (Rt c a b) ((0,List.replicate (a.2.2.length:Int).toNat [],List.replicate (a.2.2.length:Int).toNat 0))
def ZC(a:j0)(i:List w4)(g:Int×Int×List j2->Option x5):Int×Int×List j2->Option x5
 | (c,d,e) =>
 if(decide (d < (a.2.1.1.length:Int))) then
  gd (ix d a.2.1.1.length/\True)<|lt (a.2.1.1.getD d.toNat (a6 y155)) fun b =>
  gd ((Db a b c).isSome/\(e.length+(vl (Db a b c)).length<=9223372036854775807/\(e.length+(vl (Db a b c)).length)*32<=140737488355328)/\True)<|lt (vl (Db a b c)) fun h =>
  gd ((A4 b.2.2).isSome/\b7 (c+vl (A4 b.2.2))/\True)<|lt (vl (A4 b.2.2)) fun f =>
  gd (b7 (d+1)/\True) <|
  g (c+f,d+1,e++h)
 else
  KW i a e
def KX(a:j0):Option x5 :=
 gd ((AE a.2.1).isSome/\True)<|lt (vl (AE a.2.1)) fun b =>
 lp (ZC a b) (0,0,[])
def Q0Z:Ct:=b9 102 [.agg j7] (fun x=>KX x.1) (fun r:x5=>D y189.pt r) (fun _=>())
theorem ZD:Ok prog Q0Z:=by
 refine c8 [.tmp 2] func102 ?_;intro y ⟨a,_⟩ r H Q hn hr;have:=hz (tc I0w (tc Rl (tc Ky (tc ZA (tc CW tn)))));refine iA [1]<|iD CW [1,3] H fun d H=>iA [1,3,4]<|jN r (fun(g:List j2)=>Z [p 1 (R 1),p 3 (R 20)] ((20,bx 189 (Q0 a))::W1 d a g)) (KW d a) (fun g H=>?_) (fun _ n0 e0 t0=>?_)
 ·refine iB [1,3,7] H fun H=>iB [1,3,7,8] H fun H=>jN r (fun((c,e):List (List Int)×List Int)=>Z (G3 [p 8 (AV.og 54)]) ((54,Ob.grd 35 2 true i64 c none)::(50,A 2 i64 e 0)::(20,bx 189 (Q0 a))::W1 d a g)) (Rs a d g) (fun w H=>?_) (fun _ n2 e2 t2=>?_)
  ·obtain⟨c,e⟩:=w;refine jN r (fun((P,G,Y):List j2×List Int×List (List Int))=>Z [p 3 (R 20)] [(20,bx 189 (Q1 a)),(18,A 235 y235 d 0),(38,A 138 y138 P 0),(102,A 2 i64 G 0),(114,A 35 i64.sl Y 0)]) (ZB a d) (fun⟨P,G,Y⟩ H=>?_) (fun _ n5 e5 t5=>?_)
   ·refine iA [2]<|a7<|hr H
   refine iA [1,3,7,8,87,88]<|vB<|fZ 54 (Z (G3 [p 8 (M i64.sl c),p 87 (I (a.2.2.length:Int)),p 88 (I 0)]) ((50,A 2 i64 e 0)::(20,bx 189 (Q0 a))::W1 d a g))<|lX (fun((b,k,j,m):Int×List Int×List (List Int)×List j2)=>Z (G3 [p 8 (M i64.sl c),p 87 (I (a.2.2.length:Int)),p 88 (I b)]) [(50,A 2 i64 e 0),(20,bx 189 (Q1 a)),(18,A 235 y235 d 0),(1,K 56 j7 a),(38,A 138 y138 m 0),(102,A 2 i64 k 0),(114,A 35 i64.sl j 0)]) (0,[],[],g) H fun _ g6 b6 e6 t6 ⟨b,k,j,m⟩ H=>iA [1,3,7,8,87,88,89]<|vQ<|cD H (fun H=>?_) (fun H=>?_)
   ·refine vK<|fQ<|jN r (fun((T,V,W):List (List Int)×List Int×List j2)=>Z (G3 [p 8 (M i64.sl c),p 87 (I (a.2.2.length:Int)),p 88 (I b)]) ((20,bx 189 (Q1 a))::(114,A 35 i64.sl T 0)::(102,A 2 i64 V 0)::(50,A 2 i64 e 0)::W1 d a W)) (Rp b g6) (fun⟨T,V,W⟩ H=>?_) (fun _ n7 e7 t7=>?_)
    ·refine jB [1,3,7,8,87,88] H fun H=>b6 H
    refine vB<|iA [1,3,7,8,11,87,88]<|iD Rl [1,3,7,8,11,87,88] H fun l H=>qD (fun i=>Z (G3 [p 8 (M i64.sl c),p 11 (I b),p 87 (I (a.2.2.length:Int)),p 88 (I b)]) ((20,bx 189 [L y153 a.1,L y155 a.2.1.1,L Ty.str a.2.1.2.1,L y231 a.2.1.2.2,L y172 a.2.2,AV.os 18 0,AV.os 38 0,AV.os 102 1,AV.os 114 1,nil])::(114,A 35 i64.sl (j++[i]) 1)::(113,A 35 i64.sl [i] 0)::(102,A 2 i64 (k++[l.getD (Int.toNat (0:Int)) (0:Int)]) 1)::(101,A 2 i64 [l.getD (Int.toNat (0:Int)) (0:Int)] 0)::(98,A 2 i64 l 0)::(50,A 2 i64 e 0)::W1 d a m)) H fun i H=>iB [1,3,7,8,11,87,88,120,121,122] H fun H=>vB<|lX (fun((f,t):Int×List j2)=>Z (G3 [p 8 (M i64.sl c),p 11 (I b),p 87 (I (a.2.2.length:Int)),p 88 (I b),p 120 (M i64 (c.getD b.toNat [])),p 121 (I (↑(List.length (c.getD b.toNat [])):Int)),p 122 (I f)]) ((20,bx 189 (Q1 a))::(114,A 35 i64.sl (j++[i]) 0)::(102,A 2 i64 (k++[l.getD (Int.toNat (0:Int)) (0:Int)]) 0)::(50,A 2 i64 e 0)::W1 d a t)) (0,m) H fun _ g8 b8 e8 t8 ⟨f,t⟩ H=>iA [1,3,7,8,11,87,88,120,121,122,123]<|vQ<|cD H (fun H=>?_) (fun H=>?_)
    ·refine vK<|fQ<|jN r (fun(u:List j2)=>Z (G3 [p 8 (M i64.sl c),p 11 (I b),p 87 (I (a.2.2.length:Int)),p 88 (I b),p 120 (M i64 (c.getD b.toNat [])),p 121 (I (↑(List.length (c.getD b.toNat [])):Int)),p 122 (I f)]) ((20,bx 189 (Q1 a))::(114,A 35 i64.sl (j++[i]) 0)::(102,A 2 i64 (k++[l.getD (Int.toNat (0:Int)) (0:Int)]) 0)::(50,A 2 i64 e 0)::W1 d a u)) (Rq f g8) (fun u H=>?_) (fun _ n9 e9 t9=>?_)
     ·refine jB [1,3,7,8,11,87,88,120,121,122] H fun H=>b8 H
     refine vB<|iB [1,3,7,8,11,12,13,87,88,120,121,122] H fun H=>iA [1,3,7,8,11,12,13,87,88,120,121,122,127]<|vB<|lX (fun((s,F):Int×List j2)=>Z (G3 [p 8 (M i64.sl c),p 11 (I b),p 12 (I f),p 13 (I (List.getD (c.getD b.toNat []) f.toNat (0:Int))),p 87 (I (a.2.2.length:Int)),p 88 (I b),p 120 (M i64 (c.getD b.toNat [])),p 121 (I (↑(List.length (c.getD b.toNat [])):Int)),p 122 (I f),p 127 (I s)]) ((20,bx 189 (Q1 a))::(114,A 35 i64.sl (j++[i]) 0)::(102,A 2 i64 (k++[l.getD (Int.toNat (0:Int)) (0:Int)]) 0)::(50,A 2 i64 e 0)::W1 d a F)) (0,t) H fun _ aC aB aA aD ⟨s,F⟩ H=>iA [1,3,7,8,11,12,13,87,88,120,121,122,127,128]<|vQ<|cD H (fun H=>?_) (fun H=>?_)
     ·refine vK<|fQ<|vQ<|vB<|iA [1,3,7,8,11,12,13,14,87,88,120,121,122,127]<|zD (fun(E,x)=>Z (G3 [p 8 (M i64.sl c),p 11 (I b),p 12 (I f),p 13 (I (List.getD (c.getD b.toNat []) f.toNat (0:Int))),p 87 (I (a.2.2.length:Int)),p 88 (I b),p 120 (M i64 (c.getD b.toNat [])),p 121 (I (↑(List.length (c.getD b.toNat [])):Int)),p 122 (I f),p 127 (I s)]) [(20,bx 189 [L y153 a.1,L y155 a.2.1.1,L Ty.str a.2.1.2.1,L y231 a.2.1.2.2,L y172 a.2.2,AV.os 18 0,AV.os 38 1,AV.os 102 0,AV.os 114 0,nil]),(38,A 138 y138 E 1),(148,A 138 y138 x 0),(114,A 35 i64.sl (j++[i]) 0),(102,A 2 i64 (k++[l.getD (Int.toNat (0:Int)) (0:Int)]) 0),(50,A 2 i64 e 0),(18,A 235 y235 d 0),(1,K 56 j7 a)]) H fun⟨E,x⟩ H =>
       fK<|fQ <|
       jB [1,3,7,8,11,12,13,87,88,120,121,122,127] H fun H =>
       aB H
     exact vE<|fE<|aA<|fX rfl<|fK<|n9 H
    exact vE<|fE<|e8<|fX rfl<|fK<|n7 H
   exact vE<|fE<|e6<|fX rfl<|n5 H
  refine iA [1,3,7,8,58,59,60]<|vB<|lX (fun((h,q,n):Int×List (List Int)×List Int)=>Z (G3 [p 8 (AV.og 54),p 58 (O 18),p 59 (I (d.length:Int)),p 60 (I h)]) ((54,Ob.grd 35 2 true i64 q none)::(50,A 2 i64 n 0)::(20,bx 189 (Q0 a))::W1 d a g)) ((0,List.replicate (a.2.2.length:Int).toNat [],List.replicate (a.2.2.length:Int).toNat 0)) H fun _ g3 b3 e3 t3 ⟨h,q,n⟩ H=>iA [1,3,7,8,58,59,60,61]<|vQ<|cD H (fun H=>?_) (fun H=>?_)
  ·refine vK<|fQ<|jN r (fun((z,X):List Int×List (List Int))=>Z (G3 [p 8 (AV.og 54),p 58 (O 18),p 59 (I (d.length:Int)),p 60 (I h)]) ((50,A 2 i64 z 0)::(54,Ob.grd 35 2 true i64 X none)::(20,bx 189 (Q0 a))::W1 d a g)) (NI h g3) (fun⟨z,X⟩ H=>?_) (fun _ n4 e4 t4=>?_)
   ·refine jB [1,3,7,8,58,59,60] H fun H=>b3 H
   refine vB<|qD (fun o=>Z (G3 [p 8 (AV.og 54),p 9 (I h),p 10 (R 10),p 58 (O 18),p 59 (I (d.length:Int)),p 60 (I h)]) ((10,bx 235 (s5 true y235 o))::(54,Ob.grd 35 2 true i64 q none)::(50,A 2 i64 n 0)::(20,bx 189 (Q0 a))::W1 d a g)) H fun o H=>iA [1,3,7,8,9,10,58,59,60,66]<|cD H (fun H=>jB [1,3,7,8,58,59,60] H fun H=>fK<|n4 H) fun H=>zD (fun v=>Z (G3 [p 8 (AV.og 54),p 58 (O 18),p 59 (I (d.length:Int)),p 60 (I h)]) ((54,Ob.grd 35 2 true i64 v none)::(79,A 2 i64 [] 2)::(81,A 2 i64 [h] 0)::(10,bx 235 (s5 true y235 o))::(50,A 2 i64 n 0)::(20,bx 189 (Q0 a))::W1 d a g)) H fun v H=>fK<|n4 H
  exact vE<|fE<|e3<|fX rfl<|n2 H
 refine iA [1,3,4,23,24,25]<|vB<|lX (fun((v4,v5,v6):Int×Int×List j2)=>Z [p 1 (R 1),p 3 (R 20),p 4 (I v4),p 23 (L y155 a.2.1.1),p 24 (I (a.2.1.1.length:Int)),p 25 (I v5)] ((20,bx 189 (Q0 a))::W1 d a v6)) (0,0,[]) H fun _ g1 b1 e1 t1 ⟨v4,v5,v6⟩ H=>iA [1,3,4,23,24,25,26]<|vQ<|cD H (fun H=>vK<|fQ<|vQ<|vB<|qD (fun v7=>Z [p 1 (R 1),p 3 (R 20),p 4 (I v4),p 6 (R 6),p 23 (L y155 a.2.1.1),p 24 (I (a.2.1.1.length:Int)),p 25 (I v5)] ((6,K 155 y155 v7)::(20,bx 189 (Q0 a))::W1 d a v6)) H fun v7 H=>iD ZA [1,3,4,6,23,24,25] H fun _ H=>jD Ky [1,3,4,23,24,25] H fun _ H=>fK<|fQ<|jB [1,3,4,23,24,25] H fun H=>b1 H) fun H=>vE<|fE<|e1<|fX rfl<|n0 H
def Dc(a:Int):Option Bool :=
 gd ((r9 a 0 1000000).isSome/\True) <|
 some (vl (r9 a 0 1000000))
def P0m:Ct:=b9 210 [.dat i64] (fun x=>Dc x.1) (fun r:Bool=>B r) (fun _=>())
theorem N0b:Ok prog P0m:=by
 refine c8 [.tmp 2] func210 ?_;intro y ⟨_,_⟩ r H Q hn hr;have:=hz (tc T9 tn);refine iA [0]<|iB [2] H fun H=>a7<|hr H
def Z2(a:q7):Option Bool :=
 gd ((I2 a).isSome/\(vl (I2 a)=true/\True->(Dc a.1).isSome)/\((vl (I2 a)&&vl (Dc a.1))=true/\True->(Dc a.2).isSome)/\True) <|
 some (vl (I2 a)&&vl (Dc a.1)&&vl (Dc a.2))
def Q0e:Ct:=b9 158 [.agg y73] (fun x=>Z2 x.1) (fun r:Bool=>B r) (fun _=>())
theorem ZE:Ok prog Q0e:=by
 refine c8 [.tmp 2] func158 ?_;intro y ⟨_,_⟩ r H Q hn hr;have:=hz (tc N0b (tc Nd tn));refine iA [1]<|iB [2] H fun H=>a7<|hr H
def Fo(a:List q7):Option Int :=
 some (a.length:Int)
def Q0f:Ct:=b9 157 [.dat y73.sl] (fun x=>Fo x.1) (fun r:Int=>I r) (fun _=>())
theorem N0w:Ok prog Q0f:=by
 refine c8 [.tmp 2] func157 ?_;intro y ⟨_,_⟩ r H Q hn hr;refine iA [0]<|iA [2]<|a7<|hr H
def He(a:List Bool):Option Int :=
 some (a.length:Int)
def Q0g:Ct:=b9 156 [.dat Ty.bool.sl] (fun x=>He x.1) (fun r:Int=>I r) (fun _=>())
theorem N0x:Ok prog Q0g:=by
 refine c8 [.tmp 2] func156 ?_;intro y ⟨_,_⟩ r H Q hn hr;refine iA [0]<|iA [2]<|a7<|hr H
def ZF:Unit->Option Bool
 | _ =>
 some true
def ZG(b:A0)(d:Int->Option Bool):Int->Option Bool
 | a =>
 if(decide (a < (b.1.length:Int))) then
  gd (ix a b.1.length/\True) <|
  gd (ix a b.2.1.length/\(I2 (b.2.1.getD a.toNat (a6 y73))).isSome/\((!vl (I2 (b.2.1.getD a.toNat (a6 y73))))=false/\True->ix a b.2.2.length)/\((!vl (I2 (b.2.1.getD a.toNat (a6 y73))))=false/\True->(Z2 (b.2.2.getD a.toNat (a6 y73))).isSome)/\((!b.1.getD a.toNat false)=true/\(!vl (I2 (b.2.1.getD a.toNat (a6 y73)))||!vl (Z2 (b.2.2.getD a.toNat (a6 y73))))=false/\True->ix a b.2.1.length)/\((!((b.2.1.getD a.toNat (a6 y73)).1==0&&((b.2.1.getD a.toNat (a6 y73)).2==0&&true)))=false/\(!b.1.getD a.toNat false)=true/\(!vl (I2 (b.2.1.getD a.toNat (a6 y73)))||!vl (Z2 (b.2.2.getD a.toNat (a6 y73))))=false/\True->ix a b.2.2.length)/\True)<|lt (!vl (I2 (b.2.1.getD a.toNat (a6 y73)))||!vl (Z2 (b.2.2.getD a.toNat (a6 y73)))||!b.1.getD a.toNat false&&(!((b.2.1.getD a.toNat (a6 y73)).1==0&&((b.2.1.getD a.toNat (a6 y73)).2==0&&true))||!((b.2.2.getD a.toNat (a6 y73)).1==0&&((b.2.2.getD a.toNat (a6 y73)).2==0&&true)))) fun c =>
  if c then
   some false
  else
   gd (b7 (a+1)/\True) <|
   d (a+1)
 else
  ZF ()
def KY(c:x5)(a:A0):Option Bool :=
 gd ((L6 c).isSome/\True)<|lt (vl (L6 c)) fun b =>
 gd ((He a.1).isSome/\((vl (He a.1) != b)=false/\True->(Fo a.2.1).isSome)/\((vl (He a.1) != b||vl (Fo a.2.1) != b)=false/\True->(Fo a.2.2).isSome)/\True)<|lt ((vl (He a.1),vl (Fo a.2.1),vl (Fo a.2.2))) fun(e,d,f) =>
 if(e != b||d != b||f != b) then
  some false
 else
  lp (ZG a) 0
def Q0Y:Ct:=b9 103 [.dat y189.pt,.agg y65] (fun x=>KY x.1 x.2.1) (fun r:Bool=>B r) (fun _=>())
theorem N0Q:Ok prog Q0Y:=by
 refine c8 [.tmp 4] func103 ?_;intro y ⟨_,a,_⟩ r H Q hn hr;have:=hz (tc ZE (tc Nd (tc N0w (tc N0x (tc Kv tn)))));refine iA [0,3]<|iD Kv [3,5] H fun c H=>vQ<|qD (fun(e,d,g)=>Z [p 3 (R 3),p 28 (B (e != c||d != c||g != c))] [(3,K 65 y65 a)]) H fun⟨e,d,g⟩ H =>
  cD H (fun H=>iA [4]<|a7<|fR<|hr H) fun H=>vK<|fQ<|jN r (fun(_:Unit)=>Z [] []) (ZF) (fun _ H=>?_) (fun _ h n l=>?_)
 ·refine iA [4]<|a7<|hr H
 refine iA [3,30,31,32]<|vB<|lX (fun(b:Int)=>Z [p 3 (R 3),p 30 (L Ty.bool a.1),p 31 (I (a.1.length:Int)),p 32 (I b)] [(3,K 65 y65 a)]) 0 H fun _ m k i j b H=>iA [3,30,31,32,33]<|vQ<|cD H (fun H=>?_) (fun H=>?_)
 ·refine vK<|fQ<|vQ<|vB<|iB [3,6,7,30,31,32] H fun H=>qD (fun f=>Z [p 3 (R 3),p 30 (L Ty.bool a.1),p 31 (I (a.1.length:Int)),p 32 (I b),p 74 (B f)] [(3,K 65 y65 a)]) H fun f H=>cD H (fun H=>iA [4]<|a7<|h9<|fR<|j<|h9<|l<|hr H) fun H=>vK<|fK<|fQ<|jB [3,30,31,32] H fun H=>k H
 exact vE<|fE<|i<|fX rfl<|h H
def Fp(a:List j2):Option Int :=
 some (a.length:Int)
def Q0c:Ct:=b9 160 [.dat y138.sl] (fun x=>Fp x.1) (fun r:Int=>I r) (fun _=>())
theorem N0v:Ok prog Q0c:=by
 refine c8 [.tmp 2] func160 ?_;intro y ⟨_,_⟩ r H Q hn hr;refine iA [0]<|iA [2]<|a7<|hr H
def Hf(b:x5)(a:List Int):Option Bool :=
 gd ((Fp b.2.2.1).isSome/\b7 (vl (Fp b.2.2.1)-1)/\(D0 a 0 (vl (Fp b.2.2.1)-1)).isSome/\(vl (D0 a 0 (vl (Fp b.2.2.1)-1))=true/\True->(Br a).isSome)/\True) <|
 some (vl (D0 a 0 (vl (Fp b.2.2.1)-1))&&vl (Br a))
def Q0X:Ct:=b9 104 [.dat y189.pt,.dat i64.sl] (fun x=>Hf x.1 x.2.1) (fun r:Bool=>B r) (fun _=>())
theorem N0P:Ok prog Q0X:=by
 refine c8 [.tmp 4] func104 ?_;intro y ⟨_,_,_⟩ r H Q hn hr;have:=hz (tc YW (tc Kx (tc N0v tn)));refine iA [0,1]<|iB [4] H fun H=>a7<|hr H
def ZH:Unit->Option Bool
 | _ =>
 some true
def ZI(c:x5)(d:List l6)(e:Int->Option Bool):Int->Option Bool
 | b =>
 if(decide (b < (d.length:Int))) then
  gd (ix b d.length/\True)<|lt (d.getD b.toNat (a6 y75)) fun a =>
  gd ((Q6 c a.1).isSome/\((!vl (Q6 c a.1))=false/\True->(I2 a.2.1).isSome)/\((!vl (Q6 c a.1)||!vl (I2 a.2.1))=false/\True->(Z2 a.2.2).isSome)/\(decide (0<b)=true/\(!vl (Q6 c a.1)||!vl (I2 a.2.1)||!vl (Z2 a.2.2))=false/\True->b7 (b-1))/\(decide (0<b)=true/\(!vl (Q6 c a.1)||!vl (I2 a.2.1)||!vl (Z2 a.2.2))=false/\True->ix (b-1) d.length)/\True) <|
  if(!vl (Q6 c a.1)||!vl (I2 a.2.1)||!vl (Z2 a.2.2)||decide (0<b)&&decide (a.1<=(d.getD (b-1).toNat (a6 y75)).1)) then
   some false
  else
   gd (b7 (b+1)/\True) <|
   e (b+1)
 else
  ZH ()
def KZ(b:x5)(a:List l6):Option Bool :=
 lp (ZI b a) 0
def Q0W:Ct:=b9 105 [.dat y189.pt,.dat y75.sl] (fun x=>KZ x.1 x.2.1) (fun r:Bool=>B r) (fun _=>())
theorem N0O:Ok prog Q0W:=by
 refine c8 [.tmp 4] func105 ?_;intro y ⟨d,a,_⟩ r H Q hn hr;have:=hz (tc ZE (tc Nd (tc Yw tn)));refine iA [0,1]<|jN r (fun(_:Unit)=>Z [] []) (ZH) (fun _ H=>?_) (fun _ e k i=>?_)
 ·refine iA [4]<|a7<|hr H
 refine iA [0,1,7,8,9]<|vB<|lX (fun(b:Int)=>Z [p 0 (D y189.pt d),p 1 (L y75 a),p 7 (L y75 a),p 8 (I (a.length:Int)),p 9 (I b)] []) 0 H fun _ j h f g b H=>iA [0,1,7,8,9,10]<|vQ<|cD H (fun H=>?_) (fun H=>?_)
 ·refine vK<|fQ<|vQ<|vB<|qD (fun c=>Z [p 0 (D y189.pt d),p 1 (L y75 a),p 5 (I b),p 6 (R 6),p 7 (L y75 a),p 8 (I (a.length:Int)),p 9 (I b)] [(6,K 75 y75 c)]) H fun c H=>iB [0,1,7,8,9,45] H fun H=>cD H (fun H=>iA [4]<|a7<|h9<|fR<|g<|h9<|i<|hr H) fun H=>vK<|fK<|fQ<|jB [0,1,7,8,9] H fun H=>h H
 exact vE<|fE<|f<|fX rfl<|e H
def ZJ(b:x5):List Bool->Option D4
 | a =>
 some (b,a)
def ZK(b:List Int)(e:x5)(d:Int×List Bool->Option D4):Int×List Bool->Option D4
 | (a,c) =>
 if(decide (a < (b.length:Int))) then
  gd (ix a b.length/\True) <|
  gd (ix (b.getD a.toNat 0) c.length/\Int.toNat (b.getD a.toNat 0)<c.length/\True) <|
  gd (b7 (a+1)/\True) <|
  d ((a+1,c.set (Int.toNat (b.getD a.toNat 0)) false))
 else
  ZJ e c
def La(b:List Int)(c:x5):List Bool->Option D4
 | a =>
 lp (ZK b c) (0,a)
def ZL(d:List Int)(f:x5)(e:Int)(c:Int×List Bool->Option D4):Int×List Bool->Option D4
 | (a,b) =>
 if(decide (a<e)) then
  gd (ix a b.length/\a.toNat<b.length/\True) <|
  gd (b7 (a+1)/\True) <|
  c (a+1,b.set a.toNat true)
 else
  La d f b
def Lb(a:x5)(c:List Int):Option D4 :=
 gd ((0<=(a.2.2.1.length:Int)/\(a.2.2.1.length:Int)=(a.2.2.1.length:Int)/\(a.2.2.1.length:Int).toNat*1<=281474976710656/\(a.2.2.1.length:Int)<=9223372036854775807)/\True) <|
 lt ((↑(List.replicate (a.2.2.1.length:Int).toNat false).length:Int)) fun b =>
 lp (ZL c a b) ((0,List.replicate (a.2.2.1.length:Int).toNat false))
def Q0V:Ct:=b9 106 [.dat y189.pt,.dat i64.sl] (fun x=>Lb x.1 x.2.1) (fun r:D4=>D y126.pt r) (fun _=>())
theorem ZM:Ok prog Q0V:=by
 refine c8 [.tmp 4] func106 ?_;intro y ⟨a,b,_⟩ r H Q hn hr;refine iA [0,1]<|iB [1,5] H fun H=>jN r (fun(c:List Bool)=>Z [p 1 (L i64 b),p 5 (R 17)] (W9 a c)) (La b a) (fun c H=>?_) (fun _ j s z=>?_)
 ·refine jN r (fun(f:List Bool)=>Z [p 5 (R 17)] (W9 a f)) (ZJ a) (fun f H=>?_) (fun _ o v t=>?_)
  ·refine iA [4]<|a7<|hr H
  refine iA [5,33,34,35]<|vB<|lX (fun((h,g):Int×List Bool)=>Z [p 5 (R 17),p 33 (L i64 b),p 34 (I (b.length:Int)),p 35 (I h)] (W9 a g)) (0,c) H fun _ w m l u ⟨h,g⟩ H=>iA [5,33,34,35,36]<|vQ<|cD H (fun H=>vK<|fQ<|vQ<|vB<|iB [5,8,33,34,35] H fun H=>jB [5,33,34,35] H fun H=>fK<|fQ<|jB [5,33,34,35] H fun H=>m H) fun H=>vE<|fE<|l<|fX rfl<|o H
 refine qC (fun d=>Z [p 1 (L i64 b),p 5 (R 17),p 22 (I d),p 23 (I 0)] (W9 a (List.replicate (a.2.2.1.length:Int).toNat false))) H fun d H=>vB<|lX (fun((e,i):Int×List Bool)=>Z [p 1 (L i64 b),p 5 (R 17),p 22 (I d),p 23 (I e)] (W9 a i)) ((0,List.replicate (a.2.2.1.length:Int).toNat false)) H fun _ x n k q ⟨e,i⟩ H=>iA [1,5,22,23,24]<|vQ<|cD H (fun H=>vK<|fQ<|vQ<|vB<|iA [1,5,6,22,23]<|jB [1,5,22,23] H fun H=>fK<|fQ<|jB [1,5,22,23] H fun H=>n H) fun H=>vE<|fE<|k<|fX rfl<|j H
def Ru(b:j2)(a:Int):Option Bool :=
 some (b.1==a)
def P0k:Ct:=b9 213 [.agg y138,.dat (.pt i64)] (fun x=>Ru x.1 x.2.1) (fun r:Bool=>B r) (fun _=>())
theorem ZN:Ok prog P0k:=by
 refine c8 [.tmp 3] func213 ?_;intro y ⟨_,_,_⟩ r H Q hn hr;refine iA [1,2]<|iA [3]<|a7<|hr H
def ZO:List Int->Option (List Int)
 | a =>
 some a
def Rv(a:Int)(c:List Int×Int->Option (List Int)):List Int->Option (List Int)
 | b =>
 gd (b7 (a+1)/\True) <|
 c (b,a+1)
def ZP(b:D4)(f:Int)(e:List Int×Int->Option (List Int)):List Int×Int->Option (List Int)
 | (c,a) =>
 if(decide (a < (b.1.2.2.1.length:Int))) then
  gd (ix a b.1.2.2.1.length/\True)<|lt (b.1.2.2.1.getD a.toNat (a6 y138)) fun d =>
  gd (ix a b.2.length/\(b.2.getD a.toNat false=true/\True->(Ru d f).isSome)/\True) <|
  if(b.2.getD a.toNat false&&vl (Ru d f)) then
   gd ((c.length+[a].length<=9223372036854775807/\(c.length+[a].length)*8<=140737488355328)/\True) <|
   Rv a e (c++[a])
  else
   Rv a e c
 else
  ZO c
def NJ(b:D4)(a:Int):Option (List Int) :=
 lp (ZP b a) ([],0)
def w0w:Ct:=b9 162 [.dat y126.pt,.fn 213 (.pt i64)] (fun x=>NJ x.1 x.2.1) (fun r:List Int=>AV.ow 2 true i64 r) (fun _=>())
theorem Rw:Ok prog w0w:=by
 refine c8 [.tmp 4] func162 ?_;intro y ⟨a,d,_⟩ r H Q hn hr;have:=hz (tc ZN tn);refine iA [0,1]<|iA [0,1,5]<|jN r (fun(g:List Int)=>Z [p 5 (O 36)] [(36,A 2 i64 g 0)]) (ZO) (fun g H=>?_) (fun _ i n s=>?_)
 ·refine iA [4]<|a7<|hr H
 refine iA [0,1,5,14,15,16]<|vB<|lX (fun((c,b):List Int×Int)=>Z [p 0 (D y126.pt a),p 1 (AV.fn 213 [D i64.pt d]),p 5 (O 36),p 14 (L y138 a.1.2.2.1),p 15 (I (a.1.2.2.1.length:Int)),p 16 (I b)] [(36,A 2 i64 c 0)]) ([],0) H fun _ k l j m ⟨c,b⟩ H=>iA [0,1,5,14,15,16,17]<|vQ<|cD H (fun H=>?_) (fun H=>?_)
 ·refine vK<|fQ<|jN r (fun(h:List Int)=>Z [p 0 (D y126.pt a),p 1 (AV.fn 213 [D i64.pt d]),p 5 (O 36),p 14 (L y138 a.1.2.2.1),p 15 (I (a.1.2.2.1.length:Int)),p 16 (I b)] [(36,A 2 i64 h 0)]) (Rv b k) (fun h H=>?_) (fun _ e o q=>?_)
  ·refine jB [0,1,5,14,15,16] H fun H=>l H
  refine vB<|qD (fun f=>Z [p 0 (D y126.pt a),p 1 (AV.fn 213 [D i64.pt d]),p 5 (O 36),p 6 (I b),p 7 (R 7),p 14 (L y138 a.1.2.2.1),p 15 (I (a.1.2.2.1.length:Int)),p 16 (I b)] [(7,K 138 y138 f),(36,A 2 i64 c 0)]) H fun f H=>iB [0,1,5,6,14,15,16,32] H fun H=>cD H (fun H=>jB [0,1,5,14,15,16] H fun H=>fK<|e H) fun H=>vK<|fK<|e H
 exact vE<|fE<|j<|fX rfl<|i H
def Fq(a:D4)(b:Int):Option (List Int) :=
 gd ((NJ a b).isSome/\True)<|lt (vl (NJ a b)) fun c =>
 some c
def P0Y:Ct:=b9 165 [.dat y126.pt,.dat i64] (fun x=>Fq x.1 x.2.1) (fun r:List Int=>AV.ow 2 true i64 r) (fun _=>())
theorem ZQ:Ok prog P0Y:=by
 refine c8 [.tmp 4] func165 ?_;intro y ⟨_,_,_⟩ r H Q hn hr;have:=hz (tc Nb (tc Rw (tc ZN tn)));refine iA [0,3]<|iD Rw [4] H fun _ H=>a7<|hr H
def ZR:Unit->Option Int
 | _ =>
 some (-1)
def ZS(d:Int)(b:List Int)(c:Int->Option Int):Int->Option Int
 | a =>
 if(decide (a < (b.length:Int))) then
  gd (ix a b.length/\True) <|
  if(d==b.getD a.toNat 0) then
   some a
  else
   gd (b7 (a+1)/\True) <|
   c (a+1)
 else
  ZR ()
def NK(b:List Int)(a:Int):Option Int :=
 lp (ZS a b) 0
def P0Z:Ct:=b9 164 [.dat i64.sl,.dat i64] (fun x=>NK x.1 x.2.1) (fun r:Int=>I r) (fun _=>())
theorem ZT:Ok prog P0Z:=by
 refine c8 [.tmp 4] func164 ?_;intro y ⟨b,f,_⟩ r H Q hn hr;refine iA [0,1]<|jN r (fun(_:Unit)=>Z [] []) (ZR) (fun _ H=>?_) (fun _ c j h=>?_)
 ·refine iA [4]<|a7<|hr H
 refine iA [0,1,7,8]<|vB<|lX (fun(a:Int)=>Z [p 0 (L i64 b),p 1 (J f),p 7 (I (b.length:Int)),p 8 (I a)] []) 0 H fun _ i g d e a H=>iA [0,1,7,8,9]<|vQ<|cD H (fun H=>?_) (fun H=>?_)
 ·refine vK<|fQ<|vQ<|vB<|iA [0,1,5,7,8]<|iB [0,1,5,7,8,16] H fun H=>cD H (fun H=>iA [4]<|a7<|h9<|fR<|e<|h9<|h<|hr H) fun H=>vK<|fK<|fQ<|jB [0,1,7,8] H fun H=>g H
 exact vE<|fE<|d<|fX rfl<|c H
def Rx(_:j2):Option Bool :=
 some true
def Q0a:Ct:=b9 163 [.agg y138] (fun x=>Rx x.1) (fun r:Bool=>B r) (fun _=>())
theorem ZU:Ok prog Q0a:=by
 refine c8 [.tmp 2] func163 ?_;intro y ⟨_,_⟩ r H Q hn hr;refine iA []<|iA [2]<|a7<|hr H
def ZV:List Int->Option (List Int)
 | a =>
 some a
def Ry(a:Int)(c:List Int×Int->Option (List Int)):List Int->Option (List Int)
 | b =>
 gd (b7 (a+1)/\True) <|
 c (b,a+1)
def ZW(b:D4)(e:List Int×Int->Option (List Int)):List Int×Int->Option (List Int)
 | (c,a) =>
 if(decide (a < (b.1.2.2.1.length:Int))) then
  gd (ix a b.1.2.2.1.length/\True)<|lt (b.1.2.2.1.getD a.toNat (a6 y138)) fun d =>
  gd (ix a b.2.length/\(b.2.getD a.toNat false=true/\True->(Rx d).isSome)/\True) <|
  if(b.2.getD a.toNat false&&vl (Rx d)) then
   gd ((c.length+[a].length<=9223372036854775807/\(c.length+[a].length)*8<=140737488355328)/\True) <|
   Ry a e (c++[a])
  else
   Ry a e c
 else
  ZV c
def NL(a:D4):Option (List Int) :=
 lp (ZW a) ([],0)
def w0y:Ct:=b9 162 [.dat y126.pt,.nof 163] (fun x=>NL x.1) (fun r:List Int=>AV.ow 2 true i64 r) (fun _=>())
theorem ZX:Ok prog w0y:=by
 refine c8 [.tmp 4] func162 ?_;intro y ⟨a,_,_⟩ r H Q hn hr;have:=hz (tc ZU tn);refine iA [0,1]<|iA [0,1,5]<|jN r (fun(f:List Int)=>Z [p 5 (O 36)] [(36,A 2 i64 f 0)]) (ZV) (fun f H=>?_) (fun _ h m q=>?_)
 ·refine iA [4]<|a7<|hr H
 refine iA [0,1,5,14,15,16]<|vB<|lX (fun((c,b):List Int×Int)=>Z [p 0 (D y126.pt a),p 1 (AV.fn 163 []),p 5 (O 36),p 14 (L y138 a.1.2.2.1),p 15 (I (a.1.2.2.1.length:Int)),p 16 (I b)] [(36,A 2 i64 c 0)]) ([],0) H fun _ j k i l ⟨c,b⟩ H=>iA [0,1,5,14,15,16,17]<|vQ<|cD H (fun H=>?_) (fun H=>?_)
 ·refine vK<|fQ<|jN r (fun(g:List Int)=>Z [p 0 (D y126.pt a),p 1 (AV.fn 163 []),p 5 (O 36),p 14 (L y138 a.1.2.2.1),p 15 (I (a.1.2.2.1.length:Int)),p 16 (I b)] [(36,A 2 i64 g 0)]) (Ry b j) (fun g H=>?_) (fun _ d n o=>?_)
  ·refine jB [0,1,5,14,15,16] H fun H=>k H
  refine vB<|qD (fun e=>Z [p 0 (D y126.pt a),p 1 (AV.fn 163 []),p 5 (O 36),p 6 (I b),p 7 (R 7),p 14 (L y138 a.1.2.2.1),p 15 (I (a.1.2.2.1.length:Int)),p 16 (I b)] [(7,K 138 y138 e),(36,A 2 i64 c 0)]) H fun e H=>iB [0,1,5,6,14,15,16,32] H fun H=>cD H (fun H=>jB [0,1,5,14,15,16] H fun H=>fK<|d H) fun H=>vK<|fK<|d H
 exact vE<|fE<|i<|fX rfl<|h H
def ZY:List Int->Option (List Int×Bool)
 | a =>
 some (a,true)
def NM(a:Int)(d:List Int×Int×List Int->Option (List Int×Bool)):List Int×List Int->Option (List Int×Bool)
 | (b,c) =>
 gd (b7 (a+1)/\True) <|
 d (b,a+1,c)
def NN(d:D4)(b:List Int)(h:Int)(f:List Int)(e:Int)(i:List Int×Int×List Int->Option (List Int×Bool))(j:Int×List Int->Option (List Int×Bool)):Int×List Int->Option (List Int×Bool)
 | (a,c) =>
 if(decide (a < (b.length:Int))) then
  gd (ix a b.length/\a.toNat<b.length/\True) <|
  gd (ix (b.getD a.toNat 0) d.1.2.2.1.length/\ix (d.1.2.2.1.getD (Int.toNat (b.getD a.toNat 0)) (a6 y138)).2.1 c.length/\(d.1.2.2.1.getD (Int.toNat (b.getD a.toNat 0)) (a6 y138)).2.1.toNat<c.length/\b7 (c.getD (d.1.2.2.1.getD (Int.toNat (b.getD a.toNat 0)) (a6 y138)).2.1.toNat 0-1)/\ix (d.1.2.2.1.getD (Int.toNat (b.getD a.toNat 0)) (a6 y138)).2.1 c.length/\(d.1.2.2.1.getD (Int.toNat (b.getD a.toNat 0)) (a6 y138)).2.1.toNat<c.length/\True)<|lt (c.set (d.1.2.2.1.getD (Int.toNat (b.getD a.toNat 0)) (a6 y138)).2.1.toNat (c.getD (d.1.2.2.1.getD (Int.toNat (b.getD a.toNat 0)) (a6 y138)).2.1.toNat 0-1)) fun g =>
  gd (b7 (a+1)/\True) <|
  j (a+1,g)
 else
  NM h i (f++[e],c)
def ZZ(e:D4)(g:List Int)(h:List Int×Int×List Int->Option (List Int×Bool)):List Int×Int×List Int->Option (List Int×Bool)
 | (c,d,b) =>
 if(decide (d < (g.length:Int))) then
  gd ((NK b 0).isSome/\True)<|lt (vl (NK b 0)) fun a =>
  if(decide (a<0)) then
   some ([],false)
  else
   gd (ix a b.length/\a.toNat<b.length/\True) <|
   gd ((c.length+[a].length<=9223372036854775807/\(c.length+[a].length)*8<=140737488355328)/\True) <|
   gd ((Fq e a).isSome/\True)<|lt (vl (Fq e a)) fun f =>
   lp (NN e f d c a h) ((0,b.set a.toNat (-1)))
 else
  ZY c
def Lc(b:D4):List Int->Option (List Int×Bool)
 | a =>
 lp (ZZ b a) ([],0,a)
def Rz(c:D4)(b:List Int)(e:Int×List Int->Option (List Int×Bool)):Int×List Int->Option (List Int×Bool)
 | (a,d) =>
 if(decide (a < (b.length:Int))) then
  gd (ix a b.length/\a.toNat<b.length/\True) <|
  gd (ix (b.getD a.toNat 0) c.1.2.2.1.length/\ix (c.1.2.2.1.getD (Int.toNat (b.getD a.toNat 0)) (a6 y138)).2.1 d.length/\(c.1.2.2.1.getD (Int.toNat (b.getD a.toNat 0)) (a6 y138)).2.1.toNat<d.length/\b7 (d.getD (c.1.2.2.1.getD (Int.toNat (b.getD a.toNat 0)) (a6 y138)).2.1.toNat 0+1)/\ix (c.1.2.2.1.getD (Int.toNat (b.getD a.toNat 0)) (a6 y138)).2.1 d.length/\(c.1.2.2.1.getD (Int.toNat (b.getD a.toNat 0)) (a6 y138)).2.1.toNat<d.length/\True)<|lt (d.set (c.1.2.2.1.getD (Int.toNat (b.getD a.toNat 0)) (a6 y138)).2.1.toNat (d.getD (c.1.2.2.1.getD (Int.toNat (b.getD a.toNat 0)) (a6 y138)).2.1.toNat 0+1)) fun f =>
  gd (b7 (a+1)/\True) <|
  e (a+1,f)
 else
  Lc c d
def Ld(a:D4):Option (List Int×Bool) :=
 gd ((L6 a.1).isSome/\(0<=vl (L6 a.1)/\vl (L6 a.1)=vl (L6 a.1)/\(vl (L6 a.1)).toNat*8<=281474976710656/\vl (L6 a.1)<=9223372036854775807)/\True)<|lt (vl (L6 a.1)) fun c =>
 gd ((NL a).isSome/\True)<|lt (vl (NL a)) fun b =>
 lp (Rz a b) (0,List.replicate c.toNat 0)
def Q0U:Ct:=b9 107 [.dat y126.pt] (fun x=>Ld x.1) (fun r:List Int×Bool=>AV.tup [AV.ow 2 true i64 r.1,B r.2]) (fun _=>())
theorem K0A:Ok prog Q0U:=by
 refine c8 [.tmp 2,.tmp 3] func107 ?_;intro y ⟨d,_⟩ r H Q hn hr;have:=hz (tc ZQ (tc ZT (tc ZU (tc Nb (tc Rw (tc ZX (tc Kv tn)))))));refine iA [0]<|iD Kv [0,4] H fun G H=>jN r (fun(h:List Int)=>Z [p 0 (D y126.pt d),p 4 (O 16)] [(16,A 3 i64 h 0)]) (Lc d) (fun h H=>?_) (fun _ t e0 t0=>?_)
 ·refine iA [0,4,7]<|jN r (fun(k:List Int)=>Z [p 7 (O 55)] [(55,A 2 i64 k 0)]) (ZY) (fun k H=>?_) (fun _ v e2 z=>?_)
  ·refine iA [2,3]<|a7<|hr H
  refine iA [0,4,7,42,43]<|vB<|lX (fun((c,a,f):List Int×Int×List Int)=>Z [p 0 (D y126.pt d),p 4 (O 16),p 7 (O 55),p 42 (I (h.length:Int)),p 43 (I a)] [(16,A 3 i64 f 0),(55,A 2 i64 c 0)]) ([],0,h) H fun _ V T E P ⟨c,a,f⟩ H=>iA [0,4,7,42,43,44]<|vQ<|cD H (fun H=>?_) (fun H=>?_)
  ·refine vK<|fQ<|jN r (fun((i,l):List Int×List Int)=>Z [p 0 (D y126.pt d),p 4 (O 16),p 7 (O 55),p 42 (I (h.length:Int)),p 43 (I a)] [(55,A 2 i64 i 0),(16,A 3 i64 l 0)]) (NM a V) (fun⟨i,l⟩ H=>?_) (fun _ w Y x=>?_)
   ·refine jB [0,4,7,42,43] H fun H=>T H
   refine vB<|iD ZT [0,4,7,8,42,43] H fun g H=>vQ<|iA [0,4,7,8,42,43,48]<|cD H (fun H=>iA [2,3]<|a7<|fR<|h9<|x<|P<|h9<|z<|hr H) fun H=>vK<|fQ<|iB [0,4,7,8,42,43] H fun H=>iB [0,4,7,8,42,43] H fun H=>iD ZQ [0,4,7,42,43,58,59,60] H fun b H=>vB<|lX (fun((e,m):Int×List Int)=>Z [p 0 (D y126.pt d),p 4 (O 16),p 7 (O 55),p 42 (I (h.length:Int)),p 43 (I a),p 58 (O 58),p 59 (I (b.length:Int)),p 60 (I e)] [(58,A 2 i64 b 0),(55,A 2 i64 (c++[g]) 0),(16,A 3 i64 m 0)]) ((0,f.set g.toNat (-1))) H fun _ g5 F W t5 ⟨e,m⟩ H=>iA [0,4,7,42,43,58,59,60,61]<|vQ<|cD H (fun H=>vK<|fQ<|vQ<|vB<|iB [0,4,7,10,42,43,58,59,60] H fun H=>zD (fun j=>Z [p 0 (D y126.pt d),p 4 (O 16),p 7 (O 55),p 42 (I (h.length:Int)),p 43 (I a),p 58 (O 58),p 59 (I (b.length:Int)),p 60 (I e)] [(16,A 3 i64 j 0),(58,A 2 i64 b 0),(55,A 2 i64 (c++[g]) 0)]) H fun j H=>fK<|fQ<|jB [0,4,7,42,43,58,59,60] H fun H=>F H) fun H=>vE<|fE<|W<|fX rfl<|fK<|w H
  exact vE<|fE<|E<|fX rfl<|v H
 refine iD ZX [0,4,18,19,20] H fun n H=>vB<|lX (fun((o,q):Int×List Int)=>Z [p 0 (D y126.pt d),p 4 (O 16),p 18 (O 18),p 19 (I (n.length:Int)),p 20 (I o)] [(18,A 2 i64 n 0),(16,A 3 i64 q 0)]) (0,List.replicate G.toNat 0) H fun _ g1 X u t1 ⟨o,q⟩ H=>iA [0,4,18,19,20,21]<|vQ<|cD H (fun H=>vK<|fQ<|vQ<|vB<|iB [0,4,6,18,19,20] H fun H=>zD (fun s=>Z [p 0 (D y126.pt d),p 4 (O 16),p 18 (O 18),p 19 (I (n.length:Int)),p 20 (I o)] [(16,A 3 i64 s 0),(18,A 2 i64 n 0)]) H fun s H=>fK<|fQ<|jB [0,4,18,19,20] H fun H=>X H) fun H=>vE<|fE<|u<|fX rfl<|t H
def Le(b:q7)(a:q7):Option q7 :=
 some (min b.1 a.1,max b.2 a.2)
def Q0J:Ct:=b9 119 [.agg y73,.agg y73] (fun x=>Le x.1 x.2.1) (fun r:q7=>AV.agg [I r.1,I r.2]) (fun _=>())
theorem RA:Ok prog Q0J:=by
 refine c8 [.cell 4 73] func119 ?_;intro y ⟨_,_,_⟩ r H Q hn hr;refine iA [2,3,4]<|iA [4]<|a7<|hr H
def Lf(b:q7)(a:q7):Option q7 :=
 some (min b.1 a.1,max b.2 a.2)
def P0O:Ct:=b9 176 [.agg y73,.agg y73] (fun x=>Lf x.1 x.2.1) (fun r:q7=>AV.agg [I r.1,I r.2]) (fun _=>())
theorem N0p:Ok prog P0O:=by
 refine c8 [.cell 4 73] func176 ?_;intro y ⟨_,_,_⟩ r H Q hn hr;refine iA [2,3,4]<|iA [4]<|a7<|hr H
def D0n:Bool×Int×Int×Int×Int×Int->Option (Bool×l6)
 | (a,c,e,d,b,f) =>
 some ((a,c,(e,d),b,f))
def Hg(a:Int)(h:Bool×Int×Int×Int×Int×Int×Int->Option (Bool×l6)):Bool×Int×Int×Int×Int×Int->Option (Bool×l6)
 | (e,b,d,f,c,g) =>
 gd (b7 (a+1)/\True) <|
 h (e,a+1,b,d,f,c,g)
def RC(b:Int)(g:Int)(f:Bool×Int×Int×Int×Int×Int×Int->Option (Bool×l6)):Int×Int×Int×Int->Option (Bool×l6)
 | (c,d,e,a) =>
 Hg b f (true,g,e,a,c,d)
def D0l(m:Int)(d:A0)(s:j0)(r:p7)(n:List Bool)(q:List j2)(o:Bool×Int×Int×Int×Int×Int×Int->Option (Bool×l6)):Bool×Int×Int×Int×Int×Int×Int->Option (Bool×l6)
 | (i,c,k,f,e,g,h) =>
 if(decide (c < (q.length:Int))) then
  gd (ix c q.length/\True)<|lt (q.getD c.toNat (a6 y138)) fun a =>
  gd (ix c n.length/\((!n.getD c.toNat false||a.2.1 != m)=false/\True->ix a.1 d.1.length)/\True) <|
  if(!n.getD c.toNat false||a.2.1 != m||!d.1.getD a.1.toNat false) then
   Hg c o (i,k,f,e,g,h)
  else
   gd (ix a.1 d.2.2.length/\(GH s r a (d.2.2.getD a.1.toNat (a6 y73))).isSome/\True)<|lt (vl (GH s r a (d.2.2.getD a.1.toNat (a6 y73)))) fun b =>
   gd (ix a.1 d.2.1.length/\b7 ((d.2.1.getD a.1.toNat (a6 y73)).1+b.1.1)/\ix a.1 d.2.1.length/\b7 ((d.2.1.getD a.1.toNat (a6 y73)).2+b.1.2)/\True) <|
   if i then
    gd ((Le ((d.2.1.getD a.1.toNat (a6 y73)).1+b.1.1,(d.2.1.getD a.1.toNat (a6 y73)).2+b.1.2) (f,e)).isSome/\True)<|lt (vl (Le ((d.2.1.getD a.1.toNat (a6 y73)).1+b.1.1,(d.2.1.getD a.1.toNat (a6 y73)).2+b.1.2) (f,e))) fun j =>
    gd ((Le b.2 (g,h)).isSome/\True)<|lt (vl (Le b.2 (g,h))) fun l =>
    RC c m o (l.1,l.2,j.1,j.2)
   else
    RC c m o ((b.2.1,b.2.2,(d.2.1.getD a.1.toNat (a6 y73)).1+b.1.1,(d.2.1.getD a.1.toNat (a6 y73)).2+b.1.2))
 else
  D0n (i,k,f,e,g,h)
def Hh(j:Int)(k:A0)(l:j0)(h:p7)(g:List Bool)(i:List j2):Bool×Int×Int×Int×Int×Int->Option (Bool×l6)
 | (b,e,d,c,f,a) =>
 lp (D0l j k l h g i) (b,0,e,d,c,f,a)
def RD(g:Int)(h:Bool×Int×Int×Int×Int×Int×Int->Option (Bool×l6)):Int×Int×Int×Int×Int×Bool->Option (Bool×l6)
 | (d,f,e,a,c,b) =>
 gd (b7 (g+1)/\True) <|
 h (b,g+1,d,f,e,a,c)
def D0m(f:List l6)(k:Int)(o:A0)(q:j0)(m:p7)(l:List Bool)(n:List j2)(i:Bool×Int×Int×Int×Int×Int×Int->Option (Bool×l6)):Bool×Int×Int×Int×Int×Int×Int->Option (Bool×l6)
 | (j,b,h,d,g,c,e) =>
 if(decide (b < (f.length:Int))) then
  gd (ix b f.length/\True) <|
  if((f.getD b.toNat (a6 y75)).1==k) then
   gd (ix b f.length/\True)<|lt (f.getD b.toNat (a6 y75)) fun a =>
   RD b i (a.1,a.2.1.1,a.2.1.2,a.2.2.1,a.2.2.2,true)
  else
   RD b i (h,d,g,c,e,j)
 else
  Hh k o q m l n (j,h,d,g,c,e)
def Lg(g:j0)(c:p7)(d:List j2)(a:List Bool)(b:List l6)(f:A0)(e:Int):Option (Bool×l6) :=
 lp (D0m b e f g c a d) (false,0,0,0,0,0,0)
def k61:Ct:=b9 61 [.agg j7,.agg u5,.dat y138.sl,.dat Ty.bool.sl,.dat y75.sl,.agg y65,.dat i64] (fun x=>Lg x.1 x.2.1 x.2.2.1 x.2.2.2.1 x.2.2.2.2.1 x.2.2.2.2.2.1 x.2.2.2.2.2.2.1) (fun r:Bool×l6=>AV.tup [B r.1,AV.agg (Q2 r.2)]) (fun _=>())
theorem o61:Ok prog k61:=by
 refine c8 [.tmp 14,.cell 15 75] func61 ?_;intro y ⟨h,l,c,f,a4,g,b,_⟩ r H Q hn hr;have:=hz (tc RA (tc VQ tn));refine iA [2,3,4,6,7,8,12,15]<|iA [2,3,4,6,7,8,12,15,16]<|iA [2,3,4,6,7,8,12,15,16,17]<|jN r (fun((m,F,q,n,x,t):Bool×Int×Int×Int×Int×Int)=>Z (G5 c f b [p 16 (B m),p 17 (R 17)]) (W0 F q n x t g l h)) (Hh b g h l f c) (fun w H=>?_) (fun _ n0 e0 t0=>?_)
 ·obtain⟨m,F,q,n,x,t⟩:=w;refine jN r (fun((aR,aK,aS,aL,aB,aD):Bool×Int×Int×Int×Int×Int)=>Z [p 15 (R 15),p 16 (B aR),p 17 (R 17)] [(17,bx 75 [J aK,J aS,J aL,J aB,J aD]),(15,bx 75 [I 0,I 0,I 0,I 0,I 0])]) (D0n) (fun⟨aR,aK,aS,aL,aB,aD⟩ H=>?_) (fun _ n3 e3 t3=>?_)
  ·refine iA [14,15]<|a7<|hr H
  refine iA [2,3,6,7,8,12,15,16,17,19]<|vB<|lX (fun((o,a,j,d,k,i,e):Bool×Int×Int×Int×Int×Int×Int)=>Z (G5 c f b [p 16 (B o),p 17 (R 17),p 19 (I a)]) (W0 j d k i e g l h)) (m,0,F,q,n,x,t) H fun _ g4 b4 e4 t4 ⟨o,a,j,d,k,i,e⟩ H=>vQ<|iA [2,3,6,7,8,12,15,16,17,19,45]<|cD H (fun H=>?_) (fun H=>?_)
  ·refine vK<|fQ<|jN r (fun((X,aN,aQ,T,aF,aC):Bool×Int×Int×Int×Int×Int)=>Z (G5 c f b [p 16 (B X),p 17 (R 17),p 19 (I a)]) (W0 aN aQ T aF aC g l h)) (Hg a g4) (fun⟨X,aN,aQ,T,aF,aC⟩ H=>?_) (fun _ n5 e5 t5=>?_)
   ·refine jB [2,3,6,7,8,12,15,16,17,19] H fun H=>b4 H
   refine vB<|qD (fun aG=>Z (G5 c f b [p 16 (B o),p 17 (R 17),p 19 (I a),p 20 (R 20)]) ((20,K 138 y138 aG)::W0 j d k i e g l h)) H fun aG H=>vQ<|iB [2,3,6,7,8,12,15,16,17,19,20,71] H fun H=>cD H (fun H=>vE<|fE<|fX rfl<|n5 H) fun H=>vK<|fQ<|iD VQ [2,3,6,7,8,12,15,16,17,19,20,21,22] H fun _ H=>iB [2,3,6,7,8,12,15,16,17,19,22,23] H fun H=>jN r (fun((u,E,v,z):Int×Int×Int×Int)=>Z (G5 c f b [p 17 (R 17),p 19 (I a),p 22 (R 22),p 23 (R 23)]) ((22,bx 73 [I u,I E])::(23,bx 73 [I v,I z])::W0 j d k i e g l h)) (RC a b g4) (fun⟨u,E,v,z⟩ H=>?_) (fun _ n6 e6 t6=>?_)
   ·refine iA [2,3,6,7,8,12,15,16,17,19,22,23]<|jA [2,3,6,7,8,12,15,16,17,19]<|fK<|n5 (s:=(true,b,v,z,u,E)) H (by kernel_rfl)
   refine iA [2,3,6,7,8,12,15,17,19,22,23,106]<|cD H (fun H=>iD RA [2,3,6,7,8,12,15,17,19,22,23] H fun _ H=>jD RA [2,3,6,7,8,12,15,17,19,22,23] H fun _ H=>n6 H) fun H=>vK<|n6 H
  exact vE<|fE<|e4<|fX rfl<|n3 H
 refine iA [2,3,4,6,7,8,12,15,16,17,18]<|vB<|lX (fun((v7,Y,v9,aO,V,W,aP):Bool×Int×Int×Int×Int×Int×Int)=>Z [p 2 (L y138 c),p 3 (L Ty.bool f),p 4 (L y75 a4),p 6 (J b),p 7 (R 7),p 8 (R 8),p 12 (R 12),p 15 (R 15),p 16 (B v7),p 17 (R 17),p 18 (I Y)] (W0 v9 aO V W aP g l h)) (false,0,0,0,0,0,0) H fun _ g1 b1 e1 t1 ⟨v7,Y,v9,aO,V,W,aP⟩ H=>vQ<|iA [2,3,4,6,7,8,12,15,16,17,18,28]<|cD H (fun H=>?_) (fun H=>?_)
 ·refine vK<|fQ<|jN r (fun((aJ,aM,aH,aI,aA,P):Int×Int×Int×Int×Int×Bool)=>Z [p 2 (L y138 c),p 3 (L Ty.bool f),p 4 (L y75 a4),p 6 (J b),p 7 (R 7),p 8 (R 8),p 12 (R 12),p 15 (R 15),p 16 (B P),p 17 (R 17),p 18 (I Y)] (W0 aJ aM aH aI aA g l h)) (RD Y g1) (fun⟨aJ,aM,aH,aI,aA,P⟩ H=>?_) (fun _ n2 e2 t2=>?_)
  ·refine jB [2,3,4,6,7,8,12,15,16,17,18] H fun H=>b1 H
  refine vB<|iB [2,3,4,6,7,8,12,15,16,17,18,37] H fun H=>cD H (fun H=>iA [2,3,4,6,7,8,12,15,16,17,18]<|zD (fun G=>Z [p 2 (L y138 c),p 3 (L Ty.bool f),p 4 (L y75 a4),p 6 (J b),p 7 (R 7),p 8 (R 8),p 12 (R 12),p 15 (R 15),p 16 (B true),p 17 (R 17),p 18 (I Y)] [(17,K 75 y75 G),(15,bx 75 [I 0,I 0,I 0,I 0,I 0]),(12,K 65 y65 g),(8,K 58 u5 l),(7,K 56 j7 h)]) H fun G H=>fK<|n2 H) fun H=>vK<|fK<|n2 H
 exact vE<|fE<|e1<|fX rfl<|n0 H
def Lh(a:j0)(g:p7)(b:List Int)(e:List l6)(f:A0)(h:Int):Option (Bool×l6×Int) :=
 gd ((JC a g b e f).isSome/\True)<|lt (vl (JC a g b e f)) fun i =>
 if(i != 0) then
  some ((false,((0:Int),((0:Int),(0:Int)),(0:Int),(0:Int)),i))
 else
  gd ((L5 a).isSome/\b7 (vl (L5 a)-1)/\(m7 h 0 (vl (L5 a)-1)).isSome/\True) <|
  if(!vl (m7 h 0 (vl (L5 a)-1))) then
   some ((false,((0:Int),((0:Int),(0:Int)),(0:Int),(0:Int)),(4:Int)))
  else
   gd ((Bl a).isSome/\True)<|lt (vl (Bl a)) fun c =>
   gd ((Bk c b).isSome/\(Lg a g c (vl (Bk c b)) e f h).isSome/\True)<|lt ((vl (Lg a g c (vl (Bk c b)) e f h),vl (Bk c b))) fun(d,_) =>
   if(!d.1) then
    some ((false,((0:Int),((0:Int),(0:Int)),(0:Int),(0:Int)),(0:Int)))
   else
    gd ((O3 d.2.2.1).isSome/\True) <|
    if(!vl (O3 d.2.2.1)) then
     some ((false,((0:Int),((0:Int),(0:Int)),(0:Int),(0:Int)),(3:Int)))
    else
     some ((true,d.2,(0:Int)))
def k22:Ct:=b9 22 [.agg j7,.agg u5,.dat i64.sl,.dat y75.sl,.agg y65,.dat i64] (fun x=>Lh x.1 x.2.1 x.2.2.1 x.2.2.2.1 x.2.2.2.2.1 x.2.2.2.2.2.1) (fun r:Bool×l6×Int=>AV.tup [B r.1,AV.agg (Q2 r.2.1),I r.2.2]) (fun _=>())
theorem o22:Ok prog k22:=by
 refine c8 [.tmp 12,.cell 13 75,.tmp 14] func22 ?_;intro y ⟨f,d,_,_,c,_,_⟩ r H Q hn hr;have:=hz (tc QD (tc o61 (tc VV (tc GJ (tc Y8 (tc Jb (tc Xq tn)))))));refine iA [2,3,5,6,7,10,13]<|vQ<|iD Xq [2,3,5,6,7,10,13,15] H fun _ H=>iA [2,3,5,6,7,10,13,15,26]<|cD H (fun H=>iA [12,13,14]<|a7<|fR<|hr H) fun H=>vK<|fQ<|vQ<|iB [2,3,5,6,7,10,13,34] H fun H=>cD H (fun H=>iA [12,13,14]<|a7<|fR<|hr H) fun H=>vK<|fQ<|iD GJ [2,3,5,6,7,10,13,16] H fun e H=>qD (fun(a,b)=>Z [p 13 (R 13),p 17 (B a.1),p 18 (R 18)] [(18,bx 75 (s5 true y75 a.2)),(44,A 4 Ty.bool b 0),(37,A 138 y138 e 0),(13,bx 75 [I 0,I 0,I 0,I 0,I 0]),(10,K 65 y65 c),(7,K 58 u5 d),(6,K 56 j7 f)]) H fun⟨a,b⟩ H =>
  vQ <|
  iA [13,18,52] <|
  cD H (fun H=>iA [12,13,14]<|a7<|fR<|hr H) fun H=>vK<|fQ<|vQ<|iB [13,18,57] H fun H=>cD H (fun H=>iA [12,13,14]<|a7<|fR<|hr H) fun H=>vK<|fQ<|iA [12,13,14]<|a7<|hr H
def Dd(a:l6)(d:Bool)(c:q7)(b:q7):Option (l6×Bool) :=
 if(!d) then
  some ((a.1,c,b),true)
 else
  gd ((Lf a.2.1 c).isSome/\(Lf a.2.2 b).isSome/\True) <|
  some ((a.1,vl (Lf a.2.1 c),vl (Lf a.2.2 b)),d)
theorem z0T{st:St}{z:c7 y75×c7 Ty.bool}{a:c7 y75}{b:Bool}(e:some (a,b)=some z)(h:NO st 75 y75 4 .bool z=(a=z.1/\b=z.2)):NO st 75 y75 4 .bool z:=by
 cases e;rw[h];exact⟨rfl,rfl⟩
theorem J0C:Li prog 122 75 y75 4 .bool [.agg y73,.agg y73] (fun x1 x2 x=>Dd x1 x2 x.1 x.2.1):=by
 refine F0B func122 ntmps122 rfl results122 (by kernel_rfl) rfl ?_;intro y x1 x2 ⟨_,_,_⟩ z H Q hQ;have:HG prog Γ:=⟨Bh⟩;have:=hz (tc N0p (@tn prog));refine iA [0,1,6,7]<|vQ<|iA [0,1,6,7,11]<|cD H (fun H=>iA [0,1]<|a7<|fR<|(hQ _ (z0T H (by kernel_rfl))).2) fun H=>vK<|fQ<|jB [0,1] H fun H=>(hQ _ (z0T H (by kernel_rfl))).1
def D0k:Int×Int×Int×Int×Int×Bool->Option (Bool×l6)
 | (f,b,d,c,e,a) =>
 if(!a) then
  some ((false,(0:Int),((0:Int),(0:Int)),(0:Int),(0:Int)))
 else
  some ((true,f,(b,d),c,e))
def RE(a:Int)(h:Int×Int×Int×Int×Int×Int×Bool->Option (Bool×l6)):Int×Int×Int×Int×Int×Bool->Option (Bool×l6)
 | (g,d,c,f,e,b) =>
 gd (b7 (a+1)/\True) <|
 h (a+1,g,d,c,f,e,b)
def D0j(e:A0)(m:D4)(o:p7)(l:List Int)(n:Int×Int×Int×Int×Int×Int×Bool->Option (Bool×l6)):Int×Int×Int×Int×Int×Int×Bool->Option (Bool×l6)
 | (c,g,f,h,k,j,i) =>
 if(decide (c < (l.length:Int))) then
  gd (ix c l.length/\c.toNat<l.length/\True) <|
  gd (ix (l.getD c.toNat 0) m.1.2.2.1.length/\True)<|lt (m.1.2.2.1.getD (Int.toNat (l.getD c.toNat 0)) (a6 y138)) fun a =>
  gd (ix a.1 e.1.length/\True) <|
  if(e.1.getD a.1.toNat false) then
   gd (ix a.1 e.2.2.length/\(Cf m.1 o (l.getD c.toNat 0) (e.2.2.getD a.1.toNat (a6 y73))).isSome/\True)<|lt (vl (Cf m.1 o (l.getD c.toNat 0) (e.2.2.getD a.1.toNat (a6 y73)))) fun b =>
   gd ((ix a.1 e.2.1.length/\(Ce (e.2.1.getD a.1.toNat (a6 y73)) b.1).isSome/\True)/\(Dd (g,(f,h),k,j) i (vl (Ce (e.2.1.getD a.1.toNat (a6 y73)) b.1),b.2,()).1 (vl (Ce (e.2.1.getD a.1.toNat (a6 y73)) b.1),b.2,()).2.1).isSome/\True)<|lt (vl (Dd (g,(f,h),k,j) i (vl (Ce (e.2.1.getD a.1.toNat (a6 y73)) b.1),b.2,()).1 (vl (Ce (e.2.1.getD a.1.toNat (a6 y73)) b.1),b.2,()).2.1)) fun(d:(l6×Bool)) =>
   gd (True) <|
   RE c n (d.1.1,d.1.2.1.1,d.1.2.1.2,d.1.2.2.1,d.1.2.2.2,d.2)
  else
   RE c n (g,f,h,k,j,i)
 else
  D0k (g,f,h,k,j,i)
def Lj(e:A0)(a:D4)(f:p7)(b:Int):Int×Int×Int×Int×Int×Bool->Option (Bool×l6)
 | (c,j,d,k,i,g) =>
 gd ((Kt a b).isSome/\True)<|lt (vl (Kt a b)) fun h =>
 lp (D0j e a f h) (0,c,j,d,k,i,g)
def u64(g:D4)(e:p7)(f:List l6)(d:A0)(b:Int):Option (Bool×l6) :=
 gd ((Ku f b).isSome/\True)<|lt (vl (Ku f b)) fun a =>
 if a.2 then
  gd (True/\(Dd (b,(Int.ofNat 0,Int.ofNat 0),Int.ofNat 0,Int.ofNat 0) false (a.1.2.1,a.1.2.2,()).1 (a.1.2.1,a.1.2.2,()).2.1).isSome/\True)<|lt (vl (Dd (b,(Int.ofNat 0,Int.ofNat 0),Int.ofNat 0,Int.ofNat 0) false (a.1.2.1,a.1.2.2,()).1 (a.1.2.1,a.1.2.2,()).2.1)) fun(c:(l6×Bool)) =>
  gd (True) <|
  Lj d g e b (c.1.1,c.1.2.1.1,c.1.2.1.2,c.1.2.2.1,c.1.2.2.2,c.2)
 else
  Lj d g e b (b,0,0,0,0,false)
def k64:Ct:=b9 64 [.dat y126.pt,.agg u5,.dat y75.sl,.agg y65,.dat i64] (fun x=>u64 x.1 x.2.1 x.2.2.1 x.2.2.2.1 x.2.2.2.2.1) (fun r:Bool×l6=>AV.tup [B r.1,AV.agg (Q2 r.2)]) (fun _=>())
theorem o64:Ok prog k64:=by
 refine c8 [.tmp 10,.cell 11 75] func64 ?_;intro y ⟨n,o,_,l,W,_⟩ r H Q hn hr;have:=hz (tc N0N (tc Yl (tc Yp (tc Yu tn))));refine iA [0,2,4,6,8,11]<|iA [0,2,4,6,8,11,12]<|iA [0,2,4,6,8,11,12,13]<|jN r (fun((X,v3,Y,v5,v6,v7):Int×Int×Int×Int×Int×Bool)=>Z [p 0 (D y126.pt n),p 4 (J W),p 6 (R 6),p 8 (R 8),p 11 (R 11),p 12 (R 12),p 13 (R 13)] ((12,bx 75 [J X,J v3,J Y,J v5,J v6])::(13,bx 4 [C v7])::W4 l o)) (Lj l n o W) (fun w H=>?_) (fun _ n0 e0 t0=>?_)
 ·obtain⟨X,v3,Y,v5,v6,v7⟩:=w;refine jN r (fun((v,P,u,t,q,z):Int×Int×Int×Int×Int×Bool)=>Z [p 11 (R 11),p 12 (R 12),p 13 (R 13)] [(12,bx 75 [J v,J P,J u,J t,J q]),(13,bx 4 [C z]),(11,bx 75 [I 0,I 0,I 0,I 0,I 0])]) (D0k) (fun⟨v,P,u,t,q,z⟩ H=>?_) (fun _ n1 e1 t1=>?_)
  ·refine vQ<|iA [11,12,85]<|cD H (fun H=>iA [10,11]<|a7<|fR<|hr H) fun H=>vK<|fQ<|iA [10,11]<|a7<|hr H
  refine iD Yp [0,6,8,11,12,13,37,38,39] H fun g H=>vB<|lX (fun((a,i,b,c,k,e,d):Int×Int×Int×Int×Int×Int×Bool)=>Z (MA n [p 37 (O 37),p 38 (I (g.length:Int)),p 39 (I a)]) ((37,A 2 i64 g 0)::(12,bx 75 [J i,J b,J c,J k,J e])::(13,bx 4 [C d])::W4 l o)) (0,X,v3,Y,v5,v6,v7) H fun _ g2 b2 e2 t2 ⟨a,i,b,c,k,e,d⟩ H=>iA [0,6,8,11,12,13,37,38,39,40]<|vQ<|cD H (fun H=>?_) (fun H=>?_)
  ·refine vK<|fQ<|jN r (fun((G,T,F,x,s,E):Int×Int×Int×Int×Int×Bool)=>Z (MA n [p 37 (O 37),p 38 (I (g.length:Int)),p 39 (I a)]) ((12,bx 75 [J G,J T,J F,J x,J s])::(13,bx 4 [C E])::(37,A 2 i64 g 0)::W4 l o)) (RE a g2) (fun⟨G,T,F,x,s,E⟩ H=>?_) (fun _ n3 e3 t3=>?_)
   ·refine jB [0,6,8,11,12,13,37,38,39] H fun H=>b2 H
   refine vB<|iB [0,6,8,11,12,13,17,37,38,39] H fun H=>qD (fun m=>Z (MA n [p 17 (I (g.getD a.toNat 0)),p 18 (J m.1),p 37 (O 37),p 38 (I (g.length:Int)),p 39 (I a)]) ((37,A 2 i64 g 0)::(12,bx 75 [J i,J b,J c,J k,J e])::(13,bx 4 [C d])::W4 l o)) H fun m H=>iB [0,6,8,11,12,13,17,18,37,38,39,58] H fun H=>cD H (fun H=>iD Yl [0,6,8,11,12,13,18,19,20,37,38,39] H fun f H=>zU Bh (HT.h) J0C [0,6,8,11,12,13,37,38,39] (fun(j:l6×Bool)=>Z (MA n [p 37 (O 37),p 38 (I (g.length:Int)),p 39 (I a)]) ((12,K 75 y75 j.1)::(13,bx 4 [C j.2])::(20,bx 73 (s5 true y73 f.2))::(19,bx 73 (s5 true y73 f.1))::(37,A 2 i64 g 0)::W4 l o)) (fun(j:l6×Bool)=>True) (x1:=(i,(b,c),k,e)) (x2:=d) (xs:=(vl (Ce (l.2.1.getD m.1.toNat (a6 y73)) f.1),f.2,())) H (fun _=>by kernel_rfl) fun j H=>gdC H fun H=>fK<|n3 H) fun H=>vK<|fK<|n3 H
  exact vE<|fE<|e2<|fX rfl<|n1 H
 refine iD Yu [0,4,6,8,11,12,13,14,15] H fun v0 H=>iA [0,4,6,8,11,12,13,14,29]<|cD H (fun H=>zT Bh (HT.h) J0C 4 [0,4,6,8,11,12,13] (fun(V:l6×Bool)=>Z [p 0 (D y126.pt n),p 4 (J W),p 6 (R 6),p 8 (R 8),p 11 (R 11),p 12 (R 12),p 13 (R 13)] ((12,K 75 y75 V.1)::(13,bx 4 [C V.2])::(14,bx 75 (s5 true y75 v0.1))::W4 l o)) (fun(V:l6×Bool)=>True) (x1:=(W,(Int.ofNat 0,Int.ofNat 0),Int.ofNat 0,Int.ofNat 0)) (x2:=false) (xs:=(v0.1.2.1,v0.1.2.2,())) H (fun _=>by kernel_rfl) fun V H=>gdC H fun H=>n0 H) fun H=>vK<|n0 H
def AG(c:j0)(h:p7)(b:List Int)(f:List l6)(g:A0):Option (Int ⊕ D4×List Int×Int) :=
 gd ((Hc c).isSome/\((!vl (Hc c))=false/\True->(KP h).isSome)/\True) <|
 if(!vl (Hc c)||!vl (KP h)) then
  some (Sum.inl 1)
 else
  gd ((KX c).isSome/\True)<|lt (vl (KX c)) fun a =>
  gd ((true=true/\True->(KY a g).isSome)/\True) <|
  if(true&&!vl (KY a g)) then
   some (Sum.inl 1)
  else
   gd ((Hf a b).isSome/\((!vl (Hf a b))=false/\True->(KZ a f).isSome)/\True) <|
   if(!vl (Hf a b)||!vl (KZ a f)) then
    some (Sum.inl 2)
   else
    gd ((Lb a b).isSome/\True)<|lt (vl (Lb a b)) fun d =>
    gd ((Ld d).isSome/\True)<|lt (vl (Ld d)) fun e =>
    if(!e.2) then
     some (Sum.inl 7)
    else
     some (Sum.inr (d,e.1,(0:Int)))
def k51:Ct:=b9 51 [.agg j7,.agg u5,.dat i64.sl,.dat y75.sl,.dat y65.pt] (fun x=>AG x.1 x.2.1 x.2.2.1 x.2.2.2.1 x.2.2.2.2.1) (two (fun r:Int=>AV.tup [AV.v (Value.pointer none),AV.v (Value.slice none 0 0),I r]) (fun r:D4×List Int×Int=>AV.tup [D y126.pt r.1,AV.ow 2 true i64 r.2.1,I r.2.2])) (fun _=>())
def N0W:Ct:=RF 51 [.agg j7,.agg u5,.dat i64.sl,.dat y75.sl,.dat y65.pt] (fun x=>AG x.1 x.2.1 x.2.2.1 x.2.2.2.1 x.2.2.2.2.1) (fun r:Int=>AV.tup [AV.v (Value.pointer none),AV.v (Value.slice none 0 0),I r]) ()
def N0V:Ct:=RG 51 [.agg j7,.agg u5,.dat i64.sl,.dat y75.sl,.dat y65.pt] (fun x=>AG x.1 x.2.1 x.2.2.1 x.2.2.2.1 x.2.2.2.2.1) (fun r:D4×List Int×Int=>AV.tup [D y126.pt r.1,AV.ow 2 true i64 r.2.1,I r.2.2]) ()
theorem o51:Ok prog k51:=by
 refine c8 [.tmp 10,.tmp 11,.tmp 12] func51 ?_;intro y ⟨_,_,_,_,_,_⟩ r H Q hn hr;have:=hz (tc K0A (tc ZM (tc N0O (tc N0P (tc N0Q (tc ZD (tc N0R (tc N0S tn))))))));refine iA [2,3,4,5,6]<|vQ<|iB [2,3,4,5,24] H fun H=>cD H (fun H=>iA [10,11,12]<|a7<|fR<|hr H) fun H=>vK<|fQ<|iD ZD [2,3,4,13] H fun _ H=>vQ<|vB<|iB [2,3,13,27] H fun H=>cD H (fun H=>iA [10,11,12]<|a7<|h9<|fR<|hr H) fun H=>iB [2,13,38] H fun H=>cD H (fun H=>iA [10,11,12]<|a7<|h9<|fR<|hr H) fun H=>vK<|fK<|fQ<|iD ZM [14] H fun _ H=>iD K0A [14,15,16] H fun _ H=>vQ<|iA [14,15,58]<|cD H (fun H=>iA [10,11,12]<|a7<|fR<|hr H) fun H=>vK<|fQ<|iA [10,11,12]<|a7<|hr H
theorem M0t:Ok prog N0W:=M0q o51
theorem M0s:Ok prog N0V:=M0p o51
def Lk(g:j0)(c:p7)(d:List Int)(a:List l6)(b:A0)(h:Int):Option (Bool×l6×Int) :=
 if(Ll (AG g c d a b)) then
  gd (Ll (AG g c d a b)=true/\True) <|
  if(vL (AG g c d a b) != 0) then
   some ((false,((0:Int),((0:Int),(0:Int)),(0:Int),(0:Int)),vL (AG g c d a b)))
  else
   none
 else
  gd (RH (AG g c d a b)=true/\True)<|lt (vR (AG g c d a b)) fun f =>
  if(f.2.2 != 0) then
   some ((false,((0:Int),((0:Int),(0:Int)),(0:Int),(0:Int)),f.2.2))
  else
   gd ((Q6 f.1.1 h).isSome/\True) <|
   if(!vl (Q6 f.1.1 h)) then
    some ((false,((0:Int),((0:Int),(0:Int)),(0:Int),(0:Int)),(4:Int)))
   else
    gd ((u64 f.1 c a b h).isSome/\True)<|lt (vl (u64 f.1 c a b h)) fun e =>
    gd ((e.1=true/\True->(I2 e.2.2.1).isSome)/\True) <|
    if(e.1&&!vl (I2 e.2.2.1)) then
     some ((false,((0:Int),((0:Int),(0:Int)),(0:Int),(0:Int)),(3:Int)))
    else
     some ((e.1,e.2,(0:Int)))
def NP:Ct:=b9 23 [.agg j7,.agg u5,.dat i64.sl,.dat y75.sl,.agg y65,.dat i64] (fun x=>Lk x.1 x.2.1 x.2.2.1 x.2.2.2.1 x.2.2.2.2.1 x.2.2.2.2.2.1) (fun r:Bool×l6×Int=>AV.tup [B r.1,AV.agg (Q2 r.2.1),I r.2.2]) (fun _=>())
theorem o23:Ok prog NP:=by
 refine c8 [.tmp 12,.cell 13 75,.tmp 14] func23 ?_;intro y ⟨f,d,g,b,c,e,_⟩ r H Q hn hr;have:=hz (tc Nd (tc o64 (tc Yw tn)));refine vQ<|zX Bh (HT.h) 2 [2,3,5,6,7,10,13] (y65) (Z [p 2 (L i64 g),p 3 (L y75 b),p 5 (J e),p 6 (R 6),p 7 (R 7),p 10 (D y65.pt c),p 13 (R 13)] [(13,bx 75 [I 0,I 0,I 0,I 0,I 0]),(7,K 58 u5 d),(6,K 56 j7 f)]) (V:=True) (W:=True) (by kernel_rfl) ⟨trivial,trivial⟩<|fQ<|sp H (fun H=>?_) (fun H=>?_)
 ·have:=hz (tc M0t (HT.h));refine iB [3,5,7,10,13,15,17] H fun H=>vQ<|vB<|iA [3,5,7,10,13,15,17,29]<|cD H (fun H=>iA [12,13,14]<|a7<|h9<|fR<|hr H) fun H=>YT H
 have:=hz (tc M0s (HT.h));refine qD (fun a=>Z [p 3 (L y75 b),p 5 (J e),p 7 (R 7),p 10 (D y65.pt c),p 13 (R 13),p 15 (D y126.pt a.1),p 17 (I a.2.2)] [(25,A 2 i64 a.2.1 0),(13,bx 75 [I 0,I 0,I 0,I 0,I 0]),(7,K 58 u5 d),(6,K 56 j7 f)]) H fun a H=>vQ<|vB<|iA [3,5,7,10,13,15,17,29]<|cD H (fun H=>iA [12,13,14]<|a7<|h9<|fR<|hr H) fun H=>iB [3,5,7,10,13,15,34] H fun H=>cD H (fun H=>iA [12,13,14]<|a7<|h9<|fR<|hr H) fun H=>vK<|fK<|fQ<|iD o64 [13,18,19] H fun _ H=>vQ<|iB [13,18,19,58] H fun H=>cD H (fun H=>iA [12,13,14]<|a7<|fR<|hr H) fun H=>vK<|fQ<|iA [12,13,14]<|a7<|hr H
end Go.Proofs.YtechodbafnmddaaGreatDoor
end
