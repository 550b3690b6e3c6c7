/- Functions of this program as plain functions of data, and that they are so: printed by program. -/
import Derived.Test.YtechodbafnmddaaGreatDoorF91a
section
namespace Go.Proofs.YtechodbafnmddaaGreatDoor
open Go Go.Proofs Go.Proofs.Sv Go.Proofs.Xv Go.Proofs.Xl Go.RowKit
open Tryz
def JB(a:B0)(b:B0):Option Bool :=
 if(!decide (a.1=b.1)) then
  some false
 else
  if(a.2.1 != b.2.1) then
   some false
  else
   gd ((G7 a.2.2 b.2.2).isSome/\True) <|
   if(!vl (G7 a.2.2 b.2.2)) then
    some false
   else
    some true
def P0f:Ct:=c8 173 [.agg y155,.agg y155] (fun x=>JB x.1 x.2.1) (fun r:Bool=>B r) (fun _=>())
theorem M0H:Ok prog P0f:=by
 refine c9 [.tmp 4] func173 ?_;intro y ⟨_,_,_⟩ r H Q hn hr;have:=hz (tc Jv tn);refine iA [2,3]<|vQ<|iA [2,3,9]<|cD H (fun H=>iA [4]<|a8<|fR<|hr H) fun H=>vK<|fQ<|vQ<|iA [2,3,14]<|cD H (fun H=>iA [4]<|a8<|fR<|hr H) fun H=>vK<|fQ<|vQ<|iB [20] H fun H=>cD H (fun H=>iA [4]<|a8<|fR<|hr H) fun H=>vK<|fQ<|iA [4]<|a8<|hr H
def Xi:Unit->Option Bool
 | _ =>
 some true
def E0m(b:List B0)(c:List B0)(d:Int->Option Bool):Int->Option Bool
 | a =>
 if(decide (a < (b.length:Int))) then
  gd (ix a b.length/\ix a c.length/\(JB (b.getD a.toNat (a7 y155)) (c.getD a.toNat (a7 y155))).isSome/\True) <|
  if(!vl (JB (b.getD a.toNat (a7 y155)) (c.getD a.toNat (a7 y155)))) then
   some false
  else
   gd (c7 (a+1)/\True) <|
   d (a+1)
 else
  Xi ()
def JC(a:List B0)(b:List B0):Option Bool :=
 if((a.length:Int) != (b.length:Int)) then
  some false
 else
  lp (E0m a b) 0
def Q0b:Ct:=c8 114 [.dat y155.sl,.dat y155.sl] (fun x=>JC x.1 x.2.1) (fun r:Bool=>B r) (fun _=>())
theorem N0b:Ok prog Q0b:=by
 refine c9 [.tmp 4] func114 ?_;intro y ⟨d,h,_⟩ r H Q hn hr;have:=hz (tc M0H tn);refine iA [0,1]<|vQ<|iA [0,1,10]<|cD H (fun H=>iA [4]<|a8<|fR<|hr H) fun H=>vK<|fQ<|jN r (fun(_:Unit)=>Z [] []) (Xi) (fun _ H=>?_) (fun _ c j f=>?_)
 ·refine iA [4]<|a8<|hr H
 refine iA [0,1,5]<|vB<|lX (fun(a:Int)=>Z [p 0 (L y155 d),p 1 (L y155 h),p 5 (I a)] []) 0 H fun _ i e g b a H=>vQ<|iA [0,1,5,14]<|cD H (fun H=>?_) (fun H=>?_)
 ·refine vK<|fQ<|vQ<|vB<|iB [0,1,5,26] H fun H=>cD H (fun H=>iA [4]<|a8<|h9<|fR<|b<|h9<|f<|hr H) fun H=>vK<|fK<|fQ<|jB [0,1,5] H fun H=>e H
 exact vE<|fE<|g<|fX rfl<|c H
def JD(a:m7)(b:m7):Option Bool :=
 gd ((JC a.1 b.1).isSome/\True) <|
 if(!vl (JC a.1 b.1)) then
  some false
 else
  gd ((JA a.2.1 b.2.1).isSome/\True) <|
  if(!vl (JA a.2.1 b.2.1)) then
   some false
  else
   gd ((Jz a.2.2 b.2.2).isSome/\True) <|
   if(!vl (Jz a.2.2 b.2.2)) then
    some false
   else
    some true
def k55:Ct:=c8 55 [.agg y53,.agg y53] (fun x=>JD x.1 x.2.1) (fun r:Bool=>B r) (fun _=>())
theorem o55:Ok prog k55:=by
 refine c9 [.tmp 4] func55 ?_;intro y ⟨_,_,_⟩ r H Q hn hr;have:=hz (tc M0Z (tc N0a (tc N0b tn)));refine iA [2,3]<|vQ<|iB [2,3,10] H fun H=>cD H (fun H=>iA [4]<|a8<|fR<|hr H) fun H=>vK<|fQ<|vQ<|iB [2,3,16] H fun H=>cD H (fun H=>iA [4]<|a8<|fR<|hr H) fun H=>vK<|fQ<|vQ<|iB [22] H fun H=>cD H (fun H=>iA [4]<|a8<|fR<|hr H) fun H=>vK<|fQ<|iA [4]<|a8<|hr H
def JE(a:m0)(b:m0):Option Bool :=
 gd ((G7 a.1 b.1).isSome/\True) <|
 if(!vl (G7 a.1 b.1)) then
  some false
 else
  gd ((G7 a.2.1 b.2.1).isSome/\True) <|
  if(!vl (G7 a.2.1 b.2.1)) then
   some false
  else
   gd ((G7 a.2.2 b.2.2).isSome/\True) <|
   if(!vl (G7 a.2.2 b.2.2)) then
    some false
   else
    some true
def N0A:Ct:=c8 284 [.agg y269,.agg y269] (fun x=>JE x.1 x.2.1) (fun r:Bool=>B r) (fun _=>())
theorem L0T:Ok prog N0A:=by
 refine c9 [.tmp 4] func284 ?_;intro y ⟨_,_,_⟩ r H Q hn hr;have:=hz (tc Jv tn);refine iA [2,3]<|vQ<|iB [2,3,10] H fun H=>cD H (fun H=>iA [4]<|a8<|fR<|hr H) fun H=>vK<|fQ<|vQ<|iB [2,3,16] H fun H=>cD H (fun H=>iA [4]<|a8<|fR<|hr H) fun H=>vK<|fQ<|vQ<|iB [22] H fun H=>cD H (fun H=>iA [4]<|a8<|fR<|hr H) fun H=>vK<|fQ<|iA [4]<|a8<|hr H
def Xj:Unit->Option Bool
 | _ =>
 some true
def D0f(b:List m0)(c:List m0)(d:Int->Option Bool):Int->Option Bool
 | a =>
 if(decide (a < (b.length:Int))) then
  gd (ix a b.length/\ix a c.length/\(JE (b.getD a.toNat (a7 y269)) (c.getD a.toNat (a7 y269))).isSome/\True) <|
  if(!vl (JE (b.getD a.toNat (a7 y269)) (c.getD a.toNat (a7 y269)))) then
   some false
  else
   gd (c7 (a+1)/\True) <|
   d (a+1)
 else
  Xj ()
def DH(a:List m0)(b:List m0):Option Bool :=
 if((a.length:Int) != (b.length:Int)) then
  some false
 else
  lp (D0f a b) 0
def N0M:Ct:=c8 268 [.dat y269.sl,.dat y269.sl] (fun x=>DH x.1 x.2.1) (fun r:Bool=>B r) (fun _=>())
theorem M0a:Ok prog N0M:=by
 refine c9 [.tmp 4] func268 ?_;intro y ⟨d,h,_⟩ r H Q hn hr;have:=hz (tc L0T tn);refine iA [0,1]<|vQ<|iA [0,1,10]<|cD H (fun H=>iA [4]<|a8<|fR<|hr H) fun H=>vK<|fQ<|jN r (fun(_:Unit)=>Z [] []) (Xj) (fun _ H=>?_) (fun _ c j f=>?_)
 ·refine iA [4]<|a8<|hr H
 refine iA [0,1,5]<|vB<|lX (fun(a:Int)=>Z [p 0 (L y269 d),p 1 (L y269 h),p 5 (I a)] []) 0 H fun _ i e g b a H=>vQ<|iA [0,1,5,14]<|cD H (fun H=>?_) (fun H=>?_)
 ·refine vK<|fQ<|vQ<|vB<|iB [0,1,5,26] H fun H=>cD H (fun H=>iA [4]<|a8<|h9<|fR<|b<|h9<|f<|hr H) fun H=>vK<|fK<|fQ<|jB [0,1,5] H fun H=>e H
 exact vE<|fE<|g<|fX rfl<|c H
def JF(a:r9)(b:r9):Option Bool :=
 if(a.1 != b.1) then
  some false
 else
  if(a.2.1 != b.2.1) then
   some false
  else
   if(a.2.2.1 != b.2.2.1) then
    some false
   else
    if(a.2.2.2.1 != b.2.2.2.1) then
     some false
    else
     gd ((DH a.2.2.2.2.1 b.2.2.2.2.1).isSome/\True) <|
     if(!vl (DH a.2.2.2.2.1 b.2.2.2.2.1)) then
      some false
     else
      gd ((DH a.2.2.2.2.2 b.2.2.2.2.2).isSome/\True) <|
      if(!vl (DH a.2.2.2.2.2 b.2.2.2.2.2)) then
       some false
      else
       some true
def N0Z:Ct:=c8 250 [.agg y158,.agg y158] (fun x=>JF x.1 x.2.1) (fun r:Bool=>B r) (fun _=>())
theorem M0h:Ok prog N0Z:=by
 refine c9 [.tmp 4] func250 ?_;intro y ⟨_,_,_⟩ r H Q hn hr;have:=hz (tc M0a tn);refine iA [2,3]<|vQ<|iA [2,3,9]<|cD H (fun H=>iA [4]<|a8<|fR<|hr H) fun H=>vK<|fQ<|vQ<|iA [2,3,14]<|cD H (fun H=>iA [4]<|a8<|fR<|hr H) fun H=>vK<|fQ<|vQ<|iA [2,3,19]<|cD H (fun H=>iA [4]<|a8<|fR<|hr H) fun H=>vK<|fQ<|vQ<|iA [2,3,24]<|cD H (fun H=>iA [4]<|a8<|fR<|hr H) fun H=>vK<|fQ<|vQ<|iB [2,3,30] H fun H=>cD H (fun H=>iA [4]<|a8<|fR<|hr H) fun H=>vK<|fQ<|vQ<|iB [36] H fun H=>cD H (fun H=>iA [4]<|a8<|fR<|hr H) fun H=>vK<|fQ<|iA [4]<|a8<|hr H
def Xk:Unit->Option Bool
 | _ =>
 some true
def D0v(b:List r9)(c:List r9)(d:Int->Option Bool):Int->Option Bool
 | a =>
 if(decide (a < (b.length:Int))) then
  gd (ix a b.length/\ix a c.length/\(JF (b.getD a.toNat (a7 y158)) (c.getD a.toNat (a7 y158))).isSome/\True) <|
  if(!vl (JF (b.getD a.toNat (a7 y158)) (c.getD a.toNat (a7 y158)))) then
   some false
  else
   gd (c7 (a+1)/\True) <|
   d (a+1)
 else
  Xk ()
def JG(a:List r9)(b:List r9):Option Bool :=
 if((a.length:Int) != (b.length:Int)) then
  some false
 else
  lp (D0v a b) 0
def O0r:Ct:=c8 221 [.dat y158.sl,.dat y158.sl] (fun x=>JG x.1 x.2.1) (fun r:Bool=>B r) (fun _=>())
theorem M0p:Ok prog O0r:=by
 refine c9 [.tmp 4] func221 ?_;intro y ⟨d,h,_⟩ r H Q hn hr;have:=hz (tc M0h tn);refine iA [0,1]<|vQ<|iA [0,1,10]<|cD H (fun H=>iA [4]<|a8<|fR<|hr H) fun H=>vK<|fQ<|jN r (fun(_:Unit)=>Z [] []) (Xk) (fun _ H=>?_) (fun _ c j f=>?_)
 ·refine iA [4]<|a8<|hr H
 refine iA [0,1,5]<|vB<|lX (fun(a:Int)=>Z [p 0 (L y158 d),p 1 (L y158 h),p 5 (I a)] []) 0 H fun _ i e g b a H=>vQ<|iA [0,1,5,14]<|cD H (fun H=>?_) (fun H=>?_)
 ·refine vK<|fQ<|vQ<|vB<|iB [0,1,5,26] H fun H=>cD H (fun H=>iA [4]<|a8<|h9<|fR<|b<|h9<|f<|hr H) fun H=>vK<|fK<|fQ<|jB [0,1,5] H fun H=>e H
 exact vE<|fE<|g<|fX rfl<|c H
def JH(a:A7)(b:A7):Option Bool :=
 if(!decide (a.1=b.1)) then
  some false
 else
  if(a.2.1 != b.2.1) then
   some false
  else
   if(a.2.2.1 != b.2.2.1) then
    some false
   else
    if(!a.2.2.2==b.2.2.2) then
     some false
    else
     some true
def O0a:Ct:=c8 249 [.agg y293,.agg y293] (fun x=>JH x.1 x.2.1) (fun r:Bool=>B r) (fun _=>())
theorem M0i:Ok prog O0a:=by
 refine c9 [.tmp 4] func249 ?_;intro y ⟨_,_,_⟩ r H Q hn hr;refine iA [2,3]<|vQ<|iA [2,3,9]<|cD H (fun H=>iA [4]<|a8<|fR<|hr H) fun H=>vK<|fQ<|vQ<|iA [2,3,14]<|cD H (fun H=>iA [4]<|a8<|fR<|hr H) fun H=>vK<|fQ<|vQ<|iA [2,3,19]<|cD H (fun H=>iA [4]<|a8<|fR<|hr H) fun H=>vK<|fQ<|vQ<|iA [24]<|cD H (fun H=>iA [4]<|a8<|fR<|hr H) fun H=>vK<|fQ<|iA [4]<|a8<|hr H
def Xm:Unit->Option Bool
 | _ =>
 some true
def D0x(b:List A7)(c:List A7)(d:Int->Option Bool):Int->Option Bool
 | a =>
 if(decide (a < (b.length:Int))) then
  gd (ix a b.length/\ix a c.length/\(JH (b.getD a.toNat (a7 y293)) (c.getD a.toNat (a7 y293))).isSome/\True) <|
  if(!vl (JH (b.getD a.toNat (a7 y293)) (c.getD a.toNat (a7 y293)))) then
   some false
  else
   gd (c7 (a+1)/\True) <|
   d (a+1)
 else
  Xm ()
def JI(a:List A7)(b:List A7):Option Bool :=
 if((a.length:Int) != (b.length:Int)) then
  some false
 else
  lp (D0x a b) 0
def O0s:Ct:=c8 220 [.dat y293.sl,.dat y293.sl] (fun x=>JI x.1 x.2.1) (fun r:Bool=>B r) (fun _=>())
theorem M0q:Ok prog O0s:=by
 refine c9 [.tmp 4] func220 ?_;intro y ⟨d,h,_⟩ r H Q hn hr;have:=hz (tc M0i tn);refine iA [0,1]<|vQ<|iA [0,1,10]<|cD H (fun H=>iA [4]<|a8<|fR<|hr H) fun H=>vK<|fQ<|jN r (fun(_:Unit)=>Z [] []) (Xm) (fun _ H=>?_) (fun _ c j f=>?_)
 ·refine iA [4]<|a8<|hr H
 refine iA [0,1,5]<|vB<|lX (fun(a:Int)=>Z [p 0 (L y293 d),p 1 (L y293 h),p 5 (I a)] []) 0 H fun _ i e g b a H=>vQ<|iA [0,1,5,14]<|cD H (fun H=>?_) (fun H=>?_)
 ·refine vK<|fQ<|vQ<|vB<|iB [0,1,5,26] H fun H=>cD H (fun H=>iA [4]<|a8<|h9<|fR<|b<|h9<|f<|hr H) fun H=>vK<|fK<|fQ<|jB [0,1,5] H fun H=>e H
 exact vE<|fE<|g<|fX rfl<|c H
def JJ(a:l6)(b:l6):Option Bool :=
 if(!decide (a.1=b.1)) then
  some false
 else
  if(a.2.1 != b.2.1) then
   some false
  else
   gd ((JI a.2.2.1 b.2.2.1).isSome/\True) <|
   if(!vl (JI a.2.2.1 b.2.2.1)) then
    some false
   else
    gd ((JG a.2.2.2.1 b.2.2.2.1).isSome/\True) <|
    if(!vl (JG a.2.2.2.1 b.2.2.2.1)) then
     some false
    else
     gd ((G7 a.2.2.2.2.1 b.2.2.2.2.1).isSome/\True) <|
     if(!vl (G7 a.2.2.2.2.1 b.2.2.2.2.1)) then
      some false
     else
      if(a.2.2.2.2.2.1 != b.2.2.2.2.2.1) then
       some false
      else
       if(a.2.2.2.2.2.2 != b.2.2.2.2.2.2) then
        some false
       else
        some true
def P0g:Ct:=c8 172 [.agg y153,.agg y153] (fun x=>JJ x.1 x.2.1) (fun r:Bool=>B r) (fun _=>())
theorem M0I:Ok prog P0g:=by
 refine c9 [.tmp 4] func172 ?_;intro y ⟨_,_,_⟩ r H Q hn hr;have:=hz (tc Jv (tc M0p (tc M0q tn)));refine iA [2,3]<|vQ<|iA [2,3,9]<|cD H (fun H=>iA [4]<|a8<|fR<|hr H) fun H=>vK<|fQ<|vQ<|iA [2,3,14]<|cD H (fun H=>iA [4]<|a8<|fR<|hr H) fun H=>vK<|fQ<|vQ<|iB [2,3,20] H fun H=>cD H (fun H=>iA [4]<|a8<|fR<|hr H) fun H=>vK<|fQ<|vQ<|iB [2,3,26] H fun H=>cD H (fun H=>iA [4]<|a8<|fR<|hr H) fun H=>vK<|fQ<|vQ<|iB [2,3,32] H fun H=>cD H (fun H=>iA [4]<|a8<|fR<|hr H) fun H=>vK<|fQ<|vQ<|iA [2,3,37]<|cD H (fun H=>iA [4]<|a8<|fR<|hr H) fun H=>vK<|fQ<|vQ<|iA [42]<|cD H (fun H=>iA [4]<|a8<|fR<|hr H) fun H=>vK<|fQ<|iA [4]<|a8<|hr H
def Xn:Unit->Option Bool
 | _ =>
 some true
def E0o(b:List l6)(c:List l6)(d:Int->Option Bool):Int->Option Bool
 | a =>
 if(decide (a < (b.length:Int))) then
  gd (ix a b.length/\ix a c.length/\(JJ (b.getD a.toNat (a7 y153)) (c.getD a.toNat (a7 y153))).isSome/\True) <|
  if(!vl (JJ (b.getD a.toNat (a7 y153)) (c.getD a.toNat (a7 y153)))) then
   some false
  else
   gd (c7 (a+1)/\True) <|
   d (a+1)
 else
  Xn ()
def JK(a:List l6)(b:List l6):Option Bool :=
 if((a.length:Int) != (b.length:Int)) then
  some false
 else
  lp (E0o a b) 0
def Q0c:Ct:=c8 113 [.dat y153.sl,.dat y153.sl] (fun x=>JK x.1 x.2.1) (fun r:Bool=>B r) (fun _=>())
theorem N0c:Ok prog Q0c:=by
 refine c9 [.tmp 4] func113 ?_;intro y ⟨d,h,_⟩ r H Q hn hr;have:=hz (tc M0I tn);refine iA [0,1]<|vQ<|iA [0,1,10]<|cD H (fun H=>iA [4]<|a8<|fR<|hr H) fun H=>vK<|fQ<|jN r (fun(_:Unit)=>Z [] []) (Xn) (fun _ H=>?_) (fun _ c j f=>?_)
 ·refine iA [4]<|a8<|hr H
 refine iA [0,1,5]<|vB<|lX (fun(a:Int)=>Z [p 0 (L y153 d),p 1 (L y153 h),p 5 (I a)] []) 0 H fun _ i e g b a H=>vQ<|iA [0,1,5,14]<|cD H (fun H=>?_) (fun H=>?_)
 ·refine vK<|fQ<|vQ<|vB<|iB [0,1,5,26] H fun H=>cD H (fun H=>iA [4]<|a8<|h9<|fR<|b<|h9<|f<|hr H) fun H=>vK<|fK<|fQ<|jB [0,1,5] H fun H=>e H
 exact vE<|fE<|g<|fX rfl<|c H
def JL(a:List l6)(b:List l6):Option Bool :=
 gd ((JK a b).isSome/\True) <|
 if(!vl (JK a b)) then
  some false
 else
  some true
def k54:Ct:=c8 54 [.agg y153.sl,.agg y153.sl] (fun x=>JL x.1 x.2.1) (fun r:Bool=>B r) (fun _=>())
theorem o54:Ok prog k54:=by
 refine c9 [.tmp 4] func54 ?_;intro y ⟨_,_,_⟩ r H Q hn hr;have:=hz (tc N0c tn);refine iA [2,3]<|vQ<|iB [10] H fun H=>cD H (fun H=>iA [4]<|a8<|fR<|hr H) fun H=>vK<|fQ<|iA [4]<|a8<|hr H
def JM(a:j1)(b:j1):Option Bool :=
 gd ((JL a.1 b.1).isSome/\True) <|
 if(!vl (JL a.1 b.1)) then
  some false
 else
  gd ((JD a.2.1 b.2.1).isSome/\True) <|
  if(!vl (JD a.2.1 b.2.1)) then
   some false
  else
   gd ((Jx a.2.2 b.2.2).isSome/\True) <|
   if(!vl (Jx a.2.2 b.2.2)) then
    some false
   else
    some true
def k18:Ct:=c8 18 [.agg l5,.agg l5] (fun x=>JM x.1 x.2.1) (fun r:Bool=>B r) (fun _=>())
theorem o18:Ok prog k18:=by
 refine c9 [.tmp 4] func18 ?_;intro y ⟨_,_,_⟩ r H Q hn hr;have:=hz (tc o56 (tc o55 (tc o54 tn)));refine iA [2,3]<|vQ<|iB [2,3,10] H fun H=>cD H (fun H=>iA [4]<|a8<|fR<|hr H) fun H=>vK<|fQ<|vQ<|iB [2,3,16] H fun H=>cD H (fun H=>iA [4]<|a8<|fR<|hr H) fun H=>vK<|fQ<|vQ<|iB [22] H fun H=>cD H (fun H=>iA [4]<|a8<|fR<|hr H) fun H=>vK<|fQ<|iA [4]<|a8<|hr H
def BN(a:s7)(b:s7):Option Bool :=
 if(a.1 != b.1) then
  some false
 else
  if(a.2 != b.2) then
   some false
  else
   some true
def k66:Ct:=c8 66 [.agg y73,.agg y73] (fun x=>BN x.1 x.2.1) (fun r:Bool=>B r) (fun _=>())
theorem Xo:Ok prog k66:=by
 refine c9 [.tmp 4] func66 ?_;intro y ⟨_,_,_⟩ r H Q hn hr;refine iA [2,3]<|vQ<|iA [2,3,9]<|cD H (fun H=>iA [4]<|a8<|fR<|hr H) fun H=>vK<|fQ<|vQ<|iA [14]<|cD H (fun H=>iA [4]<|a8<|fR<|hr H) fun H=>vK<|fQ<|iA [4]<|a8<|hr H
def JN(a:r4)(b:r4):Option Bool :=
 if(a.1 != b.1) then
  some false
 else
  gd ((BN a.2.1 b.2.1).isSome/\True) <|
  if(!vl (BN a.2.1 b.2.1)) then
   some false
  else
   gd ((BN a.2.2 b.2.2).isSome/\True) <|
   if(!vl (BN a.2.2 b.2.2)) then
    some false
   else
    some true
def k24:Ct:=c8 24 [.agg y75,.agg y75] (fun x=>JN x.1 x.2.1) (fun r:Bool=>B r) (fun _=>())
theorem o24:Ok prog k24:=by
 refine c9 [.tmp 4] func24 ?_;intro y ⟨_,_,_⟩ r H Q hn hr;have:=hz (tc Xo tn);refine iA [2,3]<|vQ<|iA [2,3,9]<|cD H (fun H=>iA [4]<|a8<|fR<|hr H) fun H=>vK<|fQ<|vQ<|iB [2,3,15] H fun H=>cD H (fun H=>iA [4]<|a8<|fR<|hr H) fun H=>vK<|fQ<|vQ<|iB [21] H fun H=>cD H (fun H=>iA [4]<|a8<|fR<|hr H) fun H=>vK<|fQ<|iA [4]<|a8<|hr H
def Xp:Unit->Option Bool
 | _ =>
 some true
def H0a(b:List r4)(c:List r4)(d:Int->Option Bool):Int->Option Bool
 | a =>
 if(decide (a < (b.length:Int))) then
  gd (ix a b.length/\ix a c.length/\(JN (b.getD a.toNat (a7 y75)) (c.getD a.toNat (a7 y75))).isSome/\True) <|
  if(!vl (JN (b.getD a.toNat (a7 y75)) (c.getD a.toNat (a7 y75)))) then
   some false
  else
   gd (c7 (a+1)/\True) <|
   d (a+1)
 else
  Xp ()
def JO(a:List r4)(b:List r4):Option Bool :=
 if((a.length:Int) != (b.length:Int)) then
  some false
 else
  lp (H0a a b) 0
def k20:Ct:=c8 20 [.dat y75.sl,.dat y75.sl] (fun x=>JO x.1 x.2.1) (fun r:Bool=>B r) (fun _=>())
theorem o20:Ok prog k20:=by
 refine c9 [.tmp 4] func20 ?_;intro y ⟨d,h,_⟩ r H Q hn hr;have:=hz (tc o24 tn);refine iA [0,1]<|vQ<|iA [0,1,10]<|cD H (fun H=>iA [4]<|a8<|fR<|hr H) fun H=>vK<|fQ<|jN r (fun(_:Unit)=>Z [] []) (Xp) (fun _ H=>?_) (fun _ c j f=>?_)
 ·refine iA [4]<|a8<|hr H
 refine iA [0,1,5]<|vB<|lX (fun(a:Int)=>Z [p 0 (L y75 d),p 1 (L y75 h),p 5 (I a)] []) 0 H fun _ i e g b a H=>vQ<|iA [0,1,5,14]<|cD H (fun H=>?_) (fun H=>?_)
 ·refine vK<|fQ<|vQ<|vB<|iB [0,1,5,26] H fun H=>cD H (fun H=>iA [4]<|a8<|h9<|fR<|b<|h9<|f<|hr H) fun H=>vK<|fK<|fQ<|jB [0,1,5] H fun H=>e H
 exact vE<|fE<|g<|fX rfl<|c H
def Xq:Unit->Option Bool
 | _ =>
 some true
def G0P(b:List s7)(c:List s7)(d:Int->Option Bool):Int->Option Bool
 | a =>
 if(decide (a < (b.length:Int))) then
  gd (ix a b.length/\ix a c.length/\(BN (b.getD a.toNat (a7 y73)) (c.getD a.toNat (a7 y73))).isSome/\True) <|
  if(!vl (BN (b.getD a.toNat (a7 y73)) (c.getD a.toNat (a7 y73)))) then
   some false
  else
   gd (c7 (a+1)/\True) <|
   d (a+1)
 else
  Xq ()
def DI(a:List s7)(b:List s7):Option Bool :=
 if((a.length:Int) != (b.length:Int)) then
  some false
 else
  lp (G0P a b) 0
def k58:Ct:=c8 58 [.dat y73.sl,.dat y73.sl] (fun x=>DI x.1 x.2.1) (fun r:Bool=>B r) (fun _=>())
theorem o58:Ok prog k58:=by
 refine c9 [.tmp 4] func58 ?_;intro y ⟨d,h,_⟩ r H Q hn hr;have:=hz (tc Xo tn);refine iA [0,1]<|vQ<|iA [0,1,10]<|cD H (fun H=>iA [4]<|a8<|fR<|hr H) fun H=>vK<|fQ<|jN r (fun(_:Unit)=>Z [] []) (Xq) (fun _ H=>?_) (fun _ c j f=>?_)
 ·refine iA [4]<|a8<|hr H
 refine iA [0,1,5]<|vB<|lX (fun(a:Int)=>Z [p 0 (L y73 d),p 1 (L y73 h),p 5 (I a)] []) 0 H fun _ i e g b a H=>vQ<|iA [0,1,5,14]<|cD H (fun H=>?_) (fun H=>?_)
 ·refine vK<|fQ<|vQ<|vB<|iB [0,1,5,26] H fun H=>cD H (fun H=>iA [4]<|a8<|h9<|fR<|b<|h9<|f<|hr H) fun H=>vK<|fK<|fQ<|jB [0,1,5] H fun H=>e H
 exact vE<|fE<|g<|fX rfl<|c H
def Xr:Unit->Option Bool
 | _ =>
 some true
def G0Q(b:List Bool)(c:List Bool)(d:Int->Option Bool):Int->Option Bool
 | a =>
 if(decide (a < (b.length:Int))) then
  gd (ix a b.length/\ix a c.length/\True) <|
  if(!b.getD a.toNat false==c.getD a.toNat false) then
   some false
  else
   gd (c7 (a+1)/\True) <|
   d (a+1)
 else
  Xr ()
def JP(a:List Bool)(b:List Bool):Option Bool :=
 if((a.length:Int) != (b.length:Int)) then
  some false
 else
  lp (G0Q a b) 0
def k57:Ct:=c8 57 [.dat Ty.bool.sl,.dat Ty.bool.sl] (fun x=>JP x.1 x.2.1) (fun r:Bool=>B r) (fun _=>())
theorem o57:Ok prog k57:=by
 refine c9 [.tmp 4] func57 ?_;intro y ⟨d,h,_⟩ r H Q hn hr;refine iA [0,1]<|vQ<|iA [0,1,10]<|cD H (fun H=>iA [4]<|a8<|fR<|hr H) fun H=>vK<|fQ<|jN r (fun(_:Unit)=>Z [] []) (Xr) (fun _ H=>?_) (fun _ c j f=>?_)
 ·refine iA [4]<|a8<|hr H
 refine iA [0,1,5]<|vB<|lX (fun(a:Int)=>Z [p 0 (L Ty.bool d),p 1 (L Ty.bool h),p 5 (I a)] []) 0 H fun _ i e g b a H=>vQ<|iA [0,1,5,14]<|cD H (fun H=>?_) (fun H=>?_)
 ·refine vK<|fQ<|vQ<|vB<|iB [0,1,5,25] H fun H=>cD H (fun H=>iA [4]<|a8<|h9<|fR<|b<|h9<|f<|hr H) fun H=>vK<|fK<|fQ<|jB [0,1,5] H fun H=>e H
 exact vE<|fE<|g<|fX rfl<|c H
def JQ(a:A3)(b:A3):Option Bool :=
 gd ((JP a.1 b.1).isSome/\True) <|
 if(!vl (JP a.1 b.1)) then
  some false
 else
  gd ((DI a.2.1 b.2.1).isSome/\True) <|
  if(!vl (DI a.2.1 b.2.1)) then
   some false
  else
   gd ((DI a.2.2 b.2.2).isSome/\True) <|
   if(!vl (DI a.2.2 b.2.2)) then
    some false
   else
    some true
def k21:Ct:=c8 21 [.agg y65,.agg y65] (fun x=>JQ x.1 x.2.1) (fun r:Bool=>B r) (fun _=>())
theorem o21:Ok prog k21:=by
 refine c9 [.tmp 4] func21 ?_;intro y ⟨_,_,_⟩ r H Q hn hr;have:=hz (tc o58 (tc o57 tn));refine iA [2,3]<|vQ<|iB [2,3,10] H fun H=>cD H (fun H=>iA [4]<|a8<|fR<|hr H) fun H=>vK<|fQ<|vQ<|iB [2,3,16] H fun H=>cD H (fun H=>iA [4]<|a8<|fR<|hr H) fun H=>vK<|fQ<|vQ<|iB [22] H fun H=>cD H (fun H=>iA [4]<|a8<|fR<|hr H) fun H=>vK<|fQ<|iA [4]<|a8<|hr H
def DJ(a:Int):Option Bool :=
 some (a==0||a==1)
def k52:Ct:=c8 52 [.dat i64] (fun x=>DJ x.1) (fun r:Bool=>B r) (fun _=>())
theorem o52:Ok prog k52:=by
 refine c9 [.tmp 2] func52 ?_;intro y ⟨_,_⟩ r H Q hn hr;refine iA [0]<|iA [2]<|a8<|hr H
def BO(a:s7)(b:Int):Option Int :=
 if(b==0) then
  some a.1
 else
  some a.2
def Q0h:Ct:=c8 108 [.agg y73,.dat i64] (fun x=>BO x.1 x.2.1) (fun r:Int=>I r) (fun _=>())
theorem MA:Ok prog Q0h:=by
 refine c9 [.tmp 4] func108 ?_;intro y ⟨_,_,_⟩ r H Q hn hr;refine iA [1,2]<|vQ<|iA [2,6]<|cD H (fun H=>iA [4]<|a8<|fR<|hr H) fun H=>vK<|fQ<|iA [4]<|a8<|hr H
def Gz(a:s7)(b:s7):Option s7 :=
 gd (c7 (a.1+b.1)/\c7 (a.2+b.2)/\True) <|
 some (a.1+b.1,a.2+b.2)
def Q0d:Ct:=c8 112 [.agg y73,.agg y73] (fun x=>Gz x.1 x.2.1) (fun r:s7=>AV.agg [I r.1,I r.2]) (fun _=>())
theorem N0d:Ok prog Q0d:=by
 refine c9 [.cell 4 73] func112 ?_;intro y ⟨_,_,_⟩ r H Q hn hr;refine iA [2,3,4]<|iB [4] H fun H=>a8<|hr H
def Ak(b:Int)(a:Int)(c:Int):Option Int :=
 gd (0<a/\0<a/\True) <|
 if(c==0&&decide (b.tmod a<0)) then
  gd (c7 (b.tdiv a-1)/\True) <|
  some (b.tdiv a-1)
 else
  if(c==1&&decide (0<b.tmod a)) then
   gd (c7 (b.tdiv a+1)/\True) <|
   some (b.tdiv a+1)
  else
   some (b.tdiv a)
def O0w:Ct:=c8 216 [.dat i64,.dat i64,.dat i64] (fun x=>Ak x.1 x.2.1 x.2.2.1) (fun r:Int=>I r) (fun _=>())
theorem CD:Ok prog O0w:=by
 refine c9 [.tmp 6] func216 ?_;intro y ⟨_,_,_,_⟩ r H Q hn hr;refine iA [0,1,2]<|iB [2,7,8] H fun H=>vQ<|vB<|iA [2,7,8,15]<|cD H (fun H=>iB [6] H fun H=>a8<|h9<|fR<|hr H) fun H=>iA [7,24]<|cD H (fun H=>iB [6] H fun H=>a8<|h9<|fR<|hr H) fun H=>vK<|fK<|fQ<|iA [6]<|a8<|hr H
def Xs:Int->Option Int
 | a =>
 some a
def Qg(d:Int)(c:Int×Int->Option Int):Int×Int->Option Int
 | (a,b) =>
 if(decide (a<b)) then
  gd (c7 (a+b)/\c7 (a+b+(1:Int))/\(0:Int) < (2:Int)/\True) <|
  gd (c7 ((a+b+1).tdiv 2*(a+b+1).tdiv 2)/\True) <|
  if(decide ((a+b+1).tdiv 2*(a+b+1).tdiv 2<=d)) then
   c (((a+b+1).tdiv 2,b))
  else
   gd (c7 ((a+b+1).tdiv 2-1)/\True) <|
   c ((a,(a+b+1).tdiv 2-1))
 else
  Xs a
def JR(a:Int):Option Int :=
 lp (Qg a) (0,3000000000)
def O0b:Ct:=c8 248 [.dat i64] (fun x=>JR x.1) (fun r:Int=>I r) (fun _=>())
theorem Xt:Ok prog O0b:=by
 refine c9 [.tmp 2] func248 ?_;intro y ⟨f,_⟩ r H Q hn hr;refine iA [0]<|iA [0,3,4]<|jN r (fun(b:Int)=>Z [p 3 (I b)] []) (Xs) (fun b H=>?_) (fun _ e j k=>?_)
 ·refine iA [2]<|a8<|hr H
 refine vB<|lX (fun((d,a):Int×Int)=>Z [p 0 (J f),p 3 (I d),p 4 (I a)] []) (0,3000000000) H fun _ i c g h ⟨d,a⟩ H=>vQ<|iA [0,3,4,8]<|cD H (fun H=>?_) (fun H=>?_)
 ·refine vK<|fQ<|vB<|iB [0,3,4,5] H fun H=>iB [0,3,4,5,18] H fun H=>cD H (fun H=>jA [0,3,4]<|fK<|c H) fun H=>jB [0,3,4] H fun H=>fK<|c H
 exact vE<|fE<|g<|fX rfl<|e H
def N7(a:Int)(b:Int)(d:Int):Option Int :=
 gd (c7 (500*a)/\c7 (500*a*500)/\c7 (500*a*500*a)/\c7 (b*b)/\c7 (500*a*500*a+b*b)/\True) <|
 gd ((JR (500*a*500*a+b*b)).isSome/\True)<|lt (vl (JR (500*a*500*a+b*b))) fun c =>
 gd (((d==1)=true/\True->c7 (c*c))/\True) <|
 if(d==1&&decide (c*c<500*a*500*a+b*b)) then
  gd ((0:Int) < (500:Int)/\c7 (c.tdiv (500:Int)+(1:Int))/\True) <|
  some (c.tdiv 500+1)
 else
  gd ((Ak c 500 d).isSome/\True)<|lt (vl (Ak c 500 d)) fun e =>
  some e
def O0t:Ct:=c8 219 [.dat i64,.dat i64,.dat i64] (fun x=>N7 x.1 x.2.1 x.2.2.1) (fun r:Int=>I r) (fun _=>())
theorem Xu:Ok prog O0t:=by
 refine c9 [.tmp 6] func219 ?_;intro y ⟨_,_,_,_⟩ r H Q hn hr;have:=hz (tc CD (tc Xt tn));refine iA [0,1,2]<|iB [2,7] H fun H=>iD Xt [2,7,8] H fun _ H=>vQ<|iB [2,8,28] H fun H=>cD H (fun H=>iB [6] H fun H=>a8<|fR<|hr H) fun H=>vK<|fQ<|iD CD [6] H fun _ H=>a8<|hr H
def DK(a:Int):Option Bool :=
 some (a != a)
def N0B:Ct:=c8 283 [.dat i64] (fun x=>DK x.1) (fun r:Bool=>B r) (fun _=>())
theorem L0U:Ok prog N0B:=by
 refine c9 [.tmp 2] func283 ?_;intro y ⟨_,_⟩ r H Q hn hr;refine iA [0]<|iA [2]<|a8<|hr H
def DL(a:Int):Option Bool :=
 some (a != a)
def N0t:Ct:=c8 295 [.dat i64] (fun x=>DL x.1) (fun r:Bool=>B r) (fun _=>())
theorem L0P:Ok prog N0t:=by
 refine c9 [.tmp 2] func295 ?_;intro y ⟨_,_⟩ r H Q hn hr;refine iA [0]<|iA [2]<|a8<|hr H
def JS(a:Int)(b:Int):Option Bool :=
 gd ((DL a).isSome/\(vl (DL a)=true/\True->(DL b).isSome)/\True) <|
 some (vl (DL a)&&!vl (DL b)||decide (a<b))
def N0C:Ct:=c8 282 [.dat i64,.dat i64] (fun x=>JS x.1 x.2.1) (fun r:Bool=>B r) (fun _=>())
theorem L0V:Ok prog N0C:=by
 refine c9 [.tmp 4] func282 ?_;intro y ⟨_,_,_⟩ r H Q hn hr;have:=hz (tc L0P tn);refine iA [0,1]<|iB [4] H fun H=>a8<|hr H
def Qh(b:List Int)(c:Int):Int->Option (Int×Bool)
 | a =>
 gd ((decide (a < (b.length:Int))=true/\True->ix a b.length)/\((b.getD a.toNat 0==c)=false/\decide (a < (b.length:Int))=true/\True->ix a b.length)/\((b.getD a.toNat 0==c)=false/\decide (a < (b.length:Int))=true/\True->(DK (b.getD a.toNat 0)).isSome)/\(vl (DK (b.getD a.toNat 0))=true/\(b.getD a.toNat 0==c)=false/\decide (a < (b.length:Int))=true/\True->(DK c).isSome)/\True) <|
 some ((a,decide (a < (b.length:Int))&&(b.getD a.toNat 0==c||vl (DK (b.getD a.toNat 0))&&vl (DK c))))
def JT(c:List Int)(d:Int)(e:Int×Int->Option (Int×Bool)):Int×Int->Option (Int×Bool)
 | (a,b) =>
 if(decide (a<b)) then
  gd (c7 (a+b)/\((0:Int)<=a+b/\a+b<=(18446744073709551615:Int))/\(((0:Int)<=(1:Int)/\(1:Int)<=(62:Int))/\(0:Int)<=(a+b).fdiv ((2:Int) ^ Int.toNat (1:Int))/\(a+b).fdiv ((2:Int) ^ Int.toNat (1:Int))<=(18446744073709551615:Int))/\c7 ((a+b).fdiv ((2:Int) ^ Int.toNat (1:Int)))/\True) <|
  gd (ix ((a+b).fdiv ((2:Int) ^ Int.toNat (1:Int))) c.length/\(JS (c.getD ((a+b).fdiv ((2:Int) ^ Int.toNat (1:Int))).toNat (0:Int)) d).isSome/\True) <|
  if(vl (JS (c.getD ((a+b).fdiv ((2:Int) ^ Int.toNat (1:Int))).toNat (0:Int)) d)) then
   gd (c7 ((a+b).fdiv ((2:Int) ^ Int.toNat (1:Int))+(1:Int))/\True) <|
   e (((a+b).fdiv ((2:Int) ^ Int.toNat (1:Int))+(1:Int),b))
  else
   e ((a,(a+b).fdiv ((2:Int) ^ Int.toNat (1:Int))))
 else
  Qh c d a
def JU(a:List Int)(b:Int):Option (Int×Bool) :=
 lp (JT a b) ((0,(a.length:Int)))
def N0N:Ct:=c8 267 [.dat i64.sl,.dat i64] (fun x=>JU x.1 x.2.1) (fun r:Int×Bool=>AV.tup [I r.1,B r.2]) (fun _=>())
theorem Xw:Ok prog N0N:=by
 refine c9 [.tmp 4,.tmp 5] func267 ?_;intro y ⟨a,b,_⟩ r H Q hn hr;have:=hz (tc L0U (tc L0V tn));refine iA [0,1]<|iA [0,1,6]<|iA [0,1,6,7,8]<|jN r (fun(f:Int)=>Z [p 0 (L i64 a),p 1 (J b),p 6 (I (a.length:Int)),p 7 (I f)] []) (Qh a b) (fun f H=>?_) (fun _ g k l=>?_)
 ·refine iB [4,5] H fun H=>a8<|hr H
 refine vB<|lX (fun((c,d):Int×Int)=>Z [p 0 (L i64 a),p 1 (J b),p 6 (I (a.length:Int)),p 7 (I c),p 8 (I d)] []) ((0,(a.length:Int))) H fun _ j e h i ⟨c,d⟩ H=>vQ<|iA [0,1,6,7,8,15]<|cD H (fun H=>?_) (fun H=>?_)
 ·refine vK<|fQ<|vB<|iB [0,1,6,7,8,9] H fun H=>iB [0,1,6,7,8,9,27] H fun H=>cD H (fun H=>jB [0,1,6,7,8] H fun H=>fK<|e H) fun H=>jA [0,1,6,7,8]<|fK<|e H
 exact vE<|fE<|h<|fX rfl<|g H
def J3(a:List Int)(e:Int):Option (List Al×Int) :=
 gd (ix 0 a.length/\c7 ((a.length:Int)-1)/\ix ((a.length:Int)-1) a.length/\True)<|lt (min (max e (a.getD (Int.toNat (0:Int)) (0:Int))) (a.getD ((a.length:Int)-(1:Int)).toNat (0:Int))) fun c =>
 gd ((JU a c).isSome/\True)<|lt (vl (JU a c)) fun b =>
 if b.2 then
  some (([(b.1,(1:Int))],(1:Int)))
 else
  gd (c7 (b.1-1)/\ix b.1 a.length/\c7 (a.getD b.1.toNat 0-c)/\c7 (b.1-1)/\ix (b.1-1) a.length/\c7 (c-a.getD (b.1-1).toNat 0)/\ix b.1 a.length/\c7 (b.1-1)/\ix (b.1-1) a.length/\c7 (a.getD b.1.toNat 0-a.getD (b.1-1).toNat 0)/\True)<|lt ([(b.1-1,a.getD b.1.toNat 0-c),(b.1,c-a.getD (b.1-1).toNat 0)]) fun d =>
  some ((d,a.getD b.1.toNat 0-a.getD (b.1-1).toNat 0))
def O0c:Ct:=c8 247 [.dat i64.sl,.dat i64] (fun x=>J3 x.1 x.2.1) (fun r:List Al×Int=>AV.tup [AV.ow 322 true M1 r.1,I r.2]) (fun _=>())
theorem Qi:Ok prog O0c:=by
 refine c9 [.tmp 4,.tmp 5] func247 ?_;intro y ⟨a,_,_⟩ r H Q hn hr;have:=hz (tc Xw tn);refine iA [0,1]<|qD (fun c=>Z [p 0 (L i64 a),p 1 (I c)] []) H fun c H=>iD Xw [0,1,6,7] H fun b H=>vQ<|iA [0,1,6,26]<|cD H (fun H=>iA [4,5]<|a8<|fR<|hr H) fun H=>vK<|fQ<|qD (fun d=>Z [p 4 (O 48),p 5 (I (a.getD b.1.toNat 0-a.getD (b.1-1).toNat 0))] [(48,A 322 M1 d 0)]) H fun d H=>a8<|hr H
def GA(d:List Al×Int)(b:List Al×Int)(e:Int):Int->Option Int
 | a =>
 gd (c7 (d.2*b.2)/\(Ak a (d.2*b.2) e).isSome/\True)<|lt (vl (Ak a (d.2*b.2) e)) fun c =>
 some c
def Qj(a:Int)(c:Int×Int->Option Int):Int->Option Int
 | b =>
 gd (c7 (a+1)/\True) <|
 c (b,a+1)
def GB(d:m0)(a:Al)(f:List Al×Int)(g:Int)(i:Int×Int->Option Int)(j:Int×Int->Option Int):Int×Int->Option Int
 | (e,c) =>
 if(decide (c < (f.1.length:Int))) then
  gd (ix c f.1.length/\c.toNat<f.1.length/\True)<|lt (f.1.getD c.toNat (a7 M1)) fun b =>
  gd (c7 (a.1*(d.2.1.length:Int))/\c7 (a.1*(d.2.1.length:Int)+b.1)/\ix (a.1*(d.2.1.length:Int)+b.1) d.2.2.length/\c7 (d.2.2.getD (a.1*(d.2.1.length:Int)+b.1).toNat 0*a.2)/\c7 (d.2.2.getD (a.1*(d.2.1.length:Int)+b.1).toNat 0*a.2*b.2)/\c7 (e+d.2.2.getD (a.1*(d.2.1.length:Int)+b.1).toNat 0*a.2*b.2)/\True)<|lt (e+d.2.2.getD (a.1*(d.2.1.length:Int)+b.1).toNat 0*a.2*b.2) fun h =>
  gd (c7 (c+1)/\True) <|
  j (h,c+1)
 else
  Qj g i e
def DM(f:m0)(e:List Al×Int)(c:List Al×Int)(h:Int)(g:Int×Int->Option Int):Int×Int->Option Int
 | (b,a) =>
 if(decide (a < (c.1.length:Int))) then
  gd (ix a c.1.length/\a.toNat<c.1.length/\True)<|lt (c.1.getD a.toNat (a7 M1)) fun d =>
  lp (GB f d e a g) (b,0)
 else
  GA c e h b
def F3(a:m0)(c:Int)(b:Int)(e:Int):Option Int :=
 gd ((J3 a.1 c).isSome/\True)<|lt (vl (J3 a.1 c)) fun f =>
 gd ((J3 a.2.1 b).isSome/\True)<|lt (vl (J3 a.2.1 b)) fun d =>
 lp (DM a d f e) (0,0)
def O0x:Ct:=c8 215 [.agg y269,.dat i64,.dat i64,.dat i64] (fun x=>F3 x.1 x.2.1 x.2.2.1 x.2.2.2.1) (fun r:Int=>I r) (fun _=>())
theorem MB:Ok prog O0x:=by
 refine c9 [.tmp 8] func215 ?_;intro y ⟨j,_,_,g,_⟩ r H Q hn hr;have:=hz (tc CD (tc Qi tn));refine iA [1,2,3,4]<|iD Qi [2,3,4,9,10] H fun a H=>iD Qi [3,4,9,10,11,12] H fun b H=>iA [3,4,9,10,11,12,13]<|jN r (fun(m:Int)=>Z [p 3 (J g),p 10 (I a.2),p 12 (I b.2),p 13 (I m)] []) (GA a b g) (fun m H=>?_) (fun _ o z F=>?_)
 ·refine iD CD [8] H fun _ H=>a8<|hr H
 refine iA [3,4,10,11,12,13,32,33,34]<|vB<|lX (fun((e,c):Int×Int)=>Z (G5 g a.2 b.2 e [p 32 (O 22),p 33 (I (a.1.length:Int)),p 34 (I c)]) (W8 b.1 a.1 j)) (0,0) H fun _ s t v w ⟨e,c⟩ H=>iA [3,4,10,11,12,13,32,33,34,35]<|vQ<|cD H (fun H=>?_) (fun H=>?_)
 ·refine vK<|fQ<|jN r (fun(k:Int)=>Z (G5 g a.2 b.2 k [p 32 (O 22),p 33 (I (a.1.length:Int)),p 34 (I c)]) (W8 b.1 a.1 j)) (Qj c s) (fun k H=>?_) (fun _ n G E=>?_)
  ·refine jB [3,4,10,11,12,13,32,33,34] H fun H=>t H
  refine vB<|qD (fun d=>Z (G5 g a.2 b.2 e [p 15 (R 15),p 32 (O 22),p 33 (I (a.1.length:Int)),p 34 (I c)]) ((15,bx 322 (A6 true M1 d))::W8 b.1 a.1 j)) H fun d H=>iA [3,4,10,11,12,13,15,32,33,34,38,39,40]<|vB<|lX (fun((h,f):Int×Int)=>Z (G5 g a.2 b.2 h [p 15 (R 15),p 32 (O 22),p 33 (I (a.1.length:Int)),p 34 (I c),p 38 (O 29),p 39 (I (b.1.length:Int)),p 40 (I f)]) ((15,bx 322 (A6 true M1 d))::W8 b.1 a.1 j)) (e,0) H fun _ P q u x ⟨h,f⟩ H=>iA [3,4,10,11,12,13,15,32,33,34,38,39,40,41]<|vQ<|cD H (fun H=>vK<|fQ<|vQ<|vB<|qD (fun i=>Z (G5 g a.2 b.2 h [p 15 (R 15),p 17 (R 17),p 32 (O 22),p 33 (I (a.1.length:Int)),p 34 (I c),p 38 (O 29),p 39 (I (b.1.length:Int)),p 40 (I f)]) ((17,bx 322 (A6 true M1 i))::(15,bx 322 (A6 true M1 d))::W8 b.1 a.1 j)) H fun i H=>zD (fun l=>Z (G5 g a.2 b.2 l [p 15 (R 15),p 32 (O 22),p 33 (I (a.1.length:Int)),p 34 (I c),p 38 (O 29),p 39 (I (b.1.length:Int)),p 40 (I f)]) ((17,bx 322 (A6 true M1 i))::(15,bx 322 (A6 true M1 d))::W8 b.1 a.1 j)) H fun l H=>fK<|fQ<|jB [3,4,10,11,12,13,15,32,33,34,38,39,40] H fun H=>q H) fun H=>vE<|fE<|u<|fX rfl<|fK<|n H
 exact vE<|fE<|v<|fX rfl<|o H
def Am(a:w9)(b:j6):Option r9 :=
 gd ((0:Int) < (2:Int)/\ix (b.2.1.tdiv (2:Int)) a.2.1.length/\ix (a.2.1.getD (b.2.1.tdiv (2:Int)).toNat (a7 y235)).1 a.1.2.1.1.length/\True)<|lt (a.1.2.1.1.getD (a.2.1.getD (b.2.1.tdiv 2).toNat (a7 y235)).1.toNat (a7 y155)) fun c =>
 gd (ix c.2.1 a.1.1.length/\ix b.2.2.2 (a.1.1.getD c.2.1.toNat (a7 y153)).2.2.2.1.length/\True)<|lt ((a.1.1.getD c.2.1.toNat (a7 y153)).2.2.2.1.getD b.2.2.2.toNat (a7 y158)) fun d =>
 some d
def O0y:Ct:=c8 214 [.dat y189.pt,.agg y138] (fun x=>Am x.1 x.2.1) (fun r:r9=>AV.agg [I r.1,I r.2.1,I r.2.2.1,I r.2.2.2.1,L y269 r.2.2.2.2.1,L y269 r.2.2.2.2.2]) (fun _=>())
theorem Xx:Ok prog O0y:=by
 refine c9 [.cell 4 158] func214 ?_;intro y ⟨d,c,_⟩ r H Q hn hr;refine iA [0,3,4]<|qD (fun a=>Z [p 0 (D y189.pt d),p 3 (R 3),p 4 (R 4),p 5 (R 5)] [(5,K 155 y155 a),(4,bx 158 [I 0,I 0,I 0,I 0,nil,nil]),(3,K 138 y138 c)]) H fun a H=>qD (fun b=>Z [p 4 (R 4)] [(4,K 158 y158 b),(5,K 155 y155 a),(3,K 138 y138 c)]) H fun b H=>a8<|hr H
def AX(a:w9)(b:j6):Option Int :=
 gd ((0:Int) < (2:Int)/\ix (b.2.1.tdiv (2:Int)) a.2.1.length/\True)<|lt (a.2.1.getD (b.2.1.tdiv 2).toNat (a7 y235)) fun c =>
 some c.2.2.1
def P0i:Ct:=c8 170 [.dat y189.pt,.agg y138] (fun x=>AX x.1 x.2.1) (fun r:Int=>I r) (fun _=>())
theorem GC:Ok prog P0i:=by
 refine c9 [.tmp 4] func170 ?_;intro y ⟨_,b,_⟩ r H Q hn hr;refine iA [0,3]<|qD (fun a=>Z [p 4 (J a.2.2.1)] [(3,K 138 y138 b)]) H fun a H=>a8<|hr H
def B3(a:w9)(f:Int)(d:Int)(e:Int):Option Int :=
 gd (ix f a.2.2.1.length/\True)<|lt (a.2.2.1.getD f.toNat (a7 y138)) fun b =>
 gd ((AX a b).isSome/\True)<|lt (vl (AX a b)) fun c =>
 if(b.2.2.1==1) then
  gd ((Am a b).isSome/\(0:Int) < (2:Int)/\ix (b.2.1.tmod (2:Int)) (vl (Am a b)).2.2.2.2.2.length/\ix c a.2.2.2.1.length/\(F3 ((vl (Am a b)).2.2.2.2.2.getD (b.2.1.tmod (2:Int)).toNat (a7 y269)) d (a.2.2.2.1.getD c.toNat (0:Int)) e).isSome/\True)<|lt (vl (F3 ((vl (Am a b)).2.2.2.2.2.getD (b.2.1.tmod 2).toNat (a7 y269)) d (a.2.2.2.1.getD c.toNat 0) e)) fun g =>
  some (min g 1000000)
 else
  gd (ix c a.2.2.2.2.1.length/\ix b.2.2.2 (List.length (a.2.2.2.2.1.getD c.toNat []))/\(N7 d (List.getD (a.2.2.2.2.1.getD c.toNat []) b.2.2.2.toNat 0) e).isSome/\True)<|lt (vl (N7 d (List.getD (a.2.2.2.2.1.getD c.toNat []) b.2.2.2.toNat 0) e)) fun h =>
  some (min h 1000000)
def P0h:Ct:=c8 171 [.dat y189.pt,.dat i64,.dat i64,.dat i64] (fun x=>B3 x.1 x.2.1 x.2.2.1 x.2.2.2.1) (fun r:Int=>I r) (fun _=>())
theorem M0J:Ok prog P0h:=by
 refine c9 [.tmp 8] func171 ?_;intro y ⟨b,_,d,c,_⟩ r H Q hn hr;have:=hz (tc Xu (tc MB (tc Xx (tc GC tn))));refine iA [0,1,2,3]<|qD (fun a=>Z [p 0 (D y189.pt b),p 2 (J d),p 3 (J c),p 9 (R 9)] [(9,K 138 y138 a)]) H fun a H=>iD GC [0,2,3,9,10] H fun _ H=>vQ<|iA [0,2,3,9,10,23]<|cD H (fun H=>iD MB [8] H fun _ H=>a8<|fR<|hr H) fun H=>vK<|fQ<|iD Xu [8] H fun _ H=>a8<|hr H
def U5(a:Int)(b:Int)(c:Int):Option Int :=
 gd (c7 (a*b)/\(Ak (a*b) 1000 c).isSome/\True)<|lt (vl (Ak (a*b) 1000 c)) fun d =>
 some d
def O0v:Ct:=c8 217 [.dat i64,.dat i64,.dat i64] (fun x=>U5 x.1 x.2.1 x.2.2.1) (fun r:Int=>I r) (fun _=>())
theorem Xy:Ok prog O0v:=by
 refine c9 [.tmp 6] func217 ?_;intro y ⟨_,_,_,_⟩ r H Q hn hr;have:=hz (tc CD tn);refine iA [0,1,2]<|iD CD [6] H fun _ H=>a8<|hr H
def GD(a:q9)(b:Int)(c:Int):Option Int :=
 if(b==1&&c==0) then
  some a.2.1
 else
  if(b==1) then
   some a.2.2.1
  else
   if(c==0) then
    some a.2.2.2.1
   else
    some a.2.2.2.2
def O0u:Ct:=c8 218 [.agg u4,.dat i64,.dat i64] (fun x=>GD x.1 x.2.1 x.2.2.1) (fun r:Int=>I r) (fun _=>())
theorem M0r:Ok prog O0u:=by
 refine c9 [.tmp 6] func218 ?_;intro y ⟨_,_,_,_⟩ r H Q hn hr;refine iA [1,2,3]<|vQ<|vB<|iA [1,2,3,7]<|cD H (fun H=>iA [6]<|a8<|h9<|fR<|hr H) fun H=>iA [2,3,16]<|cD H (fun H=>iA [6]<|a8<|h9<|fR<|hr H) fun H=>iA [3,21]<|cD H (fun H=>iA [6]<|a8<|h9<|fR<|hr H) fun H=>vK<|fK<|fQ<|iA [6]<|a8<|hr H
def U6(c:q9)(b:j6)(a:Int):Int->Option Int
 | d =>
 gd ((GD c b.2.2.1 a).isSome/\(U5 d (vl (GD c b.2.2.1 a)) a).isSome/\True)<|lt (vl (U5 d (vl (GD c b.2.2.1 a)) a)) fun e =>
 some e
def G8(a:w9)(g:q9)(e:Int)(f:Int)(d:Int):Option Int :=
 gd (ix e a.2.2.1.length/\True)<|lt (a.2.2.1.getD e.toNat (a7 y138)) fun b =>
 gd ((AX a b).isSome/\True)<|lt (vl (AX a b)) fun c =>
 if(b.2.2.1==1) then
  gd ((Am a b).isSome/\(0:Int) < (2:Int)/\ix (b.2.1.tmod (2:Int)) (vl (Am a b)).2.2.2.2.1.length/\ix c a.2.2.2.1.length/\(F3 ((vl (Am a b)).2.2.2.2.1.getD (b.2.1.tmod (2:Int)).toNat (a7 y269)) f (a.2.2.2.1.getD c.toNat (0:Int)) d).isSome/\True)<|lt (vl (F3 ((vl (Am a b)).2.2.2.2.1.getD (b.2.1.tmod 2).toNat (a7 y269)) f (a.2.2.2.1.getD c.toNat 0) d)) fun h =>
  U6 g b d h
 else
  gd (ix c a.2.2.2.2.1.length/\ix b.2.2.2 (List.length (a.2.2.2.2.1.getD c.toNat []))/\(Ak (List.getD (a.2.2.2.2.1.getD c.toNat []) b.2.2.2.toNat 0) 1000 d).isSome/\True)<|lt (vl (Ak (List.getD (a.2.2.2.2.1.getD c.toNat []) b.2.2.2.toNat 0) 1000 d)) fun i =>
  U6 g b d i
def P0j:Ct:=c8 169 [.dat y189.pt,.agg u4,.dat i64,.dat i64,.dat i64] (fun x=>G8 x.1 x.2.1 x.2.2.1 x.2.2.2.1 x.2.2.2.2.1) (fun r:Int=>I r) (fun _=>())
theorem M0K:Ok prog P0j:=by
 refine c9 [.tmp 10] func169 ?_;intro y ⟨f,c,_,g,b,_⟩ r H Q hn hr;have:=hz (tc Xy (tc M0r (tc CD (tc MB (tc Xx (tc GC tn))))));refine iA [0,2,3,4,6]<|qD (fun a=>Z [p 0 (D y189.pt f),p 3 (J g),p 4 (J b),p 6 (R 6),p 11 (R 11)] [(11,K 138 y138 a),(6,K 58 u4 c)]) H fun a H=>iD GC [0,3,4,6,11,12] H fun _ H=>iA [0,3,4,6,11,12]<|jN r (fun(e:Int)=>Z [p 4 (J b),p 6 (R 6),p 11 (R 11),p 13 (I e)] [(11,K 138 y138 a),(6,K 58 u4 c)]) (U6 c a b) (fun e H=>?_) (fun _ d h i=>?_)
 ·refine iD Xy [10] H fun _ H=>a8<|hr H
 refine iA [0,3,4,6,11,12,26]<|cD H (fun H=>jD MB [4,6,11,13] H fun _ H=>d H) fun H=>jD CD [4,6,11,13] H fun _ H=>d H
def DN(b:w9)(a:Int)(c:s7):Int×Int->Option (s7×s7)
 | (i,f) =>
 gd ((B3 b a c.1 0).isSome/\(B3 b a c.2 0).isSome/\(B3 b a c.1 1).isSome/\(B3 b a c.2 1).isSome/\True)<|lt ((vl (B3 b a c.1 0),vl (B3 b a c.2 0),vl (B3 b a c.1 1),vl (B3 b a c.2 1))) fun(g,h,d,e) =>
 some (((i,f),min g h,max d e))
def BP(a:w9)(d:q9)(b:Int)(c:s7):Option (s7×s7) :=
 gd ((G8 a d b c.1 0).isSome/\(G8 a d b c.2 0).isSome/\(G8 a d b c.1 1).isSome/\(G8 a d b c.2 1).isSome/\True)<|lt ((vl (G8 a d b c.1 0),vl (G8 a d b c.2 0),vl (G8 a d b c.1 1),vl (G8 a d b c.2 1))) fun(j,g,h,i) =>
 gd (ix b a.2.2.1.length/\True)<|lt (a.2.2.1.getD b.toNat (a7 y138)) fun f =>
 if(decide (0 < (a.2.2.2.2.2.length:Int))&&f.2.2.1==2) then
  gd ((AX a f).isSome/\ix (vl (AX a f)) a.2.2.2.2.2.length/\True)<|lt (vl (AX a f)) fun e =>
  gd (c7 (min j g-a.2.2.2.2.2.getD e.toNat 0)/\c7 (max h i+a.2.2.2.2.2.getD e.toNat 0)/\True) <|
  DN a b c (min j g-a.2.2.2.2.2.getD e.toNat 0,max h i+a.2.2.2.2.2.getD e.toNat 0)
 else
  DN a b c (min j g,max h i)
def Q0e:Ct:=c8 111 [.dat y189.pt,.agg u4,.dat i64,.agg y73] (fun x=>BP x.1 x.2.1 x.2.2.1 x.2.2.2.1) (fun r:s7×s7=>AV.tup [AV.agg [I r.1.1,I r.1.2],AV.agg [I r.2.1,I r.2.2]]) (fun _=>())
theorem Xz:Ok prog Q0e:=by
 refine c9 [.cell 8 73,.cell 9 73] func111 ?_;intro y ⟨e,q,d,a,_⟩ r H Q hn hr;have:=hz (tc M0J (tc GC (tc M0K tn)));refine iA [0,2,5,7,8,9]<|iA [0,2,5,8,9,10,11]<|qD (fun(j,f,g,h)=>Z [p 0 (D y189.pt e),p 2 (J d),p 8 (R 8),p 9 (R 9),p 10 (J a.1),p 11 (J a.2),p 12 (R 12)] [(12,bx 73 [I (min j f),I (max g h)]),(9,bx 73 [I 0,I 0]),(8,bx 73 [I 0,I 0]),(7,K 73 y73 a),(5,K 58 u4 q)]) H fun⟨j,f,g,h⟩ H =>
  jN r (fun((k,i):Int×Int)=>Z [p 0 (D y189.pt e),p 2 (J d),p 8 (R 8),p 9 (R 9),p 10 (J a.1),p 11 (J a.2),p 12 (R 12)] [(12,bx 73 [I k,I i]),(9,bx 73 [I 0,I 0]),(8,bx 73 [I 0,I 0])]) (DN e d a) (fun⟨k,i⟩ H=>?_) (fun _ l t s=>?_)
 ·refine qD (fun(n,o,b,c)=>Z [p 8 (R 8),p 9 (R 9),p 12 (R 12),p 15 (R 15)] [(15,bx 73 [I (min n o),I (max b c)]),(12,bx 73 [I k,I i]),(9,bx 73 [I 0,I 0]),(8,bx 73 [I 0,I 0])]) H fun⟨n,o,b,c⟩ H =>
   iA [8,9] <|
   a8<|hr H
 refine qD (fun m=>Z [p 0 (D y189.pt e),p 2 (J d),p 8 (R 8),p 9 (R 9),p 10 (J a.1),p 11 (J a.2),p 12 (R 12),p 13 (R 13)] [(13,K 138 y138 m),(12,bx 73 [I (min j f),I (max g h)]),(9,bx 73 [I 0,I 0]),(8,bx 73 [I 0,I 0]),(7,K 73 y73 a),(5,K 58 u4 q)]) H fun m H=>iA [0,2,8,9,10,11,12,13,60]<|cD H (fun H=>iD GC [0,2,8,9,10,11,12,14] H fun _ H=>jB [0,2,8,9,10,11,12] H fun H=>l H) fun H=>vK<|l H
def Qk(a:j6)(b:Int):Option Bool :=
 some (a.2.1==b)
def P0k:Ct:=c8 168 [.agg y138,.dat (.pt i64)] (fun x=>Qk x.1 x.2.1) (fun r:Bool=>B r) (fun _=>())
theorem XA:Ok prog P0k:=by
 refine c9 [.tmp 3] func168 ?_;intro y ⟨_,_,_⟩ r H Q hn hr;refine iA [1,2]<|iA [3]<|a8<|hr H
def XB:List Int->Option (List Int)
 | a =>
 some a
def Ql(a:Int)(c:List Int×Int->Option (List Int)):List Int->Option (List Int)
 | b =>
 gd (c7 (a+1)/\True) <|
 c (b,a+1)
def XC(b:D9)(f:Int)(e:List Int×Int->Option (List Int)):List Int×Int->Option (List Int)
 | (c,a) =>
 if(decide (a < (b.1.2.2.1.length:Int))) then
  gd (ix a b.1.2.2.1.length/\True)<|lt (b.1.2.2.1.getD a.toNat (a7 y138)) fun d =>
  gd (ix a b.2.length/\(b.2.getD a.toNat false=true/\True->(Qk d f).isSome)/\True) <|
  if(b.2.getD a.toNat false&&vl (Qk d f)) then
   gd ((c.length+[a].length<=9223372036854775807/\(c.length+[a].length)*8<=140737488355328)/\True) <|
   Ql a e (c++[a])
  else
   Ql a e c
 else
  XB c
def MC(a:D9)(b:Int):Option (List Int) :=
 lp (XC a b) ([],0)
def w0a:Ct:=c8 162 [.dat y126.pt,.fn 168 (.pt i64)] (fun x=>MC x.1 x.2.1) (fun r:List Int=>AV.ow 2 true i64 r) (fun _=>())
theorem MD:Ok prog w0a:=by
 refine c9 [.tmp 4] func162 ?_;intro y ⟨a,d,_⟩ r H Q hn hr;have:=hz (tc XA tn);refine iA [0,1]<|iA [0,1,5]<|jN r (fun(g:List Int)=>Z [p 5 (O 36)] [(36,A 2 i64 g 0)]) (XB) (fun g H=>?_) (fun _ i n q=>?_)
 ·refine iA [4]<|a8<|hr H
 refine iA [0,1,5,14,15,16]<|vB<|lX (fun((c,b):List Int×Int)=>Z [p 0 (D y126.pt a),p 1 (AV.fn 168 [D i64.pt d]),p 5 (O 36),p 14 (L y138 a.1.2.2.1),p 15 (I (a.1.2.2.1.length:Int)),p 16 (I b)] [(36,A 2 i64 c 0)]) ([],0) H fun _ j k l m ⟨c,b⟩ H=>iA [0,1,5,14,15,16,17]<|vQ<|cD H (fun H=>?_) (fun H=>?_)
 ·refine vK<|fQ<|jN r (fun(e:List Int)=>Z [p 0 (D y126.pt a),p 1 (AV.fn 168 [D i64.pt d]),p 5 (O 36),p 14 (L y138 a.1.2.2.1),p 15 (I (a.1.2.2.1.length:Int)),p 16 (I b)] [(36,A 2 i64 e 0)]) (Ql b j) (fun e H=>?_) (fun _ f s o=>?_)
  ·refine jB [0,1,5,14,15,16] H fun H=>k H
  refine vB<|qD (fun h=>Z [p 0 (D y126.pt a),p 1 (AV.fn 168 [D i64.pt d]),p 5 (O 36),p 6 (I b),p 7 (R 7),p 14 (L y138 a.1.2.2.1),p 15 (I (a.1.2.2.1.length:Int)),p 16 (I b)] [(7,K 138 y138 h),(36,A 2 i64 c 0)]) H fun h H=>iB [0,1,5,6,14,15,16,32] H fun H=>cD H (fun H=>jB [0,1,5,14,15,16] H fun H=>fK<|f H) fun H=>vK<|fK<|f H
 exact vE<|fE<|l<|fX rfl<|i H
def DO(a:D9)(b:Int):Option (List Int) :=
 gd ((MC a b).isSome/\True)<|lt (vl (MC a b)) fun c =>
 some c
def Q0f:Ct:=c8 110 [.dat y126.pt,.dat i64] (fun x=>DO x.1 x.2.1) (fun r:List Int=>AV.ow 2 true i64 r) (fun _=>())
theorem XD:Ok prog Q0f:=by
 refine c9 [.tmp 4] func110 ?_;intro y ⟨_,_,_⟩ r H Q hn hr;have:=hz (tc MD (tc XA tn));refine iA [0,3]<|iD MD [4] H fun _ H=>a8<|hr H
def Qm(a:r4)(b:Int):Option Bool :=
 some (a.1==b)
def P0l:Ct:=c8 167 [.agg y75,.dat (.pt i64)] (fun x=>Qm x.1 x.2.1) (fun r:Bool=>B r) (fun _=>())
theorem XE:Ok prog P0l:=by
 refine c9 [.tmp 3] func167 ?_;intro y ⟨_,_,_⟩ r H Q hn hr;refine iA [1,2]<|iA [3]<|a8<|hr H
def XF:Unit->Option Int
 | _ =>
 some (-1)
def XG(b:List r4)(c:Int)(d:Int->Option Int):Int->Option Int
 | a =>
 if(decide (a < (b.length:Int))) then
  gd (ix a b.length/\(Qm (b.getD a.toNat (a7 y75)) c).isSome/\True) <|
  if(vl (Qm (b.getD a.toNat (a7 y75)) c)) then
   some a
  else
   gd (c7 (a+1)/\True) <|
   d (a+1)
 else
  XF ()
def ME(a:List r4)(b:Int):Option Int :=
 lp (XG a b) 0
def v0Y:Ct:=c8 166 [.dat y75.sl,.fn 167 (.pt i64)] (fun x=>ME x.1 x.2.1) (fun r:Int=>I r) (fun _=>())
theorem XH:Ok prog v0Y:=by
 refine c9 [.tmp 4] func166 ?_;intro y ⟨a,h,_⟩ r H Q hn hr;have:=hz (tc XE tn);refine iA [0,1]<|jN r (fun(_:Unit)=>Z [] []) (XF) (fun _ H=>?_) (fun _ d j f=>?_)
 ·refine iA [4]<|a8<|hr H
 refine iA [0,1,7,8]<|vB<|lX (fun(b:Int)=>Z [p 0 (L y75 a),p 1 (AV.fn 167 [D i64.pt h]),p 7 (I (a.length:Int)),p 8 (I b)] []) 0 H fun _ i e g c b H=>iA [0,1,7,8,9]<|vQ<|cD H (fun H=>?_) (fun H=>?_)
 ·refine vK<|fQ<|vQ<|vB<|iA [0,1,5,7,8]<|iB [0,1,5,7,8,16] H fun H=>cD H (fun H=>iA [4]<|a8<|h9<|fR<|c<|h9<|f<|hr H) fun H=>vK<|fK<|fQ<|jB [0,1,7,8] H fun H=>e H
 exact vE<|fE<|g<|fX rfl<|d H
def JV(a:List r4)(c:Int):Option (r4×Bool) :=
 gd ((ME a c).isSome/\True)<|lt (vl (ME a c)) fun b =>
 if(decide (0<=b)) then
  gd (ix b a.length/\True)<|lt (a.getD b.toNat (a7 y75)) fun d =>
  some (d,true)
 else
  some ((((0:Int),((0:Int),(0:Int)),(0:Int),(0:Int)),false))
def Q0g:Ct:=c8 109 [.dat y75.sl,.dat i64] (fun x=>JV x.1 x.2.1) (fun r:r4×Bool=>AV.tup [AV.agg [I r.1.1,I r.1.2.1.1,I r.1.2.1.2,I r.1.2.2.1,I r.1.2.2.2],B r.2]) (fun _=>())
theorem XI:Ok prog Q0g:=by
 refine c9 [.cell 4 75,.tmp 5] func109 ?_;intro y ⟨_,b,_⟩ r H Q hn hr;have:=hz (tc XH (tc XE tn));refine iA [0,3,4]<|vQ<|iD XH [0,4,6] H fun _ H=>iA [0,4,6,11]<|cD H (fun H=>qD (fun a=>Z [p 4 (R 4),p 5 (B true)] [(4,K 75 y75 a),(3,bx 2 [J b])]) H fun a H=>a8<|fR<|hr H) fun H=>vK<|fQ<|iA [4,5]<|a8<|hr H
def s6(a:Int)(b:Int)(c:Int):Option Bool :=
 some (decide (b<=a)&&decide (a<=c))
def P0W:Ct:=c8 120 [.dat i64,.dat i64,.dat i64] (fun x=>s6 x.1 x.2.1 x.2.2.1) (fun r:Bool=>B r) (fun _=>())
theorem R9:Ok prog P0W:=by
 refine c9 [.tmp 6] func120 ?_;intro y ⟨_,_,_,_⟩ r H Q hn hr;refine iA [0,1,2]<|iA [6]<|a8<|hr H
def GF(a:List v8):Option Int :=
 some (a.length:Int)
def P0d:Ct:=c8 175 [.dat y235.sl] (fun x=>GF x.1) (fun r:Int=>I r) (fun _=>())
theorem XJ:Ok prog P0d:=by
 refine c9 [.tmp 2] func175 ?_;intro y ⟨_,_⟩ r H Q hn hr;refine iA [0]<|iA [2]<|a8<|hr H
def K7(a:w9):Option Int :=
 gd ((GF a.2.1).isSome/\c7 (2*vl (GF a.2.1))/\True)<|lt (vl (GF a.2.1)) fun b =>
 some (2*b)
def P0V:Ct:=c8 121 [.dat y189.pt] (fun x=>K7 x.1) (fun r:Int=>I r) (fun _=>())
theorem JW:Ok prog P0V:=by
 refine c9 [.tmp 2] func121 ?_;intro y ⟨_,_⟩ r H Q hn hr;have:=hz (tc XJ tn);refine iA [0]<|iD XJ [2] H fun _ H=>a8<|hr H
def M3(a:w9)(b:Int):Option Bool :=
 gd ((K7 a).isSome/\c7 (vl (K7 a)-1)/\(s6 b 0 (vl (K7 a)-1)).isSome/\True) <|
 some (vl (s6 b 0 (vl (K7 a)-1)))
def k63:Ct:=c8 63 [.dat y189.pt,.dat i64] (fun x=>M3 x.1 x.2.1) (fun r:Bool=>B r) (fun _=>())
theorem XK:Ok prog k63:=by
 refine c9 [.tmp 4] func63 ?_;intro y ⟨_,_,_⟩ r H Q hn hr;have:=hz (tc R9 (tc JW tn));refine iA [0,1]<|iB [4] H fun H=>a8<|hr H
def XL:Unit->Option (Int×Int)
 | _ =>
 some (((0:Int),(5:Int)))
def Qn(a:Int)(b:Int->Option (Int×Int)):Unit->Option (Int×Int)
 | _ =>
 gd (c7 (a+1)/\True) <|
 b (a+1)
def JX(d:List Int)(k:Int)(b:A3)(i:Int)(e:D9)(j:q9)(h:Int->Option (Int×Int)):Int->Option (Int×Int)
 | a =>
 if(decide (a < (d.length:Int))) then
  gd (ix a d.length/\a.toNat<d.length/\True) <|
  gd (ix (d.getD a.toNat 0) e.1.2.2.1.length/\True)<|lt (e.1.2.2.1.getD (Int.toNat (d.getD a.toNat 0)) (a7 y138)) fun c =>
  gd (ix c.1 b.1.length/\True) <|
  if(!b.1.getD c.1.toNat false) then
   Qn a h ()
  else
   gd (ix c.1 b.2.2.length/\(BP e.1 j (d.getD a.toNat 0) (b.2.2.getD c.1.toNat (a7 y73))).isSome/\True)<|lt (vl (BP e.1 j (d.getD a.toNat 0) (b.2.2.getD c.1.toNat (a7 y73)))) fun g =>
   gd (ix c.1 b.2.1.length/\(Gz (b.2.1.getD c.1.toNat (a7 y73)) g.1).isSome/\(BO (vl (Gz (b.2.1.getD c.1.toNat (a7 y73)) g.1)) i).isSome/\True)<|lt (vl (BO (vl (Gz (b.2.1.getD c.1.toNat (a7 y73)) g.1)) i)) fun f =>
   if(f==k) then
    some ((d.getD a.toNat (0:Int),(0:Int)))
   else
    Qn a h ()
 else
  XL ()
def AY(b:D9)(j:q9)(f:List r4)(c:A3)(a:Int)(d:Int):Option (Int×Int) :=
 gd ((M3 b.1 a).isSome/\((!vl (M3 b.1 a))=false/\True->ix a c.1.length)/\True) <|
 if(!vl (M3 b.1 a)||!c.1.getD a.toNat false) then
  some (((0:Int),(4:Int)))
 else
  gd (ix a c.2.1.length/\(BO (c.2.1.getD a.toNat (a7 y73)) d).isSome/\True)<|lt (vl (BO (c.2.1.getD a.toNat (a7 y73)) d)) fun g =>
  gd ((JV f a).isSome/\True)<|lt (vl (JV f a)) fun e =>
  gd ((e.2=true/\True->(BO e.1.2.1 d).isSome)/\True)<|lt (vl (BO e.1.2.1 d)) fun h =>
  if(e.2&&h==g) then
   some (((-1:Int),(0:Int)))
  else
   gd ((DO b a).isSome/\True)<|lt (vl (DO b a)) fun i =>
   lp (JX i g c d b j) 0
def k53:Ct:=c8 53 [.dat y126.pt,.agg u4,.dat y75.sl,.agg y65,.dat i64,.dat i64] (fun x=>AY x.1 x.2.1 x.2.2.1 x.2.2.2.1 x.2.2.2.2.1 x.2.2.2.2.2.1) (fun r:Int×Int=>AV.tup [I r.1,I r.2]) (fun _=>())
theorem XM:Ok prog k53:=by
 refine c9 [.tmp 12,.tmp 13] func53 ?_;intro y ⟨c,g,_,d,_,e,_⟩ r H Q hn hr;have:=hz (tc MA (tc N0d (tc Xz (tc XD (tc XI (tc XK tn))))));refine iA [0,2,4,5,7,9]<|vQ<|iB [0,2,4,5,7,9,36] H fun H=>cD H (fun H=>iA [12,13]<|a8<|fR<|hr H) fun H=>vK<|fQ<|iD MA [0,2,4,5,7,9,14] H fun f H=>vQ<|iD XI [0,4,5,7,9,14,15,16] H fun _ H=>iD MA [0,4,5,7,9,14,58] H fun _ H=>cD H (fun H=>iA [12,13]<|a8<|fR<|hr H) fun H=>vK<|fQ<|jN r (fun(_:Unit)=>Z [] []) (XL) (fun _ H=>?_) (fun _ k s o=>?_)
 ·refine iA [12,13]<|a8<|hr H
 refine iD XD [0,5,7,9,14,61,62,63] H fun a H=>vB<|lX (fun(b:Int)=>Z [p 0 (D y126.pt c),p 5 (J e),p 7 (R 7),p 9 (R 9),p 14 (I f),p 61 (O 61),p 62 (I (a.length:Int)),p 63 (I b)] [(61,A 2 i64 a 0),(9,K 65 y65 d),(7,K 58 u4 g)]) 0 H fun _ l m q j b H=>iA [0,5,7,9,14,61,62,63,64]<|vQ<|cD H (fun H=>?_) (fun H=>?_)
 ·refine vK<|fQ<|jN r (fun(_:Unit)=>Z [p 0 (D y126.pt c),p 5 (J e),p 7 (R 7),p 9 (R 9),p 14 (I f),p 61 (O 61),p 62 (I (a.length:Int)),p 63 (I b)] [(61,A 2 i64 a 0),(9,K 65 y65 d),(7,K 58 u4 g)]) (Qn b l) (fun _ H=>?_) (fun _ h t n=>?_)
  ·refine jB [0,5,7,9,14,61,62,63] H fun H=>m H
  refine vB<|iB [0,5,7,9,14,18,61,62,63] H fun H=>qD (fun i=>Z [p 0 (D y126.pt c),p 5 (J e),p 7 (R 7),p 9 (R 9),p 14 (I f),p 18 (I (a.getD b.toNat 0)),p 19 (J i.1),p 61 (O 61),p 62 (I (a.length:Int)),p 63 (I b)] [(61,A 2 i64 a 0),(9,K 65 y65 d),(7,K 58 u4 g)]) H fun i H=>vQ<|iB [0,5,7,9,14,18,19,61,62,63,83] H fun H=>cD H (fun H=>vE<|fE<|fX rfl<|h H) fun H=>vK<|fQ<|iD Xz [0,5,7,9,14,18,19,20,61,62,63] H fun _ H=>iD MA [0,5,7,9,14,18,61,62,63,109] H fun _ H=>cD H (fun H=>iA [12,13]<|a8<|h9<|n<|j<|h9<|o<|hr H) fun H=>vK<|fK<|h H
 exact vE<|fE<|q<|fX rfl<|k H
def CE(a:Int):Option Bool :=
 gd ((s6 a (-1000000000) 1000000000).isSome/\True) <|
 some (vl (s6 a (-1000000000) 1000000000))
def P0U:Ct:=c8 123 [.dat i64] (fun x=>CE x.1) (fun r:Bool=>B r) (fun _=>())
theorem M0X:Ok prog P0U:=by
 refine c9 [.tmp 2] func123 ?_;intro y ⟨_,_⟩ r H Q hn hr;have:=hz (tc R9 tn);refine iA [0]<|iB [2] H fun H=>a8<|hr H
def J4(a:s7):Option Bool :=
 gd ((CE a.1).isSome/\(vl (CE a.1)=true/\True->(CE a.2).isSome)/\True) <|
 some (vl (CE a.1)&&vl (CE a.2)&&decide (a.1<=a.2))
def k65:Ct:=c8 65 [.agg y73] (fun x=>J4 x.1) (fun r:Bool=>B r) (fun _=>())
theorem Qo:Ok prog k65:=by
 refine c9 [.tmp 2] func65 ?_;intro y ⟨_,_⟩ r H Q hn hr;have:=hz (tc M0X tn);refine iA [1]<|iB [2] H fun H=>a8<|hr H
def JY(a:Int)(b:Int)(c:Int):Option Bool :=
 gd ((s6 a b c).isSome/\True) <|
 some (!vl (s6 a b c))
def O0A:Ct:=c8 212 [.dat i64,.dat (.pt i64),.dat (.pt i64)] (fun x=>JY x.1 x.2.1 x.2.2.1) (fun r:Bool=>B r) (fun _=>())
theorem Qp:Ok prog O0A:=by
 refine c9 [.tmp 4] func212 ?_;intro y ⟨_,_,_,_⟩ r H Q hn hr;have:=hz (tc R9 tn);refine iA [0,1,2]<|iB [4] H fun H=>a8<|hr H
def XN:Unit->Option Int
 | _ =>
 some (-1)
def p0D(b:List Int)(c:Int×Int)(d:Int->Option Int):Int->Option Int
 | a =>
 if(decide (a < (b.length:Int))) then
  gd (ix a b.length/\(JY (b.getD a.toNat 0) c.1 c.2).isSome/\True) <|
  if(vl (JY (b.getD a.toNat 0) c.1 c.2)) then
   some a
  else
   gd (c7 (a+1)/\True) <|
   d (a+1)
 else
  XN ()
def MF(a:List Int)(b:Int×Int):Option Int :=
 lp (p0D a b) 0
def v0T:Ct:=c8 246 [.dat i64.sl,.fn 212 (.pr i64.pt i64.pt)] (fun x=>MF x.1 x.2.1) (fun r:Int=>I r) (fun _=>())
theorem Qq:Ok prog v0T:=by
 refine c9 [.tmp 4] func246 ?_;intro y ⟨a,c,_⟩ r H Q hn hr;have:=hz (tc Qp tn);refine iA [0,1]<|jN r (fun(_:Unit)=>Z [] []) (XN) (fun _ H=>?_) (fun _ e j g=>?_)
 ·refine iA [4]<|a8<|hr H
 refine iA [0,1,7,8]<|vB<|lX (fun(b:Int)=>Z [p 0 (L i64 a),p 1 (AV.fn 212 [D i64.pt c.1,D i64.pt c.2]),p 7 (I (a.length:Int)),p 8 (I b)] []) 0 H fun _ i f h d b H=>iA [0,1,7,8,9]<|vQ<|cD H (fun H=>?_) (fun H=>?_)
 ·refine vK<|fQ<|vQ<|vB<|iA [0,1,5,7,8]<|iB [0,1,5,7,8,16] H fun H=>cD H (fun H=>iA [4]<|a8<|h9<|fR<|d<|h9<|g<|hr H) fun H=>vK<|fK<|fQ<|jB [0,1,7,8] H fun H=>f H
 exact vE<|fE<|h<|fX rfl<|e H
def MG(a:List Int)(b:Int×Int):Option Bool :=
 gd ((MF a b).isSome/\True)<|lt (vl (MF a b)) fun c =>
 some (decide (0<=c))
def v0W:Ct:=c8 211 [.dat i64.sl,.fn 212 (.pr (.pt i64) (.pt i64))] (fun x=>MG x.1 x.2.1) (fun r:Bool=>B r) (fun _=>())
theorem XO:Ok prog v0W:=by
 refine c9 [.tmp 4] func211 ?_;intro y ⟨_,_,_⟩ r H Q hn hr;have:=hz (tc Qq (tc Qp tn));refine iA [0,1]<|iD Qq [4] H fun _ H=>a8<|hr H
def D0(a:List Int)(b:Int)(c:Int):Option Bool :=
 gd ((MG a (b,c)).isSome/\True) <|
 some (!vl (MG a (b,c)))
def P0r:Ct:=c8 159 [.dat i64.sl,.dat i64,.dat i64] (fun x=>D0 x.1 x.2.1 x.2.2.1) (fun r:Bool=>B r) (fun _=>())
theorem JZ:Ok prog P0r:=by
 refine c9 [.tmp 6] func159 ?_;intro y ⟨_,_,_,_⟩ r H Q hn hr;have:=hz (tc XO (tc Qp tn));refine iA [0,4,5]<|iB [6] H fun H=>a8<|hr H
def A4(a:List Int):Option Int :=
 some (a.length:Int)
def P0x:Ct:=c8 153 [.dat i64.sl] (fun x=>A4 x.1) (fun r:Int=>I r) (fun _=>())
theorem Kb:Ok prog P0x:=by
 refine c9 [.tmp 2] func153 ?_;intro y ⟨_,_⟩ r H Q hn hr;refine iA [0]<|iA [2]<|a8<|hr H
def XP:Unit->Option Bool
 | _ =>
 some true
def XQ(b:w7)(c:Int->Option Bool):Int->Option Bool
 | a =>
 if(decide (a < (b.1.length:Int))) then
  gd (ix a b.1.length/\True) <|
  gd (((b.1.getD a.toNat (0:Int) != (-1:Int))=false/\(a==(0:Int))=true/\True->ix (0:Int) b.2.1.length)/\(decide ((0:Int)<a)=true/\(a==(0:Int)&&(b.1.getD a.toNat (0:Int) != (-1:Int)||b.2.1.getD (Int.toNat (0:Int)) (0:Int) != (0:Int)))=false/\True->c7 (a-(1:Int)))/\(decide ((0:Int)<a)=true/\(a==(0:Int)&&(b.1.getD a.toNat (0:Int) != (-1:Int)||b.2.1.getD (Int.toNat (0:Int)) (0:Int) != (0:Int)))=false/\True->(s6 (b.1.getD a.toNat (0:Int)) (0:Int) (a-(1:Int))).isSome)/\True) <|
  if(a==(0:Int)&&(b.1.getD a.toNat (0:Int) != (-1:Int)||b.2.1.getD (Int.toNat (0:Int)) (0:Int) != (0:Int))||decide ((0:Int)<a)&&!vl (s6 (b.1.getD a.toNat (0:Int)) (0:Int) (a-(1:Int)))) then
   some false
  else
   gd (c7 (a+1)/\True) <|
   c (a+1)
 else
  XP ()
def AZ(a:w7):Option Bool :=
 lp (XQ a) 0
def O0H:Ct:=c8 202 [.agg y172] (fun x=>AZ x.1) (fun r:Bool=>B r) (fun _=>())
theorem M0w:Ok prog O0H:=by
 refine c9 [.tmp 2] func202 ?_;intro y ⟨a,_⟩ r H Q hn hr;have:=hz (tc R9 tn);refine iA [1]<|jN r (fun(_:Unit)=>Z [] []) (XP) (fun _ H=>?_) (fun _ d i f=>?_)
 ·refine iA [2]<|a8<|hr H
 refine iA [1,6,7,8]<|vB<|lX (fun(b:Int)=>Z [p 1 (R 1),p 6 (L i64 a.1),p 7 (I (a.1.length:Int)),p 8 (I b)] [(1,K 172 y172 a)]) 0 H fun _ h e g c b H=>iA [1,6,7,8,9]<|vQ<|cD H (fun H=>?_) (fun H=>?_)
 ·refine vK<|fQ<|vQ<|vB<|iB [1,3,4,6,7,8] H fun H=>iB [1,6,7,8,36] H fun H=>cD H (fun H=>iA [2]<|a8<|h9<|fR<|c<|h9<|f<|hr H) fun H=>vK<|fK<|fQ<|jB [1,6,7,8] H fun H=>e H
 exact vE<|fE<|g<|fX rfl<|d H
def Kc(a:w7)(c:Int):Option Bool :=
 gd ((A4 a.1).isSome/\True)<|lt (vl (A4 a.1)) fun b =>
 gd ((s6 b 1 8).isSome/\(vl (s6 b 1 8)=true/\True->(A4 a.2.1).isSome)/\((vl (s6 b 1 8)&&vl (A4 a.2.1)==b)=true/\True->(A4 a.2.2.1).isSome)/\((vl (s6 b 1 8)&&vl (A4 a.2.1)==b&&vl (A4 a.2.2.1)==b)=true/\True->(AZ a).isSome)/\((vl (s6 b 1 8)&&vl (A4 a.2.1)==b&&vl (A4 a.2.2.1)==b&&vl (AZ a))=true/\True->(D0 a.2.1 0 1000).isSome)/\((vl (s6 b 1 8)&&vl (A4 a.2.1)==b&&vl (A4 a.2.2.1)==b&&vl (AZ a)&&vl (D0 a.2.1 0 1000))=true/\True->(D0 a.2.2.1 0 500).isSome)/\((vl (s6 b 1 8)&&vl (A4 a.2.1)==b&&vl (A4 a.2.2.1)==b&&vl (AZ a)&&vl (D0 a.2.1 0 1000)&&vl (D0 a.2.2.1 0 500))=true/\True->(A4 a.2.2.2).isSome)/\((vl (s6 b 1 8)&&vl (A4 a.2.1)==b&&vl (A4 a.2.2.1)==b&&vl (AZ a)&&vl (D0 a.2.1 0 1000)&&vl (D0 a.2.2.1 0 500)&&vl (A4 a.2.2.2)==c)=true/\True->c7 (b-1))/\((vl (s6 b 1 8)&&vl (A4 a.2.1)==b&&vl (A4 a.2.2.1)==b&&vl (AZ a)&&vl (D0 a.2.1 0 1000)&&vl (D0 a.2.2.1 0 500)&&vl (A4 a.2.2.2)==c)=true/\True->(D0 a.2.2.2 0 (b-1)).isSome)/\True)<|lt ((vl (A4 a.2.1),vl (A4 a.2.2.1),vl (A4 a.2.2.2))) fun(d,e,f) =>
 some (vl (s6 b 1 8)&&d==b&&e==b&&vl (AZ a)&&vl (D0 a.2.1 0 1000)&&vl (D0 a.2.2.1 0 500)&&f==c&&vl (D0 a.2.2.2 0 (b-1)))
def P0B:Ct:=c8 149 [.agg y172,.dat i64] (fun x=>Kc x.1 x.2.1) (fun r:Bool=>B r) (fun _=>())
theorem M0Q:Ok prog P0B:=by
 refine c9 [.tmp 4] func149 ?_;intro y ⟨a,f,_⟩ r H Q hn hr;have:=hz (tc JZ (tc Kb (tc M0w (tc R9 tn))));refine iA [1,2]<|iD Kb [1,2,5] H fun b H=>qD (fun(c,d,e)=>Z [p 4 (B (vl (s6 b 1 8)&&c==b&&d==b&&vl (AZ a)&&vl (D0 a.2.1 0 1000)&&vl (D0 a.2.2.1 0 500)&&e==f&&vl (D0 a.2.2.2 0 (b-1))))] [(2,K 172 y172 a)]) H fun⟨c,d,e⟩ H =>
  a8<|hr H
def XR:List v8->Option (List v8)
 | a =>
 some a
def XS(d:m7)(e:Int×List v8->Option (List v8)):Int×List v8->Option (List v8)
 | (a,c) =>
 if(decide (a < (d.2.2.length:Int))) then
  gd (ix a d.2.2.length/\True)<|lt (d.2.2.getD a.toNat (a7 y231)) fun b =>
  gd ((c.length+[(-1,a,b.2.2,b.2.1==1)].length<=9223372036854775807/\(c.length+[(-1,a,b.2.2,b.2.1==1)].length)*32<=140737488355328)/\True) <|
  gd (c7 (a+1)/\True) <|
  e ((a+1,c++[(-1,a,b.2.2,b.2.1==1)]))
 else
  XR c
def Ke(b:m7):List v8->Option (List v8)
 | a =>
 lp (XS b) (0,a)
def Qr(b:Int)(c:List v8×Int->Option (List v8)):List v8->Option (List v8)
 | a =>
 gd (c7 (b+1)/\True) <|
 c (a,b+1)
def XT(d:Int)(b:B0)(f:List v8×Int->Option (List v8))(g:Int×List v8->Option (List v8)):Int×List v8->Option (List v8)
 | (a,c) =>
 if(decide (a < (b.2.2.length:Int))) then
  gd (ix a b.2.2.length/\True) <|
  gd (c7 ((b.2.2.length:Int)-1)/\(c.length+[(d,a,b.2.2.getD a.toNat 0,a==(b.2.2.length:Int)-1)].length<=9223372036854775807/\(c.length+[(d,a,b.2.2.getD a.toNat 0,a==(b.2.2.length:Int)-1)].length)*32<=140737488355328)/\True)<|lt ((c++[(d,a,b.2.2.getD a.toNat 0,a==(b.2.2.length:Int)-1)],[(d,a,b.2.2.getD a.toNat 0,a==(b.2.2.length:Int)-1)])) fun(e,_) =>
  gd (c7 (a+1)/\True) <|
  g (a+1,e)
 else
  Qr d f c
def XU(a:m7)(d:List v8×Int->Option (List v8)):List v8×Int->Option (List v8)
 | (c,b) =>
 if(decide (b < (a.1.length:Int))) then
  gd (ix b a.1.length/\True)<|lt (a.1.getD b.toNat (a7 y155)) fun e =>
  lp (XT b e d) (0,c)
 else
  Ke a c
def An(a:m7):Option (List v8) :=
 lp (XU a) ([],0)
def P0C:Ct:=c8 148 [.agg y53] (fun x=>An x.1) (fun r:List v8=>AV.ow 235 true y235 r) (fun _=>())
theorem CF:Ok prog P0C:=by
 refine c9 [.tmp 2] func148 ?_;intro y ⟨a,_⟩ r H Q hn hr;refine iA [1]<|iA [1,3]<|jN r (fun(f:List v8)=>Z [p 1 (R 1),p 3 (O 38)] [(1,K 53 y53 a),(38,A 235 y235 f 0)]) (Ke a) (fun f H=>?_) (fun _ s V Y=>?_)
 ·refine jN r (fun(j:List v8)=>Z [p 3 (O 38)] [(38,A 235 y235 j 0)]) (XR) (fun j H=>?_) (fun _ o T W=>?_)
  ·refine iA [2]<|a8<|hr H
  refine iA [3,42,43,44]<|vB<|lX (fun((c,e):Int×List v8)=>Z [p 3 (O 38),p 42 (L y231 a.2.2),p 43 (I (a.2.2.length:Int)),p 44 (I c)] [(38,A 235 y235 e 0)]) (0,f) H fun _ F x z t5 ⟨c,e⟩ H=>iA [3,42,43,44,45]<|vQ<|cD H (fun H=>vK<|fQ<|vQ<|vB<|qD (fun k=>Z [p 3 (O 38),p 8 (I c),p 9 (R 9),p 42 (L y231 a.2.2),p 43 (I (a.2.2.length:Int)),p 44 (I c)] [(9,K 231 y231 k),(38,A 235 y235 e 0)]) H fun k H=>jB [3,42,43,44] H fun H=>fK<|fQ<|jB [3,42,43,44] H fun H=>x H) fun H=>vE<|fE<|z<|fX rfl<|o H
 refine iA [1,3,11,12,13]<|vB<|lX (fun((n,b):List v8×Int)=>Z [p 1 (R 1),p 3 (O 38),p 11 (L y155 a.1),p 12 (I (a.1.length:Int)),p 13 (I b)] [(1,K 53 y53 a),(38,A 235 y235 n 0)]) ([],0) H fun _ u v E G ⟨n,b⟩ H=>iA [1,3,11,12,13,14]<|vQ<|cD H (fun H=>?_) (fun H=>?_)
 ·refine vK<|fQ<|jN r (fun(l:List v8)=>Z [p 1 (R 1),p 3 (O 38),p 11 (L y155 a.1),p 12 (I (a.1.length:Int)),p 13 (I b)] [(1,K 53 y53 a),(38,A 235 y235 l 0)]) (Qr b u) (fun l H=>?_) (fun _ q e2 X=>?_)
  ·refine jB [1,3,11,12,13] H fun H=>v H
  refine vB<|qD (fun d=>Z [p 1 (R 1),p 3 (O 38),p 4 (I b),p 5 (R 5),p 11 (L y155 a.1),p 12 (I (a.1.length:Int)),p 13 (I b)] [(5,K 155 y155 d),(1,K 53 y53 a),(38,A 235 y235 n 0)]) H fun d H=>iA [1,3,4,5,11,12,13,19,20,21]<|vB<|lX (fun((g,i):Int×List v8)=>Z [p 1 (R 1),p 3 (O 38),p 4 (I b),p 5 (R 5),p 11 (L y155 a.1),p 12 (I (a.1.length:Int)),p 13 (I b),p 19 (L i64 d.2.2),p 20 (I (d.2.2.length:Int)),p 21 (I g)] [(5,K 155 y155 d),(1,K 53 y53 a),(38,A 235 y235 i 0)]) (0,n) H fun _ g3 t w P ⟨g,i⟩ H=>iA [1,3,4,5,11,12,13,19,20,21,22]<|vQ<|cD H (fun H=>?_) (fun H=>?_)
  ·refine vK<|fQ<|vQ<|vB<|iB [1,3,4,5,6,7,11,12,13,19,20,21] H fun H=>zD (fun(m,h)=>Z [p 1 (R 1),p 3 (AV.os 38 1),p 4 (I b),p 5 (R 5),p 11 (L y155 a.1),p 12 (I (a.1.length:Int)),p 13 (I b),p 19 (L i64 d.2.2),p 20 (I (d.2.2.length:Int)),p 21 (I g)] [(38,A 235 y235 m 1),(37,A 235 y235 h 0),(5,K 155 y155 d),(1,K 53 y53 a)]) H fun⟨m,h⟩ H =>
    fK<|fQ <|
    jB [1,3,4,5,11,12,13,19,20,21] H fun H =>
    t H
  exact vE<|fE<|w<|fX rfl<|fK<|q H
 exact vE<|fE<|E<|fX rfl<|s H
def Qs(a:Int):Option Bool :=
 some (a != 1)
def O0I:Ct:=c8 201 [.dat i64] (fun x=>Qs x.1) (fun r:Bool=>B r) (fun _=>())
theorem Qt:Ok prog O0I:=by
 refine c9 [.tmp 2] func201 ?_;intro y ⟨_,_⟩ r H Q hn hr;refine iA [0]<|iA [2]<|a8<|hr H
def GG(a:List ByteArray):Option Int :=
 some (a.length:Int)
def O0d:Ct:=c8 236 [.dat Ty.str.sl] (fun x=>GG x.1) (fun r:Int=>I r) (fun _=>())
theorem M0j:Ok prog O0d:=by
 refine c9 [.tmp 2] func236 ?_;intro y ⟨_,_⟩ r H Q hn hr;refine iA [0]<|iA [2]<|a8<|hr H
def DP(a:m7)(b:Int):Option Bool :=
 gd ((GG a.2.1).isSome/\c7 (vl (GG a.2.1)-1)/\(s6 b 0 (vl (GG a.2.1)-1)).isSome/\True) <|
 some (vl (s6 b 0 (vl (GG a.2.1)-1)))
def O0J:Ct:=c8 199 [.agg y53,.dat i64] (fun x=>DP x.1 x.2.1) (fun r:Bool=>B r) (fun _=>())
theorem XV:Ok prog O0J:=by
 refine c9 [.tmp 4] func199 ?_;intro y ⟨_,_,_⟩ r H Q hn hr;have:=hz (tc R9 (tc M0j tn));refine iA [1,2]<|iB [4] H fun H=>a8<|hr H
def CG(a:List l6):Option Int :=
 some (a.length:Int)
def O0f:Ct:=c8 234 [.dat y153.sl] (fun x=>CG x.1) (fun r:Int=>I r) (fun _=>())
theorem M0k:Ok prog O0f:=by
 refine c9 [.tmp 2] func234 ?_;intro y ⟨_,_⟩ r H Q hn hr;refine iA [0]<|iA [2]<|a8<|hr H
def Kg(a:Int)(b:m7):Option Bool :=
 gd ((DP b a).isSome/\True) <|
 some (!vl (DP b a))
def O0e:Ct:=c8 235 [.dat i64,.dat (.pt y53)] (fun x=>Kg x.1 x.2.1) (fun r:Bool=>B r) (fun _=>())
theorem Qu:Ok prog O0e:=by
 refine c9 [.tmp 3] func235 ?_;intro y ⟨_,_,_⟩ r H Q hn hr;have:=hz (tc XV tn);refine iA [0,1]<|iB [3] H fun H=>a8<|hr H
def XW:Unit->Option Int
 | _ =>
 some (-1)
def p0C(b:List Int)(c:m7)(d:Int->Option Int):Int->Option Int
 | a =>
 if(decide (a < (b.length:Int))) then
  gd (ix a b.length/\(Kg (b.getD a.toNat 0) c).isSome/\True) <|
  if(vl (Kg (b.getD a.toNat 0) c)) then
   some a
  else
   gd (c7 (a+1)/\True) <|
   d (a+1)
 else
  XW ()
def MH(a:List Int)(b:m7):Option Int :=
 lp (p0C a b) 0
def v0S:Ct:=c8 246 [.dat i64.sl,.fn 235 y53.pt] (fun x=>MH x.1 x.2.1) (fun r:Int=>I r) (fun _=>())
theorem XX:Ok prog v0S:=by
 refine c9 [.tmp 4] func246 ?_;intro y ⟨a,h,_⟩ r H Q hn hr;have:=hz (tc Qu tn);refine iA [0,1]<|jN r (fun(_:Unit)=>Z [] []) (XW) (fun _ H=>?_) (fun _ d j f=>?_)
 ·refine iA [4]<|a8<|hr H
 refine iA [0,1,7,8]<|vB<|lX (fun(b:Int)=>Z [p 0 (L i64 a),p 1 (AV.fn 235 [D y53.pt h]),p 7 (I (a.length:Int)),p 8 (I b)] []) 0 H fun _ i e g c b H=>iA [0,1,7,8,9]<|vQ<|cD H (fun H=>?_) (fun H=>?_)
 ·refine vK<|fQ<|vQ<|vB<|iA [0,1,5,7,8]<|iB [0,1,5,7,8,16] H fun H=>cD H (fun H=>iA [4]<|a8<|h9<|fR<|c<|h9<|f<|hr H) fun H=>vK<|fK<|fQ<|jB [0,1,7,8] H fun H=>e H
 exact vE<|fE<|g<|fX rfl<|d H
def MI(a:List Int)(b:m7):Option Bool :=
 gd ((MH a b).isSome/\True)<|lt (vl (MH a b)) fun c =>
 some (decide (0<=c))
def v0V:Ct:=c8 211 [.dat i64.sl,.fn 235 (.pt y53)] (fun x=>MI x.1 x.2.1) (fun r:Bool=>B r) (fun _=>())
theorem v0A:Ok prog v0V:=by
 refine c9 [.tmp 4] func211 ?_;intro y ⟨_,_,_⟩ r H Q hn hr;have:=hz (tc Qq (tc XX (tc Qu tn)));refine iA [0,1]<|iD XX [4] H fun _ H=>a8<|hr H
def Kh(c:m7)(b:List l6)(a:B0):Option Bool :=
 gd ((CG b).isSome/\c7 (vl (CG b)-1)/\(s6 a.2.1 0 (vl (CG b)-1)).isSome/\(vl (s6 a.2.1 0 (vl (CG b)-1))=true/\True->ix a.2.1 b.length)/\((vl (s6 a.2.1 0 (vl (CG b)-1))&&(a.2.2.length:Int)==(↑(b.getD a.2.1.toNat (a7 y153)).2.2.1.length:Int))=true/\True->(MI a.2.2 c).isSome)/\True) <|
 some (vl (s6 a.2.1 0 (vl (CG b)-1))&&(a.2.2.length:Int)==(↑(b.getD a.2.1.toNat (a7 y153)).2.2.1.length:Int)&&!vl (MI a.2.2 c))
def O0K:Ct:=c8 198 [.agg y53,.agg y153.sl,.agg y155] (fun x=>Kh x.1 x.2.1 x.2.2.1) (fun r:Bool=>B r) (fun _=>())
theorem M0x:Ok prog O0K:=by
 refine c9 [.tmp 6] func198 ?_;intro y ⟨_,_,_,_⟩ r H Q hn hr;have:=hz (tc XO (tc v0A (tc Qu (tc R9 (tc M0k tn)))));refine iA [3,4,5]<|iB [6] H fun H=>a8<|hr H
def XY:Unit->Option Int
 | _ =>
 some (-1)
def D0d(d:ByteArray)(b:List ByteArray)(c:Int->Option Int):Int->Option Int
 | a =>
 if(decide (a < (b.length:Int))) then
  gd (ix a b.length/\True) <|
  if(decide (d=b.getD a.toNat (a7 Ty.str))) then
   some a
  else
   gd (c7 (a+1)/\True) <|
   c (a+1)
 else
  XY ()
def MJ(a:List ByteArray)(b:ByteArray):Option Int :=
 lp (D0d b a) 0
def N0D:Ct:=c8 278 [.dat Ty.str.sl,.dat Ty.str] (fun x=>MJ x.1 x.2.1) (fun r:Int=>I r) (fun _=>())
theorem XZ:Ok prog N0D:=by
 refine c9 [.tmp 4] func278 ?_;intro y ⟨a,h,_⟩ r H Q hn hr;refine iA [0,1]<|jN r (fun(_:Unit)=>Z [] []) (XY) (fun _ H=>?_) (fun _ d j f=>?_)
 ·refine iA [4]<|a8<|hr H
 refine iA [0,1,7,8]<|vB<|lX (fun(b:Int)=>Z [p 0 (L Ty.str a),p 1 (U h),p 7 (I (a.length:Int)),p 8 (I b)] []) 0 H fun _ i e g c b H=>iA [0,1,7,8,9]<|vQ<|cD H (fun H=>?_) (fun H=>?_)
 ·refine vK<|fQ<|vQ<|vB<|iA [0,1,5,7,8]<|iB [0,1,5,7,8,16] H fun H=>cD H (fun H=>iA [4]<|a8<|h9<|fR<|c<|h9<|f<|hr H) fun H=>vK<|fK<|fQ<|jB [0,1,7,8] H fun H=>e H
 exact vE<|fE<|g<|fX rfl<|d H
def MK(a:List ByteArray)(b:ByteArray):Option Bool :=
 gd ((MJ a b).isSome/\True)<|lt (vl (MJ a b)) fun c =>
 some (decide (0<=c))
def N0O:Ct:=c8 261 [.dat Ty.str.sl,.dat Ty.str] (fun x=>MK x.1 x.2.1) (fun r:Bool=>B r) (fun _=>())
theorem M0b:Ok prog N0O:=by
 refine c9 [.tmp 4] func261 ?_;intro y ⟨_,_,_⟩ r H Q hn hr;have:=hz (tc XZ tn);refine iA [0,1]<|iD XZ [4] H fun _ H=>a8<|hr H
def K8(a:ByteArray):Option Bool :=
 gd ((s6 (a.size:Int) (1:Int) (8:Int)).isSome/\(vl (s6 (a.size:Int) (1:Int) (8:Int))=true/\True->(CH a (ByteArray.mk #[(97:UInt8),(98:UInt8),(99:UInt8),(100:UInt8),(101:UInt8),(102:UInt8),(103:UInt8),(104:UInt8),(105:UInt8),(106:UInt8),(107:UInt8),(108:UInt8),(109:UInt8),(110:UInt8),(111:UInt8),(112:UInt8),(113:UInt8),(114:UInt8),(115:UInt8),(116:UInt8),(117:UInt8),(118:UInt8),(119:UInt8),(120:UInt8),(121:UInt8),(122:UInt8),(48:UInt8),(49:UInt8),(50:UInt8),(51:UInt8),(52:UInt8),(53:UInt8),(54:UInt8),(55:UInt8),(56:UInt8),(57:UInt8)])).isSome)/\((vl (s6 (a.size:Int) (1:Int) (8:Int))&&decide (vl (CH a (ByteArray.mk #[(97:UInt8),(98:UInt8),(99:UInt8),(100:UInt8),(101:UInt8),(102:UInt8),(103:UInt8),(104:UInt8),(105:UInt8),(106:UInt8),(107:UInt8),(108:UInt8),(109:UInt8),(110:UInt8),(111:UInt8),(112:UInt8),(113:UInt8),(114:UInt8),(115:UInt8),(116:UInt8),(117:UInt8),(118:UInt8),(119:UInt8),(120:UInt8),(121:UInt8),(122:UInt8),(48:UInt8),(49:UInt8),(50:UInt8),(51:UInt8),(52:UInt8),(53:UInt8),(54:UInt8),(55:UInt8),(56:UInt8),(57:UInt8)]))=ByteArray.mk #[]))=true/\True->ix (0:Int) a.size)/\((vl (s6 (a.size:Int) (1:Int) (8:Int))&&decide (vl (CH a (ByteArray.mk #[(97:UInt8),(98:UInt8),(99:UInt8),(100:UInt8),(101:UInt8),(102:UInt8),(103:UInt8),(104:UInt8),(105:UInt8),(106:UInt8),(107:UInt8),(108:UInt8),(109:UInt8),(110:UInt8),(111:UInt8),(112:UInt8),(113:UInt8),(114:UInt8),(115:UInt8),(116:UInt8),(117:UInt8),(118:UInt8),(119:UInt8),(120:UInt8),(121:UInt8),(122:UInt8),(48:UInt8),(49:UInt8),(50:UInt8),(51:UInt8),(52:UInt8),(53:UInt8),(54:UInt8),(55:UInt8),(56:UInt8),(57:UInt8)]))=ByteArray.mk #[]))=true/\True->(ML (ByteArray.mk #[(97:UInt8),(98:UInt8),(99:UInt8),(100:UInt8),(101:UInt8),(102:UInt8),(103:UInt8),(104:UInt8),(105:UInt8),(106:UInt8),(107:UInt8),(108:UInt8),(109:UInt8),(110:UInt8),(111:UInt8),(112:UInt8),(113:UInt8),(114:UInt8),(115:UInt8),(116:UInt8),(117:UInt8),(118:UInt8),(119:UInt8),(120:UInt8),(121:UInt8),(122:UInt8)]) (B1 a (Int.toNat (0:Int)))).isSome)/\True)<|lt ((vl (CH a (ByteArray.mk #[97,98,99,100,101,102,103,104,105,106,107,108,109,110,111,112,113,114,115,116,117,118,119,120,121,122,48,49,50,51,52,53,54,55,56,57])),vl (ML (ByteArray.mk #[(97:UInt8),(98:UInt8),(99:UInt8),(100:UInt8),(101:UInt8),(102:UInt8),(103:UInt8),(104:UInt8),(105:UInt8),(106:UInt8),(107:UInt8),(108:UInt8),(109:UInt8),(110:UInt8),(111:UInt8),(112:UInt8),(113:UInt8),(114:UInt8),(115:UInt8),(116:UInt8),(117:UInt8),(118:UInt8),(119:UInt8),(120:UInt8),(121:UInt8),(122:UInt8)]) (B1 a (Int.toNat (0:Int)))))) fun(c,b) =>
 some (vl (s6 (a.size:Int) 1 8)&&decide (c=ByteArray.mk #[])&&decide (0<=b))
def P0A:Ct:=c8 150 [.dat Ty.str] (fun x=>K8 x.1) (fun r:Bool=>B r) (fun _=>())
theorem Qv:Ok prog P0A:=by
 refine c9 [.tmp 2] func150 ?_;intro y ⟨c,_⟩ r H Q hn hr;have:=hz (tc M0u (tc M0v (tc R9 tn)));refine iA [0]<|qD (fun(b,a)=>Z [p 2 (B (vl (s6 (c.size:Int) 1 8)&&decide (b=ByteArray.mk #[])&&decide (0<=a)))] []) H fun⟨b,a⟩ H =>
  a8<|hr H
def Ya:Unit->Option Bool
 | _ =>
 some true
def Yb(b:List ByteArray)(c:Int->Option Bool):Int->Option Bool
 | a =>
 if(decide (a < (b.length:Int))) then
  gd (ix a b.length/\True) <|
  gd ((K8 (b.getD a.toNat (a7 Ty.str))).isSome/\((!vl (K8 (b.getD a.toNat (a7 Ty.str))))=false/\True->(0:Int)<=(0:Int)/\(0:Int)<=a/\a<=(b.length:Int))/\((!vl (K8 (b.getD a.toNat (a7 Ty.str))))=false/\True->(MK (List.take a.toNat b) (b.getD a.toNat (a7 Ty.str))).isSome)/\True) <|
  if(!vl (K8 (b.getD a.toNat (a7 Ty.str)))||vl (MK (List.take a.toNat b) (b.getD a.toNat (a7 Ty.str)))) then
   some false
  else
   gd (c7 (a+1)/\True) <|
   c (a+1)
 else
  Ya ()
def P5(a:List ByteArray):Option Bool :=
 lp (Yb a) 0
def O0g:Ct:=c8 233 [.dat Ty.str.sl] (fun x=>P5 x.1) (fun r:Bool=>B r) (fun _=>())
theorem Qw:Ok prog O0g:=by
 refine c9 [.tmp 2] func233 ?_;intro y ⟨a,_⟩ r H Q hn hr;have:=hz (tc M0b (tc Qv tn));refine iA [0]<|jN r (fun(_:Unit)=>Z [] []) (Ya) (fun _ H=>?_) (fun _ d i f=>?_)
 ·refine iA [2]<|a8<|hr H
 refine iA [0,5,6,7]<|vB<|lX (fun(b:Int)=>Z [p 0 (L Ty.str a),p 5 (L Ty.str a),p 6 (I (a.length:Int)),p 7 (I b)] []) 0 H fun _ h e g c b H=>iA [0,5,6,7,8]<|vQ<|cD H (fun H=>?_) (fun H=>?_)
 ·refine vK<|fQ<|vQ<|vB<|iB [0,3,4,5,6,7] H fun H=>iB [0,5,6,7,21] H fun H=>cD H (fun H=>iA [2]<|a8<|h9<|fR<|c<|h9<|f<|hr H) fun H=>vK<|fK<|fQ<|jB [0,5,6,7] H fun H=>e H
 exact vE<|fE<|g<|fX rfl<|d H
def Ki(a:List ByteArray)(b:m7):List ByteArray->Option Bool
 | c =>
 gd (((decide ((a.length:Int)<=14)&&decide ((b.2.1.length:Int)<=30)&&decide ((c.length:Int)<=8))=true/\True->(P5 a).isSome)/\((decide ((a.length:Int)<=14)&&decide ((b.2.1.length:Int)<=30)&&decide ((c.length:Int)<=8)&&vl (P5 a))=true/\True->(P5 b.2.1).isSome)/\((decide ((a.length:Int)<=14)&&decide ((b.2.1.length:Int)<=30)&&decide ((c.length:Int)<=8)&&vl (P5 a)&&vl (P5 b.2.1))=true/\True->(P5 c).isSome)/\True) <|
 some (decide ((a.length:Int)<=14)&&decide ((b.2.1.length:Int)<=30)&&decide ((c.length:Int)<=8)&&vl (P5 a)&&vl (P5 b.2.1)&&vl (P5 c))
def Yc(b:m7)(e:List ByteArray)(f:List ByteArray×Int->Option Bool):List ByteArray×Int->Option Bool
 | (c,a) =>
 if(decide (a < (b.2.2.length:Int))) then
  gd (ix a b.2.2.length/\True)<|lt (b.2.2.getD a.toNat (a7 y231)) fun d =>
  gd ((c.length+[d.1].length<=9223372036854775807/\(c.length+[d.1].length)*16<=140737488355328)/\True) <|
  gd (c7 (a+1)/\True) <|
  f (c++[d.1],a+1)
 else
  Ki e b c
def Kj(a:m7):List ByteArray->Option Bool
 | b =>
 lp (Yc a b) ([],0)
def Yd(c:m7)(e:List ByteArray×Int->Option Bool):List ByteArray×Int->Option Bool
 | (b,a) =>
 if(decide (a < (c.1.length:Int))) then
  gd (ix a c.1.length/\True)<|lt (c.1.getD a.toNat (a7 y155)) fun d =>
  gd ((b.length+[d.1].length<=9223372036854775807/\(b.length+[d.1].length)*16<=140737488355328)/\True) <|
  gd (c7 (a+1)/\True) <|
  e (b++[d.1],a+1)
 else
  Kj c b
def MM(a:m7):Option Bool :=
 lp (Yd a) ([],0)
def O0L:Ct:=c8 197 [.agg y53] (fun x=>MM x.1) (fun r:Bool=>B r) (fun _=>())
theorem M0y:Ok prog O0L:=by
 refine c9 [.tmp 2] func197 ?_;intro y ⟨a,_⟩ r H Q hn hr;have:=hz (tc Qw tn);refine iA [1]<|iA [1,3,4]<|jN r (fun(b:List ByteArray)=>Z (BD [p 4 (nil)]) [(1,K 53 y53 a),(20,A 9 Ty.str b 0)]) (Kj a) (fun b H=>?_) (fun _ k t v=>?_)
 ·refine jN r (fun(h:List ByteArray)=>Z (BD [p 4 (O 33)]) [(1,K 53 y53 a),(20,A 9 Ty.str b 0),(33,A 9 Ty.str h 0)]) (Ki b a) (fun h H=>?_) (fun _ j w u=>?_)
  ·refine iB [2] H fun H=>a8<|hr H
  refine iA [1,3,4,23,24,25]<|vB<|lX (fun((d,f):List ByteArray×Int)=>Z (BD [p 4 (O 33),p 23 (L y231 a.2.2),p 24 (I (a.2.2.length:Int)),p 25 (I f)]) [(1,K 53 y53 a),(20,A 9 Ty.str b 0),(33,A 9 Ty.str d 0)]) ([],0) H fun _ z l n s ⟨d,f⟩ H=>iA [1,3,4,23,24,25,26]<|vQ<|cD H (fun H=>vK<|fQ<|vQ<|vB<|qD (fun i=>Z (BD [p 4 (O 33),p 8 (R 8),p 23 (L y231 a.2.2),p 24 (I (a.2.2.length:Int)),p 25 (I f)]) [(8,K 231 y231 i),(1,K 53 y53 a),(20,A 9 Ty.str b 0),(33,A 9 Ty.str d 0)]) H fun i H=>jB [1,3,4,23,24,25] H fun H=>fK<|fQ<|jB [1,3,4,23,24,25] H fun H=>l H) fun H=>vE<|fE<|n<|fX rfl<|j H
 refine iA [1,3,4,10,11,12]<|vB<|lX (fun((c,e):List ByteArray×Int)=>Z (BD [p 4 (nil),p 10 (L y155 a.1),p 11 (I (a.1.length:Int)),p 12 (I e)]) [(1,K 53 y53 a),(20,A 9 Ty.str c 0)]) ([],0) H fun _ x m o q ⟨c,e⟩ H=>iA [1,3,4,10,11,12,13]<|vQ<|cD H (fun H=>vK<|fQ<|vQ<|vB<|qD (fun g=>Z (BD [p 4 (nil),p 6 (R 6),p 10 (L y155 a.1),p 11 (I (a.1.length:Int)),p 12 (I e)]) [(6,K 155 y155 g),(1,K 53 y53 a),(20,A 9 Ty.str c 0)]) H fun g H=>jB [1,3,4,10,11,12] H fun H=>fK<|fQ<|jB [1,3,4,10,11,12] H fun H=>m H) fun H=>vE<|fE<|o<|fX rfl<|k H
def Qx(a:r9)(b:Int):Option Bool :=
 some (a.1==b)
def N0u:Ct:=c8 291 [.agg y158,.dat (.pt i64)] (fun x=>Qx x.1 x.2.1) (fun r:Bool=>B r) (fun _=>())
theorem Qy:Ok prog N0u:=by
 refine c9 [.tmp 3] func291 ?_;intro y ⟨_,_,_⟩ r H Q hn hr;refine iA [1,2]<|iA [3]<|a8<|hr H
def Ye:Unit->Option Int
 | _ =>
 some (-1)
def p0A(b:List r9)(c:Int)(d:Int->Option Int):Int->Option Int
 | a =>
 if(decide (a < (b.length:Int))) then
  gd (ix a b.length/\(Qx (b.getD a.toNat (a7 y158)) c).isSome/\True) <|
  if(vl (Qx (b.getD a.toNat (a7 y158)) c)) then
   some a
  else
   gd (c7 (a+1)/\True) <|
   d (a+1)
 else
  Ye ()
def MN(a:List r9)(b:Int):Option Int :=
 lp (p0A a b) 0
def v0O:Ct:=c8 290 [.dat y158.sl,.fn 291 i64.pt] (fun x=>MN x.1 x.2.1) (fun r:Int=>I r) (fun _=>())
theorem Qz:Ok prog v0O:=by
 refine c9 [.tmp 4] func290 ?_;intro y ⟨a,h,_⟩ r H Q hn hr;have:=hz (tc Qy tn);refine iA [0,1]<|jN r (fun(_:Unit)=>Z [] []) (Ye) (fun _ H=>?_) (fun _ d j f=>?_)
 ·refine iA [4]<|a8<|hr H
 refine iA [0,1,7,8]<|vB<|lX (fun(b:Int)=>Z [p 0 (L y158 a),p 1 (AV.fn 291 [D i64.pt h]),p 7 (I (a.length:Int)),p 8 (I b)] []) 0 H fun _ i e g c b H=>iA [0,1,7,8,9]<|vQ<|cD H (fun H=>?_) (fun H=>?_)
 ·refine vK<|fQ<|vQ<|vB<|iA [0,1,5,7,8]<|iB [0,1,5,7,8,16] H fun H=>cD H (fun H=>iA [4]<|a8<|h9<|fR<|c<|h9<|f<|hr H) fun H=>vK<|fK<|fQ<|jB [0,1,7,8] H fun H=>e H
 exact vE<|fE<|g<|fX rfl<|d H
def MO(a:List r9)(b:Int):Option Bool :=
 gd ((MN a b).isSome/\True)<|lt (vl (MN a b)) fun c =>
 some (decide (0<=c))
def v0Q:Ct:=c8 274 [.dat y158.sl,.fn 291 (.pt i64)] (fun x=>MO x.1 x.2.1) (fun r:Bool=>B r) (fun _=>())
theorem Yf:Ok prog v0Q:=by
 refine c9 [.tmp 4] func274 ?_;intro y ⟨_,_,_⟩ r H Q hn hr;have:=hz (tc Qz (tc Qy tn));refine iA [0,1]<|iD Qz [4] H fun _ H=>a8<|hr H
def J5(a:l6)(b:Int):Option Bool :=
 gd ((MO a.2.2.2.1 b).isSome/\True) <|
 some (vl (MO a.2.2.2.1 b))
def N0E:Ct:=c8 277 [.agg y153,.dat i64] (fun x=>J5 x.1 x.2.1) (fun r:Bool=>B r) (fun _=>())
theorem L0W:Ok prog N0E:=by
 refine c9 [.tmp 4] func277 ?_;intro y ⟨_,_,_⟩ r H Q hn hr;have:=hz (tc Yf (tc Qy tn));refine iA [2,3]<|iB [4] H fun H=>a8<|hr H
def Ba(a:List A7):Option Int :=
 some (a.length:Int)
def N0I:Ct:=c8 272 [.dat y293.sl] (fun x=>Ba x.1) (fun r:Int=>I r) (fun _=>())
theorem QA:Ok prog N0I:=by
 refine c9 [.tmp 2] func272 ?_;intro y ⟨_,_⟩ r H Q hn hr;refine iA [0]<|iA [2]<|a8<|hr H
def N8(a:l6):Option Int :=
 gd ((Ba a.2.2.1).isSome/\c7 (vl (Ba a.2.2.1)-1)/\True)<|lt (vl (Ba a.2.2.1)) fun b =>
 some (b-1)
def N0F:Ct:=c8 276 [.agg y153] (fun x=>N8 x.1) (fun r:Int=>I r) (fun _=>())
theorem Kk:Ok prog N0F:=by
 refine c9 [.tmp 2] func276 ?_;intro y ⟨_,_⟩ r H Q hn hr;have:=hz (tc QA tn);refine iA [1]<|iD QA [2] H fun _ H=>a8<|hr H
def GH(a:l6):Int->Option Bool
 | b =>
 if(a.2.1==1) then
  gd (((b==(0:Int))=true/\True->(N8 a).isSome)/\((b==(0:Int))=true/\True->((0:Int)<=vl (N8 a)/\vl (N8 a)<=(62:Int))/\c7 ((1:Int)*(2:Int) ^ (vl (N8 a)).toNat))/\((b==(0:Int)&&(a.2.2.2.2.1.length:Int)==(1:Int)*(2:j2 i64) ^ (vl (N8 a)).toNat)=true/\True->(D0 a.2.2.2.2.1 (0:Int) (1:Int)).isSome)/\True)<|lt (vl (N8 a)) fun c =>
  some (b==(0:Int)&&(a.2.2.2.2.1.length:Int)==(1:Int)*(2:j2 i64) ^ c.toNat&&vl (D0 a.2.2.2.2.1 (0:Int) (1:Int)))
 else
  if(a.2.1==2) then
   gd (((b==1&&(a.2.2.2.2.1.length:Int)==0)=true/\True->(J5 a 1).isSome)/\((b==1&&(a.2.2.2.2.1.length:Int)==0&&!vl (J5 a 1))=true/\True->(J5 a 2).isSome)/\((b==1&&(a.2.2.2.2.1.length:Int)==0&&!vl (J5 a 1))=true/\True->(J5 a 3).isSome)/\True) <|
   some (b==1&&(a.2.2.2.2.1.length:Int)==0&&!vl (J5 a 1)&&!vl (J5 a 2)==vl (J5 a 3))
  else
   if(a.2.1==3) then
    gd (((b==1&&(a.2.2.2.2.1.length:Int)==0)=true/\True->(J5 a 1).isSome)/\((b==1&&(a.2.2.2.2.1.length:Int)==0&&vl (J5 a 1))=true/\True->(J5 a 2).isSome)/\((b==1&&(a.2.2.2.2.1.length:Int)==0&&vl (J5 a 1)&&vl (J5 a 2))=true/\True->(J5 a 3).isSome)/\True) <|
    some (b==1&&(a.2.2.2.2.1.length:Int)==0&&vl (J5 a 1)&&vl (J5 a 2)&&!vl (J5 a 3))
   else
    some false
def MP(a:Int)(c:Int×Int->Option Bool):Int->Option Bool
 | b =>
 gd (c7 (a+1)/\True) <|
 c (b,a+1)
def Yg(c:l6)(d:Int×Int->Option Bool):Int×Int->Option Bool
 | (b,a) =>
 if(decide (a < (c.2.2.1.length:Int))) then
  gd (ix a c.2.2.1.length/\True)<|lt (c.2.2.1.getD a.toNat (a7 y293)) fun e =>
  if e.2.2.2 then
   gd (c7 (b+1)/\True) <|
   MP a d (b+1)
  else
   MP a d b
 else
  GH c b
def MQ(a:l6):Option Bool :=
 lp (Yg a) (0,0)
def N0P:Ct:=c8 260 [.agg y153] (fun x=>MQ x.1) (fun r:Bool=>B r) (fun _=>())
theorem M0c:Ok prog N0P:=by
 refine c9 [.tmp 2] func260 ?_;intro y ⟨a,_⟩ r H Q hn hr;have:=hz (tc L0W (tc JZ (tc Kk tn)));refine iA [1]<|iA [1,3]<|jN r (fun(f:Int)=>Z (G6 f []) [(1,K 153 y153 a)]) (GH a) (fun f H=>?_) (fun _ h m o=>?_)
 ·refine vQ<|iA [1,3,19]<|vB<|iA [1,3,19,20]<|cD H (fun H=>iD Kk [2] H fun _ H=>a8<|h9<|fR<|hr H) fun H=>iA [1,3,19,38]<|cD H (fun H=>iB [2] H fun H=>a8<|h9<|fR<|hr H) fun H=>iA [1,3,60]<|cD H (fun H=>iB [2] H fun H=>a8<|h9<|fR<|hr H) fun H=>vK<|fK<|fQ<|iA [2]<|a8<|hr H
 refine iA [1,3,7,8,9]<|vB<|lX (fun((c,b):Int×Int)=>Z (G6 c [p 7 (L y293 a.2.2.1),p 8 (I (a.2.2.1.length:Int)),p 9 (I b)]) [(1,K 153 y153 a)]) (0,0) H fun _ i j k l ⟨c,b⟩ H=>iA [1,3,7,8,9,10]<|vQ<|cD H (fun H=>?_) (fun H=>?_)
 ·refine vK<|fQ<|jN r (fun(d:Int)=>Z (G6 d [p 7 (L y293 a.2.2.1),p 8 (I (a.2.2.1.length:Int)),p 9 (I b)]) [(1,K 153 y153 a)]) (MP b i) (fun d H=>?_) (fun _ e q n=>?_)
  ·refine jB [1,3,7,8,9] H fun H=>j H
  refine vB<|qD (fun g=>Z (G6 c [p 5 (R 5),p 7 (L y293 a.2.2.1),p 8 (I (a.2.2.1.length:Int)),p 9 (I b)]) [(5,K 293 y293 g),(1,K 153 y153 a)]) H fun g H=>iA [1,3,7,8,9,14]<|cD H (fun H=>jB [1,3,7,8,9] H fun H=>fK<|e H) fun H=>vK<|fK<|e H
 exact vE<|fE<|k<|fX rfl<|h H
def DQ(a:l6)(b:Int):Option Bool :=
 gd ((N8 a).isSome/\c7 (vl (N8 a)-1)/\(s6 b 0 (vl (N8 a)-1)).isSome/\True) <|
 some (vl (s6 b 0 (vl (N8 a)-1)))
def N0v:Ct:=c8 289 [.agg y153,.dat i64] (fun x=>DQ x.1 x.2.1) (fun r:Bool=>B r) (fun _=>())
theorem L0Q:Ok prog N0v:=by
 refine c9 [.tmp 4] func289 ?_;intro y ⟨_,_,_⟩ r H Q hn hr;have:=hz (tc R9 (tc Kk tn));refine iA [1,2]<|iB [4] H fun H=>a8<|hr H
def Yh:Int->Option Int
 | a =>
 some a
def QB(b:List Int)(d:Int×Int->Option Int):Int×Int->Option Int
 | (c,a) =>
 if(decide (a < (b.length:Int))) then
  gd (ix a b.length/\True) <|
  gd (c7 (a+1)/\True) <|
  d ((min c (b.getD a.toNat 0),a+1))
 else
  Yh c
def QC(a:List Int):Unit->Option Int
 | _ =>
 gd (ix 0 a.length/\True) <|
 lp (QB a) ((a.getD (Int.toNat (0:Int)) (0:Int),1))
def GI(a:List Int):Option Int :=
 if(decide ((a.length:Int)<1)) then
  none
 else
  QC a ()
def N0p:Ct:=c8 300 [.dat i64.sl] (fun x=>GI x.1) (fun r:Int=>I r) (fun _=>())
theorem Yi:Ok prog N0p:=by
 refine c9 [.tmp 2] func300 ?_;intro y ⟨a,_⟩ r H Q hn hr;refine iA [0]<|jN r (fun(_:Unit)=>Z [p 0 (L i64 a)] []) (QC a) (fun _ H=>?_) (fun _ e k m=>?_)
 ·refine iB [0,3] H fun H=>jN r (fun(d:Int)=>Z [p 3 (J d)] []) (Yh) (fun d H=>?_) (fun _ f n i=>?_)
  ·refine iA [2]<|a8<|hr H
  refine iA [0,3,4]<|vB<|lX (fun((b,c):Int×Int)=>Z [p 0 (L i64 a),p 3 (J b),p 4 (I c)] []) ((a.getD (Int.toNat (0:Int)) (0:Int),1)) H fun _ j g h l ⟨b,c⟩ H=>vQ<|iA [0,3,4,15]<|cD H (fun H=>vK<|fQ<|vQ<|vB<|jB [0,3,4] H fun H=>fK<|fQ<|jB [0,3,4] H fun H=>g H) fun H=>vE<|fE<|h<|fX rfl<|f H
 refine iA [0,7]<|cD H (fun H=>Yj H) fun H=>vK<|e H
def Yk:Unit->Option Bool
 | _ =>
 some true
def Yl(b:List Int)(c:Int->Option Bool):Int->Option Bool
 | a =>
 if(decide (a < (b.length:Int))) then
  gd (c7 (a-1)/\ix (a-1) b.length/\ix a b.length/\True) <|
  if(decide (b.getD a.toNat 0<=b.getD (a-1).toNat 0)) then
   some false
  else
   gd (c7 (a+1)/\True) <|
   c (a+1)
 else
  Yk ()
def Bb(a:List Int):Option Bool :=
 lp (Yl a) 1
def P0p:Ct:=c8 161 [.dat i64.sl] (fun x=>Bb x.1) (fun r:Bool=>B r) (fun _=>())
theorem Ym:Ok prog P0p:=by
 refine c9 [.tmp 2] func161 ?_;intro y ⟨d,_⟩ r H Q hn hr;refine iA [0]<|jN r (fun(_:Unit)=>Z [] []) (Yk) (fun _ H=>?_) (fun _ c i f=>?_)
 ·refine iA [2]<|a8<|hr H
 refine iA [0,3]<|vB<|lX (fun(a:Int)=>Z [p 0 (L i64 d),p 3 (I a)] []) 1 H fun _ h e g b a H=>vQ<|iA [0,3,7]<|cD H (fun H=>?_) (fun H=>?_)
 ·refine vK<|fQ<|vQ<|vB<|iB [0,3,19] H fun H=>cD H (fun H=>iA [2]<|a8<|h9<|fR<|b<|h9<|f<|hr H) fun H=>vK<|fK<|fQ<|jB [0,3] H fun H=>e H
 exact vE<|fE<|g<|fX rfl<|c H
def X8(a:List Int):Option Bool :=
 gd ((A4 a).isSome/\(s6 (vl (A4 a)) 1 4).isSome/\(vl (s6 (vl (A4 a)) 1 4)=true/\True->(D0 a 0 100000).isSome)/\((vl (s6 (vl (A4 a)) 1 4)&&vl (D0 a 0 100000))=true/\True->(Bb a).isSome)/\True) <|
 some (vl (s6 (vl (A4 a)) 1 4)&&vl (D0 a 0 100000)&&vl (Bb a))
def N0m:Ct:=c8 305 [.dat i64.sl] (fun x=>X8 x.1) (fun r:Bool=>B r) (fun _=>())
theorem L0L:Ok prog N0m:=by
 refine c9 [.tmp 2] func305 ?_;intro y ⟨_,_⟩ r H Q hn hr;have:=hz (tc Ym (tc JZ (tc R9 (tc Kb tn))));refine iA [0]<|iB [2] H fun H=>a8<|hr H
def GJ(a:m0):Option Bool :=
 gd ((X8 a.1).isSome/\(vl (X8 a.1)=true/\True->(X8 a.2.1).isSome)/\((vl (X8 a.1)&&vl (X8 a.2.1))=true/\True->c7 ((a.1.length:Int)*(a.2.1.length:Int)))/\((vl (X8 a.1)&&vl (X8 a.2.1)&&(a.2.2.length:Int)==(a.1.length:Int)*(a.2.1.length:Int))=true/\True->(D0 a.2.2 (-1000000) 1000000).isSome)/\True) <|
 some (vl (X8 a.1)&&vl (X8 a.2.1)&&(a.2.2.length:Int)==(a.1.length:Int)*(a.2.1.length:Int)&&vl (D0 a.2.2 (-1000000) 1000000))
def N0q:Ct:=c8 299 [.agg y269] (fun x=>GJ x.1) (fun r:Bool=>B r) (fun _=>())
theorem L0N:Ok prog N0q:=by
 refine c9 [.tmp 2] func299 ?_;intro y ⟨_,_⟩ r H Q hn hr;have:=hz (tc JZ (tc L0L tn));refine iA [1]<|iB [2] H fun H=>a8<|hr H
def Kl(a:m0)(b:Bool):Option Bool :=
 gd ((GJ a).isSome/\(b=true/\(!vl (GJ a))=false/\True->(GI a.2.2).isSome)/\True)<|lt (vl (GI a.2.2)) fun c =>
 some (!vl (GJ a)||b&&decide (c<0))
def N0r:Ct:=c8 298 [.agg y269,.dat (.pt Ty.bool)] (fun x=>Kl x.1 x.2.1) (fun r:Bool=>B r) (fun _=>())
theorem QD:Ok prog N0r:=by
 refine c9 [.tmp 3] func298 ?_;intro y ⟨_,_,_⟩ r H Q hn hr;have:=hz (tc Yi (tc L0N tn));refine iA [1,2]<|iD Yi [3] H fun _ H=>a8<|hr H
def Yn:Unit->Option Int
 | _ =>
 some (-1)
def p0y(b:List m0)(c:Bool)(d:Int->Option Int):Int->Option Int
 | a =>
 if(decide (a < (b.length:Int))) then
  gd (ix a b.length/\(Kl (b.getD a.toNat (a7 y269)) c).isSome/\True) <|
  if(vl (Kl (b.getD a.toNat (a7 y269)) c)) then
   some a
  else
   gd (c7 (a+1)/\True) <|
   d (a+1)
 else
  Yn ()
def MR(a:List m0)(b:Bool):Option Int :=
 lp (p0y a b) 0
def v0L:Ct:=c8 304 [.dat y269.sl,.fn 298 Ty.bool.pt] (fun x=>MR x.1 x.2.1) (fun r:Int=>I r) (fun _=>())
theorem Yo:Ok prog v0L:=by
 refine c9 [.tmp 4] func304 ?_;intro y ⟨a,h,_⟩ r H Q hn hr;have:=hz (tc QD tn);refine iA [0,1]<|jN r (fun(_:Unit)=>Z [] []) (Yn) (fun _ H=>?_) (fun _ d j f=>?_)
 ·refine iA [4]<|a8<|hr H
 refine iA [0,1,7,8]<|vB<|lX (fun(b:Int)=>Z [p 0 (L y269 a),p 1 (AV.fn 298 [D Ty.bool.pt h]),p 7 (I (a.length:Int)),p 8 (I b)] []) 0 H fun _ i e g c b H=>iA [0,1,7,8,9]<|vQ<|cD H (fun H=>?_) (fun H=>?_)
 ·refine vK<|fQ<|vQ<|vB<|iA [0,1,5,7,8]<|iB [0,1,5,7,8,16] H fun H=>cD H (fun H=>iA [4]<|a8<|h9<|fR<|c<|h9<|f<|hr H) fun H=>vK<|fK<|fQ<|jB [0,1,7,8] H fun H=>e H
 exact vE<|fE<|g<|fX rfl<|d H
def MS(a:List m0)(b:Bool):Option Bool :=
 gd ((MR a b).isSome/\True)<|lt (vl (MR a b)) fun c =>
 some (decide (0<=c))
def v0N:Ct:=c8 297 [.dat y269.sl,.fn 298 (.pt Ty.bool)] (fun x=>MS x.1 x.2.1) (fun r:Bool=>B r) (fun _=>())
theorem v0y:Ok prog v0N:=by
 refine c9 [.tmp 4] func297 ?_;intro y ⟨_,_,_⟩ r H Q hn hr;have:=hz (tc Yo (tc QD tn));refine iA [0,1]<|iD Yo [4] H fun _ H=>a8<|hr H
def N9(a:List m0)(b:Bool):Option Bool :=
 gd ((((a.length:Int)==2)=true/\True->(MS a b).isSome)/\True) <|
 some ((a.length:Int)==2&&!vl (MS a b))
def N0x:Ct:=c8 287 [.dat y269.sl,.dat Ty.bool] (fun x=>N9 x.1 x.2.1) (fun r:Bool=>B r) (fun _=>())
theorem L0R:Ok prog N0x:=by
 refine c9 [.tmp 4] func287 ?_;intro y ⟨_,_,_⟩ r H Q hn hr;have:=hz (tc v0y (tc QD tn));refine iA [0,3]<|iB [4] H fun H=>a8<|hr H
def QE(a:A7):Option Bool :=
 some a.2.2.2
def N0o:Ct:=c8 302 [.agg y293] (fun x=>QE x.1) (fun r:Bool=>B r) (fun _=>())
theorem Yp:Ok prog N0o:=by
 refine c9 [.tmp 2] func302 ?_;intro y ⟨_,_⟩ r H Q hn hr;refine iA [1]<|iA [2]<|a8<|hr H
def Yq:Unit->Option Int
 | _ =>
 some (-1)
def p0z(b:List A7)(c:Int->Option Int):Int->Option Int
 | a =>
 if(decide (a < (b.length:Int))) then
  gd (ix a b.length/\(QE (b.getD a.toNat (a7 y293))).isSome/\True) <|
  if(vl (QE (b.getD a.toNat (a7 y293)))) then
   some a
  else
   gd (c7 (a+1)/\True) <|
   c (a+1)
 else
  Yq ()
def MT(a:List A7):Option Int :=
 lp (p0z a) 0
def v0M:Ct:=c8 301 [.dat y293.sl,.nof 302] (fun x=>MT x.1) (fun r:Int=>I r) (fun _=>())
theorem Yr:Ok prog v0M:=by
 refine c9 [.tmp 4] func301 ?_;intro y ⟨a,_,_⟩ r H Q hn hr;have:=hz (tc Yp tn);refine iA [0,1]<|jN r (fun(_:Unit)=>Z [] []) (Yq) (fun _ H=>?_) (fun _ d i f=>?_)
 ·refine iA [4]<|a8<|hr H
 refine iA [0,1,7,8]<|vB<|lX (fun(b:Int)=>Z [p 0 (L y293 a),p 1 (AV.fn 302 []),p 7 (I (a.length:Int)),p 8 (I b)] []) 0 H fun _ h e g c b H=>iA [0,1,7,8,9]<|vQ<|cD H (fun H=>?_) (fun H=>?_)
 ·refine vK<|fQ<|vQ<|vB<|iA [0,1,5,7,8]<|iB [0,1,5,7,8,16] H fun H=>cD H (fun H=>iA [4]<|a8<|h9<|fR<|c<|h9<|f<|hr H) fun H=>vK<|fK<|fQ<|jB [0,1,7,8] H fun H=>e H
 exact vE<|fE<|g<|fX rfl<|d H
def GK(a:l6):Option Int :=
 gd ((MT a.2.2.1).isSome/\True)<|lt (vl (MT a.2.2.1)) fun b =>
 some b
def N0w:Ct:=c8 288 [.agg y153] (fun x=>GK x.1) (fun r:Int=>I r) (fun _=>())
theorem Ys:Ok prog N0w:=by
 refine c9 [.tmp 2] func288 ?_;intro y ⟨_,_⟩ r H Q hn hr;have:=hz (tc Yp (tc Yr tn));refine iA [1]<|iD Yr [2] H fun _ H=>a8<|hr H
def MU(a:Int):Option Bool :=
 some (a==4||a==5)
def N0y:Ct:=c8 286 [.dat i64] (fun x=>MU x.1) (fun r:Bool=>B r) (fun _=>())
theorem L0S:Ok prog N0y:=by
 refine c9 [.tmp 2] func286 ?_;intro y ⟨_,_⟩ r H Q hn hr;refine iA [0]<|iA [2]<|a8<|hr H
def Km(b:l6)(a:r9):Bool->Option Bool
 | c =>
 if c then
  gd (ix a.2.1 b.2.2.1.length/\True) <|
  some ((b.2.2.1.getD a.2.1.toNat (a7 y293)).2.2.2&&a.2.2.2.1==0)
 else
  some false
def DR(b:l6)(a:r9):Option Bool :=
 gd ((MU a.1).isSome/\True) <|
 if(vl (MU a.1)) then
  gd (((a.2.2.2.1==0&&(a.2.2.2.2.2.length:Int)==0)=true/\True->(N9 a.2.2.2.2.1 false).isSome)/\((a.2.2.2.1==0&&(a.2.2.2.2.2.length:Int)==0&&vl (N9 a.2.2.2.2.1 false))=true/\True->(GK b).isSome)/\((a.2.2.2.1==0&&(a.2.2.2.2.2.length:Int)==0&&vl (N9 a.2.2.2.2.1 false)&&a.2.1==vl (GK b)&&decide (0<=a.2.1))=true/\True->(DQ b a.2.2.1).isSome)/\True)<|lt (vl (GK b)) fun d =>
  some (a.2.2.2.1==0&&(a.2.2.2.2.2.length:Int)==0&&vl (N9 a.2.2.2.2.1 false)&&a.2.1==d&&decide (0<=a.2.1)&&vl (DQ b a.2.2.1)&&a.2.2.1 != a.2.1)
 else
  gd ((N9 a.2.2.2.2.1 true).isSome/\((!vl (N9 a.2.2.2.2.1 true))=false/\True->(N9 a.2.2.2.2.2 true).isSome)/\((!vl (N9 a.2.2.2.2.1 true)||!vl (N9 a.2.2.2.2.2 true))=false/\True->(N8 b).isSome)/\((!vl (N9 a.2.2.2.2.1 true)||!vl (N9 a.2.2.2.2.2 true)||a.2.2.1 != vl (N8 b))=false/\True->(DQ b a.2.1).isSome)/\True)<|lt (vl (N8 b)) fun c =>
  if(!vl (N9 a.2.2.2.2.1 true)||!vl (N9 a.2.2.2.2.2 true)||a.2.2.1 != c||!vl (DQ b a.2.1)) then
   some false
  else
   if(a.1==1) then
    gd (ix a.2.1 b.2.2.1.length/\((!(b.2.2.1.getD a.2.1.toNat (a7 y293)).2.2.2)=true/\True->(s6 a.2.2.2.1 1 3).isSome)/\True) <|
    some (!(b.2.2.1.getD a.2.1.toNat (a7 y293)).2.2.2&&vl (s6 a.2.2.2.1 1 3))
   else
    if(a.1==2) then
     Km b a (a.1==2)
    else
     Km b a (a.1==3)
def N0H:Ct:=c8 273 [.agg y153,.agg y158] (fun x=>DR x.1 x.2.1) (fun r:Bool=>B r) (fun _=>())
theorem L0X:Ok prog N0H:=by
 refine c9 [.tmp 4] func273 ?_;intro y ⟨c,d,_⟩ r H Q hn hr;have:=hz (tc R9 (tc L0Q (tc Kk (tc L0R (tc Ys (tc L0S tn))))));refine iA [2,3]<|vQ<|iB [2,3,7] H fun H=>cD H (fun H=>iD Ys [4] H fun _ H=>a8<|fR<|hr H) fun H=>vK<|fQ<|vQ<|iD Kk [2,3,70] H fun _ H=>cD H (fun H=>iA [4]<|a8<|fR<|hr H) fun H=>vK<|fQ<|vQ<|iA [2,3,72]<|vB<|iA [2,3,72,73]<|cD H (fun H=>iB [4] H fun H=>a8<|h9<|fR<|hr H) fun H=>jN r (fun(a:Bool)=>Z (G9 [p 88 (B a)]) [(3,K 158 y158 d),(2,K 153 y153 c)]) (Km c d) (fun a H=>?_) (fun _ b e f=>?_)
 ·refine cD H (fun H=>iB [4] H fun H=>a8<|h9<|fR<|hr H) fun H=>vK<|fK<|fQ<|iA [4]<|a8<|hr H
 refine iA [2,3,72,88]<|cD H (fun H=>vK<|b H) fun H=>jA [2,3,88]<|b H
def QF(a:r9)(b:r9):Option Bool :=
 some (a.1==b.1&&a.2.1==b.2.1&&a.2.2.1==b.2.2.1)
def N0G:Ct:=c8 275 [.agg y158,.dat (.pt y158)] (fun x=>QF x.1 x.2.1) (fun r:Bool=>B r) (fun _=>())
theorem QG:Ok prog N0G:=by
 refine c9 [.tmp 3] func275 ?_;intro y ⟨_,_,_⟩ r H Q hn hr;refine iA [1,2]<|iA [3]<|a8<|hr H
def Yt:Unit->Option Int
 | _ =>
 some (-1)
def p0B(b:List r9)(c:r9)(d:Int->Option Int):Int->Option Int
 | a =>
 if(decide (a < (b.length:Int))) then
  gd (ix a b.length/\(QF (b.getD a.toNat (a7 y158)) c).isSome/\True) <|
  if(vl (QF (b.getD a.toNat (a7 y158)) c)) then
   some a
  else
   gd (c7 (a+1)/\True) <|
   d (a+1)
 else
  Yt ()
def MV(a:List r9)(b:r9):Option Int :=
 lp (p0B a b) 0
def v0P:Ct:=c8 290 [.dat y158.sl,.fn 275 y158.pt] (fun x=>MV x.1 x.2.1) (fun r:Int=>I r) (fun _=>())
theorem Yu:Ok prog v0P:=by
 refine c9 [.tmp 4] func290 ?_;intro y ⟨a,h,_⟩ r H Q hn hr;have:=hz (tc QG tn);refine iA [0,1]<|jN r (fun(_:Unit)=>Z [] []) (Yt) (fun _ H=>?_) (fun _ d j f=>?_)
 ·refine iA [4]<|a8<|hr H
 refine iA [0,1,7,8]<|vB<|lX (fun(b:Int)=>Z [p 0 (L y158 a),p 1 (AV.fn 275 [D y158.pt h]),p 7 (I (a.length:Int)),p 8 (I b)] []) 0 H fun _ i e g c b H=>iA [0,1,7,8,9]<|vQ<|cD H (fun H=>?_) (fun H=>?_)
 ·refine vK<|fQ<|vQ<|vB<|iA [0,1,5,7,8]<|iB [0,1,5,7,8,16] H fun H=>cD H (fun H=>iA [4]<|a8<|h9<|fR<|c<|h9<|f<|hr H) fun H=>vK<|fK<|fQ<|jB [0,1,7,8] H fun H=>e H
 exact vE<|fE<|g<|fX rfl<|d H
def Kn(a:List r9)(b:r9):Option Bool :=
 gd ((MV a b).isSome/\True)<|lt (vl (MV a b)) fun c =>
 some (decide (0<=c))
def v0R:Ct:=c8 274 [.dat y158.sl,.fn 275 (.pt y158)] (fun x=>Kn x.1 x.2.1) (fun r:Bool=>B r) (fun _=>())
theorem v0z:Ok prog v0R:=by
 refine c9 [.tmp 4] func274 ?_;intro y ⟨_,_,_⟩ r H Q hn hr;have:=hz (tc Qz (tc Yu (tc QG tn)));refine iA [0,1]<|iD Yu [4] H fun _ H=>a8<|hr H
def MW(a:l6):Unit->Option Bool
 | _ =>
 some (decide ((a.2.2.2.1.length:Int)<=8))
def Yv(a:l6)(d:Int->Option Bool):Int->Option Bool
 | b =>
 if(decide (b < (a.2.2.2.1.length:Int))) then
  gd (ix b a.2.2.2.1.length/\True)<|lt (a.2.2.2.1.getD b.toNat (a7 y158)) fun c =>
  gd ((DR a c).isSome/\((!vl (DR a c))=false/\True->(0:Int)<=(0:Int)/\(0:Int)<=b/\b<=(a.2.2.2.1.length:Int))/\((!vl (DR a c))=false/\True->(Kn (List.take b.toNat a.2.2.2.1) c).isSome)/\True) <|
  if(!vl (DR a c)||vl (Kn (List.take b.toNat a.2.2.2.1) c)) then
   some false
  else
   gd (c7 (b+1)/\True) <|
   d (b+1)
 else
  MW a ()
def DS(a:l6):Option Bool :=
 lp (Yv a) 0
def N0Q:Ct:=c8 259 [.agg y153] (fun x=>DS x.1) (fun r:Bool=>B r) (fun _=>())
theorem M0d:Ok prog N0Q:=by
 refine c9 [.tmp 2] func259 ?_;intro y ⟨a,_⟩ r H Q hn hr;have:=hz (tc Yf (tc v0z (tc QG (tc L0X tn))));refine iA [1]<|jN r (fun(_:Unit)=>Z [p 1 (R 1)] [(1,K 153 y153 a)]) (MW a) (fun _ H=>?_) (fun _ e j g=>?_)
 ·refine iA [2]<|a8<|hr H
 refine iA [1,6,7,8]<|vB<|lX (fun(b:Int)=>Z [p 1 (R 1),p 6 (L y158 a.2.2.2.1),p 7 (I (a.2.2.2.1.length:Int)),p 8 (I b)] [(1,K 153 y153 a)]) 0 H fun _ i f h d b H=>iA [1,6,7,8,9]<|vQ<|cD H (fun H=>?_) (fun H=>?_)
 ·refine vK<|fQ<|vQ<|vB<|qD (fun c=>Z (G6 b [p 4 (R 4),p 6 (L y158 a.2.2.2.1),p 7 (I (a.2.2.2.1.length:Int)),p 8 (I b)]) [(4,K 158 y158 c),(1,K 153 y153 a)]) H fun c H=>iB [1,6,7,8,24] H fun H=>cD H (fun H=>iA [2]<|a8<|h9<|fR<|d<|h9<|g<|hr H) fun H=>vK<|fK<|fQ<|jB [1,6,7,8] H fun H=>f H
 exact vE<|fE<|h<|fX rfl<|e H
def Ko(a:List A7):List ByteArray->Option Bool
 | b =>
 gd ((Ba a).isSome/\(s6 (vl (Ba a)) 2 5).isSome/\(vl (s6 (vl (Ba a)) 2 5)=true/\True->(P5 b).isSome)/\True) <|
 some (vl (s6 (vl (Ba a)) 2 5)&&vl (P5 b))
def MX(a:Int)(c:List ByteArray×Int->Option Bool):List ByteArray->Option Bool
 | b =>
 gd (c7 (a+1)/\True) <|
 c (b,a+1)
def Yw(b:List A7)(e:List ByteArray×Int->Option Bool):List ByteArray×Int->Option Bool
 | (d,c) =>
 if(decide (c < (b.length:Int))) then
  gd (ix c b.length/\True)<|lt (b.getD c.toNat (a7 y293)) fun a =>
  gd ((d.length+[a.1].length<=9223372036854775807/\(d.length+[a.1].length)*16<=140737488355328)/\True) <|
  gd (c7 ((b.length:Int)-1)/\True) <|
  if(c==(b.length:Int)-1) then
   if(a.2.1 != 2||a.2.2.1 != 0||a.2.2.2) then
    some false
   else
    MX c e (d++[a.1])
  else
   gd (((a.2.1 != 1)=false/\True->(s6 a.2.2.1 0 500).isSome)/\True) <|
   if(a.2.1 != 1||!vl (s6 a.2.2.1 0 500)) then
    some false
   else
    MX c e (d++[a.1])
 else
  Ko b d
def CI(a:List A7):Option Bool :=
 lp (Yw a) ([],0)
def N0R:Ct:=c8 258 [.dat y293.sl] (fun x=>CI x.1) (fun r:Bool=>B r) (fun _=>())
theorem M0e:Ok prog N0R:=by
 refine c9 [.tmp 2] func258 ?_;intro y ⟨a,_⟩ r H Q hn hr;have:=hz (tc Qw (tc R9 (tc QA tn)));refine iA [0]<|iA [0,3]<|jN r (fun(g:List ByteArray)=>Z [p 0 (L y293 a),p 3 (O 17)] [(17,A 9 Ty.str g 0)]) (Ko a) (fun g H=>?_) (fun _ k o j=>?_)
 ·refine iB [2] H fun H=>a8<|hr H
 refine iA [0,3,6,7,8]<|vB<|lX (fun((c,b):List ByteArray×Int)=>Z [p 0 (L y293 a),p 3 (O 17),p 6 (L y293 a),p 7 (I (a.length:Int)),p 8 (I b)] [(17,A 9 Ty.str c 0)]) ([],0) H fun _ l m n e ⟨c,b⟩ H=>iA [0,3,6,7,8,9]<|vQ<|cD H (fun H=>?_) (fun H=>?_)
 ·refine vK<|fQ<|jN r (fun(d:List ByteArray)=>Z [p 0 (L y293 a),p 3 (O 17),p 6 (L y293 a),p 7 (I (a.length:Int)),p 8 (I b)] [(17,A 9 Ty.str d 0)]) (MX b l) (fun d H=>?_) (fun _ f q i=>?_)
  ·refine jB [0,3,6,7,8] H fun H=>m H
  refine vB<|qD (fun h=>Z [p 0 (L y293 a),p 3 (O 17),p 4 (I b),p 5 (R 5),p 6 (L y293 a),p 7 (I (a.length:Int)),p 8 (I b)] [(5,K 293 y293 h),(17,A 9 Ty.str c 0)]) H fun h H=>iB [0,3,4,5,6,7,8] H fun H=>iB [0,3,5,6,7,8,22] H fun H=>cD H (fun H=>?_) (fun H=>?_)
  ·refine iA [0,3,6,7,8,34]<|cD H (fun H=>iA [2]<|a8<|h9<|i<|e<|h9<|j<|hr H) fun H=>vK<|fK<|f H
  refine iB [0,3,6,7,8,43] H fun H=>cD H (fun H=>iA [2]<|a8<|h9<|i<|e<|h9<|j<|hr H) fun H=>vK<|fK<|f H
 exact vE<|fE<|n<|fX rfl<|k H
def Kp(a:l6):Option Bool :=
 gd ((K8 a.1).isSome/\(vl (K8 a.1)=true/\True->(CI a.2.2.1).isSome)/\((vl (K8 a.1)&&vl (CI a.2.2.1))=true/\True->(DS a).isSome)/\((vl (K8 a.1)&&vl (CI a.2.2.1)&&vl (DS a))=true/\True->(s6 a.2.2.2.2.2.1 0 100000).isSome)/\((vl (K8 a.1)&&vl (CI a.2.2.1)&&vl (DS a)&&vl (s6 a.2.2.2.2.2.1 0 100000))=true/\True->(s6 a.2.2.2.2.2.2 0 100000).isSome)/\((vl (K8 a.1)&&vl (CI a.2.2.1)&&vl (DS a)&&vl (s6 a.2.2.2.2.2.1 0 100000)&&vl (s6 a.2.2.2.2.2.2 0 100000))=true/\True->(MQ a).isSome)/\True) <|
 some (vl (K8 a.1)&&vl (CI a.2.2.1)&&vl (DS a)&&vl (s6 a.2.2.2.2.2.1 0 100000)&&vl (s6 a.2.2.2.2.2.2 0 100000)&&vl (MQ a))
def O0h:Ct:=c8 232 [.agg y153] (fun x=>Kp x.1) (fun r:Bool=>B r) (fun _=>())
theorem M0l:Ok prog O0h:=by
 refine c9 [.tmp 2] func232 ?_;intro y ⟨_,_⟩ r H Q hn hr;have:=hz (tc M0c (tc R9 (tc M0d (tc M0e (tc Qv tn)))));refine iA [1]<|iB [2] H fun H=>a8<|hr H
def Kq(a:List l6):List ByteArray->Option Bool
 | b =>
 gd ((decide ((a.length:Int)<=8)=true/\True->(P5 b).isSome)/\True) <|
 some (decide ((a.length:Int)<=8)&&vl (P5 b))
def Yx(d:List l6)(e:List ByteArray×Int->Option Bool):List ByteArray×Int->Option Bool
 | (c,a) =>
 if(decide (a < (d.length:Int))) then
  gd (ix a d.length/\True)<|lt (d.getD a.toNat (a7 y153)) fun b =>
  gd ((Kp b).isSome/\True) <|
  if(!vl (Kp b)) then
   some false
  else
   gd ((c.length+[b.1].length<=9223372036854775807/\(c.length+[b.1].length)*16<=140737488355328)/\True) <|
   gd (c7 (a+1)/\True) <|
   e (c++[b.1],a+1)
 else
  Kq d c
def Kr(a:List l6):Option Bool :=
 lp (Yx a) ([],0)
def O0M:Ct:=c8 196 [.agg y153.sl] (fun x=>Kr x.1) (fun r:Bool=>B r) (fun _=>())
theorem M0z:Ok prog O0M:=by
 refine c9 [.tmp 2] func196 ?_;intro y ⟨a,_⟩ r H Q hn hr;have:=hz (tc Qw (tc M0l tn));refine iA [1]<|iA [1,3]<|jN r (fun(d:List ByteArray)=>Z (BD []) [(1,bx 49 [L y153 a]),(20,A 9 Ty.str d 0)]) (Kq a) (fun d H=>?_) (fun _ g l i=>?_)
 ·refine iB [2] H fun H=>a8<|hr H
 refine iA [1,3,7,8,9]<|vB<|lX (fun((b,c):List ByteArray×Int)=>Z (BD [p 7 (L y153 a),p 8 (I (a.length:Int)),p 9 (I c)]) [(1,bx 49 [L y153 a]),(20,A 9 Ty.str b 0)]) ([],0) H fun _ k h j f ⟨b,c⟩ H=>iA [1,3,7,8,9,10]<|vQ<|cD H (fun H=>?_) (fun H=>?_)
 ·refine vK<|fQ<|vQ<|vB<|qD (fun e=>Z (BD [p 5 (R 5),p 7 (L y153 a),p 8 (I (a.length:Int)),p 9 (I c)]) [(5,K 153 y153 e),(1,bx 49 [L y153 a]),(20,A 9 Ty.str b 0)]) H fun e H=>vQ<|iB [1,3,5,7,8,9,15] H fun H=>cD H (fun H=>iA [2]<|a8<|fR<|h9<|fR<|f<|h9<|i<|hr H) fun H=>vK<|fQ<|jB [1,3,7,8,9] H fun H=>fK<|fQ<|jB [1,3,7,8,9] H fun H=>h H
 exact vE<|fE<|j<|fX rfl<|g H
def Yy:Unit->Option Int
 | _ =>
 some (-1)
def p0E(b:List Int)(c:Int->Option Int):Int->Option Int
 | a =>
 if(decide (a < (b.length:Int))) then
  gd (ix a b.length/\(Qs (b.getD a.toNat 0)).isSome/\True) <|
  if(vl (Qs (b.getD a.toNat 0))) then
   some a
  else
   gd (c7 (a+1)/\True) <|
   c (a+1)
 else
  Yy ()
def MY(a:List Int):Option Int :=
 lp (p0E a) 0
def v0U:Ct:=c8 237 [.dat i64.sl,.nof 201] (fun x=>MY x.1) (fun r:Int=>I r) (fun _=>())
theorem Yz:Ok prog v0U:=by
 refine c9 [.tmp 4] func237 ?_;intro y ⟨a,_,_⟩ r H Q hn hr;have:=hz (tc Qt tn);refine iA [0,1]<|jN r (fun(_:Unit)=>Z [] []) (Yy) (fun _ H=>?_) (fun _ d i f=>?_)
 ·refine iA [4]<|a8<|hr H
 refine iA [0,1,7,8]<|vB<|lX (fun(b:Int)=>Z [p 0 (L i64 a),p 1 (AV.fn 201 []),p 7 (I (a.length:Int)),p 8 (I b)] []) 0 H fun _ h e g c b H=>iA [0,1,7,8,9]<|vQ<|cD H (fun H=>?_) (fun H=>?_)
 ·refine vK<|fQ<|vQ<|vB<|iA [0,1,5,7,8]<|iB [0,1,5,7,8,16] H fun H=>cD H (fun H=>iA [4]<|a8<|h9<|fR<|c<|h9<|f<|hr H) fun H=>vK<|fK<|fQ<|jB [0,1,7,8] H fun H=>e H
 exact vE<|fE<|g<|fX rfl<|d H
def MZ(a:List Int):Option Bool :=
 gd ((MY a).isSome/\True)<|lt (vl (MY a)) fun b =>
 some (decide (0<=b))
def v0X:Ct:=c8 200 [.dat i64.sl,.nof 201] (fun x=>MZ x.1) (fun r:Bool=>B r) (fun _=>())
theorem v0B:Ok prog v0X:=by
 refine c9 [.tmp 4] func200 ?_;intro y ⟨_,_,_⟩ r H Q hn hr;have:=hz (tc Yz (tc Qt tn));refine iA [0,1]<|iD Yz [4] H fun _ H=>a8<|hr H
def Ks:List Int->Option Bool
 | a =>
 gd ((MZ a).isSome/\True) <|
 some (!vl (MZ a))
def Na(b:Int)(c:Int×List Int->Option Bool):List Int->Option Bool
 | a =>
 gd (c7 (b+1)/\True) <|
 c (b+1,a)
def YA(d:m7)(e:Int×List Int->Option Bool):Int×List Int->Option Bool
 | (c,b) =>
 if(decide (c < (d.2.2.length:Int))) then
  gd (ix c d.2.2.length/\True)<|lt (d.2.2.getD c.toNat (a7 y231)) fun a =>
  gd (((a.2.1 != 1&&a.2.1 != 2)=false/\True->(DP d a.2.2).isSome)/\True) <|
  if(a.2.1 != 1&&a.2.1 != 2||!vl (DP d a.2.2)) then
   some false
  else
   if(a.2.1==1) then
    gd (ix a.2.2 b.length/\a.2.2.toNat<b.length/\c7 (b.getD a.2.2.toNat 0+1)/\ix a.2.2 b.length/\a.2.2.toNat<b.length/\True) <|
    Na c e (b.set a.2.2.toNat (b.getD a.2.2.toNat 0+1))
   else
    Na c e b
 else
  Ks b
def Nb(b:m7):List Int->Option Bool
 | a =>
 lp (YA b) (0,a)
def YB(c:m7)(e:List l6)(g:Int×List Int->Option Bool):Int×List Int->Option Bool
 | (d,b) =>
 if(decide (d < (c.1.length:Int))) then
  gd (ix d c.1.length/\True)<|lt (c.1.getD d.toNat (a7 y155)) fun a =>
  gd ((Kh c e a).isSome/\True) <|
  if(!vl (Kh c e a)) then
   some false
  else
   gd (c7 ((a.2.2.length:Int)-1)/\ix ((a.2.2.length:Int)-1) a.2.2.length/\ix (a.2.2.getD ((a.2.2.length:Int)-1).toNat 0) b.length/\Int.toNat (a.2.2.getD ((a.2.2.length:Int)-1).toNat 0)<b.length/\c7 (b.getD (Int.toNat (a.2.2.getD ((a.2.2.length:Int)-1).toNat 0)) 0+1)/\ix (a.2.2.getD ((a.2.2.length:Int)-1).toNat 0) b.length/\Int.toNat (a.2.2.getD ((a.2.2.length:Int)-1).toNat 0)<b.length/\True)<|lt (b.set (Int.toNat (a.2.2.getD ((a.2.2.length:Int)-1).toNat 0)) (b.getD (Int.toNat (a.2.2.getD ((a.2.2.length:Int)-1).toNat 0)) 0+1)) fun f =>
   gd (c7 (d+1)/\True) <|
   g (d+1,f)
 else
  Nb c b
def Kt(b:List l6)(a:m7):Option Bool :=
 gd ((Kr b).isSome/\((!vl (Kr b))=false/\True->(MM a).isSome)/\True) <|
 if(!vl (Kr b)||!vl (MM a)) then
  some false
 else
  gd ((0<=(a.2.1.length:Int)/\(a.2.1.length:Int)=(a.2.1.length:Int)/\(a.2.1.length:Int).toNat*8<=281474976710656/\(a.2.1.length:Int)<=9223372036854775807)/\True) <|
  lp (YB a b) ((0,List.replicate (a.2.1.length:Int).toNat 0))
def P0D:Ct:=c8 147 [.agg y153.sl,.agg y53] (fun x=>Kt x.1 x.2.1) (fun r:Bool=>B r) (fun _=>())
theorem M0R:Ok prog P0D:=by
 refine c9 [.tmp 4] func147 ?_;intro y ⟨h,a,_⟩ r H Q hn hr;have:=hz (tc Qt (tc v0B (tc XV (tc M0x (tc M0y (tc M0z tn))))));refine iA [2,3]<|vQ<|iB [2,3,17] H fun H=>cD H (fun H=>iA [4]<|a8<|fR<|hr H) fun H=>vK<|fQ<|iB [2,3,5] H fun H=>jN r (fun(k:List Int)=>Z [p 3 (R 3),p 5 (O 21)] [(21,A 3 i64 k 0),(3,K 53 y53 a)]) (Nb a) (fun k H=>?_) (fun _ q P w=>?_)
 ·refine jN r (fun(c:List Int)=>Z [p 5 (O 21)] [(21,A 3 i64 c 0)]) (Ks) (fun c H=>?_) (fun _ o T u=>?_)
  ·refine iB [4] H fun H=>a8<|hr H
  refine iA [3,5,49,50,51]<|vB<|lX (fun((d,b):Int×List Int)=>Z [p 3 (R 3),p 5 (O 21),p 49 (L y231 a.2.2),p 50 (I (a.2.2.length:Int)),p 51 (I d)] [(21,A 3 i64 b 0),(3,K 53 y53 a)]) (0,k) H fun _ E s z t ⟨d,b⟩ H=>iA [3,5,49,50,51,52]<|vQ<|cD H (fun H=>?_) (fun H=>?_)
  ·refine vK<|fQ<|jN r (fun(f:List Int)=>Z [p 3 (R 3),p 5 (O 21),p 49 (L y231 a.2.2),p 50 (I (a.2.2.length:Int)),p 51 (I d)] [(21,A 3 i64 f 0),(3,K 53 y53 a)]) (Na d E) (fun f H=>?_) (fun _ l G v=>?_)
   ·refine jB [3,5,49,50,51] H fun H=>s H
   refine vB<|qD (fun e=>Z [p 3 (R 3),p 5 (O 21),p 9 (R 9),p 49 (L y231 a.2.2),p 50 (I (a.2.2.length:Int)),p 51 (I d)] [(9,K 231 y231 e),(21,A 3 i64 b 0),(3,K 53 y53 a)]) H fun e H=>vQ<|iB [3,5,9,49,50,51,69] H fun H=>cD H (fun H=>iA [4]<|a8<|fR<|h9<|v<|t<|h9<|u<|hr H) fun H=>vK<|fQ<|iA [3,5,9,49,50,51,72]<|cD H (fun H=>jB [3,5,49,50,51] H fun H=>fK<|l H) fun H=>vK<|fK<|l H
  exact vE<|fE<|z<|fX rfl<|o H
 refine iA [2,3,5,23,24,25]<|vB<|lX (fun((g,j):Int×List Int)=>Z (G9 [p 5 (O 21),p 23 (L y155 a.1),p 24 (I (a.1.length:Int)),p 25 (I g)]) ((21,A 3 i64 j 0)::Du a h)) ((0,List.replicate (a.2.1.length:Int).toNat 0)) H fun _ V x F n ⟨g,j⟩ H=>iA [2,3,5,23,24,25,26]<|vQ<|cD H (fun H=>?_) (fun H=>?_)
 ·refine vK<|fQ<|vQ<|vB<|qD (fun i=>Z (G9 [p 5 (O 21),p 7 (R 7),p 23 (L y155 a.1),p 24 (I (a.1.length:Int)),p 25 (I g)]) ((7,K 155 y155 i)::(21,A 3 i64 j 0)::Du a h)) H fun i H=>vQ<|iB [2,3,5,7,23,24,25,33] H fun H=>cD H (fun H=>iA [4]<|a8<|fR<|h9<|fR<|n<|h9<|w<|hr H) fun H=>vK<|fQ<|zD (fun m=>Z (G9 [p 5 (O 21),p 23 (L y155 a.1),p 24 (I (a.1.length:Int)),p 25 (I g)]) ((21,A 3 i64 m 0)::(7,K 155 y155 i)::Du a h)) H fun m H=>fK<|fQ<|jB [2,3,5,23,24,25] H fun H=>x H
 exact vE<|fE<|F<|fX rfl<|q H
def YC:Unit->Option Bool
 | _ =>
 some true
def YD(c:List Int)(d:j1)(e:Int->Option Bool):Int->Option Bool
 | a =>
 if(decide (a < (d.2.2.length:Int))) then
  gd (ix a d.2.2.length/\True)<|lt (d.2.2.getD a.toNat (a7 y172)) fun b =>
  gd (ix a c.length/\a.toNat<c.length/\(Kc b (c.getD a.toNat 0)).isSome/\True) <|
  if(!vl (Kc b (c.getD a.toNat 0))) then
   some false
  else
   gd (c7 (a+1)/\True) <|
   e (a+1)
 else
  YC ()
def Nc(a:j1):List Int->Option Bool
 | b =>
 lp (YD b a) 0
def Nd(a:Int)(b:Int×List Int->Option Bool):List Int->Option Bool
 | c =>
 gd (c7 (a+1)/\True) <|
 b (a+1,c)
def YE(d:List v8)(f:j1)(e:Int×List Int->Option Bool):Int×List Int->Option Bool
 | (c,a) =>
 if(decide (c < (d.length:Int))) then
  gd (ix c d.length/\c.toNat<d.length/\True)<|lt (d.getD c.toNat (a7 y235)) fun b =>
  if(!b.2.2.2) then
   gd (ix b.2.2.1 a.length/\b.2.2.1.toNat<a.length/\c7 (a.getD b.2.2.1.toNat 0+1)/\ix b.2.2.1 a.length/\b.2.2.1.toNat<a.length/\True)<|lt (a.set b.2.2.1.toNat (a.getD b.2.2.1.toNat 0+1)) fun g =>
   Nd c e g
  else
   Nd c e a
 else
  Nc f a
def GL(a:j1):Option Bool :=
 gd ((Kt a.1 a.2.1).isSome/\True) <|
 if(!vl (Kt a.1 a.2.1)||(a.2.2.length:Int) != (a.2.1.2.1.length:Int)) then
  some false
 else
  gd ((0<=(a.2.2.length:Int)/\(a.2.2.length:Int)=(a.2.2.length:Int)/\(a.2.2.length:Int).toNat*8<=281474976710656/\(a.2.2.length:Int)<=9223372036854775807)/\True) <|
  gd ((An a.2.1).isSome/\True)<|lt (vl (An a.2.1)) fun b =>
  lp (YE b a) ((0,List.replicate (a.2.2.length:Int).toNat 0))
def Q0p:Ct:=c8 100 [.agg l5] (fun x=>GL x.1) (fun r:Bool=>B r) (fun _=>())
theorem N0i:Ok prog Q0p:=by
 refine c9 [.tmp 2] func100 ?_;intro y ⟨a,_⟩ r H Q hn hr;have:=hz (tc M0Q (tc CF (tc M0R tn)));refine iA [1]<|vQ<|iB [1,23] H fun H=>cD H (fun H=>iA [2]<|a8<|fR<|hr H) fun H=>vK<|fQ<|iB [1,3] H fun H=>jN r (fun(f:List Int)=>Z [p 1 (R 1),p 3 (O 27)] [(27,A 2 i64 f 0),(1,K 56 l5 a)]) (Nc a) (fun f H=>?_) (fun _ l w z=>?_)
 ·refine jN r (fun(_:Unit)=>Z [] []) (YC) (fun _ H=>?_) (fun _ n3 G m=>?_)
  ·refine iA [2]<|a8<|hr H
  refine iA [3,48,49,50]<|vB<|lX (fun(b:Int)=>Z [p 3 (O 27),p 48 (L y172 a.2.2),p 49 (I (a.2.2.length:Int)),p 50 (I b)] [(27,A 2 i64 f 0)]) 0 H fun _ F q n o b H=>iA [3,48,49,50,51]<|vQ<|cD H (fun H=>?_) (fun H=>?_)
  ·refine vK<|fQ<|vQ<|vB<|qD (fun e=>Z [p 3 (O 27),p 6 (I b),p 7 (R 7),p 48 (L y172 a.2.2),p 49 (I (a.2.2.length:Int)),p 50 (I b)] [(7,K 172 y172 e),(27,A 2 i64 f 0)]) H fun e H=>iB [3,48,49,50,61] H fun H=>cD H (fun H=>iA [2]<|a8<|h9<|fR<|o<|h9<|m<|hr H) fun H=>vK<|fK<|fQ<|jB [3,48,49,50] H fun H=>q H
  exact vE<|fE<|n<|fX rfl<|n3 H
 refine iD CF [1,3,30,31,32] H fun c H=>vB<|lX (fun((d,g):Int×List Int)=>Z [p 1 (R 1),p 3 (O 27),p 30 (O 30),p 31 (I (c.length:Int)),p 32 (I d)] [(30,A 235 y235 c 0),(27,A 2 i64 g 0),(1,K 56 l5 a)]) ((0,List.replicate (a.2.2.length:Int).toNat 0)) H fun _ s t u v ⟨d,g⟩ H=>iA [1,3,30,31,32,33]<|vQ<|cD H (fun H=>?_) (fun H=>?_)
 ·refine vK<|fQ<|jN r (fun(k:List Int)=>Z [p 1 (R 1),p 3 (O 27),p 30 (O 30),p 31 (I (c.length:Int)),p 32 (I d)] [(27,A 2 i64 k 0),(30,A 235 y235 c 0),(1,K 56 l5 a)]) (Nd d s) (fun k H=>?_) (fun _ i E x=>?_)
  ·refine jB [1,3,30,31,32] H fun H=>t H
  refine vB<|qD (fun h=>Z [p 1 (R 1),p 3 (O 27),p 5 (R 5),p 30 (O 30),p 31 (I (c.length:Int)),p 32 (I d)] [(5,bx 235 (A6 true y235 h)),(30,A 235 y235 c 0),(27,A 2 i64 g 0),(1,K 56 l5 a)]) H fun h H=>iA [1,3,5,30,31,32,38]<|cD H (fun H=>zD (fun j=>Z [p 1 (R 1),p 3 (O 27),p 30 (O 30),p 31 (I (c.length:Int)),p 32 (I d)] [(27,A 2 i64 j 0),(5,bx 235 (A6 true y235 h)),(30,A 235 y235 c 0),(1,K 56 l5 a)]) H fun j H=>fK<|i H) fun H=>vK<|fK<|i H
 exact vE<|fE<|u<|fX rfl<|l H
def DT(a:Int)(b:Int):Option Bool :=
 some (decide (100<=a)&&decide (a<=b)&&decide (b<=5000))
def P0z:Ct:=c8 151 [.dat i64,.dat i64] (fun x=>DT x.1 x.2.1) (fun r:Bool=>B r) (fun _=>())
theorem M0P:Ok prog P0z:=by
 refine c9 [.tmp 4] func151 ?_;intro y ⟨_,_,_⟩ r H Q hn hr;refine iA [0,1]<|iA [4]<|a8<|hr H
def Ku(a:q9):Option Bool :=
 gd ((K8 a.1).isSome/\(vl (K8 a.1)=true/\True->(DT a.2.1 a.2.2.1).isSome)/\((vl (K8 a.1)&&vl (DT a.2.1 a.2.2.1))=true/\True->(DT a.2.2.2.1 a.2.2.2.2).isSome)/\True) <|
 some (vl (K8 a.1)&&vl (DT a.2.1 a.2.2.1)&&vl (DT a.2.2.2.1 a.2.2.2.2))
def Q0o:Ct:=c8 101 [.agg u4] (fun x=>Ku x.1) (fun r:Bool=>B r) (fun _=>())
theorem N0h:Ok prog Q0o:=by
 refine c9 [.tmp 2] func101 ?_;intro y ⟨_,_⟩ r H Q hn hr;have:=hz (tc M0P (tc Qv tn));refine iA [1]<|iB [2] H fun H=>a8<|hr H
def DU(b:m7)(c:List l6)(a:v8):Option Int :=
 if(decide (a.1<0)) then
  some 0
 else
  gd (ix a.1 b.1.length/\ix (b.1.getD a.1.toNat (a7 y155)).2.1 c.length/\ix a.2.1 (c.getD (b.1.getD a.1.toNat (a7 y155)).2.1.toNat (a7 y153)).2.2.1.length/\True)<|lt ((c.getD (b.1.getD a.1.toNat (a7 y155)).2.1.toNat (a7 y153)).2.2.1.getD a.2.1.toNat (a7 y293)) fun d =>
  some d.2.2.1
def O0D:Ct:=c8 208 [.agg y53,.agg y153.sl,.agg y235] (fun x=>DU x.1 x.2.1 x.2.2.1) (fun r:Int=>I r) (fun _=>())
theorem M0t:Ok prog O0D:=by
 refine c9 [.tmp 6] func208 ?_;intro y ⟨b,c,d,_⟩ r H Q hn hr;refine iA [3,4,5]<|vQ<|iA [3,4,5,9]<|cD H (fun H=>iA [6]<|a8<|fR<|hr H) fun H=>vK<|fQ<|qD (fun a=>Z [p 6 (J a.2.2.1)] [(5,K 235 y235 d),(4,bx 49 [L y153 c]),(3,K 53 y53 b)]) H fun a H=>a8<|hr H
def YF:List Int->Option (List Int)
 | a =>
 some a
def Nf(a:Int)(c:List Int×Int->Option (List Int)):List Int->Option (List Int)
 | b =>
 gd (c7 (a+1)/\True) <|
 c (b,a+1)
def YG(f:Int)(c:List v8)(e:List Int×Int->Option (List Int)):List Int×Int->Option (List Int)
 | (b,a) =>
 if(decide (a < (c.length:Int))) then
  gd (ix a c.length/\a.toNat<c.length/\True)<|lt (c.getD a.toNat (a7 y235)) fun d =>
  if(d.2.2.1==f&&!d.2.2.2) then
   gd ((b.length+[a].length<=9223372036854775807/\(b.length+[a].length)*8<=140737488355328)/\True) <|
   Nf a e (b++[a])
  else
   Nf a e b
 else
  YF b
def Kv(a:m7)(c:Int):Option (List Int) :=
 gd ((An a).isSome/\True)<|lt (vl (An a)) fun b =>
 lp (YG c b) ([],0)
def O0E:Ct:=c8 207 [.agg y53,.dat i64] (fun x=>Kv x.1 x.2.1) (fun r:List Int=>AV.ow 2 true i64 r) (fun _=>())
theorem YH:Ok prog O0E:=by
 refine c9 [.tmp 4] func207 ?_;intro y ⟨_,d,_⟩ r H Q hn hr;have:=hz (tc CF tn);refine iA [1,2]<|iA [1,2,5]<|jN r (fun(g:List Int)=>Z [p 5 (O 28)] [(28,A 2 i64 g 0)]) (YF) (fun g H=>?_) (fun _ i n q=>?_)
 ·refine iA [4]<|a8<|hr H
 refine iD CF [1,5,9,10,11] H fun b H=>vB<|lX (fun((c,a):List Int×Int)=>Z [p 1 (J d),p 5 (O 28),p 9 (O 9),p 10 (I (b.length:Int)),p 11 (I a)] [(9,A 235 y235 b 0),(28,A 2 i64 c 0)]) ([],0) H fun _ k l j m ⟨c,a⟩ H=>iA [1,5,9,10,11,12]<|vQ<|cD H (fun H=>?_) (fun H=>?_)
 ·refine vK<|fQ<|jN r (fun(h:List Int)=>Z [p 1 (J d),p 5 (O 28),p 9 (O 9),p 10 (I (b.length:Int)),p 11 (I a)] [(28,A 2 i64 h 0),(9,A 235 y235 b 0)]) (Nf a k) (fun h H=>?_) (fun _ f s o=>?_)
  ·refine jB [1,5,9,10,11] H fun H=>l H
  refine vB<|qD (fun e=>Z [p 1 (J d),p 5 (O 28),p 6 (I a),p 7 (R 7),p 9 (O 9),p 10 (I (b.length:Int)),p 11 (I a)] [(7,bx 235 (A6 true y235 e)),(9,A 235 y235 b 0),(28,A 2 i64 c 0)]) H fun e H=>iA [1,5,6,9,10,11,24]<|cD H (fun H=>jB [1,5,9,10,11] H fun H=>fK<|f H) fun H=>vK<|fK<|f H
 exact vE<|fE<|j<|fX rfl<|i H
def QH:List Int->Option (List Int)
 | a =>
 some a
def GM(c:w7)(e:Int×List Int->Option (List Int)):Int×List Int->Option (List Int)
 | (a,b) =>
 if(decide (0<a)) then
  gd (ix a c.1.length/\ix (c.1.getD a.toNat 0) b.length/\Int.toNat (c.1.getD a.toNat 0)<b.length/\ix a b.length/\a.toNat<b.length/\c7 (b.getD (Int.toNat (c.1.getD a.toNat 0)) 0+b.getD a.toNat 0)/\ix (c.1.getD a.toNat 0) b.length/\Int.toNat (c.1.getD a.toNat 0)<b.length/\True)<|lt (b.set (Int.toNat (c.1.getD a.toNat 0)) (b.getD (Int.toNat (c.1.getD a.toNat 0)) 0+b.getD a.toNat 0)) fun d =>
  gd (c7 (a-1)/\True) <|
  e (a-1,d)
 else
  QH b
def Ng(b:w7):List Int->Option (List Int)
 | a =>
 gd (c7 ((a.length:Int)-1)/\True) <|
 lp (GM b) (((a.length:Int)-1,a))
def YI(d:j1)(f:List v8)(b:List Int)(c:w7)(g:Int×List Int->Option (List Int)):Int×List Int->Option (List Int)
 | (a,e) =>
 if(decide (a < (b.length:Int))) then
  gd (ix a b.length/\a.toNat<b.length/\True) <|
  gd (ix a c.2.2.2.length/\ix (c.2.2.2.getD a.toNat 0) e.length/\Int.toNat (c.2.2.2.getD a.toNat 0)<e.length/\ix (b.getD a.toNat 0) f.length/\Int.toNat (b.getD a.toNat 0)<f.length/\(DU d.2.1 d.1 (f.getD (Int.toNat (b.getD a.toNat 0)) (a7 y235))).isSome/\c7 (e.getD (Int.toNat (c.2.2.2.getD a.toNat 0)) 0+vl (DU d.2.1 d.1 (f.getD (Int.toNat (b.getD a.toNat 0)) (a7 y235))))/\ix (c.2.2.2.getD a.toNat 0) e.length/\Int.toNat (c.2.2.2.getD a.toNat 0)<e.length/\True)<|lt ((vl (DU d.2.1 d.1 (f.getD (Int.toNat (b.getD a.toNat 0)) (a7 y235))),e.set (Int.toNat (c.2.2.2.getD a.toNat 0)) (e.getD (Int.toNat (c.2.2.2.getD a.toNat 0)) 0+vl (DU d.2.1 d.1 (f.getD (Int.toNat (b.getD a.toNat 0)) (a7 y235)))))) fun(_,h) =>
  gd (c7 (a+1)/\True) <|
  g (a+1,h)
 else
  Ng c e
def Ao(a:j1)(b:Int):Option (List Int) :=
 gd (ix b a.2.2.length/\True)<|lt (a.2.2.getD b.toNat (a7 y172)) fun c =>
 gd ((Nh c.2.2.1).isSome/\True)<|lt (vl (Nh c.2.2.1)) fun d =>
 gd ((An a.2.1).isSome/\True)<|lt (vl (An a.2.1)) fun e =>
 gd ((Kv a.2.1 b).isSome/\True)<|lt (vl (Kv a.2.1 b)) fun f =>
 lp (YI a e f c) (0,d)
def P0w:Ct:=c8 154 [.agg l5,.dat i64] (fun x=>Ao x.1 x.2.1) (fun r:List Int=>AV.ow 2 true i64 r) (fun _=>())
theorem QJ:Ok prog P0w:=by
 refine c9 [.tmp 4] func154 ?_;intro y ⟨h,q,_⟩ r H Q hn hr;have:=hz (tc M0t (tc YH (tc CF (tc YJ tn))));refine iA [1,2]<|qD (fun b=>Z [p 1 (J q),p 2 (R 2),p 5 (R 5)] [(5,K 172 y172 b),(2,K 56 l5 h)]) H fun b H=>iD YJ [1,2,5,6] H fun s H=>iD CF [1,2,5,6,7] H fun k H=>jN r (fun(a:List Int)=>Z [p 5 (R 5),p 6 (O 18)] [(18,A 2 i64 a 0),(5,K 172 y172 b)]) (Ng b) (fun a H=>?_) (fun _ n E G=>?_)
 ·refine jN r (fun(d:List Int)=>Z [p 6 (O 18)] [(18,A 2 i64 d 0)]) (QH) (fun d H=>?_) (fun _ m P F=>?_)
  ·refine iA [4]<|a8<|hr H
  refine iB [5,6,10] H fun H=>vB<|lX (fun((c,e):Int×List Int)=>Z [p 5 (R 5),p 6 (O 18),p 10 (I c)] [(18,A 2 i64 e 0),(5,K 172 y172 b)]) (((a.length:Int)-1,a)) H fun _ V o u z ⟨c,e⟩ H=>vQ<|iA [5,6,10,56]<|cD H (fun H=>vK<|fQ<|vQ<|vB<|zD (fun f=>Z [p 5 (R 5),p 6 (O 18),p 10 (I c)] [(18,A 2 i64 f 0),(5,K 172 y172 b)]) H fun f H=>fK<|fQ<|jB [5,6,10] H fun H=>o H) fun H=>vE<|fE<|u<|fX rfl<|m H
 refine iD YH [2,5,6,7,25,26,27] H fun g H=>vB<|lX (fun((i,l):Int×List Int)=>Z [p 2 (R 2),p 5 (R 5),p 6 (O 18),p 7 (O 21),p 25 (O 25),p 26 (I (g.length:Int)),p 27 (I i)] [(25,A 2 i64 g 0),(21,A 235 y235 k 0),(18,A 2 i64 l 0),(5,K 172 y172 b),(2,K 56 l5 h)]) (0,s) H fun _ T t w x ⟨i,l⟩ H=>iA [2,5,6,7,25,26,27,28]<|vQ<|cD H (fun H=>?_) (fun H=>?_)
 ·refine vK<|fQ<|vQ<|vB<|iB [2,5,6,7,8,9,25,26,27] H fun H=>zD (fun(v,j)=>Z [p 2 (R 2),p 5 (R 5),p 6 (O 18),p 7 (O 21),p 25 (O 25),p 26 (I (g.length:Int)),p 27 (I i)] [(18,A 2 i64 j 0),(25,A 2 i64 g 0),(21,A 235 y235 k 0),(5,K 172 y172 b),(2,K 56 l5 h)]) H fun⟨v,j⟩ H =>
   fK<|fQ <|
   jB [2,5,6,7,25,26,27] H fun H =>
   t H
 exact vE<|fE<|w<|fX rfl<|n H
def YK:List Int->Option (List Int)
 | a =>
 some a
def Kw(b:w7)(d:List Int)(f:Int×List Int->Option (List Int)):Int×List Int->Option (List Int)
 | (a,c) =>
 if(decide (a < (c.length:Int))) then
  gd (ix a b.1.length/\ix (b.1.getD a.toNat 0) c.length/\Int.toNat (b.1.getD a.toNat 0)<c.length/\ix a b.2.1.length/\ix a d.length/\a.toNat<d.length/\c7 (b.2.1.getD a.toNat 0*d.getD a.toNat 0)/\c7 (c.getD (Int.toNat (b.1.getD a.toNat 0)) 0+b.2.1.getD a.toNat 0*d.getD a.toNat 0)/\ix a c.length/\a.toNat<c.length/\True)<|lt (c.set a.toNat (c.getD (Int.toNat (b.1.getD a.toNat 0)) 0+b.2.1.getD a.toNat 0*d.getD a.toNat 0)) fun e =>
  gd (c7 (a+1)/\True) <|
  f (a+1,e)
 else
  YK c
def Kx(b:j1)(c:Int):Option (List Int) :=
 gd (ix c b.2.2.length/\(Ao b c).isSome/\True)<|lt ((vl (Ao b c),b.2.2.getD c.toNat (a7 y172))) fun(a,d) =>
 gd ((0<=(a.length:Int)/\(a.length:Int)=(a.length:Int)/\(a.length:Int).toNat*8<=281474976710656/\(a.length:Int)<=9223372036854775807)/\True) <|
 lp (Kw d a) ((1,List.replicate (a.length:Int).toNat 0))
def O0C:Ct:=c8 209 [.agg l5,.dat i64] (fun x=>Kx x.1 x.2.1) (fun r:List Int=>AV.ow 2 true i64 r) (fun _=>())
theorem YL:Ok prog O0C:=by
 refine c9 [.tmp 4] func209 ?_;intro y ⟨h,_,_⟩ r H Q hn hr;have:=hz (tc QJ tn);refine iA [1,2]<|qD (fun(a,b)=>Z [p 5 (R 5),p 6 (O 16)] [(5,K 172 y172 b),(16,A 2 i64 a 0),(2,K 56 l5 h)]) H fun w H=>?_
 obtain⟨a,b⟩:=w;refine iB [5,6,7] H fun H=>jN r (fun(e:List Int)=>Z [p 7 (O 19)] [(19,A 2 i64 e 0)]) (YK) (fun e H=>?_) (fun _ g m n=>?_)
 ·refine iA [4]<|a8<|hr H
 refine iA [5,6,7,8]<|vB<|lX (fun((c,f):Int×List Int)=>Z [p 5 (R 5),p 6 (O 16),p 7 (O 19),p 8 (I c)] [(19,A 2 i64 f 0),(5,K 172 y172 b),(16,A 2 i64 a 0)]) ((1,List.replicate (a.length:Int).toNat 0)) H fun _ l i j k ⟨c,f⟩ H=>vQ<|iA [5,6,7,8,23]<|cD H (fun H=>vK<|fQ<|vQ<|vB<|zD (fun d=>Z [p 5 (R 5),p 6 (O 16),p 7 (O 19),p 8 (I c)] [(19,A 2 i64 d 0),(5,K 172 y172 b),(16,A 2 i64 a 0)]) H fun d H=>fK<|fQ<|jB [5,6,7,8] H fun H=>i H) fun H=>vE<|fE<|j<|fX rfl<|g H
def YM:List Int->Option (List Int)
 | a =>
 some a
def YN(c:List Int)(b:w7)(f:List Int×Int->Option (List Int)):List Int×Int->Option (List Int)
 | (d,a) =>
 if(decide (a < (b.2.2.2.length:Int))) then
  gd (ix a b.2.2.2.length/\True) <|
  gd (ix (b.2.2.2.getD a.toNat 0) c.length/\Int.toNat (b.2.2.2.getD a.toNat 0)<c.length/\(d.length+[c.getD (Int.toNat (b.2.2.2.getD a.toNat 0)) 0].length<=9223372036854775807/\(d.length+[c.getD (Int.toNat (b.2.2.2.getD a.toNat 0)) 0].length)*8<=140737488355328)/\True)<|lt (d++[c.getD (Int.toNat (b.2.2.2.getD a.toNat 0)) 0]) fun e =>
  gd (c7 (a+1)/\True) <|
  f (e,a+1)
 else
  YM d
def CJ(a:j1)(b:Int):Option (List Int) :=
 gd ((Kx a b).isSome/\True)<|lt (vl (Kx a b)) fun d =>
 gd (ix b a.2.2.length/\True)<|lt (a.2.2.getD b.toNat (a7 y172)) fun c =>
 lp (YN d c) ([],0)
def P0v:Ct:=c8 155 [.agg l5,.dat i64] (fun x=>CJ x.1 x.2.1) (fun r:List Int=>AV.ow 2 true i64 r) (fun _=>())
theorem M0O:Ok prog P0v:=by
 refine c9 [.tmp 4] func155 ?_;intro y ⟨h,_,_⟩ r H Q hn hr;have:=hz (tc YL tn);refine iA [1,2]<|iD YL [1,2,5] H fun c H=>iA [1,2,5,6]<|jN r (fun(e:List Int)=>Z [p 6 (O 29)] [(29,A 2 i64 e 0)]) (YM) (fun e H=>?_) (fun _ g m n=>?_)
 ·refine iA [4]<|a8<|hr H
 refine qD (fun a=>Z [p 5 (O 11),p 6 (nil),p 17 (L i64 a.2.2.2),p 18 (I (a.2.2.2.length:Int)),p 19 (I 0)] [(11,A 2 i64 c 0),(2,K 56 l5 h)]) H fun a H=>vB<|lX (fun((f,b):List Int×Int)=>Z [p 5 (O 11),p 6 (O 29),p 17 (L i64 a.2.2.2),p 18 (I (a.2.2.2.length:Int)),p 19 (I b)] [(11,A 2 i64 c 0),(29,A 2 i64 f 0)]) ([],0) H fun _ l i j k ⟨f,b⟩ H=>iA [5,6,17,18,19,20]<|vQ<|cD H (fun H=>vK<|fQ<|vQ<|vB<|iB [5,6,8,17,18,19] H fun H=>zD (fun d=>Z [p 5 (O 11),p 6 (AV.os 29 1),p 17 (L i64 a.2.2.2),p 18 (I (a.2.2.2.length:Int)),p 19 (I b)] [(29,A 2 i64 d 1),(28,A 2 i64 [c.getD (Int.toNat (a.2.2.2.getD b.toNat 0)) 0] 0),(11,A 2 i64 c 0)]) H fun d H=>fK<|fQ<|jB [5,6,17,18,19] H fun H=>i H) fun H=>vE<|fE<|j<|fX rfl<|g H
def I0h:Ct:=c8 155 [.agg l5,.dat i64] (fun x=>CJ x.1 x.2.1) (fun r=>frz ((fun r:List Int=>AV.ow 2 true i64 r) r)) (fun _=>())
theorem H0R:Ok prog I0h:=Gu M0O
def Ky(a:r9):Option (List (Int×Int)) :=
 if(a.1==2) then
  some ([((0:Int),(0:Int)),((0:Int),(1:Int))])
 else
  if(a.1==3) then
   some ([((1:Int),(0:Int)),((1:Int),(1:Int))])
  else
   if(a.1 != 1) then
    some []
   else
    if(a.2.2.2.1==1) then
     some ([((0:Int),(0:Int)),((1:Int),(1:Int))])
    else
     if(a.2.2.2.1==2) then
      some ([((0:Int),(1:Int)),((1:Int),(0:Int))])
     else
      lt ([((0:Int),(0:Int)),((0:Int),(1:Int)),((1:Int),(0:Int)),((1:Int),(1:Int))]) fun b =>
      some b
def O0G:Ct:=c8 205 [.agg y158] (fun x=>Ky x.1) (fun r:List (Int×Int)=>AV.ow 284 true (i64.pr i64) r) (fun _=>())
theorem YO:Ok prog O0G:=by
 refine c9 [.tmp 2] func205 ?_;intro y ⟨b,_⟩ r H Q hn hr;refine iA [1]<|iA [1,3]<|iA [1,3,4]<|vQ<|vB<|iA [1,3,4,11]<|cD H (fun H=>iA [2]<|a8<|h9<|fR<|hr H) fun H=>iA [1,3,4,18]<|cD H (fun H=>iA [2]<|a8<|h9<|fR<|hr H) fun H=>iA [1,3,4,25]<|cD H (fun H=>iA [2]<|a8<|h9<|fR<|hr H) fun H=>iA [1,3,4,29]<|cD H (fun H=>iA [2]<|a8<|h9<|fR<|hr H) fun H=>iA [4,34]<|cD H (fun H=>iA [2]<|a8<|h9<|fR<|hr H) fun H=>vK<|fK<|fQ<|qC (fun a=>Z [p 2 (O 43)] [(43,A 284 (i64.pr i64) a 0),(10,A 284 (i64.pr i64) [((0:Int),(1:Int)),((1:Int),(0:Int))] 0),(7,A 284 (i64.pr i64) [((0:Int),(0:Int)),((1:Int),(1:Int))] 0),(1,K 158 y158 b)]) H fun a H=>a8<|hr H
def YP:List j6->Option (List j6)
 | a =>
 some a
def QK(a:Int)(c:List j6×Int->Option (List j6)):List j6->Option (List j6)
 | b =>
 gd (c7 (a+1)/\True) <|
 c (b,a+1)
def QL(c:Int)(a:r9)(e:Int)(g:List (Int×Int))(i:List j6×Int->Option (List j6))(j:Int×List j6->Option (List j6)):Int×List j6->Option (List j6)
 | (d,f) =>
 if(decide (d < (g.length:Int))) then
  gd (ix d g.length/\d.toNat<g.length/\True)<|lt (g.getD d.toNat (a7 (i64.pr i64))) fun b =>
  gd (c7 (c+a.2.1)/\c7 ((2:Int)*(c+a.2.1))/\ix (0:Int) 2/\c7 ((2:Int)*(c+a.2.1)+b.1)/\c7 (c+a.2.2.1)/\c7 ((2:Int)*(c+a.2.2.1))/\ix (1:Int) 2/\c7 ((2:Int)*(c+a.2.2.1)+b.2)/\(f.length+[((2:Int)*(c+a.2.1)+b.1,(2:Int)*(c+a.2.2.1)+b.2,(1:Int),e)].length<=9223372036854775807/\(f.length+[((2:Int)*(c+a.2.1)+b.1,(2:Int)*(c+a.2.2.1)+b.2,(1:Int),e)].length)*32<=140737488355328)/\True)<|lt ((f++[((2:Int)*(c+a.2.1)+b.1,(2:Int)*(c+a.2.2.1)+b.2,(1:Int),e)],[((2:Int)*(c+a.2.1)+b.1,(2:Int)*(c+a.2.2.1)+b.2,(1:Int),e)])) fun(h,_) =>
  gd (c7 (d+1)/\True) <|
  j (d+1,h)
 else
  QK e i f
def QM(f:Int)(d:l6)(g:List j6×Int->Option (List j6)):List j6×Int->Option (List j6)
 | (c,a) =>
 if(decide (a < (d.2.2.2.1.length:Int))) then
  gd (ix a d.2.2.2.1.length/\True)<|lt (d.2.2.2.1.getD a.toNat (a7 y158)) fun b =>
  gd ((Ky b).isSome/\True)<|lt (vl (Ky b)) fun e =>
  lp (QL f b a e g) (0,c)
 else
  YP c
def CK(a:j1)(b:B0)(d:Int):Option (List j6) :=
 gd (ix b.2.1 a.1.length/\True)<|lt (a.1.getD b.2.1.toNat (a7 y153)) fun c =>
 lp (QM d c) ([],0)
def P0y:Ct:=c8 152 [.agg l5,.agg y155,.dat i64] (fun x=>CK x.1 x.2.1 x.2.2.1) (fun r:List j6=>AV.ow 138 true y138 r) (fun _=>())
theorem YQ:Ok prog P0y:=by
 refine c9 [.tmp 6] func152 ?_;intro y ⟨q,t,h,_⟩ r H Q hn hr;have:=hz (tc YO tn);refine iA [2,3,4]<|iA [2,3,4,7]<|jN r (fun(j:List j6)=>Z [p 7 (O 53)] [(53,A 138 y138 j 0)]) (YP) (fun j H=>?_) (fun _ o F P=>?_)
 ·refine iA [6]<|a8<|hr H
 refine qD (fun b=>Z [p 2 (J h),p 7 (nil),p 19 (L y158 b.2.2.2.1),p 20 (I (b.2.2.2.1.length:Int)),p 21 (I 0)] [(4,K 155 y155 t),(3,K 56 l5 q)]) H fun b H=>vB<|lX (fun((f,a):List j6×Int)=>Z [p 2 (J h),p 7 (O 53),p 19 (L y158 b.2.2.2.1),p 20 (I (b.2.2.2.1.length:Int)),p 21 (I a)] [(53,A 138 y138 f 0)]) ([],0) H fun _ u v x z ⟨f,a⟩ H=>iA [2,7,19,20,21,22]<|vQ<|cD H (fun H=>?_) (fun H=>?_)
 ·refine vK<|fQ<|jN r (fun(m:List j6)=>Z [p 2 (J h),p 7 (O 53),p 19 (L y158 b.2.2.2.1),p 20 (I (b.2.2.2.1.length:Int)),p 21 (I a)] [(53,A 138 y138 m 0)]) (QK a u) (fun m H=>?_) (fun _ n T G=>?_)
  ·refine jB [2,7,19,20,21] H fun H=>v H
  refine vB<|qD (fun d=>Z [p 2 (J h),p 7 (O 53),p 8 (I a),p 9 (R 9),p 19 (L y158 b.2.2.2.1),p 20 (I (b.2.2.2.1.length:Int)),p 21 (I a)] [(9,K 158 y158 d),(53,A 138 y138 f 0)]) H fun d H=>iD YO [2,7,8,9,19,20,21,27,28,29] H fun c H=>vB<|lX (fun((e,g):Int×List j6)=>Z [p 2 (J h),p 7 (O 53),p 8 (I a),p 9 (R 9),p 19 (L y158 b.2.2.2.1),p 20 (I (b.2.2.2.1.length:Int)),p 21 (I a),p 27 (O 27),p 28 (I (c.length:Int)),p 29 (I e)] [(27,A 284 (i64.pr i64) c 0),(9,K 158 y158 d),(53,A 138 y138 g 0)]) (0,f) H fun _ V s w E ⟨e,g⟩ H=>iA [2,7,8,9,19,20,21,27,28,29,30]<|vQ<|cD H (fun H=>?_) (fun H=>?_)
  ·refine vK<|fQ<|vQ<|vB<|qD (fun i=>Z [p 2 (J h),p 7 (O 53),p 8 (I a),p 9 (R 9),p 11 (R 11),p 19 (L y158 b.2.2.2.1),p 20 (I (b.2.2.2.1.length:Int)),p 21 (I a),p 27 (O 27),p 28 (I (c.length:Int)),p 29 (I e)] [(11,bx 284 (A6 true (i64.pr i64) i)),(27,A 284 (i64.pr i64) c 0),(9,K 158 y158 d),(53,A 138 y138 g 0)]) H fun i H=>zD (fun(k,l)=>Z [p 2 (J h),p 7 (AV.os 53 1),p 8 (I a),p 9 (R 9),p 19 (L y158 b.2.2.2.1),p 20 (I (b.2.2.2.1.length:Int)),p 21 (I a),p 27 (O 27),p 28 (I (c.length:Int)),p 29 (I e)] [(53,A 138 y138 k 1),(52,A 138 y138 l 0),(11,bx 284 (A6 true (i64.pr i64) i)),(27,A 284 (i64.pr i64) c 0),(9,K 158 y158 d)]) H fun⟨k,l⟩ H =>
    fK<|fQ <|
    jB [2,7,8,9,19,20,21,27,28,29] H fun H =>
    s H
  exact vE<|fE<|w<|fX rfl<|fK<|n H
 exact vE<|fE<|x<|fX rfl<|o H
def YR(d:j1)(e:List v8):List j6×List Int×List (List Int)->Option w9
 | (a,b,c) =>
 some (d,e,a,b,c,[])
def QN(a:Int)(e:Int×List Int×List (List Int)×List j6->Option w9):List (List Int)×List Int×List j6->Option w9
 | (d,b,c) =>
 gd (c7 (a+1)/\True) <|
 e (a+1,b,d,c)
def QO(a:Int)(c:Int×List j6->Option w9):List j6->Option w9
 | b =>
 gd (c7 (a+1)/\True) <|
 c (a+1,b)
def Kz(d:List Int)(a:Int)(e:List (List Int))(c:Int)(i:Int×List j6->Option w9)(g:Int×List j6->Option w9):Int×List j6->Option w9
 | (b,f) =>
 if(decide (b<2)) then
  gd (ix a d.length/\a.toNat<d.length/\c7 ((2:Int)*d.getD a.toNat (0:Int))/\c7 ((2:Int)*d.getD a.toNat (0:Int)+b)/\c7 ((2:Int)*List.getD (e.getD a.toNat []) c.toNat (0:Int))/\c7 ((2:Int)*List.getD (e.getD a.toNat []) c.toNat (0:Int)+b)/\(f.length+[((2:Int)*d.getD a.toNat (0:Int)+b,(2:Int)*List.getD (e.getD a.toNat []) c.toNat (0:Int)+b,(2:Int),c)].length<=9223372036854775807/\(f.length+[((2:Int)*d.getD a.toNat (0:Int)+b,(2:Int)*List.getD (e.getD a.toNat []) c.toNat (0:Int)+b,(2:Int),c)].length)*32<=140737488355328)/\True)<|lt ((f++[((2:Int)*d.getD a.toNat (0:Int)+b,(2:Int)*List.getD (e.getD a.toNat []) c.toNat (0:Int)+b,(2:Int),c)],[((2:Int)*d.getD a.toNat (0:Int)+b,(2:Int)*List.getD (e.getD a.toNat []) c.toNat (0:Int)+b,(2:Int),c)])) fun(h,_) =>
  gd (c7 (b+1)/\True) <|
  g (b+1,h)
 else
  QO c i f
def DV(g:List Int)(a:Int)(c:List (List Int))(h:List (List Int))(f:List Int)(e:List Int)(i:List Int)(j:Int×List Int×List (List Int)×List j6->Option w9)(k:Int×List j6->Option w9):Int×List j6->Option w9
 | (b,d) =>
 if(decide (b < (↑(List.length (c.getD a.toNat [])):Int))) then
  gd (ix b (List.length (c.getD a.toNat []))/\True) <|
  lp (Kz g a c b k) (0,d)
 else
  QN a j ((h++[f],e++[i.getD (Int.toNat (0:Int)) (0:Int)],d))
def QP(h:List Int)(f:List (List Int))(b:j1)(k:List v8)(j:Int×List Int×List (List Int)×List j6->Option w9):Int×List Int×List (List Int)×List j6->Option w9
 | (a,c,d,e) =>
 if(decide (a < (b.2.2.length:Int))) then
  gd ((Ao b a).isSome/\ix (0:Int) (vl (Ao b a)).length/\Int.toNat (0:Int) < (vl (Ao b a)).length/\(c.length+[(vl (Ao b a)).getD (Int.toNat (0:Int)) (0:Int)].length<=9223372036854775807/\(c.length+[(vl (Ao b a)).getD (Int.toNat (0:Int)) (0:Int)].length)*8<=140737488355328)/\True)<|lt (vl (Ao b a)) fun i =>
  gd ((CJ b a).isSome/\(d.length+[vl (CJ b a)].length<=9223372036854775807/\(d.length+[vl (CJ b a)].length)*24<=140737488355328)/\True)<|lt (vl (CJ b a)) fun g =>
  gd (ix a f.length/\True) <|
  lp (DV h a f d g c i j) (0,e)
 else
  YR b k (e,c,d)
def QQ(d:j1)(e:List v8)(a:List j6):List (List Int)×List Int->Option w9
 | (c,b) =>
 lp (QP b c d e) (0,[],[],a)
def Ni(a:Int)(d:Int×List (List Int)×List Int->Option w9):List Int×List (List Int)->Option w9
 | (b,c) =>
 gd (c7 (a+1)/\True) <|
 d (a+1,c,b)
def QR(e:List v8)(i:j1)(f:List j6)(h:Int×List (List Int)×List Int->Option w9):Int×List (List Int)×List Int->Option w9
 | (b,c,d) =>
 if(decide (b < (e.length:Int))) then
  gd (ix b e.length/\b.toNat<e.length/\True)<|lt (e.getD b.toNat (a7 y235)) fun a =>
  if a.2.2.2 then
   gd (ix a.2.2.1 d.length/\a.2.2.1.toNat<d.length/\True) <|
   Ni b h (d.set a.2.2.1.toNat b,c)
  else
   gd (ix a.2.2.1 c.length/\a.2.2.1.toNat<c.length/\((c.getD a.2.2.1.toNat []).length+[b].length<=9223372036854775807/\((c.getD a.2.2.1.toNat []).length+[b].length)*8<=140737488355328)/\ix a.2.2.1 c.length/\(a.2.2.1.toNat<c.length/\a.2.2.1.toNat=a.2.2.1.toNat)/\True)<|lt (c.set a.2.2.1.toNat (c.getD a.2.2.1.toNat []++[b])) fun g =>
   Ni b h (d,g)
 else
  QQ i e f (c,d)
def KA(c:List v8)(a:j1):List j6->Option w9
 | b =>
 gd ((0<=(a.2.2.length:Int)/\(a.2.2.length:Int)=(a.2.2.length:Int)/\(a.2.2.length:Int).toNat*8<=281474976710656/\(a.2.2.length:Int)<=9223372036854775807)/\True) <|
 gd ((0<=(a.2.2.length:Int)/\(a.2.2.length:Int)=(a.2.2.length:Int)/\(a.2.2.length:Int).toNat*24<=281474976710656/\(a.2.2.length:Int)<=9223372036854775807)/\True) <|
 lp (QR c a b) ((0,List.replicate (a.2.2.length:Int).toNat [],List.replicate (a.2.2.length:Int).toNat 0))
def YS(a:j1)(i:List v8)(f:Int×Int×List j6->Option w9):Int×Int×List j6->Option w9
 | (c,d,e) =>
 if(decide (d < (a.2.1.1.length:Int))) then
  gd (ix d a.2.1.1.length/\True)<|lt (a.2.1.1.getD d.toNat (a7 y155)) fun b =>
  gd ((CK a b c).isSome/\(e.length+(vl (CK a b c)).length<=9223372036854775807/\(e.length+(vl (CK a b c)).length)*32<=140737488355328)/\True)<|lt (vl (CK a b c)) fun g =>
  gd ((A4 b.2.2).isSome/\c7 (c+vl (A4 b.2.2))/\True)<|lt (vl (A4 b.2.2)) fun h =>
  gd (c7 (d+1)/\True) <|
  f (c+h,d+1,e++g)
 else
  KA i a e
def KB(a:j1):Option w9 :=
 gd ((An a.2.1).isSome/\True)<|lt (vl (An a.2.1)) fun b =>
 lp (YS a b) (0,0,[])
def Q0n:Ct:=c8 102 [.agg l5] (fun x=>KB x.1) (fun r:w9=>D y189.pt r) (fun _=>())
theorem YT:Ok prog Q0n:=by
 refine c9 [.tmp 2] func102 ?_;intro y ⟨a,_⟩ r H Q hn hr;have:=hz (tc H0R (tc QJ (tc Kb (tc YQ (tc CF tn)))));refine iA [1]<|iD CF [1,3] H fun d H=>iA [1,3,4]<|jN r (fun(f:List j6)=>Z [p 1 (R 1),p 3 (R 20)] ((20,bx 189 (Q0 a))::W0 d a f)) (KA d a) (fun f H=>?_) (fun _ n0 e0 t0=>?_)
 ·refine iB [1,3,7] H fun H=>iB [1,3,7,8] H fun H=>jN r (fun((c,e):List (List Int)×List Int)=>Z (G2 [p 8 (AV.og 54)]) ((54,Ob.grd 35 2 true i64 c none)::(50,A 2 i64 e 0)::(20,bx 189 (Q0 a))::W0 d a f)) (QQ a d f) (fun w H=>?_) (fun _ n2 e2 t2=>?_)
  ·obtain⟨c,e⟩:=w;refine jN r (fun((V,v,x):List j6×List Int×List (List Int))=>Z [p 3 (R 20)] [(20,bx 189 (Q1 a)),(18,A 235 y235 d 0),(38,A 138 y138 V 0),(102,A 2 i64 v 0),(114,A 35 i64.sl x 0)]) (YR a d) (fun⟨V,v,x⟩ H=>?_) (fun _ n5 e5 t5=>?_)
   ·refine iA [2]<|a8<|hr H
   refine iA [1,3,7,8,87,88]<|vB<|fZ 54 (Z (G2 [p 8 (M i64.sl c),p 87 (I (a.2.2.length:Int)),p 88 (I 0)]) ((50,A 2 i64 e 0)::(20,bx 189 (Q0 a))::W0 d a f))<|lX (fun((b,l,j,n):Int×List Int×List (List Int)×List j6)=>Z (G2 [p 8 (M i64.sl c),p 87 (I (a.2.2.length:Int)),p 88 (I b)]) [(50,A 2 i64 e 0),(20,bx 189 (Q1 a)),(18,A 235 y235 d 0),(1,K 56 l5 a),(38,A 138 y138 n 0),(102,A 2 i64 l 0),(114,A 35 i64.sl j 0)]) (0,[],[],f) H fun _ g6 b6 e6 t6 ⟨b,l,j,n⟩ H=>iA [1,3,7,8,87,88,89]<|vQ<|cD H (fun H=>?_) (fun H=>?_)
   ·refine vK<|fQ<|jN r (fun((X,F,u):List (List Int)×List Int×List j6)=>Z (G2 [p 8 (M i64.sl c),p 87 (I (a.2.2.length:Int)),p 88 (I b)]) ((20,bx 189 (Q1 a))::(114,A 35 i64.sl X 0)::(102,A 2 i64 F 0)::(50,A 2 i64 e 0)::W0 d a u)) (QN b g6) (fun⟨X,F,u⟩ H=>?_) (fun _ n7 e7 t7=>?_)
    ·refine jB [1,3,7,8,87,88] H fun H=>b6 H
    refine vB<|iA [1,3,7,8,11,87,88]<|iD QJ [1,3,7,8,11,87,88] H fun k H=>qD (fun i=>Z (G2 [p 8 (M i64.sl c),p 11 (I b),p 87 (I (a.2.2.length:Int)),p 88 (I b)]) ((20,bx 189 [L y153 a.1,L y155 a.2.1.1,L Ty.str a.2.1.2.1,L y231 a.2.1.2.2,L y172 a.2.2,AV.os 18 0,AV.os 38 0,AV.os 102 1,AV.os 114 1,nil])::(114,A 35 i64.sl (j++[i]) 1)::(113,A 35 i64.sl [i] 0)::(102,A 2 i64 (l++[k.getD (Int.toNat (0:Int)) (0:Int)]) 1)::(101,A 2 i64 [k.getD (Int.toNat (0:Int)) (0:Int)] 0)::(98,A 2 i64 k 0)::(50,A 2 i64 e 0)::W0 d a n)) H fun i H=>iB [1,3,7,8,11,87,88,120,121,122] H fun H=>vB<|lX (fun((g,s):Int×List j6)=>Z (G2 [p 8 (M i64.sl c),p 11 (I b),p 87 (I (a.2.2.length:Int)),p 88 (I b),p 120 (M i64 (c.getD b.toNat [])),p 121 (I (↑(List.length (c.getD b.toNat [])):Int)),p 122 (I g)]) ((20,bx 189 (Q1 a))::(114,A 35 i64.sl (j++[i]) 0)::(102,A 2 i64 (l++[k.getD (Int.toNat (0:Int)) (0:Int)]) 0)::(50,A 2 i64 e 0)::W0 d a s)) (0,n) H fun _ g8 b8 e8 t8 ⟨g,s⟩ H=>iA [1,3,7,8,11,87,88,120,121,122,123]<|vQ<|cD H (fun H=>?_) (fun H=>?_)
    ·refine vK<|fQ<|jN r (fun(W:List j6)=>Z (G2 [p 8 (M i64.sl c),p 11 (I b),p 87 (I (a.2.2.length:Int)),p 88 (I b),p 120 (M i64 (c.getD b.toNat [])),p 121 (I (↑(List.length (c.getD b.toNat [])):Int)),p 122 (I g)]) ((20,bx 189 (Q1 a))::(114,A 35 i64.sl (j++[i]) 0)::(102,A 2 i64 (l++[k.getD (Int.toNat (0:Int)) (0:Int)]) 0)::(50,A 2 i64 e 0)::W0 d a W)) (QO g g8) (fun W H=>?_) (fun _ n9 e9 t9=>?_)
     ·refine jB [1,3,7,8,11,87,88,120,121,122] H fun H=>b8 H
     refine vB<|iB [1,3,7,8,11,12,13,87,88,120,121,122] H fun H=>iA [1,3,7,8,11,12,13,87,88,120,121,122,127]<|vB<|lX (fun((q,z):Int×List j6)=>Z (G2 [p 8 (M i64.sl c),p 11 (I b),p 12 (I g),p 13 (I (List.getD (c.getD b.toNat []) g.toNat (0:Int))),p 87 (I (a.2.2.length:Int)),p 88 (I b),p 120 (M i64 (c.getD b.toNat [])),p 121 (I (↑(List.length (c.getD b.toNat [])):Int)),p 122 (I g),p 127 (I q)]) ((20,bx 189 (Q1 a))::(114,A 35 i64.sl (j++[i]) 0)::(102,A 2 i64 (l++[k.getD (Int.toNat (0:Int)) (0:Int)]) 0)::(50,A 2 i64 e 0)::W0 d a z)) (0,s) H fun _ aC aB aA aD ⟨q,z⟩ H=>iA [1,3,7,8,11,12,13,87,88,120,121,122,127,128]<|vQ<|cD H (fun H=>?_) (fun H=>?_)
     ·refine vK<|fQ<|vQ<|vB<|iA [1,3,7,8,11,12,13,14,87,88,120,121,122,127]<|zD (fun(T,Y)=>Z (G2 [p 8 (M i64.sl c),p 11 (I b),p 12 (I g),p 13 (I (List.getD (c.getD b.toNat []) g.toNat (0:Int))),p 87 (I (a.2.2.length:Int)),p 88 (I b),p 120 (M i64 (c.getD b.toNat [])),p 121 (I (↑(List.length (c.getD b.toNat [])):Int)),p 122 (I g),p 127 (I q)]) [(20,bx 189 [L y153 a.1,L y155 a.2.1.1,L Ty.str a.2.1.2.1,L y231 a.2.1.2.2,L y172 a.2.2,AV.os 18 0,AV.os 38 1,AV.os 102 0,AV.os 114 0,nil]),(38,A 138 y138 T 1),(148,A 138 y138 Y 0),(114,A 35 i64.sl (j++[i]) 0),(102,A 2 i64 (l++[k.getD (Int.toNat (0:Int)) (0:Int)]) 0),(50,A 2 i64 e 0),(18,A 235 y235 d 0),(1,K 56 l5 a)]) H fun⟨T,Y⟩ H =>
       fK<|fQ <|
       jB [1,3,7,8,11,12,13,87,88,120,121,122,127] H fun H =>
       aB H
     exact vE<|fE<|aA<|fX rfl<|fK<|n9 H
    exact vE<|fE<|e8<|fX rfl<|fK<|n7 H
   exact vE<|fE<|e6<|fX rfl<|n5 H
  refine iA [1,3,7,8,58,59,60]<|vB<|lX (fun((h,t,m):Int×List (List Int)×List Int)=>Z (G2 [p 8 (AV.og 54),p 58 (O 18),p 59 (I (d.length:Int)),p 60 (I h)]) ((54,Ob.grd 35 2 true i64 t none)::(50,A 2 i64 m 0)::(20,bx 189 (Q0 a))::W0 d a f)) ((0,List.replicate (a.2.2.length:Int).toNat [],List.replicate (a.2.2.length:Int).toNat 0)) H fun _ g3 b3 e3 t3 ⟨h,t,m⟩ H=>iA [1,3,7,8,58,59,60,61]<|vQ<|cD H (fun H=>?_) (fun H=>?_)
  ·refine vK<|fQ<|jN r (fun((E,G):List Int×List (List Int))=>Z (G2 [p 8 (AV.og 54),p 58 (O 18),p 59 (I (d.length:Int)),p 60 (I h)]) ((50,A 2 i64 E 0)::(54,Ob.grd 35 2 true i64 G none)::(20,bx 189 (Q0 a))::W0 d a f)) (Ni h g3) (fun⟨E,G⟩ H=>?_) (fun _ n4 e4 t4=>?_)
   ·refine jB [1,3,7,8,58,59,60] H fun H=>b3 H
   refine vB<|qD (fun o=>Z (G2 [p 8 (AV.og 54),p 9 (I h),p 10 (R 10),p 58 (O 18),p 59 (I (d.length:Int)),p 60 (I h)]) ((10,bx 235 (A6 true y235 o))::(54,Ob.grd 35 2 true i64 t none)::(50,A 2 i64 m 0)::(20,bx 189 (Q0 a))::W0 d a f)) H fun o H=>iA [1,3,7,8,9,10,58,59,60,66]<|cD H (fun H=>jB [1,3,7,8,58,59,60] H fun H=>fK<|n4 H) fun H=>zD (fun P=>Z (G2 [p 8 (AV.og 54),p 58 (O 18),p 59 (I (d.length:Int)),p 60 (I h)]) ((54,Ob.grd 35 2 true i64 P none)::(79,A 2 i64 [] 2)::(81,A 2 i64 [h] 0)::(10,bx 235 (A6 true y235 o))::(50,A 2 i64 m 0)::(20,bx 189 (Q0 a))::W0 d a f)) H fun P H=>fK<|n4 H
  exact vE<|fE<|e3<|fX rfl<|n2 H
 refine iA [1,3,4,23,24,25]<|vB<|lX (fun((v4,v5,v6):Int×Int×List j6)=>Z [p 1 (R 1),p 3 (R 20),p 4 (I v4),p 23 (L y155 a.2.1.1),p 24 (I (a.2.1.1.length:Int)),p 25 (I v5)] ((20,bx 189 (Q0 a))::W0 d a v6)) (0,0,[]) H fun _ g1 b1 e1 t1 ⟨v4,v5,v6⟩ H=>iA [1,3,4,23,24,25,26]<|vQ<|cD H (fun H=>vK<|fQ<|vQ<|vB<|qD (fun v7=>Z [p 1 (R 1),p 3 (R 20),p 4 (I v4),p 6 (R 6),p 23 (L y155 a.2.1.1),p 24 (I (a.2.1.1.length:Int)),p 25 (I v5)] ((6,K 155 y155 v7)::(20,bx 189 (Q0 a))::W0 d a v6)) H fun v7 H=>iD YQ [1,3,4,6,23,24,25] H fun _ H=>jD Kb [1,3,4,23,24,25] H fun _ H=>fK<|fQ<|jB [1,3,4,23,24,25] H fun H=>b1 H) fun H=>vE<|fE<|e1<|fX rfl<|n0 H
def CL(a:Int):Option Bool :=
 gd ((s6 a 0 1000000).isSome/\True) <|
 some (vl (s6 a 0 1000000))
def O0B:Ct:=c8 210 [.dat i64] (fun x=>CL x.1) (fun r:Bool=>B r) (fun _=>())
theorem M0s:Ok prog O0B:=by
 refine c9 [.tmp 2] func210 ?_;intro y ⟨_,_⟩ r H Q hn hr;have:=hz (tc R9 tn);refine iA [0]<|iB [2] H fun H=>a8<|hr H
def X9(a:s7):Option Bool :=
 gd ((J4 a).isSome/\(vl (J4 a)=true/\True->(CL a.1).isSome)/\((vl (J4 a)&&vl (CL a.1))=true/\True->(CL a.2).isSome)/\True) <|
 some (vl (J4 a)&&vl (CL a.1)&&vl (CL a.2))
def P0s:Ct:=c8 158 [.agg y73] (fun x=>X9 x.1) (fun r:Bool=>B r) (fun _=>())
theorem YU:Ok prog P0s:=by
 refine c9 [.tmp 2] func158 ?_;intro y ⟨_,_⟩ r H Q hn hr;have:=hz (tc M0s (tc Qo tn));refine iA [1]<|iB [2] H fun H=>a8<|hr H
def DW(a:List s7):Option Int :=
 some (a.length:Int)
def P0t:Ct:=c8 157 [.dat y73.sl] (fun x=>DW x.1) (fun r:Int=>I r) (fun _=>())
theorem M0M:Ok prog P0t:=by
 refine c9 [.tmp 2] func157 ?_;intro y ⟨_,_⟩ r H Q hn hr;refine iA [0]<|iA [2]<|a8<|hr H
def GN(a:List Bool):Option Int :=
 some (a.length:Int)
def P0u:Ct:=c8 156 [.dat Ty.bool.sl] (fun x=>GN x.1) (fun r:Int=>I r) (fun _=>())
theorem M0N:Ok prog P0u:=by
 refine c9 [.tmp 2] func156 ?_;intro y ⟨_,_⟩ r H Q hn hr;refine iA [0]<|iA [2]<|a8<|hr H
def YV:Unit->Option Bool
 | _ =>
 some true
def YW(b:A3)(d:Int->Option Bool):Int->Option Bool
 | a =>
 if(decide (a < (b.1.length:Int))) then
  gd (ix a b.1.length/\True) <|
  gd (ix a b.2.1.length/\(J4 (b.2.1.getD a.toNat (a7 y73))).isSome/\((!vl (J4 (b.2.1.getD a.toNat (a7 y73))))=false/\True->ix a b.2.2.length)/\((!vl (J4 (b.2.1.getD a.toNat (a7 y73))))=false/\True->(X9 (b.2.2.getD a.toNat (a7 y73))).isSome)/\((!b.1.getD a.toNat false)=true/\(!vl (J4 (b.2.1.getD a.toNat (a7 y73)))||!vl (X9 (b.2.2.getD a.toNat (a7 y73))))=false/\True->ix a b.2.1.length)/\((!((b.2.1.getD a.toNat (a7 y73)).1==0&&((b.2.1.getD a.toNat (a7 y73)).2==0&&true)))=false/\(!b.1.getD a.toNat false)=true/\(!vl (J4 (b.2.1.getD a.toNat (a7 y73)))||!vl (X9 (b.2.2.getD a.toNat (a7 y73))))=false/\True->ix a b.2.2.length)/\True)<|lt (!vl (J4 (b.2.1.getD a.toNat (a7 y73)))||!vl (X9 (b.2.2.getD a.toNat (a7 y73)))||!b.1.getD a.toNat false&&(!((b.2.1.getD a.toNat (a7 y73)).1==0&&((b.2.1.getD a.toNat (a7 y73)).2==0&&true))||!((b.2.2.getD a.toNat (a7 y73)).1==0&&((b.2.2.getD a.toNat (a7 y73)).2==0&&true)))) fun c =>
  if c then
   some false
  else
   gd (c7 (a+1)/\True) <|
   d (a+1)
 else
  YV ()
def KC(c:w9)(a:A3):Option Bool :=
 gd ((K7 c).isSome/\True)<|lt (vl (K7 c)) fun b =>
 gd ((GN a.1).isSome/\((vl (GN a.1) != b)=false/\True->(DW a.2.1).isSome)/\((vl (GN a.1) != b||vl (DW a.2.1) != b)=false/\True->(DW a.2.2).isSome)/\True)<|lt ((vl (GN a.1),vl (DW a.2.1),vl (DW a.2.2))) fun(d,e,f) =>
 if(d != b||e != b||f != b) then
  some false
 else
  lp (YW a) 0
def Q0m:Ct:=c8 103 [.dat y189.pt,.agg y65] (fun x=>KC x.1 x.2.1) (fun r:Bool=>B r) (fun _=>())
theorem N0g:Ok prog Q0m:=by
 refine c9 [.tmp 4] func103 ?_;intro y ⟨_,a,_⟩ r H Q hn hr;have:=hz (tc YU (tc Qo (tc M0M (tc M0N (tc JW tn)))));refine iA [0,3]<|iD JW [3,5] H fun c H=>vQ<|qD (fun(d,e,f)=>Z [p 3 (R 3),p 28 (B (d != c||e != c||f != c))] [(3,K 65 y65 a)]) H fun⟨d,e,f⟩ H =>
  cD H (fun H=>iA [4]<|a8<|fR<|hr H) fun H=>vK<|fQ<|jN r (fun(_:Unit)=>Z [] []) (YV) (fun _ H=>?_) (fun _ i n l=>?_)
 ·refine iA [4]<|a8<|hr H
 refine iA [3,30,31,32]<|vB<|lX (fun(b:Int)=>Z [p 3 (R 3),p 30 (L Ty.bool a.1),p 31 (I (a.1.length:Int)),p 32 (I b)] [(3,K 65 y65 a)]) 0 H fun _ m k j h b H=>iA [3,30,31,32,33]<|vQ<|cD H (fun H=>?_) (fun H=>?_)
 ·refine vK<|fQ<|vQ<|vB<|iB [3,6,7,30,31,32] H fun H=>qD (fun g=>Z [p 3 (R 3),p 30 (L Ty.bool a.1),p 31 (I (a.1.length:Int)),p 32 (I b),p 74 (B g)] [(3,K 65 y65 a)]) H fun g H=>cD H (fun H=>iA [4]<|a8<|h9<|fR<|h<|h9<|l<|hr H) fun H=>vK<|fK<|fQ<|jB [3,30,31,32] H fun H=>k H
 exact vE<|fE<|j<|fX rfl<|i H
def DX(a:List j6):Option Int :=
 some (a.length:Int)
def P0q:Ct:=c8 160 [.dat y138.sl] (fun x=>DX x.1) (fun r:Int=>I r) (fun _=>())
theorem M0L:Ok prog P0q:=by
 refine c9 [.tmp 2] func160 ?_;intro y ⟨_,_⟩ r H Q hn hr;refine iA [0]<|iA [2]<|a8<|hr H
def GO(a:w9)(b:List Int):Option Bool :=
 gd ((DX a.2.2.1).isSome/\c7 (vl (DX a.2.2.1)-1)/\(D0 b 0 (vl (DX a.2.2.1)-1)).isSome/\(vl (D0 b 0 (vl (DX a.2.2.1)-1))=true/\True->(Bb b).isSome)/\True) <|
 some (vl (D0 b 0 (vl (DX a.2.2.1)-1))&&vl (Bb b))
def Q0l:Ct:=c8 104 [.dat y189.pt,.dat i64.sl] (fun x=>GO x.1 x.2.1) (fun r:Bool=>B r) (fun _=>())
theorem N0f:Ok prog Q0l:=by
 refine c9 [.tmp 4] func104 ?_;intro y ⟨_,_,_⟩ r H Q hn hr;have:=hz (tc Ym (tc JZ (tc M0L tn)));refine iA [0,1]<|iB [4] H fun H=>a8<|hr H
def YX:Unit->Option Bool
 | _ =>
 some true
def YY(c:w9)(d:List r4)(e:Int->Option Bool):Int->Option Bool
 | b =>
 if(decide (b < (d.length:Int))) then
  gd (ix b d.length/\True)<|lt (d.getD b.toNat (a7 y75)) fun a =>
  gd ((M3 c a.1).isSome/\((!vl (M3 c a.1))=false/\True->(J4 a.2.1).isSome)/\((!vl (M3 c a.1)||!vl (J4 a.2.1))=false/\True->(X9 a.2.2).isSome)/\(decide (0<b)=true/\(!vl (M3 c a.1)||!vl (J4 a.2.1)||!vl (X9 a.2.2))=false/\True->c7 (b-1))/\(decide (0<b)=true/\(!vl (M3 c a.1)||!vl (J4 a.2.1)||!vl (X9 a.2.2))=false/\True->ix (b-1) d.length)/\True) <|
  if(!vl (M3 c a.1)||!vl (J4 a.2.1)||!vl (X9 a.2.2)||decide (0<b)&&decide (a.1<=(d.getD (b-1).toNat (a7 y75)).1)) then
   some false
  else
   gd (c7 (b+1)/\True) <|
   e (b+1)
 else
  YX ()
def KD(a:w9)(b:List r4):Option Bool :=
 lp (YY a b) 0
def Q0k:Ct:=c8 105 [.dat y189.pt,.dat y75.sl] (fun x=>KD x.1 x.2.1) (fun r:Bool=>B r) (fun _=>())
theorem N0e:Ok prog Q0k:=by
 refine c9 [.tmp 4] func105 ?_;intro y ⟨d,a,_⟩ r H Q hn hr;have:=hz (tc YU (tc Qo (tc XK tn)));refine iA [0,1]<|jN r (fun(_:Unit)=>Z [] []) (YX) (fun _ H=>?_) (fun _ f k h=>?_)
 ·refine iA [4]<|a8<|hr H
 refine iA [0,1,7,8,9]<|vB<|lX (fun(b:Int)=>Z [p 0 (D y189.pt d),p 1 (L y75 a),p 7 (L y75 a),p 8 (I (a.length:Int)),p 9 (I b)] []) 0 H fun _ j g i e b H=>iA [0,1,7,8,9,10]<|vQ<|cD H (fun H=>?_) (fun H=>?_)
 ·refine vK<|fQ<|vQ<|vB<|qD (fun c=>Z [p 0 (D y189.pt d),p 1 (L y75 a),p 5 (I b),p 6 (R 6),p 7 (L y75 a),p 8 (I (a.length:Int)),p 9 (I b)] [(6,K 75 y75 c)]) H fun c H=>iB [0,1,7,8,9,45] H fun H=>cD H (fun H=>iA [4]<|a8<|h9<|fR<|e<|h9<|h<|hr H) fun H=>vK<|fK<|fQ<|jB [0,1,7,8,9] H fun H=>g H
 exact vE<|fE<|i<|fX rfl<|f H
def YZ(a:w9):List Bool->Option D9
 | b =>
 some (a,b)
def Za(b:List Int)(d:w9)(e:Int×List Bool->Option D9):Int×List Bool->Option D9
 | (a,c) =>
 if(decide (a < (b.length:Int))) then
  gd (ix a b.length/\True) <|
  gd (ix (b.getD a.toNat 0) c.length/\Int.toNat (b.getD a.toNat 0)<c.length/\True) <|
  gd (c7 (a+1)/\True) <|
  e ((a+1,c.set (Int.toNat (b.getD a.toNat 0)) false))
 else
  YZ d c
def KE(c:List Int)(a:w9):List Bool->Option D9
 | b =>
 lp (Za c a) (0,b)
def Zb(f:List Int)(c:w9)(e:Int)(d:Int×List Bool->Option D9):Int×List Bool->Option D9
 | (a,b) =>
 if(decide (a<e)) then
  gd (ix a b.length/\a.toNat<b.length/\True) <|
  gd (c7 (a+1)/\True) <|
  d (a+1,b.set a.toNat true)
 else
  KE f c b
def KF(a:w9)(c:List Int):Option D9 :=
 gd ((0<=(a.2.2.1.length:Int)/\(a.2.2.1.length:Int)=(a.2.2.1.length:Int)/\(a.2.2.1.length:Int).toNat*1<=281474976710656/\(a.2.2.1.length:Int)<=9223372036854775807)/\True) <|
 lt ((↑(List.replicate (a.2.2.1.length:Int).toNat false).length:Int)) fun b =>
 lp (Zb c a b) ((0,List.replicate (a.2.2.1.length:Int).toNat false))
def Q0j:Ct:=c8 106 [.dat y189.pt,.dat i64.sl] (fun x=>KF x.1 x.2.1) (fun r:D9=>D y126.pt r) (fun _=>())
theorem Zc:Ok prog Q0j:=by
 refine c9 [.tmp 4] func106 ?_;intro y ⟨a,b,_⟩ r H Q hn hr;refine iA [0,1]<|iB [1,5] H fun H=>jN r (fun(c:List Bool)=>Z [p 1 (L i64 b),p 5 (R 17)] (W7 a c)) (KE b a) (fun c H=>?_) (fun _ k t v=>?_)
 ·refine jN r (fun(i:List Bool)=>Z [p 5 (R 17)] (W7 a i)) (YZ a) (fun i H=>?_) (fun _ j w u=>?_)
  ·refine iA [4]<|a8<|hr H
  refine iA [5,33,34,35]<|vB<|lX (fun((f,h):Int×List Bool)=>Z [p 5 (R 17),p 33 (L i64 b),p 34 (I (b.length:Int)),p 35 (I f)] (W7 a h)) (0,c) H fun _ z l n s ⟨f,h⟩ H=>iA [5,33,34,35,36]<|vQ<|cD H (fun H=>vK<|fQ<|vQ<|vB<|iB [5,8,33,34,35] H fun H=>jB [5,33,34,35] H fun H=>fK<|fQ<|jB [5,33,34,35] H fun H=>l H) fun H=>vE<|fE<|n<|fX rfl<|j H
 refine qC (fun d=>Z [p 1 (L i64 b),p 5 (R 17),p 22 (I d),p 23 (I 0)] (W7 a (List.replicate (a.2.2.1.length:Int).toNat false))) H fun d H=>vB<|lX (fun((g,e):Int×List Bool)=>Z [p 1 (L i64 b),p 5 (R 17),p 22 (I d),p 23 (I g)] (W7 a e)) ((0,List.replicate (a.2.2.1.length:Int).toNat false)) H fun _ x m o q ⟨g,e⟩ H=>iA [1,5,22,23,24]<|vQ<|cD H (fun H=>vK<|fQ<|vQ<|vB<|iA [1,5,6,22,23]<|jB [1,5,22,23] H fun H=>fK<|fQ<|jB [1,5,22,23] H fun H=>m H) fun H=>vE<|fE<|o<|fX rfl<|k H
def QS(a:j6)(b:Int):Option Bool :=
 some (a.1==b)
def O0z:Ct:=c8 213 [.agg y138,.dat (.pt i64)] (fun x=>QS x.1 x.2.1) (fun r:Bool=>B r) (fun _=>())
theorem Zd:Ok prog O0z:=by
 refine c9 [.tmp 3] func213 ?_;intro y ⟨_,_,_⟩ r H Q hn hr;refine iA [1,2]<|iA [3]<|a8<|hr H
def Ze:List Int->Option (List Int)
 | a =>
 some a
def QT(a:Int)(c:List Int×Int->Option (List Int)):List Int->Option (List Int)
 | b =>
 gd (c7 (a+1)/\True) <|
 c (b,a+1)
def Zf(b:D9)(f:Int)(e:List Int×Int->Option (List Int)):List Int×Int->Option (List Int)
 | (c,a) =>
 if(decide (a < (b.1.2.2.1.length:Int))) then
  gd (ix a b.1.2.2.1.length/\True)<|lt (b.1.2.2.1.getD a.toNat (a7 y138)) fun d =>
  gd (ix a b.2.length/\(b.2.getD a.toNat false=true/\True->(QS d f).isSome)/\True) <|
  if(b.2.getD a.toNat false&&vl (QS d f)) then
   gd ((c.length+[a].length<=9223372036854775807/\(c.length+[a].length)*8<=140737488355328)/\True) <|
   QT a e (c++[a])
  else
   QT a e c
 else
  Ze c
def Nj(a:D9)(b:Int):Option (List Int) :=
 lp (Zf a b) ([],0)
def v0Z:Ct:=c8 162 [.dat y126.pt,.fn 213 (.pt i64)] (fun x=>Nj x.1 x.2.1) (fun r:List Int=>AV.ow 2 true i64 r) (fun _=>())
theorem QU:Ok prog v0Z:=by
 refine c9 [.tmp 4] func162 ?_;intro y ⟨a,d,_⟩ r H Q hn hr;have:=hz (tc Zd tn);refine iA [0,1]<|iA [0,1,5]<|jN r (fun(g:List Int)=>Z [p 5 (O 36)] [(36,A 2 i64 g 0)]) (Ze) (fun g H=>?_) (fun _ i n q=>?_)
 ·refine iA [4]<|a8<|hr H
 refine iA [0,1,5,14,15,16]<|vB<|lX (fun((c,b):List Int×Int)=>Z [p 0 (D y126.pt a),p 1 (AV.fn 213 [D i64.pt d]),p 5 (O 36),p 14 (L y138 a.1.2.2.1),p 15 (I (a.1.2.2.1.length:Int)),p 16 (I b)] [(36,A 2 i64 c 0)]) ([],0) H fun _ j k l m ⟨c,b⟩ H=>iA [0,1,5,14,15,16,17]<|vQ<|cD H (fun H=>?_) (fun H=>?_)
 ·refine vK<|fQ<|jN r (fun(e:List Int)=>Z [p 0 (D y126.pt a),p 1 (AV.fn 213 [D i64.pt d]),p 5 (O 36),p 14 (L y138 a.1.2.2.1),p 15 (I (a.1.2.2.1.length:Int)),p 16 (I b)] [(36,A 2 i64 e 0)]) (QT b j) (fun e H=>?_) (fun _ f s o=>?_)
  ·refine jB [0,1,5,14,15,16] H fun H=>k H
  refine vB<|qD (fun h=>Z [p 0 (D y126.pt a),p 1 (AV.fn 213 [D i64.pt d]),p 5 (O 36),p 6 (I b),p 7 (R 7),p 14 (L y138 a.1.2.2.1),p 15 (I (a.1.2.2.1.length:Int)),p 16 (I b)] [(7,K 138 y138 h),(36,A 2 i64 c 0)]) H fun h H=>iB [0,1,5,6,14,15,16,32] H fun H=>cD H (fun H=>jB [0,1,5,14,15,16] H fun H=>fK<|f H) fun H=>vK<|fK<|f H
 exact vE<|fE<|l<|fX rfl<|i H
def DY(a:D9)(b:Int):Option (List Int) :=
 gd ((Nj a b).isSome/\True)<|lt (vl (Nj a b)) fun c =>
 some c
def P0m:Ct:=c8 165 [.dat y126.pt,.dat i64] (fun x=>DY x.1 x.2.1) (fun r:List Int=>AV.ow 2 true i64 r) (fun _=>())
theorem Zg:Ok prog P0m:=by
 refine c9 [.tmp 4] func165 ?_;intro y ⟨_,_,_⟩ r H Q hn hr;have:=hz (tc MD (tc QU (tc Zd tn)));refine iA [0,3]<|iD QU [4] H fun _ H=>a8<|hr H
def Zh:Unit->Option Int
 | _ =>
 some (-1)
def Zi(d:Int)(b:List Int)(c:Int->Option Int):Int->Option Int
 | a =>
 if(decide (a < (b.length:Int))) then
  gd (ix a b.length/\True) <|
  if(d==b.getD a.toNat 0) then
   some a
  else
   gd (c7 (a+1)/\True) <|
   c (a+1)
 else
  Zh ()
def Nk(a:List Int)(b:Int):Option Int :=
 lp (Zi b a) 0
def P0n:Ct:=c8 164 [.dat i64.sl,.dat i64] (fun x=>Nk x.1 x.2.1) (fun r:Int=>I r) (fun _=>())
theorem Zj:Ok prog P0n:=by
 refine c9 [.tmp 4] func164 ?_;intro y ⟨a,h,_⟩ r H Q hn hr;refine iA [0,1]<|jN r (fun(_:Unit)=>Z [] []) (Zh) (fun _ H=>?_) (fun _ d j f=>?_)
 ·refine iA [4]<|a8<|hr H
 refine iA [0,1,7,8]<|vB<|lX (fun(b:Int)=>Z [p 0 (L i64 a),p 1 (J h),p 7 (I (a.length:Int)),p 8 (I b)] []) 0 H fun _ i e g c b H=>iA [0,1,7,8,9]<|vQ<|cD H (fun H=>?_) (fun H=>?_)
 ·refine vK<|fQ<|vQ<|vB<|iA [0,1,5,7,8]<|iB [0,1,5,7,8,16] H fun H=>cD H (fun H=>iA [4]<|a8<|h9<|fR<|c<|h9<|f<|hr H) fun H=>vK<|fK<|fQ<|jB [0,1,7,8] H fun H=>e H
 exact vE<|fE<|g<|fX rfl<|d H
def QV(_:j6):Option Bool :=
 some true
def P0o:Ct:=c8 163 [.agg y138] (fun x=>QV x.1) (fun r:Bool=>B r) (fun _=>())
theorem Zk:Ok prog P0o:=by
 refine c9 [.tmp 2] func163 ?_;intro y ⟨_,_⟩ r H Q hn hr;refine iA []<|iA [2]<|a8<|hr H
def Zl:List Int->Option (List Int)
 | a =>
 some a
def QW(a:Int)(c:List Int×Int->Option (List Int)):List Int->Option (List Int)
 | b =>
 gd (c7 (a+1)/\True) <|
 c (b,a+1)
def Zm(b:D9)(e:List Int×Int->Option (List Int)):List Int×Int->Option (List Int)
 | (c,a) =>
 if(decide (a < (b.1.2.2.1.length:Int))) then
  gd (ix a b.1.2.2.1.length/\True)<|lt (b.1.2.2.1.getD a.toNat (a7 y138)) fun d =>
  gd (ix a b.2.length/\(b.2.getD a.toNat false=true/\True->(QV d).isSome)/\True) <|
  if(b.2.getD a.toNat false&&vl (QV d)) then
   gd ((c.length+[a].length<=9223372036854775807/\(c.length+[a].length)*8<=140737488355328)/\True) <|
   QW a e (c++[a])
  else
   QW a e c
 else
  Zl c
def Nl(a:D9):Option (List Int) :=
 lp (Zm a) ([],0)
def w0b:Ct:=c8 162 [.dat y126.pt,.nof 163] (fun x=>Nl x.1) (fun r:List Int=>AV.ow 2 true i64 r) (fun _=>())
theorem Zn:Ok prog w0b:=by
 refine c9 [.tmp 4] func162 ?_;intro y ⟨a,_,_⟩ r H Q hn hr;have:=hz (tc Zk tn);refine iA [0,1]<|iA [0,1,5]<|jN r (fun(f:List Int)=>Z [p 5 (O 36)] [(36,A 2 i64 f 0)]) (Zl) (fun f H=>?_) (fun _ h m o=>?_)
 ·refine iA [4]<|a8<|hr H
 refine iA [0,1,5,14,15,16]<|vB<|lX (fun((c,b):List Int×Int)=>Z [p 0 (D y126.pt a),p 1 (AV.fn 163 []),p 5 (O 36),p 14 (L y138 a.1.2.2.1),p 15 (I (a.1.2.2.1.length:Int)),p 16 (I b)] [(36,A 2 i64 c 0)]) ([],0) H fun _ i j k l ⟨c,b⟩ H=>iA [0,1,5,14,15,16,17]<|vQ<|cD H (fun H=>?_) (fun H=>?_)
 ·refine vK<|fQ<|jN r (fun(d:List Int)=>Z [p 0 (D y126.pt a),p 1 (AV.fn 163 []),p 5 (O 36),p 14 (L y138 a.1.2.2.1),p 15 (I (a.1.2.2.1.length:Int)),p 16 (I b)] [(36,A 2 i64 d 0)]) (QW b i) (fun d H=>?_) (fun _ e q n=>?_)
  ·refine jB [0,1,5,14,15,16] H fun H=>j H
  refine vB<|qD (fun g=>Z [p 0 (D y126.pt a),p 1 (AV.fn 163 []),p 5 (O 36),p 6 (I b),p 7 (R 7),p 14 (L y138 a.1.2.2.1),p 15 (I (a.1.2.2.1.length:Int)),p 16 (I b)] [(7,K 138 y138 g),(36,A 2 i64 c 0)]) H fun g H=>iB [0,1,5,6,14,15,16,32] H fun H=>cD H (fun H=>jB [0,1,5,14,15,16] H fun H=>fK<|e H) fun H=>vK<|fK<|e H
 exact vE<|fE<|k<|fX rfl<|h H
def Zo:List Int->Option (List Int×Bool)
 | a =>
 some (a,true)
def Nn(a:Int)(d:List Int×Int×List Int->Option (List Int×Bool)):List Int×List Int->Option (List Int×Bool)
 | (b,c) =>
 gd (c7 (a+1)/\True) <|
 d (b,a+1,c)
def No(d:D9)(b:List Int)(e:Int)(f:List Int)(g:Int)(j:List Int×Int×List Int->Option (List Int×Bool))(i:Int×List Int->Option (List Int×Bool)):Int×List Int->Option (List Int×Bool)
 | (a,c) =>
 if(decide (a < (b.length:Int))) then
  gd (ix a b.length/\a.toNat<b.length/\True) <|
  gd (ix (b.getD a.toNat 0) d.1.2.2.1.length/\ix (d.1.2.2.1.getD (Int.toNat (b.getD a.toNat 0)) (a7 y138)).2.1 c.length/\(d.1.2.2.1.getD (Int.toNat (b.getD a.toNat 0)) (a7 y138)).2.1.toNat<c.length/\c7 (c.getD (d.1.2.2.1.getD (Int.toNat (b.getD a.toNat 0)) (a7 y138)).2.1.toNat 0-1)/\ix (d.1.2.2.1.getD (Int.toNat (b.getD a.toNat 0)) (a7 y138)).2.1 c.length/\(d.1.2.2.1.getD (Int.toNat (b.getD a.toNat 0)) (a7 y138)).2.1.toNat<c.length/\True)<|lt (c.set (d.1.2.2.1.getD (Int.toNat (b.getD a.toNat 0)) (a7 y138)).2.1.toNat (c.getD (d.1.2.2.1.getD (Int.toNat (b.getD a.toNat 0)) (a7 y138)).2.1.toNat 0-1)) fun h =>
  gd (c7 (a+1)/\True) <|
  i (a+1,h)
 else
  Nn e j (f++[g],c)
def Zp(f:D9)(h:List Int)(g:List Int×Int×List Int->Option (List Int×Bool)):List Int×Int×List Int->Option (List Int×Bool)
 | (c,d,b) =>
 if(decide (d < (h.length:Int))) then
  gd ((Nk b 0).isSome/\True)<|lt (vl (Nk b 0)) fun a =>
  if(decide (a<0)) then
   some ([],false)
  else
   gd (ix a b.length/\a.toNat<b.length/\True) <|
   gd ((c.length+[a].length<=9223372036854775807/\(c.length+[a].length)*8<=140737488355328)/\True) <|
   gd ((DY f a).isSome/\True)<|lt (vl (DY f a)) fun e =>
   lp (No f e d c a g) ((0,b.set a.toNat (-1)))
 else
  Zo c
def KG(b:D9):List Int->Option (List Int×Bool)
 | a =>
 lp (Zp b a) ([],0,a)
def QX(c:D9)(b:List Int)(f:Int×List Int->Option (List Int×Bool)):Int×List Int->Option (List Int×Bool)
 | (a,d) =>
 if(decide (a < (b.length:Int))) then
  gd (ix a b.length/\a.toNat<b.length/\True) <|
  gd (ix (b.getD a.toNat 0) c.1.2.2.1.length/\ix (c.1.2.2.1.getD (Int.toNat (b.getD a.toNat 0)) (a7 y138)).2.1 d.length/\(c.1.2.2.1.getD (Int.toNat (b.getD a.toNat 0)) (a7 y138)).2.1.toNat<d.length/\c7 (d.getD (c.1.2.2.1.getD (Int.toNat (b.getD a.toNat 0)) (a7 y138)).2.1.toNat 0+1)/\ix (c.1.2.2.1.getD (Int.toNat (b.getD a.toNat 0)) (a7 y138)).2.1 d.length/\(c.1.2.2.1.getD (Int.toNat (b.getD a.toNat 0)) (a7 y138)).2.1.toNat<d.length/\True)<|lt (d.set (c.1.2.2.1.getD (Int.toNat (b.getD a.toNat 0)) (a7 y138)).2.1.toNat (d.getD (c.1.2.2.1.getD (Int.toNat (b.getD a.toNat 0)) (a7 y138)).2.1.toNat 0+1)) fun e =>
  gd (c7 (a+1)/\True) <|
  f (a+1,e)
 else
  KG c d
def KH(a:D9):Option (List Int×Bool) :=
 gd ((K7 a.1).isSome/\(0<=vl (K7 a.1)/\vl (K7 a.1)=vl (K7 a.1)/\(vl (K7 a.1)).toNat*8<=281474976710656/\vl (K7 a.1)<=9223372036854775807)/\True)<|lt (vl (K7 a.1)) fun c =>
 gd ((Nl a).isSome/\True)<|lt (vl (Nl a)) fun b =>
 lp (QX a b) (0,List.replicate c.toNat 0)
def Q0i:Ct:=c8 107 [.dat y126.pt] (fun x=>KH x.1) (fun r:List Int×Bool=>AV.tup [AV.ow 2 true i64 r.1,B r.2]) (fun _=>())
theorem Zq:Ok prog Q0i:=by
 refine c9 [.tmp 2,.tmp 3] func107 ?_;intro y ⟨d,_⟩ r H Q hn hr;have:=hz (tc Zg (tc Zj (tc Zk (tc MD (tc QU (tc Zn (tc JW tn)))))));refine iA [0]<|iD JW [0,4] H fun F H=>jN r (fun(h:List Int)=>Z [p 0 (D y126.pt d),p 4 (O 16)] [(16,A 3 i64 h 0)]) (KG d) (fun h H=>?_) (fun _ u e0 t0=>?_)
 ·refine iA [0,4,7]<|jN r (fun(k:List Int)=>Z [p 7 (O 55)] [(55,A 2 i64 k 0)]) (Zo) (fun k H=>?_) (fun _ v e2 z=>?_)
  ·refine iA [2,3]<|a8<|hr H
  refine iA [0,4,7,42,43]<|vB<|lX (fun((c,a,g):List Int×Int×List Int)=>Z [p 0 (D y126.pt d),p 4 (O 16),p 7 (O 55),p 42 (I (h.length:Int)),p 43 (I a)] [(16,A 3 i64 g 0),(55,A 2 i64 c 0)]) ([],0,h) H fun _ V w P x ⟨c,a,g⟩ H=>iA [0,4,7,42,43,44]<|vQ<|cD H (fun H=>?_) (fun H=>?_)
  ·refine vK<|fQ<|jN r (fun((j,i):List Int×List Int)=>Z [p 0 (D y126.pt d),p 4 (O 16),p 7 (O 55),p 42 (I (h.length:Int)),p 43 (I a)] [(55,A 2 i64 j 0),(16,A 3 i64 i 0)]) (Nn a V) (fun⟨j,i⟩ H=>?_) (fun _ t e4 E=>?_)
   ·refine jB [0,4,7,42,43] H fun H=>w H
   refine vB<|iD Zj [0,4,7,8,42,43] H fun e H=>vQ<|iA [0,4,7,8,42,43,48]<|cD H (fun H=>iA [2,3]<|a8<|fR<|h9<|E<|x<|h9<|z<|hr H) fun H=>vK<|fQ<|iB [0,4,7,8,42,43] H fun H=>iB [0,4,7,8,42,43] H fun H=>iD Zg [0,4,7,42,43,58,59,60] H fun b H=>vB<|lX (fun((f,l):Int×List Int)=>Z [p 0 (D y126.pt d),p 4 (O 16),p 7 (O 55),p 42 (I (h.length:Int)),p 43 (I a),p 58 (O 58),p 59 (I (b.length:Int)),p 60 (I f)] [(58,A 2 i64 b 0),(55,A 2 i64 (c++[e]) 0),(16,A 3 i64 l 0)]) ((0,g.set e.toNat (-1))) H fun _ Y T W t5 ⟨f,l⟩ H=>iA [0,4,7,42,43,58,59,60,61]<|vQ<|cD H (fun H=>vK<|fQ<|vQ<|vB<|iB [0,4,7,10,42,43,58,59,60] H fun H=>zD (fun m=>Z [p 0 (D y126.pt d),p 4 (O 16),p 7 (O 55),p 42 (I (h.length:Int)),p 43 (I a),p 58 (O 58),p 59 (I (b.length:Int)),p 60 (I f)] [(16,A 3 i64 m 0),(58,A 2 i64 b 0),(55,A 2 i64 (c++[e]) 0)]) H fun m H=>fK<|fQ<|jB [0,4,7,42,43,58,59,60] H fun H=>T H) fun H=>vE<|fE<|W<|fX rfl<|fK<|t H
  exact vE<|fE<|P<|fX rfl<|v H
 refine iD Zn [0,4,18,19,20] H fun n H=>vB<|lX (fun((o,q):Int×List Int)=>Z [p 0 (D y126.pt d),p 4 (O 16),p 18 (O 18),p 19 (I (n.length:Int)),p 20 (I o)] [(18,A 2 i64 n 0),(16,A 3 i64 q 0)]) (0,List.replicate F.toNat 0) H fun _ g1 G X t1 ⟨o,q⟩ H=>iA [0,4,18,19,20,21]<|vQ<|cD H (fun H=>vK<|fQ<|vQ<|vB<|iB [0,4,6,18,19,20] H fun H=>zD (fun s=>Z [p 0 (D y126.pt d),p 4 (O 16),p 18 (O 18),p 19 (I (n.length:Int)),p 20 (I o)] [(16,A 3 i64 s 0),(18,A 2 i64 n 0)]) H fun s H=>fK<|fQ<|jB [0,4,18,19,20] H fun H=>G H) fun H=>vE<|fE<|X<|fX rfl<|u H
def Ap(c:j1)(h:q9)(b:List Int)(g:List r4)(f:A3):Option (Int ⊕ D9×List Int×Int) :=
 gd ((GL c).isSome/\((!vl (GL c))=false/\True->(Ku h).isSome)/\True) <|
 if(!vl (GL c)||!vl (Ku h)) then
  some (Sum.inl 1)
 else
  gd ((KB c).isSome/\True)<|lt (vl (KB c)) fun a =>
  gd ((true=true/\True->(KC a f).isSome)/\True) <|
  if(true&&!vl (KC a f)) then
   some (Sum.inl 1)
  else
   gd ((GO a b).isSome/\((!vl (GO a b))=false/\True->(KD a g).isSome)/\True) <|
   if(!vl (GO a b)||!vl (KD a g)) then
    some (Sum.inl 2)
   else
    gd ((KF a b).isSome/\True)<|lt (vl (KF a b)) fun d =>
    gd ((KH d).isSome/\True)<|lt (vl (KH d)) fun e =>
    if(!e.2) then
     some (Sum.inl 7)
    else
     some (Sum.inr (d,e.1,(0:Int)))
def k51:Ct:=c8 51 [.agg l5,.agg u4,.dat i64.sl,.dat y75.sl,.dat y65.pt] (fun x=>Ap x.1 x.2.1 x.2.2.1 x.2.2.2.1 x.2.2.2.2.1) (two (fun r:Int=>AV.tup [AV.v (Value.pointer none),AV.v (Value.slice none 0 0),I r]) (fun r:D9×List Int×Int=>AV.tup [D y126.pt r.1,AV.ow 2 true i64 r.2.1,I r.2.2])) (fun _=>())
def N0l:Ct:=QY 51 [.agg l5,.agg u4,.dat i64.sl,.dat y75.sl,.dat y65.pt] (fun x=>Ap x.1 x.2.1 x.2.2.1 x.2.2.2.1 x.2.2.2.2.1) (fun r:Int=>AV.tup [AV.v (Value.pointer none),AV.v (Value.slice none 0 0),I r]) ()
def N0k:Ct:=QZ 51 [.agg l5,.agg u4,.dat i64.sl,.dat y75.sl,.dat y65.pt] (fun x=>Ap x.1 x.2.1 x.2.2.1 x.2.2.2.1 x.2.2.2.2.1) (fun r:D9×List Int×Int=>AV.tup [D y126.pt r.1,AV.ow 2 true i64 r.2.1,I r.2.2]) ()
theorem Zr:Ok prog k51:=by
 refine c9 [.tmp 10,.tmp 11,.tmp 12] func51 ?_;intro y ⟨_,_,_,_,_,_⟩ r H Q hn hr;have:=hz (tc Zq (tc Zc (tc N0e (tc N0f (tc N0g (tc YT (tc N0h (tc N0i tn))))))));refine iA [2,3,4,5,6]<|vQ<|iB [2,3,4,5,24] H fun H=>cD H (fun H=>iA [10,11,12]<|a8<|fR<|hr H) fun H=>vK<|fQ<|iD YT [2,3,4,13] H fun _ H=>vQ<|vB<|iB [2,3,13,27] H fun H=>cD H (fun H=>iA [10,11,12]<|a8<|h9<|fR<|hr H) fun H=>iB [2,13,38] H fun H=>cD H (fun H=>iA [10,11,12]<|a8<|h9<|fR<|hr H) fun H=>vK<|fK<|fQ<|iD Zc [14] H fun _ H=>iD Zq [14,15,16] H fun _ H=>vQ<|iA [14,15,58]<|cD H (fun H=>iA [10,11,12]<|a8<|fR<|hr H) fun H=>vK<|fQ<|iA [10,11,12]<|a8<|hr H
theorem L0K:Ok prog N0l:=L0H Zr
theorem L0J:Ok prog N0k:=L0G Zr
def KI(e:j1)(c:q9)(d:List Int)(b:List r4)(a:A3)(h:Int)(f:Int):Option (Int×Int) :=
 if(KJ (Ap e c d b a)) then
  gd (KJ (Ap e c d b a)=true/\True) <|
  if(vL (Ap e c d b a) != 0) then
   some (((0:Int),vL (Ap e c d b a)))
  else
   gd ((DJ f).isSome/\True) <|
   if(!vl (DJ f)) then
    some (((0:Int),(2:Int)))
   else
    none
 else
  gd (Ra (Ap e c d b a)=true/\True)<|lt (vR (Ap e c d b a)) fun g =>
  if(g.2.2 != 0) then
   some (((0:Int),g.2.2))
  else
   gd ((DJ f).isSome/\True) <|
   if(!vl (DJ f)) then
    some (((0:Int),(2:Int)))
   else
    gd ((AY g.1 c b a h f).isSome/\True)<|lt (vl (AY g.1 c b a h f)) fun i =>
    some i
def k17:Ct:=c8 17 [.agg l5,.agg u4,.dat i64.sl,.dat y75.sl,.agg y65,.dat i64,.dat i64] (fun x=>KI x.1 x.2.1 x.2.2.1 x.2.2.2.1 x.2.2.2.2.1 x.2.2.2.2.2.1 x.2.2.2.2.2.2.1) (fun r:Int×Int=>AV.tup [I r.1,I r.2]) (fun _=>())
theorem Zs:Ok prog k17:=by
 refine c9 [.tmp 14,.tmp 15] func17 ?_;intro y ⟨b,g,i,d,c,e,f,_⟩ r H Q hn hr;have:=hz (tc XM (tc o52 tn));refine vQ<|zX Dt (HT.h) 2 [2,3,5,6,7,8,11] (y65) (Z [p 2 (L i64 i),p 3 (L y75 d),p 5 (J e),p 6 (J f),p 7 (R 7),p 8 (R 8),p 11 (D y65.pt c)] [(8,K 58 u4 g),(7,K 56 l5 b)]) (V:=True) (W:=True) (by kernel_rfl) ⟨trivial,trivial⟩<|fQ<|sp H (fun H=>?_) (fun H=>?_)
 ·have:=hz (tc L0K (HT.h));refine iB [3,5,6,8,11,16,18] H fun H=>vQ<|vB<|iA [3,5,6,8,11,16,18,28]<|cD H (fun H=>iA [14,15]<|a8<|h9<|fR<|hr H) fun H=>iB [3,5,6,8,11,16,32] H fun H=>cD H (fun H=>iA [14,15]<|a8<|h9<|fR<|hr H) fun H=>vK<|fK<|fQ<|Yj H
 have:=hz (tc L0J (HT.h));refine qD (fun a=>Z [p 3 (L y75 d),p 5 (J e),p 6 (J f),p 8 (R 8),p 11 (D y65.pt c),p 16 (D y126.pt a.1),p 18 (I a.2.2)] [(24,A 2 i64 a.2.1 0),(8,K 58 u4 g),(7,K 56 l5 b)]) H fun a H=>vQ<|vB<|iA [3,5,6,8,11,16,18,28]<|cD H (fun H=>iA [14,15]<|a8<|h9<|fR<|hr H) fun H=>iB [3,5,6,8,11,16,32] H fun H=>cD H (fun H=>iA [14,15]<|a8<|h9<|fR<|hr H) fun H=>vK<|fK<|fQ<|iD XM [14,15] H fun _ H=>a8<|hr H
end Go.Proofs.YtechodbafnmddaaGreatDoor
end
