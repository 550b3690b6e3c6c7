/- Functions of this program as plain functions of data, and that they are so: printed by program. -/
import Derived.Test.YtechodbafnmddaaGreatDoorF95a
section
namespace Go.Proofs.YtechodbafnmddaaGreatDoor
open Go Go.Proofs Go.Proofs.Sv Go.Proofs.Xv Go.Proofs.Xl Go.RowKit
open Tryz
def MN(a:H2)(b:H2):Option Bool :=
 if(!decide (a.1=b.1)) then
  some false
 else
  if(a.2.1 != b.2.1) then
   some false
  else
   gd ((L6 a.2.2 b.2.2).isSome/\True) <|
   if(!vl (L6 a.2.2 b.2.2)) then
    some false
   else
    some true
def T0k:Ct:=b9 173 [.agg y155,.agg y155] (fun x=>MN x.1 x.2.1) (fun r:Bool=>B r) (fun _=>())
theorem Q0J:Ok prog T0k:=by
 refine c8 [.tmp 4] func173 ?_;intro y ⟨_,_,_⟩ r H Q hn hr;have:=hz (tc Hw tn);refine iA [2,3]<|vQ<|iA [2,3,9]<|cD H (fun H=>iA [4]<|a7<|fR<|hr H) fun H=>vK<|fQ<|vQ<|iA [2,3,14]<|cD H (fun H=>iA [4]<|a7<|fR<|hr H) fun H=>vK<|fQ<|vQ<|iB [20] H fun H=>cD H (fun H=>iA [4]<|a7<|fR<|hr H) fun H=>vK<|fQ<|iA [4]<|a7<|hr H
def B0D:Unit->Option Bool
 | _ =>
 some true
def I0c(b:List H2)(c:List H2)(d:Int->Option Bool):Int->Option Bool
 | a =>
 if(decide (a < (b.length:Int))) then
  gd (ix a b.length/\ix a c.length/\(MN (b.getD a.toNat (a6 y155)) (c.getD a.toNat (a6 y155))).isSome/\True) <|
  if(!vl (MN (b.getD a.toNat (a6 y155)) (c.getD a.toNat (a6 y155)))) then
   some false
  else
   gd (b7 (a+1)/\True) <|
   d (a+1)
 else
  B0D ()
def MO(a:List H2)(b:List H2):Option Bool :=
 if((a.length:Int) != (b.length:Int)) then
  some false
 else
  lp (I0c a b) 0
def U0j:Ct:=b9 114 [.dat y155.sl,.dat y155.sl] (fun x=>MO x.1 x.2.1) (fun r:Bool=>B r) (fun _=>())
theorem R0d:Ok prog U0j:=by
 refine c8 [.tmp 4] func114 ?_;intro y ⟨b,e,_⟩ r H Q hn hr;have:=hz (tc Q0J tn);refine iA [0,1]<|vQ<|iA [0,1,10]<|cD H (fun H=>iA [4]<|a7<|fR<|hr H) fun H=>vK<|fQ<|jN r (fun(_:Unit)=>Z [] []) (B0D) (fun _ H=>?_) (fun _ g i c=>?_)
 ·refine iA [4]<|a7<|hr H
 refine iA [0,1,5]<|vB<|lX (fun(a:Int)=>Z [p 0 (L y155 b),p 1 (L y155 e),p 5 (I a)] []) 0 H fun _ j h f d a H=>vQ<|iA [0,1,5,14]<|cD H (fun H=>?_) (fun H=>?_)
 ·refine vK<|fQ<|vQ<|vB<|iB [0,1,5,26] H fun H=>cD H (fun H=>iA [4]<|a7<|c9<|fR<|d<|c9<|c<|hr H) fun H=>vK<|fK<|fQ<|jB [0,1,5] H fun H=>h H
 exact vE<|fE<|f<|fX rfl<|g H
def MP(a:q9)(b:q9):Option Bool :=
 gd ((MO a.1 b.1).isSome/\True) <|
 if(!vl (MO a.1 b.1)) then
  some false
 else
  gd ((MM a.2.1 b.2.1).isSome/\True) <|
  if(!vl (MM a.2.1 b.2.1)) then
   some false
  else
   gd ((ML a.2.2 b.2.2).isSome/\True) <|
   if(!vl (ML a.2.2 b.2.2)) then
    some false
   else
    some true
def k55:Ct:=b9 55 [.agg y53,.agg y53] (fun x=>MP x.1 x.2.1) (fun r:Bool=>B r) (fun _=>())
theorem o55:Ok prog k55:=by
 refine c8 [.tmp 4] func55 ?_;intro y ⟨_,_,_⟩ r H Q hn hr;have:=hz (tc R0b (tc R0c (tc R0d tn)));refine iA [2,3]<|vQ<|iB [2,3,10] H fun H=>cD H (fun H=>iA [4]<|a7<|fR<|hr H) fun H=>vK<|fQ<|vQ<|iB [2,3,16] H fun H=>cD H (fun H=>iA [4]<|a7<|fR<|hr H) fun H=>vK<|fQ<|vQ<|iB [22] H fun H=>cD H (fun H=>iA [4]<|a7<|fR<|hr H) fun H=>vK<|fQ<|iA [4]<|a7<|hr H
def MQ(a:q5)(b:q5):Option Bool :=
 gd ((L6 a.1 b.1).isSome/\True) <|
 if(!vl (L6 a.1 b.1)) then
  some false
 else
  gd ((L6 a.2.1 b.2.1).isSome/\True) <|
  if(!vl (L6 a.2.1 b.2.1)) then
   some false
  else
   gd ((L6 a.2.2 b.2.2).isSome/\True) <|
   if(!vl (L6 a.2.2 b.2.2)) then
    some false
   else
    some true
def R0E:Ct:=b9 284 [.agg y269,.agg y269] (fun x=>MQ x.1 x.2.1) (fun r:Bool=>B r) (fun _=>())
theorem P0U:Ok prog R0E:=by
 refine c8 [.tmp 4] func284 ?_;intro y ⟨_,_,_⟩ r H Q hn hr;have:=hz (tc Hw tn);refine iA [2,3]<|vQ<|iB [2,3,10] H fun H=>cD H (fun H=>iA [4]<|a7<|fR<|hr H) fun H=>vK<|fQ<|vQ<|iB [2,3,16] H fun H=>cD H (fun H=>iA [4]<|a7<|fR<|hr H) fun H=>vK<|fQ<|vQ<|iB [22] H fun H=>cD H (fun H=>iA [4]<|a7<|fR<|hr H) fun H=>vK<|fQ<|iA [4]<|a7<|hr H
def z0O:Unit->Option Bool
 | _ =>
 some true
def G0P(b:List q5)(c:List q5)(d:Int->Option Bool):Int->Option Bool
 | a =>
 if(decide (a < (b.length:Int))) then
  gd (ix a b.length/\ix a c.length/\(MQ (b.getD a.toNat (a6 y269)) (c.getD a.toNat (a6 y269))).isSome/\True) <|
  if(!vl (MQ (b.getD a.toNat (a6 y269)) (c.getD a.toNat (a6 y269)))) then
   some false
  else
   gd (b7 (a+1)/\True) <|
   d (a+1)
 else
  z0O ()
def Hx(a:List q5)(b:List q5):Option Bool :=
 if((a.length:Int) != (b.length:Int)) then
  some false
 else
  lp (G0P a b) 0
def R0Q:Ct:=b9 268 [.dat y269.sl,.dat y269.sl] (fun x=>Hx x.1 x.2.1) (fun r:Bool=>B r) (fun _=>())
theorem Q0b:Ok prog R0Q:=by
 refine c8 [.tmp 4] func268 ?_;intro y ⟨b,e,_⟩ r H Q hn hr;have:=hz (tc P0U tn);refine iA [0,1]<|vQ<|iA [0,1,10]<|cD H (fun H=>iA [4]<|a7<|fR<|hr H) fun H=>vK<|fQ<|jN r (fun(_:Unit)=>Z [] []) (z0O) (fun _ H=>?_) (fun _ g i c=>?_)
 ·refine iA [4]<|a7<|hr H
 refine iA [0,1,5]<|vB<|lX (fun(a:Int)=>Z [p 0 (L y269 b),p 1 (L y269 e),p 5 (I a)] []) 0 H fun _ j h f d a H=>vQ<|iA [0,1,5,14]<|cD H (fun H=>?_) (fun H=>?_)
 ·refine vK<|fQ<|vQ<|vB<|iB [0,1,5,26] H fun H=>cD H (fun H=>iA [4]<|a7<|c9<|fR<|d<|c9<|c<|hr H) fun H=>vK<|fK<|fQ<|jB [0,1,5] H fun H=>h H
 exact vE<|fE<|f<|fX rfl<|g H
def MR(a:A6)(b:A6):Option Bool :=
 if(a.1 != b.1) then
  some false
 else
  if(a.2.1 != b.2.1) then
   some false
  else
   if(a.2.2.1 != b.2.2.1) then
    some false
   else
    if(a.2.2.2.1 != b.2.2.2.1) then
     some false
    else
     gd ((Hx a.2.2.2.2.1 b.2.2.2.2.1).isSome/\True) <|
     if(!vl (Hx a.2.2.2.2.1 b.2.2.2.2.1)) then
      some false
     else
      gd ((Hx a.2.2.2.2.2 b.2.2.2.2.2).isSome/\True) <|
      if(!vl (Hx a.2.2.2.2.2 b.2.2.2.2.2)) then
       some false
      else
       some true
def S0d:Ct:=b9 250 [.agg y158,.agg y158] (fun x=>MR x.1 x.2.1) (fun r:Bool=>B r) (fun _=>())
theorem Q0i:Ok prog S0d:=by
 refine c8 [.tmp 4] func250 ?_;intro y ⟨_,_,_⟩ r H Q hn hr;have:=hz (tc Q0b tn);refine iA [2,3]<|vQ<|iA [2,3,9]<|cD H (fun H=>iA [4]<|a7<|fR<|hr H) fun H=>vK<|fQ<|vQ<|iA [2,3,14]<|cD H (fun H=>iA [4]<|a7<|fR<|hr H) fun H=>vK<|fQ<|vQ<|iA [2,3,19]<|cD H (fun H=>iA [4]<|a7<|fR<|hr H) fun H=>vK<|fQ<|vQ<|iA [2,3,24]<|cD H (fun H=>iA [4]<|a7<|fR<|hr H) fun H=>vK<|fQ<|vQ<|iB [2,3,30] H fun H=>cD H (fun H=>iA [4]<|a7<|fR<|hr H) fun H=>vK<|fQ<|vQ<|iB [36] H fun H=>cD H (fun H=>iA [4]<|a7<|fR<|hr H) fun H=>vK<|fQ<|iA [4]<|a7<|hr H
def A0l:Unit->Option Bool
 | _ =>
 some true
def H0f(b:List A6)(c:List A6)(d:Int->Option Bool):Int->Option Bool
 | a =>
 if(decide (a < (b.length:Int))) then
  gd (ix a b.length/\ix a c.length/\(MR (b.getD a.toNat (a6 y158)) (c.getD a.toNat (a6 y158))).isSome/\True) <|
  if(!vl (MR (b.getD a.toNat (a6 y158)) (c.getD a.toNat (a6 y158)))) then
   some false
  else
   gd (b7 (a+1)/\True) <|
   d (a+1)
 else
  A0l ()
def MS(a:List A6)(b:List A6):Option Bool :=
 if((a.length:Int) != (b.length:Int)) then
  some false
 else
  lp (H0f a b) 0
def S0v:Ct:=b9 221 [.dat y158.sl,.dat y158.sl] (fun x=>MS x.1 x.2.1) (fun r:Bool=>B r) (fun _=>())
theorem Q0q:Ok prog S0v:=by
 refine c8 [.tmp 4] func221 ?_;intro y ⟨b,e,_⟩ r H Q hn hr;have:=hz (tc Q0i tn);refine iA [0,1]<|vQ<|iA [0,1,10]<|cD H (fun H=>iA [4]<|a7<|fR<|hr H) fun H=>vK<|fQ<|jN r (fun(_:Unit)=>Z [] []) (A0l) (fun _ H=>?_) (fun _ g i c=>?_)
 ·refine iA [4]<|a7<|hr H
 refine iA [0,1,5]<|vB<|lX (fun(a:Int)=>Z [p 0 (L y158 b),p 1 (L y158 e),p 5 (I a)] []) 0 H fun _ j h f d a H=>vQ<|iA [0,1,5,14]<|cD H (fun H=>?_) (fun H=>?_)
 ·refine vK<|fQ<|vQ<|vB<|iB [0,1,5,26] H fun H=>cD H (fun H=>iA [4]<|a7<|c9<|fR<|d<|c9<|c<|hr H) fun H=>vK<|fK<|fQ<|jB [0,1,5] H fun H=>h H
 exact vE<|fE<|f<|fX rfl<|g H
def MT(a:F8)(b:F8):Option Bool :=
 if(!decide (a.1=b.1)) then
  some false
 else
  if(a.2.1 != b.2.1) then
   some false
  else
   if(a.2.2.1 != b.2.2.1) then
    some false
   else
    if(!a.2.2.2==b.2.2.2) then
     some false
    else
     some true
def S0e:Ct:=b9 249 [.agg y293,.agg y293] (fun x=>MT x.1 x.2.1) (fun r:Bool=>B r) (fun _=>())
theorem Q0j:Ok prog S0e:=by
 refine c8 [.tmp 4] func249 ?_;intro y ⟨_,_,_⟩ r H Q hn hr;refine iA [2,3]<|vQ<|iA [2,3,9]<|cD H (fun H=>iA [4]<|a7<|fR<|hr H) fun H=>vK<|fQ<|vQ<|iA [2,3,14]<|cD H (fun H=>iA [4]<|a7<|fR<|hr H) fun H=>vK<|fQ<|vQ<|iA [2,3,19]<|cD H (fun H=>iA [4]<|a7<|fR<|hr H) fun H=>vK<|fQ<|vQ<|iA [24]<|cD H (fun H=>iA [4]<|a7<|fR<|hr H) fun H=>vK<|fQ<|iA [4]<|a7<|hr H
def A0m:Unit->Option Bool
 | _ =>
 some true
def H0h(b:List F8)(c:List F8)(d:Int->Option Bool):Int->Option Bool
 | a =>
 if(decide (a < (b.length:Int))) then
  gd (ix a b.length/\ix a c.length/\(MT (b.getD a.toNat (a6 y293)) (c.getD a.toNat (a6 y293))).isSome/\True) <|
  if(!vl (MT (b.getD a.toNat (a6 y293)) (c.getD a.toNat (a6 y293)))) then
   some false
  else
   gd (b7 (a+1)/\True) <|
   d (a+1)
 else
  A0m ()
def MU(a:List F8)(b:List F8):Option Bool :=
 if((a.length:Int) != (b.length:Int)) then
  some false
 else
  lp (H0h a b) 0
def S0w:Ct:=b9 220 [.dat y293.sl,.dat y293.sl] (fun x=>MU x.1 x.2.1) (fun r:Bool=>B r) (fun _=>())
theorem Q0r:Ok prog S0w:=by
 refine c8 [.tmp 4] func220 ?_;intro y ⟨b,e,_⟩ r H Q hn hr;have:=hz (tc Q0j tn);refine iA [0,1]<|vQ<|iA [0,1,10]<|cD H (fun H=>iA [4]<|a7<|fR<|hr H) fun H=>vK<|fQ<|jN r (fun(_:Unit)=>Z [] []) (A0m) (fun _ H=>?_) (fun _ g i c=>?_)
 ·refine iA [4]<|a7<|hr H
 refine iA [0,1,5]<|vB<|lX (fun(a:Int)=>Z [p 0 (L y293 b),p 1 (L y293 e),p 5 (I a)] []) 0 H fun _ j h f d a H=>vQ<|iA [0,1,5,14]<|cD H (fun H=>?_) (fun H=>?_)
 ·refine vK<|fQ<|vQ<|vB<|iB [0,1,5,26] H fun H=>cD H (fun H=>iA [4]<|a7<|c9<|fR<|d<|c9<|c<|hr H) fun H=>vK<|fK<|fQ<|jB [0,1,5] H fun H=>h H
 exact vE<|fE<|f<|fX rfl<|g H
def MV(a:l5)(b:l5):Option Bool :=
 if(!decide (a.1=b.1)) then
  some false
 else
  if(a.2.1 != b.2.1) then
   some false
  else
   gd ((MU a.2.2.1 b.2.2.1).isSome/\True) <|
   if(!vl (MU a.2.2.1 b.2.2.1)) then
    some false
   else
    gd ((MS a.2.2.2.1 b.2.2.2.1).isSome/\True) <|
    if(!vl (MS a.2.2.2.1 b.2.2.2.1)) then
     some false
    else
     gd ((L6 a.2.2.2.2.1 b.2.2.2.2.1).isSome/\True) <|
     if(!vl (L6 a.2.2.2.2.1 b.2.2.2.2.1)) then
      some false
     else
      if(a.2.2.2.2.2.1 != b.2.2.2.2.2.1) then
       some false
      else
       if(a.2.2.2.2.2.2 != b.2.2.2.2.2.2) then
        some false
       else
        some true
def T0l:Ct:=b9 172 [.agg y153,.agg y153] (fun x=>MV x.1 x.2.1) (fun r:Bool=>B r) (fun _=>())
theorem Q0K:Ok prog T0l:=by
 refine c8 [.tmp 4] func172 ?_;intro y ⟨_,_,_⟩ r H Q hn hr;have:=hz (tc Hw (tc Q0q (tc Q0r tn)));refine iA [2,3]<|vQ<|iA [2,3,9]<|cD H (fun H=>iA [4]<|a7<|fR<|hr H) fun H=>vK<|fQ<|vQ<|iA [2,3,14]<|cD H (fun H=>iA [4]<|a7<|fR<|hr H) fun H=>vK<|fQ<|vQ<|iB [2,3,20] H fun H=>cD H (fun H=>iA [4]<|a7<|fR<|hr H) fun H=>vK<|fQ<|vQ<|iB [2,3,26] H fun H=>cD H (fun H=>iA [4]<|a7<|fR<|hr H) fun H=>vK<|fQ<|vQ<|iB [2,3,32] H fun H=>cD H (fun H=>iA [4]<|a7<|fR<|hr H) fun H=>vK<|fQ<|vQ<|iA [2,3,37]<|cD H (fun H=>iA [4]<|a7<|fR<|hr H) fun H=>vK<|fQ<|vQ<|iA [42]<|cD H (fun H=>iA [4]<|a7<|fR<|hr H) fun H=>vK<|fQ<|iA [4]<|a7<|hr H
def B0E:Unit->Option Bool
 | _ =>
 some true
def I0e(b:List l5)(c:List l5)(d:Int->Option Bool):Int->Option Bool
 | a =>
 if(decide (a < (b.length:Int))) then
  gd (ix a b.length/\ix a c.length/\(MV (b.getD a.toNat (a6 y153)) (c.getD a.toNat (a6 y153))).isSome/\True) <|
  if(!vl (MV (b.getD a.toNat (a6 y153)) (c.getD a.toNat (a6 y153)))) then
   some false
  else
   gd (b7 (a+1)/\True) <|
   d (a+1)
 else
  B0E ()
def MW(a:List l5)(b:List l5):Option Bool :=
 if((a.length:Int) != (b.length:Int)) then
  some false
 else
  lp (I0e a b) 0
def U0k:Ct:=b9 113 [.dat y153.sl,.dat y153.sl] (fun x=>MW x.1 x.2.1) (fun r:Bool=>B r) (fun _=>())
theorem R0e:Ok prog U0k:=by
 refine c8 [.tmp 4] func113 ?_;intro y ⟨b,e,_⟩ r H Q hn hr;have:=hz (tc Q0K tn);refine iA [0,1]<|vQ<|iA [0,1,10]<|cD H (fun H=>iA [4]<|a7<|fR<|hr H) fun H=>vK<|fQ<|jN r (fun(_:Unit)=>Z [] []) (B0E) (fun _ H=>?_) (fun _ g i c=>?_)
 ·refine iA [4]<|a7<|hr H
 refine iA [0,1,5]<|vB<|lX (fun(a:Int)=>Z [p 0 (L y153 b),p 1 (L y153 e),p 5 (I a)] []) 0 H fun _ j h f d a H=>vQ<|iA [0,1,5,14]<|cD H (fun H=>?_) (fun H=>?_)
 ·refine vK<|fQ<|vQ<|vB<|iB [0,1,5,26] H fun H=>cD H (fun H=>iA [4]<|a7<|c9<|fR<|d<|c9<|c<|hr H) fun H=>vK<|fK<|fQ<|jB [0,1,5] H fun H=>h H
 exact vE<|fE<|f<|fX rfl<|g H
def MX(a:List l5)(b:List l5):Option Bool :=
 gd ((MW a b).isSome/\True) <|
 if(!vl (MW a b)) then
  some false
 else
  some true
def k54:Ct:=b9 54 [.agg y153.sl,.agg y153.sl] (fun x=>MX x.1 x.2.1) (fun r:Bool=>B r) (fun _=>())
theorem o54:Ok prog k54:=by
 refine c8 [.tmp 4] func54 ?_;intro y ⟨_,_,_⟩ r H Q hn hr;have:=hz (tc R0e tn);refine iA [2,3]<|vQ<|iB [10] H fun H=>cD H (fun H=>iA [4]<|a7<|fR<|hr H) fun H=>vK<|fQ<|iA [4]<|a7<|hr H
def FY(a:j0)(b:j0):Option Bool :=
 gd ((MX a.1 b.1).isSome/\True) <|
 if(!vl (MX a.1 b.1)) then
  some false
 else
  gd ((MP a.2.1 b.2.1).isSome/\True) <|
  if(!vl (MP a.2.1 b.2.1)) then
   some false
  else
   gd ((MJ a.2.2 b.2.2).isSome/\True) <|
   if(!vl (MJ a.2.2 b.2.2)) then
    some false
   else
    some true
def k18:Ct:=b9 18 [.agg j3,.agg j3] (fun x=>FY x.1 x.2.1) (fun r:Bool=>B r) (fun _=>())
theorem Ui:Ok prog k18:=by
 refine c8 [.tmp 4] func18 ?_;intro y ⟨_,_,_⟩ r H Q hn hr;have:=hz (tc o56 (tc o55 (tc o54 tn)));refine iA [2,3]<|vQ<|iB [2,3,10] H fun H=>cD H (fun H=>iA [4]<|a7<|fR<|hr H) fun H=>vK<|fQ<|vQ<|iB [2,3,16] H fun H=>cD H (fun H=>iA [4]<|a7<|fR<|hr H) fun H=>vK<|fQ<|vQ<|iB [22] H fun H=>cD H (fun H=>iA [4]<|a7<|fR<|hr H) fun H=>vK<|fQ<|iA [4]<|a7<|hr H
def Fb(a:l9)(b:l9):Option Bool :=
 if(a.1 != b.1) then
  some false
 else
  if(a.2 != b.2) then
   some false
  else
   some true
def k66:Ct:=b9 66 [.agg y73,.agg y73] (fun x=>Fb x.1 x.2.1) (fun r:Bool=>B r) (fun _=>())
theorem o66:Ok prog k66:=by
 refine c8 [.tmp 4] func66 ?_;intro y ⟨_,_,_⟩ r H Q hn hr;refine iA [2,3]<|vQ<|iA [2,3,9]<|cD H (fun H=>iA [4]<|a7<|fR<|hr H) fun H=>vK<|fQ<|vQ<|iA [14]<|cD H (fun H=>iA [4]<|a7<|fR<|hr H) fun H=>vK<|fQ<|iA [4]<|a7<|hr H
def Hy(a:l7)(b:l7):Option Bool :=
 if(a.1 != b.1) then
  some false
 else
  gd ((Fb a.2.1 b.2.1).isSome/\True) <|
  if(!vl (Fb a.2.1 b.2.1)) then
   some false
  else
   gd ((Fb a.2.2 b.2.2).isSome/\True) <|
   if(!vl (Fb a.2.2 b.2.2)) then
    some false
   else
    some true
def k24:Ct:=b9 24 [.agg y75,.agg y75] (fun x=>Hy x.1 x.2.1) (fun r:Bool=>B r) (fun _=>())
theorem o24:Ok prog k24:=by
 refine c8 [.tmp 4] func24 ?_;intro y ⟨_,_,_⟩ r H Q hn hr;have:=hz (tc o66 tn);refine iA [2,3]<|vQ<|iA [2,3,9]<|cD H (fun H=>iA [4]<|a7<|fR<|hr H) fun H=>vK<|fQ<|vQ<|iB [2,3,15] H fun H=>cD H (fun H=>iA [4]<|a7<|fR<|hr H) fun H=>vK<|fQ<|vQ<|iB [21] H fun H=>cD H (fun H=>iA [4]<|a7<|fR<|hr H) fun H=>vK<|fQ<|iA [4]<|a7<|hr H
def H0k:Unit->Option Bool
 | _ =>
 some true
def K0V(b:List l7)(c:List l7)(d:Int->Option Bool):Int->Option Bool
 | a =>
 if(decide (a < (b.length:Int))) then
  gd (ix a b.length/\ix a c.length/\(Hy (b.getD a.toNat (a6 y75)) (c.getD a.toNat (a6 y75))).isSome/\True) <|
  if(!vl (Hy (b.getD a.toNat (a6 y75)) (c.getD a.toNat (a6 y75)))) then
   some false
  else
   gd (b7 (a+1)/\True) <|
   d (a+1)
 else
  H0k ()
def FZ(a:List l7)(b:List l7):Option Bool :=
 if((a.length:Int) != (b.length:Int)) then
  some false
 else
  lp (K0V a b) 0
def k20:Ct:=b9 20 [.dat y75.sl,.dat y75.sl] (fun x=>FZ x.1 x.2.1) (fun r:Bool=>B r) (fun _=>())
theorem Uj:Ok prog k20:=by
 refine c8 [.tmp 4] func20 ?_;intro y ⟨b,e,_⟩ r H Q hn hr;have:=hz (tc o24 tn);refine iA [0,1]<|vQ<|iA [0,1,10]<|cD H (fun H=>iA [4]<|a7<|fR<|hr H) fun H=>vK<|fQ<|jN r (fun(_:Unit)=>Z [] []) (H0k) (fun _ H=>?_) (fun _ g i c=>?_)
 ·refine iA [4]<|a7<|hr H
 refine iA [0,1,5]<|vB<|lX (fun(a:Int)=>Z [p 0 (L y75 b),p 1 (L y75 e),p 5 (I a)] []) 0 H fun _ j h f d a H=>vQ<|iA [0,1,5,14]<|cD H (fun H=>?_) (fun H=>?_)
 ·refine vK<|fQ<|vQ<|vB<|iB [0,1,5,26] H fun H=>cD H (fun H=>iA [4]<|a7<|c9<|fR<|d<|c9<|c<|hr H) fun H=>vK<|fK<|fQ<|jB [0,1,5] H fun H=>h H
 exact vE<|fE<|f<|fX rfl<|g H
def G0r:Unit->Option Bool
 | _ =>
 some true
def K0H(b:List l9)(c:List l9)(d:Int->Option Bool):Int->Option Bool
 | a =>
 if(decide (a < (b.length:Int))) then
  gd (ix a b.length/\ix a c.length/\(Fb (b.getD a.toNat (a6 y73)) (c.getD a.toNat (a6 y73))).isSome/\True) <|
  if(!vl (Fb (b.getD a.toNat (a6 y73)) (c.getD a.toNat (a6 y73)))) then
   some false
  else
   gd (b7 (a+1)/\True) <|
   d (a+1)
 else
  G0r ()
def Hz(a:List l9)(b:List l9):Option Bool :=
 if((a.length:Int) != (b.length:Int)) then
  some false
 else
  lp (K0H a b) 0
def k58:Ct:=b9 58 [.dat y73.sl,.dat y73.sl] (fun x=>Hz x.1 x.2.1) (fun r:Bool=>B r) (fun _=>())
theorem o58:Ok prog k58:=by
 refine c8 [.tmp 4] func58 ?_;intro y ⟨b,e,_⟩ r H Q hn hr;have:=hz (tc o66 tn);refine iA [0,1]<|vQ<|iA [0,1,10]<|cD H (fun H=>iA [4]<|a7<|fR<|hr H) fun H=>vK<|fQ<|jN r (fun(_:Unit)=>Z [] []) (G0r) (fun _ H=>?_) (fun _ g i c=>?_)
 ·refine iA [4]<|a7<|hr H
 refine iA [0,1,5]<|vB<|lX (fun(a:Int)=>Z [p 0 (L y73 b),p 1 (L y73 e),p 5 (I a)] []) 0 H fun _ j h f d a H=>vQ<|iA [0,1,5,14]<|cD H (fun H=>?_) (fun H=>?_)
 ·refine vK<|fQ<|vQ<|vB<|iB [0,1,5,26] H fun H=>cD H (fun H=>iA [4]<|a7<|c9<|fR<|d<|c9<|c<|hr H) fun H=>vK<|fK<|fQ<|jB [0,1,5] H fun H=>h H
 exact vE<|fE<|f<|fX rfl<|g H
def G0s:Unit->Option Bool
 | _ =>
 some true
def K0I(b:List Bool)(c:List Bool)(d:Int->Option Bool):Int->Option Bool
 | a =>
 if(decide (a < (b.length:Int))) then
  gd (ix a b.length/\ix a c.length/\True) <|
  if(!b.getD a.toNat false==c.getD a.toNat false) then
   some false
  else
   gd (b7 (a+1)/\True) <|
   d (a+1)
 else
  G0s ()
def MY(a:List Bool)(b:List Bool):Option Bool :=
 if((a.length:Int) != (b.length:Int)) then
  some false
 else
  lp (K0I a b) 0
def k57:Ct:=b9 57 [.dat Ty.bool.sl,.dat Ty.bool.sl] (fun x=>MY x.1 x.2.1) (fun r:Bool=>B r) (fun _=>())
theorem o57:Ok prog k57:=by
 refine c8 [.tmp 4] func57 ?_;intro y ⟨b,e,_⟩ r H Q hn hr;refine iA [0,1]<|vQ<|iA [0,1,10]<|cD H (fun H=>iA [4]<|a7<|fR<|hr H) fun H=>vK<|fQ<|jN r (fun(_:Unit)=>Z [] []) (G0s) (fun _ H=>?_) (fun _ g i c=>?_)
 ·refine iA [4]<|a7<|hr H
 refine iA [0,1,5]<|vB<|lX (fun(a:Int)=>Z [p 0 (L Ty.bool b),p 1 (L Ty.bool e),p 5 (I a)] []) 0 H fun _ j h f d a H=>vQ<|iA [0,1,5,14]<|cD H (fun H=>?_) (fun H=>?_)
 ·refine vK<|fQ<|vQ<|vB<|iB [0,1,5,25] H fun H=>cD H (fun H=>iA [4]<|a7<|c9<|fR<|d<|c9<|c<|hr H) fun H=>vK<|fK<|fQ<|jB [0,1,5] H fun H=>h H
 exact vE<|fE<|f<|fX rfl<|g H
def Ga(a:B8)(b:B8):Option Bool :=
 gd ((MY a.1 b.1).isSome/\True) <|
 if(!vl (MY a.1 b.1)) then
  some false
 else
  gd ((Hz a.2.1 b.2.1).isSome/\True) <|
  if(!vl (Hz a.2.1 b.2.1)) then
   some false
  else
   gd ((Hz a.2.2 b.2.2).isSome/\True) <|
   if(!vl (Hz a.2.2 b.2.2)) then
    some false
   else
    some true
def k21:Ct:=b9 21 [.agg y65,.agg y65] (fun x=>Ga x.1 x.2.1) (fun r:Bool=>B r) (fun _=>())
theorem MZ:Ok prog k21:=by
 refine c8 [.tmp 4] func21 ?_;intro y ⟨_,_,_⟩ r H Q hn hr;have:=hz (tc o58 (tc o57 tn));refine iA [2,3]<|vQ<|iB [2,3,10] H fun H=>cD H (fun H=>iA [4]<|a7<|fR<|hr H) fun H=>vK<|fQ<|vQ<|iB [2,3,16] H fun H=>cD H (fun H=>iA [4]<|a7<|fR<|hr H) fun H=>vK<|fQ<|vQ<|iB [22] H fun H=>cD H (fun H=>iA [4]<|a7<|fR<|hr H) fun H=>vK<|fQ<|iA [4]<|a7<|hr H
def Na(a:Int):Option Bool :=
 some (a==0||a==1)
def k52:Ct:=b9 52 [.dat i64] (fun x=>Na x.1) (fun r:Bool=>B r) (fun _=>())
theorem o52:Ok prog k52:=by
 refine c8 [.tmp 2] func52 ?_;intro y ⟨_,_⟩ r H Q hn hr;refine iA [0]<|iA [2]<|a7<|hr H
def HA(a:l9)(b:Int):Option Int :=
 if(b==0) then
  some a.1
 else
  some a.2
def U0p:Ct:=b9 108 [.agg y73,.dat i64] (fun x=>HA x.1 x.2.1) (fun r:Int=>I r) (fun _=>())
theorem PY:Ok prog U0p:=by
 refine c8 [.tmp 4] func108 ?_;intro y ⟨_,_,_⟩ r H Q hn hr;refine iA [1,2]<|vQ<|iA [2,6]<|cD H (fun H=>iA [4]<|a7<|fR<|hr H) fun H=>vK<|fQ<|iA [4]<|a7<|hr H
def BB(a:l9)(b:l9):Option l9 :=
 gd (b7 (a.1+b.1)/\b7 (a.2+b.2)/\True) <|
 some (a.1+b.1,a.2+b.2)
def U0l:Ct:=b9 112 [.agg y73,.agg y73] (fun x=>BB x.1 x.2.1) (fun r:l9=>AV.agg [I r.1,I r.2]) (fun _=>())
theorem N0T:Ok prog U0l:=by
 refine c8 [.cell 4 73] func112 ?_;intro y ⟨_,_,_⟩ r H Q hn hr;refine iA [2,3,4]<|iB [4] H fun H=>a7<|hr H
def Cr(b:Int)(a:Int)(c:Int):Option Int :=
 gd (0<a/\0<a/\True) <|
 if(c==0&&decide (b.tmod a<0)) then
  gd (b7 (b.tdiv a-1)/\True) <|
  some (b.tdiv a-1)
 else
  if(c==1&&decide (0<b.tmod a)) then
   gd (b7 (b.tdiv a+1)/\True) <|
   some (b.tdiv a+1)
  else
   some (b.tdiv a)
def S0A:Ct:=b9 216 [.dat i64,.dat i64,.dat i64] (fun x=>Cr x.1 x.2.1 x.2.2.1) (fun r:Int=>I r) (fun _=>())
theorem Gb:Ok prog S0A:=by
 refine c8 [.tmp 6] func216 ?_;intro y ⟨_,_,_,_⟩ r H Q hn hr;refine iA [0,1,2]<|iB [2,7,8] H fun H=>vQ<|vB<|iA [2,7,8,15]<|cD H (fun H=>iB [6] H fun H=>a7<|c9<|fR<|hr H) fun H=>iA [7,24]<|cD H (fun H=>iB [6] H fun H=>a7<|c9<|fR<|hr H) fun H=>vK<|fK<|fQ<|iA [6]<|a7<|hr H
def z0Z:Int->Option Int
 | a =>
 some a
def Uk(d:Int)(c:Int×Int->Option Int):Int×Int->Option Int
 | (a,b) =>
 if(decide (a<b)) then
  gd (b7 (a+b)/\b7 (a+b+(1:Int))/\(0:Int) < (2:Int)/\True) <|
  gd (b7 ((a+b+1).tdiv 2*(a+b+1).tdiv 2)/\True) <|
  if(decide ((a+b+1).tdiv 2*(a+b+1).tdiv 2<=d)) then
   c (((a+b+1).tdiv 2,b))
  else
   gd (b7 ((a+b+1).tdiv 2-1)/\True) <|
   c ((a,(a+b+1).tdiv 2-1))
 else
  z0Z a
def Nb(a:Int):Option Int :=
 lp (Uk a) (0,3000000000)
def S0f:Ct:=b9 248 [.dat i64] (fun x=>Nb x.1) (fun r:Int=>I r) (fun _=>())
theorem N0i:Ok prog S0f:=by
 refine c8 [.tmp 2] func248 ?_;intro y ⟨e,_⟩ r H Q hn hr;refine iA [0]<|iA [0,3,4]<|jN r (fun(b:Int)=>Z [p 3 (I b)] []) (z0Z) (fun b H=>?_) (fun _ g i h=>?_)
 ·refine iA [2]<|a7<|hr H
 refine vB<|lX (fun((c,a):Int×Int)=>Z [p 0 (J e),p 3 (I c),p 4 (I a)] []) (0,3000000000) H fun _ k d f j ⟨c,a⟩ H=>vQ<|iA [0,3,4,8]<|cD H (fun H=>?_) (fun H=>?_)
 ·refine vK<|fQ<|vB<|iB [0,3,4,5] H fun H=>iB [0,3,4,5,18] H fun H=>cD H (fun H=>jA [0,3,4]<|fK<|d H) fun H=>jB [0,3,4] H fun H=>fK<|d H
 exact vE<|fE<|f<|fX rfl<|g H
def X6(a:Int)(b:Int)(d:Int):Option Int :=
 gd (b7 (500*a)/\b7 (500*a*500)/\b7 (500*a*500*a)/\b7 (b*b)/\b7 (500*a*500*a+b*b)/\True) <|
 gd ((Nb (500*a*500*a+b*b)).isSome/\True)<|lt (vl (Nb (500*a*500*a+b*b))) fun c =>
 gd (((d==1)=true/\True->b7 (c*c))/\True) <|
 if(d==1&&decide (c*c<500*a*500*a+b*b)) then
  gd ((0:Int) < (500:Int)/\b7 (c.tdiv (500:Int)+(1:Int))/\True) <|
  some (c.tdiv 500+1)
 else
  gd ((Cr c 500 d).isSome/\True)<|lt (vl (Cr c 500 d)) fun e =>
  some e
def S0x:Ct:=b9 219 [.dat i64,.dat i64,.dat i64] (fun x=>X6 x.1 x.2.1 x.2.2.1) (fun r:Int=>I r) (fun _=>())
theorem N0m:Ok prog S0x:=by
 refine c8 [.tmp 6] func219 ?_;intro y ⟨_,_,_,_⟩ r H Q hn hr;have:=hz (tc Gb (tc N0i tn));refine iA [0,1,2]<|iB [2,7] H fun H=>iD N0i [2,7,8] H fun _ H=>vQ<|iB [2,8,28] H fun H=>cD H (fun H=>iB [6] H fun H=>a7<|fR<|hr H) fun H=>vK<|fQ<|iD Gb [6] H fun _ H=>a7<|hr H
def HB(a:Int):Option Bool :=
 some (a != a)
def R0F:Ct:=b9 283 [.dat i64] (fun x=>HB x.1) (fun r:Bool=>B r) (fun _=>())
theorem P0V:Ok prog R0F:=by
 refine c8 [.tmp 2] func283 ?_;intro y ⟨_,_⟩ r H Q hn hr;refine iA [0]<|iA [2]<|a7<|hr H
def HC(a:Int):Option Bool :=
 some (a != a)
def R0x:Ct:=b9 295 [.dat i64] (fun x=>HC x.1) (fun r:Bool=>B r) (fun _=>())
theorem P0Q:Ok prog R0x:=by
 refine c8 [.tmp 2] func295 ?_;intro y ⟨_,_⟩ r H Q hn hr;refine iA [0]<|iA [2]<|a7<|hr H
def Nc(a:Int)(b:Int):Option Bool :=
 gd ((HC a).isSome/\(vl (HC a)=true/\True->(HC b).isSome)/\True) <|
 some (vl (HC a)&&!vl (HC b)||decide (a<b))
def R0G:Ct:=b9 282 [.dat i64,.dat i64] (fun x=>Nc x.1 x.2.1) (fun r:Bool=>B r) (fun _=>())
theorem P0W:Ok prog R0G:=by
 refine c8 [.tmp 4] func282 ?_;intro y ⟨_,_,_⟩ r H Q hn hr;have:=hz (tc P0Q tn);refine iA [0,1]<|iB [4] H fun H=>a7<|hr H
def Um(b:List Int)(c:Int):Int->Option (Int×Bool)
 | a =>
 gd ((decide (a < (b.length:Int))=true/\True->ix a b.length)/\((b.getD a.toNat 0==c)=false/\decide (a < (b.length:Int))=true/\True->ix a b.length)/\((b.getD a.toNat 0==c)=false/\decide (a < (b.length:Int))=true/\True->(HB (b.getD a.toNat 0)).isSome)/\(vl (HB (b.getD a.toNat 0))=true/\(b.getD a.toNat 0==c)=false/\decide (a < (b.length:Int))=true/\True->(HB c).isSome)/\True) <|
 some ((a,decide (a < (b.length:Int))&&(b.getD a.toNat 0==c||vl (HB (b.getD a.toNat 0))&&vl (HB c))))
def Nd(c:List Int)(d:Int)(e:Int×Int->Option (Int×Bool)):Int×Int->Option (Int×Bool)
 | (a,b) =>
 if(decide (a<b)) then
  gd (b7 (a+b)/\((0:Int)<=a+b/\a+b<=(18446744073709551615:Int))/\(((0:Int)<=(1:Int)/\(1:Int)<=(62:Int))/\(0:Int)<=(a+b).fdiv ((2:Int) ^ Int.toNat (1:Int))/\(a+b).fdiv ((2:Int) ^ Int.toNat (1:Int))<=(18446744073709551615:Int))/\b7 ((a+b).fdiv ((2:Int) ^ Int.toNat (1:Int)))/\True) <|
  gd (ix ((a+b).fdiv ((2:Int) ^ Int.toNat (1:Int))) c.length/\(Nc (c.getD ((a+b).fdiv ((2:Int) ^ Int.toNat (1:Int))).toNat (0:Int)) d).isSome/\True) <|
  if(vl (Nc (c.getD ((a+b).fdiv ((2:Int) ^ Int.toNat (1:Int))).toNat (0:Int)) d)) then
   gd (b7 ((a+b).fdiv ((2:Int) ^ Int.toNat (1:Int))+(1:Int))/\True) <|
   e (((a+b).fdiv ((2:Int) ^ Int.toNat (1:Int))+(1:Int),b))
  else
   e ((a,(a+b).fdiv ((2:Int) ^ Int.toNat (1:Int))))
 else
  Um c d a
def Nf(a:List Int)(b:Int):Option (Int×Bool) :=
 lp (Nd a b) ((0,(a.length:Int)))
def R0R:Ct:=b9 267 [.dat i64.sl,.dat i64] (fun x=>Nf x.1 x.2.1) (fun r:Int×Bool=>AV.tup [I r.1,B r.2]) (fun _=>())
theorem N0e:Ok prog R0R:=by
 refine c8 [.tmp 4,.tmp 5] func267 ?_;intro y ⟨a,b,_⟩ r H Q hn hr;have:=hz (tc P0V (tc P0W tn));refine iA [0,1]<|iA [0,1,6]<|iA [0,1,6,7,8]<|jN r (fun(c:Int)=>Z [p 0 (L i64 a),p 1 (J b),p 6 (I (a.length:Int)),p 7 (I c)] []) (Um a b) (fun c H=>?_) (fun _ h j i=>?_)
 ·refine iB [4,5] H fun H=>a7<|hr H
 refine vB<|lX (fun((d,e):Int×Int)=>Z [p 0 (L i64 a),p 1 (J b),p 6 (I (a.length:Int)),p 7 (I d),p 8 (I e)] []) ((0,(a.length:Int))) H fun _ l f g k ⟨d,e⟩ H=>vQ<|iA [0,1,6,7,8,15]<|cD H (fun H=>?_) (fun H=>?_)
 ·refine vK<|fQ<|vB<|iB [0,1,6,7,8,9] H fun H=>iB [0,1,6,7,8,9,27] H fun H=>cD H (fun H=>jB [0,1,6,7,8] H fun H=>fK<|f H) fun H=>jA [0,1,6,7,8]<|fK<|f H
 exact vE<|fE<|g<|fX rfl<|h H
def Q3(a:List Int)(e:Int):Option (List Cs×Int) :=
 gd (ix 0 a.length/\b7 ((a.length:Int)-1)/\ix ((a.length:Int)-1) a.length/\True)<|lt (min (max e (a.getD (Int.toNat (0:Int)) (0:Int))) (a.getD ((a.length:Int)-(1:Int)).toNat (0:Int))) fun c =>
 gd ((Nf a c).isSome/\True)<|lt (vl (Nf a c)) fun b =>
 if b.2 then
  some (([(b.1,(1:Int))],(1:Int)))
 else
  gd (b7 (b.1-1)/\ix b.1 a.length/\b7 (a.getD b.1.toNat 0-c)/\b7 (b.1-1)/\ix (b.1-1) a.length/\b7 (c-a.getD (b.1-1).toNat 0)/\ix b.1 a.length/\b7 (b.1-1)/\ix (b.1-1) a.length/\b7 (a.getD b.1.toNat 0-a.getD (b.1-1).toNat 0)/\True)<|lt ([(b.1-1,a.getD b.1.toNat 0-c),(b.1,c-a.getD (b.1-1).toNat 0)]) fun d =>
  some ((d,a.getD b.1.toNat 0-a.getD (b.1-1).toNat 0))
def S0g:Ct:=b9 247 [.dat i64.sl,.dat i64] (fun x=>Q3 x.1 x.2.1) (fun r:List Cs×Int=>AV.tup [AV.ow 322 true V4 r.1,I r.2]) (fun _=>())
theorem Un:Ok prog S0g:=by
 refine c8 [.tmp 4,.tmp 5] func247 ?_;intro y ⟨a,_,_⟩ r H Q hn hr;have:=hz (tc N0e tn);refine iA [0,1]<|qD (fun b=>Z [p 0 (L i64 a),p 1 (I b)] []) H fun b H=>iD N0e [0,1,6,7] H fun c H=>vQ<|iA [0,1,6,26]<|cD H (fun H=>iA [4,5]<|a7<|fR<|hr H) fun H=>vK<|fQ<|qD (fun d=>Z [p 4 (O 48),p 5 (I (a.getD c.1.toNat 0-a.getD (c.1-1).toNat 0))] [(48,A 322 V4 d 0)]) H fun d H=>a7<|hr H
def JG(d:List Cs×Int)(c:List Cs×Int)(e:Int):Int->Option Int
 | a =>
 gd (b7 (d.2*c.2)/\(Cr a (d.2*c.2) e).isSome/\True)<|lt (vl (Cr a (d.2*c.2) e)) fun b =>
 some b
def Uo(a:Int)(c:Int×Int->Option Int):Int->Option Int
 | b =>
 gd (b7 (a+1)/\True) <|
 c (b,a+1)
def JH(d:q5)(a:Cs)(f:List Cs×Int)(h:Int)(j:Int×Int->Option Int)(i:Int×Int->Option Int):Int×Int->Option Int
 | (e,c) =>
 if(decide (c < (f.1.length:Int))) then
  gd (ix c f.1.length/\c.toNat<f.1.length/\True)<|lt (f.1.getD c.toNat (a6 V4)) fun b =>
  gd (b7 (a.1*(d.2.1.length:Int))/\b7 (a.1*(d.2.1.length:Int)+b.1)/\ix (a.1*(d.2.1.length:Int)+b.1) d.2.2.length/\b7 (d.2.2.getD (a.1*(d.2.1.length:Int)+b.1).toNat 0*a.2)/\b7 (d.2.2.getD (a.1*(d.2.1.length:Int)+b.1).toNat 0*a.2*b.2)/\b7 (e+d.2.2.getD (a.1*(d.2.1.length:Int)+b.1).toNat 0*a.2*b.2)/\True)<|lt (e+d.2.2.getD (a.1*(d.2.1.length:Int)+b.1).toNat 0*a.2*b.2) fun g =>
  gd (b7 (c+1)/\True) <|
  i (g,c+1)
 else
  Uo h j e
def HD(f:q5)(e:List Cs×Int)(c:List Cs×Int)(h:Int)(g:Int×Int->Option Int):Int×Int->Option Int
 | (b,a) =>
 if(decide (a < (c.1.length:Int))) then
  gd (ix a c.1.length/\a.toNat<c.1.length/\True)<|lt (c.1.getD a.toNat (a6 V4)) fun d =>
  lp (JH f d e a g) (b,0)
 else
  JG c e h b
def L7(a:q5)(c:Int)(b:Int)(f:Int):Option Int :=
 gd ((Q3 a.1 c).isSome/\True)<|lt (vl (Q3 a.1 c)) fun e =>
 gd ((Q3 a.2.1 b).isSome/\True)<|lt (vl (Q3 a.2.1 b)) fun d =>
 lp (HD a d e f) (0,0)
def S0B:Ct:=b9 215 [.agg y269,.dat i64,.dat i64,.dat i64] (fun x=>L7 x.1 x.2.1 x.2.2.1 x.2.2.2.1) (fun r:Int=>I r) (fun _=>())
theorem PZ:Ok prog S0B:=by
 refine c8 [.tmp 8] func215 ?_;intro y ⟨j,_,_,g,_⟩ r H Q hn hr;have:=hz (tc Gb (tc Un tn));refine iA [1,2,3,4]<|iD Un [2,3,4,9,10] H fun a H=>iD Un [3,4,9,10,11,12] H fun b H=>iA [3,4,9,10,11,12,13]<|jN r (fun(k:Int)=>Z [p 3 (J g),p 10 (I a.2),p 12 (I b.2),p 13 (I k)] []) (JG a b g) (fun k H=>?_) (fun _ u E P=>?_)
 ·refine iD Gb [8] H fun _ H=>a7<|hr H
 refine iA [3,4,10,11,12,13,32,33,34]<|vB<|lX (fun((f,c):Int×Int)=>Z (G7 g a.2 b.2 f [p 32 (O 22),p 33 (I (a.1.length:Int)),p 34 (I c)]) (Jq b.1 a.1 j)) (0,0) H fun _ q o t F ⟨f,c⟩ H=>iA [3,4,10,11,12,13,32,33,34,35]<|vQ<|cD H (fun H=>?_) (fun H=>?_)
 ·refine vK<|fQ<|jN r (fun(l:Int)=>Z (G7 g a.2 b.2 l [p 32 (O 22),p 33 (I (a.1.length:Int)),p 34 (I c)]) (Jq b.1 a.1 j)) (Uo c q) (fun l H=>?_) (fun _ s w x=>?_)
  ·refine jB [3,4,10,11,12,13,32,33,34] H fun H=>o H
  refine vB<|qD (fun d=>Z (G7 g a.2 b.2 f [p 15 (R 15),p 32 (O 22),p 33 (I (a.1.length:Int)),p 34 (I c)]) ((15,bx 322 (A7 true V4 d))::Jq b.1 a.1 j)) H fun d H=>iA [3,4,10,11,12,13,15,32,33,34,38,39,40]<|vB<|lX (fun((h,e):Int×Int)=>Z (G7 g a.2 b.2 h [p 15 (R 15),p 32 (O 22),p 33 (I (a.1.length:Int)),p 34 (I c),p 38 (O 29),p 39 (I (b.1.length:Int)),p 40 (I e)]) ((15,bx 322 (A7 true V4 d))::Jq b.1 a.1 j)) (f,0) H fun _ z n v G ⟨h,e⟩ H=>iA [3,4,10,11,12,13,15,32,33,34,38,39,40,41]<|vQ<|cD H (fun H=>vK<|fQ<|vQ<|vB<|qD (fun i=>Z (G7 g a.2 b.2 h [p 15 (R 15),p 17 (R 17),p 32 (O 22),p 33 (I (a.1.length:Int)),p 34 (I c),p 38 (O 29),p 39 (I (b.1.length:Int)),p 40 (I e)]) ((17,bx 322 (A7 true V4 i))::(15,bx 322 (A7 true V4 d))::Jq b.1 a.1 j)) H fun i H=>zD (fun m=>Z (G7 g a.2 b.2 m [p 15 (R 15),p 32 (O 22),p 33 (I (a.1.length:Int)),p 34 (I c),p 38 (O 29),p 39 (I (b.1.length:Int)),p 40 (I e)]) ((17,bx 322 (A7 true V4 i))::(15,bx 322 (A7 true V4 d))::Jq b.1 a.1 j)) H fun m H=>fK<|fQ<|jB [3,4,10,11,12,13,15,32,33,34,38,39,40] H fun H=>n H) fun H=>vE<|fE<|v<|fX rfl<|fK<|s H
 exact vE<|fE<|t<|fX rfl<|u H
def Cu(a:D1)(b:j2):Option A6 :=
 gd ((0:Int) < (2:Int)/\ix (b.2.1.tdiv (2:Int)) a.2.1.length/\ix (a.2.1.getD (b.2.1.tdiv (2:Int)).toNat (a6 y235)).1 a.1.2.1.1.length/\True)<|lt (a.1.2.1.1.getD (a.2.1.getD (b.2.1.tdiv 2).toNat (a6 y235)).1.toNat (a6 y155)) fun c =>
 gd (ix c.2.1 a.1.1.length/\ix b.2.2.2 (a.1.1.getD c.2.1.toNat (a6 y153)).2.2.2.1.length/\True)<|lt ((a.1.1.getD c.2.1.toNat (a6 y153)).2.2.2.1.getD b.2.2.2.toNat (a6 y158)) fun d =>
 some d
def S0C:Ct:=b9 214 [.dat y189.pt,.agg y138] (fun x=>Cu x.1 x.2.1) (fun r:A6=>AV.agg [I r.1,I r.2.1,I r.2.2.1,I r.2.2.2.1,L y269 r.2.2.2.2.1,L y269 r.2.2.2.2.2]) (fun _=>())
theorem N0o:Ok prog S0C:=by
 refine c8 [.cell 4 158] func214 ?_;intro y ⟨d,b,_⟩ r H Q hn hr;refine iA [0,3,4]<|qD (fun a=>Z [p 0 (D y189.pt d),p 3 (R 3),p 4 (R 4),p 5 (R 5)] [(5,K 155 y155 a),(4,bx 158 [I 0,I 0,I 0,I 0,nil,nil]),(3,K 138 y138 b)]) H fun a H=>qD (fun c=>Z [p 4 (R 4)] [(4,K 158 y158 c),(5,K 155 y155 a),(3,K 138 y138 b)]) H fun c H=>a7<|hr H
def Dm(a:D1)(b:j2):Option Int :=
 gd ((0:Int) < (2:Int)/\ix (b.2.1.tdiv (2:Int)) a.2.1.length/\True)<|lt (a.2.1.getD (b.2.1.tdiv 2).toNat (a6 y235)) fun c =>
 some c.2.2.1
def T0n:Ct:=b9 170 [.dat y189.pt,.agg y138] (fun x=>Dm x.1 x.2.1) (fun r:Int=>I r) (fun _=>())
theorem JI:Ok prog T0n:=by
 refine c8 [.tmp 4] func170 ?_;intro y ⟨_,b,_⟩ r H Q hn hr;refine iA [0,3]<|qD (fun a=>Z [p 4 (J a.2.2.1)] [(3,K 138 y138 b)]) H fun a H=>a7<|hr H
def I1(a:D1)(f:Int)(d:Int)(e:Int):Option Int :=
 gd (ix f a.2.2.1.length/\True)<|lt (a.2.2.1.getD f.toNat (a6 y138)) fun b =>
 gd ((Dm a b).isSome/\True)<|lt (vl (Dm a b)) fun c =>
 if(b.2.2.1==1) then
  gd ((Cu a b).isSome/\(0:Int) < (2:Int)/\ix (b.2.1.tmod (2:Int)) (vl (Cu a b)).2.2.2.2.2.length/\ix c a.2.2.2.1.length/\(L7 ((vl (Cu a b)).2.2.2.2.2.getD (b.2.1.tmod (2:Int)).toNat (a6 y269)) d (a.2.2.2.1.getD c.toNat (0:Int)) e).isSome/\True)<|lt (vl (L7 ((vl (Cu a b)).2.2.2.2.2.getD (b.2.1.tmod 2).toNat (a6 y269)) d (a.2.2.2.1.getD c.toNat 0) e)) fun g =>
  some (min g 1000000)
 else
  gd (ix c a.2.2.2.2.1.length/\ix b.2.2.2 (List.length (a.2.2.2.2.1.getD c.toNat []))/\(X6 d (List.getD (a.2.2.2.2.1.getD c.toNat []) b.2.2.2.toNat 0) e).isSome/\True)<|lt (vl (X6 d (List.getD (a.2.2.2.2.1.getD c.toNat []) b.2.2.2.toNat 0) e)) fun h =>
  some (min h 1000000)
def T0m:Ct:=b9 171 [.dat y189.pt,.dat i64,.dat i64,.dat i64] (fun x=>I1 x.1 x.2.1 x.2.2.1 x.2.2.2.1) (fun r:Int=>I r) (fun _=>())
theorem Q0L:Ok prog T0m:=by
 refine c8 [.tmp 8] func171 ?_;intro y ⟨c,_,b,d,_⟩ r H Q hn hr;have:=hz (tc N0m (tc PZ (tc N0o (tc JI tn))));refine iA [0,1,2,3]<|qD (fun a=>Z [p 0 (D y189.pt c),p 2 (J b),p 3 (J d),p 9 (R 9)] [(9,K 138 y138 a)]) H fun a H=>iD JI [0,2,3,9,10] H fun _ H=>vQ<|iA [0,2,3,9,10,23]<|cD H (fun H=>iD PZ [8] H fun _ H=>a7<|fR<|hr H) fun H=>vK<|fQ<|iD N0m [8] H fun _ H=>a7<|hr H
def AY(a:Int)(b:Int)(c:Int):Option Int :=
 gd (b7 (a*b)/\(Cr (a*b) 1000 c).isSome/\True)<|lt (vl (Cr (a*b) 1000 c)) fun d =>
 some d
def S0z:Ct:=b9 217 [.dat i64,.dat i64,.dat i64] (fun x=>AY x.1 x.2.1 x.2.2.1) (fun r:Int=>I r) (fun _=>())
theorem N0n:Ok prog S0z:=by
 refine c8 [.tmp 6] func217 ?_;intro y ⟨_,_,_,_⟩ r H Q hn hr;have:=hz (tc Gb tn);refine iA [0,1,2]<|iD Gb [6] H fun _ H=>a7<|hr H
def JJ(a:p8)(c:Int)(b:Int):Option Int :=
 if(c==1&&b==0) then
  some a.2.1
 else
  if(c==1) then
   some a.2.2.1
  else
   if(b==0) then
    some a.2.2.2.1
   else
    some a.2.2.2.2
def S0y:Ct:=b9 218 [.agg q4,.dat i64,.dat i64] (fun x=>JJ x.1 x.2.1 x.2.2.1) (fun r:Int=>I r) (fun _=>())
theorem Q0s:Ok prog S0y:=by
 refine c8 [.tmp 6] func218 ?_;intro y ⟨_,_,_,_⟩ r H Q hn hr;refine iA [1,2,3]<|vQ<|vB<|iA [1,2,3,7]<|cD H (fun H=>iA [6]<|a7<|c9<|fR<|hr H) fun H=>iA [2,3,16]<|cD H (fun H=>iA [6]<|a7<|c9<|fR<|hr H) fun H=>iA [3,21]<|cD H (fun H=>iA [6]<|a7<|c9<|fR<|hr H) fun H=>vK<|fK<|fQ<|iA [6]<|a7<|hr H
def AZ(c:p8)(b:j2)(a:Int):Int->Option Int
 | d =>
 gd ((JJ c b.2.2.1 a).isSome/\(AY d (vl (JJ c b.2.2.1 a)) a).isSome/\True)<|lt (vl (AY d (vl (JJ c b.2.2.1 a)) a)) fun e =>
 some e
def N1(a:D1)(f:p8)(e:Int)(g:Int)(d:Int):Option Int :=
 gd (ix e a.2.2.1.length/\True)<|lt (a.2.2.1.getD e.toNat (a6 y138)) fun b =>
 gd ((Dm a b).isSome/\True)<|lt (vl (Dm a b)) fun c =>
 if(b.2.2.1==1) then
  gd ((Cu a b).isSome/\(0:Int) < (2:Int)/\ix (b.2.1.tmod (2:Int)) (vl (Cu a b)).2.2.2.2.1.length/\ix c a.2.2.2.1.length/\(L7 ((vl (Cu a b)).2.2.2.2.1.getD (b.2.1.tmod (2:Int)).toNat (a6 y269)) g (a.2.2.2.1.getD c.toNat (0:Int)) d).isSome/\True)<|lt (vl (L7 ((vl (Cu a b)).2.2.2.2.1.getD (b.2.1.tmod 2).toNat (a6 y269)) g (a.2.2.2.1.getD c.toNat 0) d)) fun h =>
  AZ f b d h
 else
  gd (ix c a.2.2.2.2.1.length/\ix b.2.2.2 (List.length (a.2.2.2.2.1.getD c.toNat []))/\(Cr (List.getD (a.2.2.2.2.1.getD c.toNat []) b.2.2.2.toNat 0) 1000 d).isSome/\True)<|lt (vl (Cr (List.getD (a.2.2.2.2.1.getD c.toNat []) b.2.2.2.toNat 0) 1000 d)) fun i =>
  AZ f b d i
def T0o:Ct:=b9 169 [.dat y189.pt,.agg q4,.dat i64,.dat i64,.dat i64] (fun x=>N1 x.1 x.2.1 x.2.2.1 x.2.2.2.1 x.2.2.2.2.1) (fun r:Int=>I r) (fun _=>())
theorem Q0M:Ok prog T0o:=by
 refine c8 [.tmp 10] func169 ?_;intro y ⟨f,c,_,g,b,_⟩ r H Q hn hr;have:=hz (tc N0n (tc Q0s (tc Gb (tc PZ (tc N0o (tc JI tn))))));refine iA [0,2,3,4,6]<|qD (fun a=>Z [p 0 (D y189.pt f),p 3 (J g),p 4 (J b),p 6 (R 6),p 11 (R 11)] [(11,K 138 y138 a),(6,K 58 q4 c)]) H fun a H=>iD JI [0,3,4,6,11,12] H fun _ H=>iA [0,3,4,6,11,12]<|jN r (fun(d:Int)=>Z [p 4 (J b),p 6 (R 6),p 11 (R 11),p 13 (I d)] [(11,K 138 y138 a),(6,K 58 q4 c)]) (AZ c a b) (fun d H=>?_) (fun _ e i h=>?_)
 ·refine iD N0n [10] H fun _ H=>a7<|hr H
 refine iA [0,3,4,6,11,12,26]<|cD H (fun H=>jD PZ [4,6,11,13] H fun _ H=>e H) fun H=>jD Gb [4,6,11,13] H fun _ H=>e H
def HE(b:D1)(a:Int)(c:l9):Int×Int->Option (l9×l9)
 | (g,h) =>
 gd ((I1 b a c.1 0).isSome/\(I1 b a c.2 0).isSome/\(I1 b a c.1 1).isSome/\(I1 b a c.2 1).isSome/\True)<|lt ((vl (I1 b a c.1 0),vl (I1 b a c.2 0),vl (I1 b a c.1 1),vl (I1 b a c.2 1))) fun(i,f,d,e) =>
 some (((g,h),min i f,max d e))
def Cv(a:D1)(d:p8)(b:Int)(c:l9):Option (l9×l9) :=
 gd ((N1 a d b c.1 0).isSome/\(N1 a d b c.2 0).isSome/\(N1 a d b c.1 1).isSome/\(N1 a d b c.2 1).isSome/\True)<|lt ((vl (N1 a d b c.1 0),vl (N1 a d b c.2 0),vl (N1 a d b c.1 1),vl (N1 a d b c.2 1))) fun(i,g,h,j) =>
 gd (ix b a.2.2.1.length/\True)<|lt (a.2.2.1.getD b.toNat (a6 y138)) fun f =>
 if(decide (0 < (a.2.2.2.2.2.length:Int))&&f.2.2.1==2) then
  gd ((Dm a f).isSome/\ix (vl (Dm a f)) a.2.2.2.2.2.length/\True)<|lt (vl (Dm a f)) fun e =>
  gd (b7 (min i g-a.2.2.2.2.2.getD e.toNat 0)/\b7 (max h j+a.2.2.2.2.2.getD e.toNat 0)/\True) <|
  HE a b c (min i g-a.2.2.2.2.2.getD e.toNat 0,max h j+a.2.2.2.2.2.getD e.toNat 0)
 else
  HE a b c (min i g,max h j)
def U0m:Ct:=b9 111 [.dat y189.pt,.agg q4,.dat i64,.agg y73] (fun x=>Cv x.1 x.2.1 x.2.2.1 x.2.2.2.1) (fun r:l9×l9=>AV.tup [AV.agg [I r.1.1,I r.1.2],AV.agg [I r.2.1,I r.2.2]]) (fun _=>())
theorem Qa:Ok prog U0m:=by
 refine c8 [.cell 8 73,.cell 9 73] func111 ?_;intro y ⟨e,o,d,a,_⟩ r H Q hn hr;have:=hz (tc Q0L (tc JI (tc Q0M tn)));refine iA [0,2,5,7,8,9]<|iA [0,2,5,8,9,10,11]<|qD (fun(i,f,g,k)=>Z [p 0 (D y189.pt e),p 2 (J d),p 8 (R 8),p 9 (R 9),p 10 (J a.1),p 11 (J a.2),p 12 (R 12)] [(12,bx 73 [I (min i f),I (max g k)]),(9,bx 73 [I 0,I 0]),(8,bx 73 [I 0,I 0]),(7,K 73 y73 a),(5,K 58 q4 o)]) H fun⟨i,f,g,k⟩ H =>
  jN r (fun((h,j):Int×Int)=>Z [p 0 (D y189.pt e),p 2 (J d),p 8 (R 8),p 9 (R 9),p 10 (J a.1),p 11 (J a.2),p 12 (R 12)] [(12,bx 73 [I h,I j]),(9,bx 73 [I 0,I 0]),(8,bx 73 [I 0,I 0])]) (HE e d a) (fun⟨h,j⟩ H=>?_) (fun _ q t s=>?_)
 ·refine qD (fun(n,l,b,c)=>Z [p 8 (R 8),p 9 (R 9),p 12 (R 12),p 15 (R 15)] [(15,bx 73 [I (min n l),I (max b c)]),(12,bx 73 [I h,I j]),(9,bx 73 [I 0,I 0]),(8,bx 73 [I 0,I 0])]) H fun⟨n,l,b,c⟩ H =>
   iA [8,9] <|
   a7<|hr H
 refine qD (fun m=>Z [p 0 (D y189.pt e),p 2 (J d),p 8 (R 8),p 9 (R 9),p 10 (J a.1),p 11 (J a.2),p 12 (R 12),p 13 (R 13)] [(13,K 138 y138 m),(12,bx 73 [I (min i f),I (max g k)]),(9,bx 73 [I 0,I 0]),(8,bx 73 [I 0,I 0]),(7,K 73 y73 a),(5,K 58 q4 o)]) H fun m H=>iA [0,2,8,9,10,11,12,13,60]<|cD H (fun H=>iD JI [0,2,8,9,10,11,12,14] H fun _ H=>jB [0,2,8,9,10,11,12] H fun H=>q H) fun H=>vK<|q H
def Up(a:j2)(b:Int):Option Bool :=
 some (a.2.1==b)
def T0p:Ct:=b9 168 [.agg y138,.dat (.pt i64)] (fun x=>Up x.1 x.2.1) (fun r:Bool=>B r) (fun _=>())
theorem N0D:Ok prog T0p:=by
 refine c8 [.tmp 3] func168 ?_;intro y ⟨_,_,_⟩ r H Q hn hr;refine iA [1,2]<|iA [3]<|a7<|hr H
def k0D:List Int->Option (List Int)
 | a =>
 some a
def Uq(a:Int)(b:List Int×Int->Option (List Int)):List Int->Option (List Int)
 | c =>
 gd (b7 (a+1)/\True) <|
 b (c,a+1)
def k0C(b:H3)(f:Int)(e:List Int×Int->Option (List Int)):List Int×Int->Option (List Int)
 | (c,a) =>
 if(decide (a < (b.1.2.2.1.length:Int))) then
  gd (ix a b.1.2.2.1.length/\True)<|lt (b.1.2.2.1.getD a.toNat (a6 y138)) fun d =>
  gd (ix a b.2.length/\(b.2.getD a.toNat false=true/\True->(Up d f).isSome)/\True) <|
  if(b.2.getD a.toNat false&&vl (Up d f)) then
   gd ((c.length+[a].length<=9223372036854775807/\(c.length+[a].length)*8<=140737488355328)/\True) <|
   Uq a e (c++[a])
  else
   Uq a e c
 else
  k0D c
def Qb(a:H3)(b:Int):Option (List Int) :=
 lp (k0C a b) ([],0)
def y0Z:Ct:=b9 162 [.dat y126.pt,.fn 168 (.pt i64)] (fun x=>Qb x.1 x.2.1) (fun r:List Int=>AV.ow 2 true i64 r) (fun _=>())
theorem Qc:Ok prog y0Z:=by
 refine c8 [.tmp 4] func162 ?_;intro y ⟨a,d,_⟩ r H Q hn hr;have:=hz (tc N0D tn);refine iA [0,1]<|iA [0,1,5]<|jN r (fun(h:List Int)=>Z [p 5 (O 36)] [(36,A 2 i64 h 0)]) (k0D) (fun h H=>?_) (fun _ k o n=>?_)
 ·refine iA [4]<|a7<|hr H
 refine iA [0,1,5,14,15,16]<|vB<|lX (fun((c,b):List Int×Int)=>Z [p 0 (D y126.pt a),p 1 (AV.fn 168 [D i64.pt d]),p 5 (O 36),p 14 (L y138 a.1.2.2.1),p 15 (I (a.1.2.2.1.length:Int)),p 16 (I b)] [(36,A 2 i64 c 0)]) ([],0) H fun _ i l j q ⟨c,b⟩ H=>iA [0,1,5,14,15,16,17]<|vQ<|cD H (fun H=>?_) (fun H=>?_)
 ·refine vK<|fQ<|jN r (fun(f:List Int)=>Z [p 0 (D y126.pt a),p 1 (AV.fn 168 [D i64.pt d]),p 5 (O 36),p 14 (L y138 a.1.2.2.1),p 15 (I (a.1.2.2.1.length:Int)),p 16 (I b)] [(36,A 2 i64 f 0)]) (Uq b i) (fun f H=>?_) (fun _ e m s=>?_)
  ·refine jB [0,1,5,14,15,16] H fun H=>l H
  refine vB<|qD (fun g=>Z [p 0 (D y126.pt a),p 1 (AV.fn 168 [D i64.pt d]),p 5 (O 36),p 6 (I b),p 7 (R 7),p 14 (L y138 a.1.2.2.1),p 15 (I (a.1.2.2.1.length:Int)),p 16 (I b)] [(7,K 138 y138 g),(36,A 2 i64 c 0)]) H fun g H=>iB [0,1,5,6,14,15,16,32] H fun H=>cD H (fun H=>jB [0,1,5,14,15,16] H fun H=>fK<|e H) fun H=>vK<|fK<|e H
 exact vE<|fE<|j<|fX rfl<|k H
def HF(a:H3)(b:Int):Option (List Int) :=
 gd ((Qb a b).isSome/\True)<|lt (vl (Qb a b)) fun c =>
 some c
def U0n:Ct:=b9 110 [.dat y126.pt,.dat i64] (fun x=>HF x.1 x.2.1) (fun r:List Int=>AV.ow 2 true i64 r) (fun _=>())
theorem Qd:Ok prog U0n:=by
 refine c8 [.tmp 4] func110 ?_;intro y ⟨_,_,_⟩ r H Q hn hr;have:=hz (tc Qc (tc N0D tn));refine iA [0,3]<|iD Qc [4] H fun _ H=>a7<|hr H
def Ur(a:l7)(b:Int):Option Bool :=
 some (a.1==b)
def T0q:Ct:=b9 167 [.agg y75,.dat (.pt i64)] (fun x=>Ur x.1 x.2.1) (fun r:Bool=>B r) (fun _=>())
theorem N0E:Ok prog T0q:=by
 refine c8 [.tmp 3] func167 ?_;intro y ⟨_,_,_⟩ r H Q hn hr;refine iA [1,2]<|iA [3]<|a7<|hr H
def k0z:Unit->Option Int
 | _ =>
 some (-1)
def k0y(b:List l7)(c:Int)(d:Int->Option Int):Int->Option Int
 | a =>
 if(decide (a < (b.length:Int))) then
  gd (ix a b.length/\(Ur (b.getD a.toNat (a6 y75)) c).isSome/\True) <|
  if(vl (Ur (b.getD a.toNat (a6 y75)) c)) then
   some a
  else
   gd (b7 (a+1)/\True) <|
   d (a+1)
 else
  k0z ()
def Qe(a:List l7)(b:Int):Option Int :=
 lp (k0y a b) 0
def y0X:Ct:=b9 166 [.dat y75.sl,.fn 167 (.pt i64)] (fun x=>Qe x.1 x.2.1) (fun r:Int=>I r) (fun _=>())
theorem q0U:Ok prog y0X:=by
 refine c8 [.tmp 4] func166 ?_;intro y ⟨a,e,_⟩ r H Q hn hr;have:=hz (tc N0E tn);refine iA [0,1]<|jN r (fun(_:Unit)=>Z [] []) (k0z) (fun _ H=>?_) (fun _ g i c=>?_)
 ·refine iA [4]<|a7<|hr H
 refine iA [0,1,7,8]<|vB<|lX (fun(b:Int)=>Z [p 0 (L y75 a),p 1 (AV.fn 167 [D i64.pt e]),p 7 (I (a.length:Int)),p 8 (I b)] []) 0 H fun _ j h f d b H=>iA [0,1,7,8,9]<|vQ<|cD H (fun H=>?_) (fun H=>?_)
 ·refine vK<|fQ<|vQ<|vB<|iA [0,1,5,7,8]<|iB [0,1,5,7,8,16] H fun H=>cD H (fun H=>iA [4]<|a7<|c9<|fR<|d<|c9<|c<|hr H) fun H=>vK<|fK<|fQ<|jB [0,1,7,8] H fun H=>h H
 exact vE<|fE<|f<|fX rfl<|g H
def HH(a:List l7)(c:Int):Option (l7×Bool) :=
 gd ((Qe a c).isSome/\True)<|lt (vl (Qe a c)) fun b =>
 if(decide (0<=b)) then
  gd (ix b a.length/\True)<|lt (a.getD b.toNat (a6 y75)) fun d =>
  some (d,true)
 else
  some ((((0:Int),((0:Int),(0:Int)),(0:Int),(0:Int)),false))
def U0o:Ct:=b9 109 [.dat y75.sl,.dat i64] (fun x=>HH x.1 x.2.1) (fun r:l7×Bool=>AV.tup [AV.agg (Q2 r.1),B r.2]) (fun _=>())
theorem Qf:Ok prog U0o:=by
 refine c8 [.cell 4 75,.tmp 5] func109 ?_;intro y ⟨_,b,_⟩ r H Q hn hr;have:=hz (tc q0U (tc N0E tn));refine iA [0,3,4]<|vQ<|iD q0U [0,4,6] H fun _ H=>iA [0,4,6,11]<|cD H (fun H=>qD (fun a=>Z [p 4 (R 4),p 5 (B true)] [(4,K 75 y75 a),(3,bx 2 [J b])]) H fun a H=>a7<|fR<|hr H) fun H=>vK<|fQ<|iA [4,5]<|a7<|hr H
def B0(a:Int)(c:Int)(b:Int):Option Bool :=
 some (decide (c<=a)&&decide (a<=b))
def U0d:Ct:=b9 120 [.dat i64,.dat i64,.dat i64] (fun x=>B0 x.1 x.2.1 x.2.2.1) (fun r:Bool=>B r) (fun _=>())
theorem AD:Ok prog U0d:=by
 refine c8 [.tmp 6] func120 ?_;intro y ⟨_,_,_,_⟩ r H Q hn hr;refine iA [0,1,2]<|iA [6]<|a7<|hr H
def Ng(a:List C3):Option Int :=
 some (a.length:Int)
def T0i:Ct:=b9 175 [.dat y235.sl] (fun x=>Ng x.1) (fun r:Int=>I r) (fun _=>())
theorem N0C:Ok prog T0i:=by
 refine c8 [.tmp 2] func175 ?_;intro y ⟨_,_⟩ r H Q hn hr;refine iA [0]<|iA [2]<|a7<|hr H
def T8(a:D1):Option Int :=
 gd ((Ng a.2.1).isSome/\b7 (2*vl (Ng a.2.1))/\True)<|lt (vl (Ng a.2.1)) fun b =>
 some (2*b)
def U0c:Ct:=b9 121 [.dat y189.pt] (fun x=>T8 x.1) (fun r:Int=>I r) (fun _=>())
theorem HI:Ok prog U0c:=by
 refine c8 [.tmp 2] func121 ?_;intro y ⟨_,_⟩ r H Q hn hr;have:=hz (tc N0C tn);refine iA [0]<|iD N0C [2] H fun _ H=>a7<|hr H
def Ab(a:D1)(b:Int):Option Bool :=
 gd ((T8 a).isSome/\b7 (vl (T8 a)-1)/\(B0 b 0 (vl (T8 a)-1)).isSome/\True) <|
 some (vl (B0 b 0 (vl (T8 a)-1)))
def k63:Ct:=b9 63 [.dat y189.pt,.dat i64] (fun x=>Ab x.1 x.2.1) (fun r:Bool=>B r) (fun _=>())
theorem Ut:Ok prog k63:=by
 refine c8 [.tmp 4] func63 ?_;intro y ⟨_,_,_⟩ r H Q hn hr;have:=hz (tc AD (tc HI tn));refine iA [0,1]<|iB [4] H fun H=>a7<|hr H
def G0u:Unit->Option (Int×Int)
 | _ =>
 some (((0:Int),(5:Int)))
def Uu(a:Int)(b:Int->Option (Int×Int)):Unit->Option (Int×Int)
 | _ =>
 gd (b7 (a+1)/\True) <|
 b (a+1)
def K0K(d:List Int)(k:Int)(c:B8)(h:Int)(e:H3)(j:p8)(i:Int->Option (Int×Int)):Int->Option (Int×Int)
 | a =>
 if(decide (a < (d.length:Int))) then
  gd (ix a d.length/\a.toNat<d.length/\True) <|
  gd (ix (d.getD a.toNat 0) e.1.2.2.1.length/\True)<|lt (e.1.2.2.1.getD (Int.toNat (d.getD a.toNat 0)) (a6 y138)) fun b =>
  gd (ix b.1 c.1.length/\True) <|
  if(!c.1.getD b.1.toNat false) then
   Uu a i ()
  else
   gd (ix b.1 c.2.2.length/\(Cv e.1 j (d.getD a.toNat 0) (c.2.2.getD b.1.toNat (a6 y73))).isSome/\True)<|lt (vl (Cv e.1 j (d.getD a.toNat 0) (c.2.2.getD b.1.toNat (a6 y73)))) fun g =>
   gd (ix b.1 c.2.1.length/\(BB (c.2.1.getD b.1.toNat (a6 y73)) g.1).isSome/\(HA (vl (BB (c.2.1.getD b.1.toNat (a6 y73)) g.1)) h).isSome/\True)<|lt (vl (HA (vl (BB (c.2.1.getD b.1.toNat (a6 y73)) g.1)) h)) fun f =>
   if(f==k) then
    some ((d.getD a.toNat (0:Int),(0:Int)))
   else
    Uu a i ()
 else
  G0u ()
def Uv(b:H3)(i:p8)(f:List l7)(c:B8)(a:Int)(d:Int):Option (Int×Int) :=
 gd ((Ab b.1 a).isSome/\((!vl (Ab b.1 a))=false/\True->ix a c.1.length)/\True) <|
 if(!vl (Ab b.1 a)||!c.1.getD a.toNat false) then
  some (((0:Int),(4:Int)))
 else
  gd (ix a c.2.1.length/\(HA (c.2.1.getD a.toNat (a6 y73)) d).isSome/\True)<|lt (vl (HA (c.2.1.getD a.toNat (a6 y73)) d)) fun g =>
  gd ((HH f a).isSome/\True)<|lt (vl (HH f a)) fun e =>
  gd ((e.2=true/\True->(HA e.1.2.1 d).isSome)/\True)<|lt (vl (HA e.1.2.1 d)) fun h =>
  if(e.2&&h==g) then
   some (((-1:Int),(0:Int)))
  else
   gd ((HF b a).isSome/\True)<|lt (vl (HF b a)) fun j =>
   lp (K0K j g c d b i) 0
def k53:Ct:=b9 53 [.dat y126.pt,.agg q4,.dat y75.sl,.agg y65,.dat i64,.dat i64] (fun x=>Uv x.1 x.2.1 x.2.2.1 x.2.2.2.1 x.2.2.2.2.1 x.2.2.2.2.2.1) (fun r:Int×Int=>AV.tup [I r.1,I r.2]) (fun _=>())
theorem o53:Ok prog k53:=by
 refine c8 [.tmp 12,.tmp 13] func53 ?_;intro y ⟨c,d,_,g,_,e,_⟩ r H Q hn hr;have:=hz (tc PY (tc N0T (tc Qa (tc Qd (tc Qf (tc Ut tn))))));refine iA [0,2,4,5,7,9]<|vQ<|iB [0,2,4,5,7,9,36] H fun H=>cD H (fun H=>iA [12,13]<|a7<|fR<|hr H) fun H=>vK<|fQ<|iD PY [0,2,4,5,7,9,14] H fun f H=>vQ<|iD Qf [0,4,5,7,9,14,15,16] H fun _ H=>iD PY [0,4,5,7,9,14,58] H fun _ H=>cD H (fun H=>iA [12,13]<|a7<|fR<|hr H) fun H=>vK<|fQ<|jN r (fun(_:Unit)=>Z [] []) (G0u) (fun _ H=>?_) (fun _ j t l=>?_)
 ·refine iA [12,13]<|a7<|hr H
 refine iD Qd [0,5,7,9,14,61,62,63] H fun a H=>vB<|lX (fun(b:Int)=>Z [p 0 (D y126.pt c),p 5 (J e),p 7 (R 7),p 9 (R 9),p 14 (I f),p 61 (O 61),p 62 (I (a.length:Int)),p 63 (I b)] [(61,A 2 i64 a 0),(9,K 65 y65 g),(7,K 58 q4 d)]) 0 H fun _ n q o m b H=>iA [0,5,7,9,14,61,62,63,64]<|vQ<|cD H (fun H=>?_) (fun H=>?_)
 ·refine vK<|fQ<|jN r (fun(_:Unit)=>Z [p 0 (D y126.pt c),p 5 (J e),p 7 (R 7),p 9 (R 9),p 14 (I f),p 61 (O 61),p 62 (I (a.length:Int)),p 63 (I b)] [(61,A 2 i64 a 0),(9,K 65 y65 g),(7,K 58 q4 d)]) (Uu b n) (fun _ H=>?_) (fun _ h s k=>?_)
  ·refine jB [0,5,7,9,14,61,62,63] H fun H=>q H
  refine vB<|iB [0,5,7,9,14,18,61,62,63] H fun H=>qD (fun i=>Z [p 0 (D y126.pt c),p 5 (J e),p 7 (R 7),p 9 (R 9),p 14 (I f),p 18 (I (a.getD b.toNat 0)),p 19 (J i.1),p 61 (O 61),p 62 (I (a.length:Int)),p 63 (I b)] [(61,A 2 i64 a 0),(9,K 65 y65 g),(7,K 58 q4 d)]) H fun i H=>vQ<|iB [0,5,7,9,14,18,19,61,62,63,83] H fun H=>cD H (fun H=>vE<|fE<|fX rfl<|h H) fun H=>vK<|fQ<|iD Qa [0,5,7,9,14,18,19,20,61,62,63] H fun _ H=>iD PY [0,5,7,9,14,18,61,62,63,109] H fun _ H=>cD H (fun H=>iA [12,13]<|a7<|c9<|k<|m<|c9<|l<|hr H) fun H=>vK<|fK<|h H
 exact vE<|fE<|o<|fX rfl<|j H
def Gc(a:Int):Option Bool :=
 gd ((B0 a (-1000000000) 1000000000).isSome/\True) <|
 some (vl (B0 a (-1000000000) 1000000000))
def U0b:Ct:=b9 123 [.dat i64] (fun x=>Gc x.1) (fun r:Bool=>B r) (fun _=>())
theorem Q0Z:Ok prog U0b:=by
 refine c8 [.tmp 2] func123 ?_;intro y ⟨_,_⟩ r H Q hn hr;have:=hz (tc AD tn);refine iA [0]<|iB [2] H fun H=>a7<|hr H
def M8(a:l9):Option Bool :=
 gd ((Gc a.1).isSome/\(vl (Gc a.1)=true/\True->(Gc a.2).isSome)/\True) <|
 some (vl (Gc a.1)&&vl (Gc a.2)&&decide (a.1<=a.2))
def k65:Ct:=b9 65 [.agg y73] (fun x=>M8 x.1) (fun r:Bool=>B r) (fun _=>())
theorem Nh:Ok prog k65:=by
 refine c8 [.tmp 2] func65 ?_;intro y ⟨_,_⟩ r H Q hn hr;have:=hz (tc Q0Z tn);refine iA [1]<|iB [2] H fun H=>a7<|hr H
def Ni(b:Int)(c:Int)(a:Int):Option Bool :=
 gd ((B0 b c a).isSome/\True) <|
 some (!vl (B0 b c a))
def S0E:Ct:=b9 212 [.dat i64,.dat (.pt i64),.dat (.pt i64)] (fun x=>Ni x.1 x.2.1 x.2.2.1) (fun r:Bool=>B r) (fun _=>())
theorem Uw:Ok prog S0E:=by
 refine c8 [.tmp 4] func212 ?_;intro y ⟨_,_,_,_⟩ r H Q hn hr;have:=hz (tc AD tn);refine iA [0,1,2]<|iB [4] H fun H=>a7<|hr H
def k0q:Unit->Option Int
 | _ =>
 some (-1)
def s0e(b:List Int)(c:Int×Int)(d:Int->Option Int):Int->Option Int
 | a =>
 if(decide (a < (b.length:Int))) then
  gd (ix a b.length/\(Ni (b.getD a.toNat 0) c.1 c.2).isSome/\True) <|
  if(vl (Ni (b.getD a.toNat 0) c.1 c.2)) then
   some a
  else
   gd (b7 (a+1)/\True) <|
   d (a+1)
 else
  k0q ()
def Qg(a:List Int)(b:Int×Int):Option Int :=
 lp (s0e a b) 0
def y0S:Ct:=b9 246 [.dat i64.sl,.fn 212 (.pr i64.pt i64.pt)] (fun x=>Qg x.1 x.2.1) (fun r:Int=>I r) (fun _=>())
theorem Ux:Ok prog y0S:=by
 refine c8 [.tmp 4] func246 ?_;intro y ⟨a,c,_⟩ r H Q hn hr;have:=hz (tc Uw tn);refine iA [0,1]<|jN r (fun(_:Unit)=>Z [] []) (k0q) (fun _ H=>?_) (fun _ g i d=>?_)
 ·refine iA [4]<|a7<|hr H
 refine iA [0,1,7,8]<|vB<|lX (fun(b:Int)=>Z [p 0 (L i64 a),p 1 (AV.fn 212 [D i64.pt c.1,D i64.pt c.2]),p 7 (I (a.length:Int)),p 8 (I b)] []) 0 H fun _ j h f e b H=>iA [0,1,7,8,9]<|vQ<|cD H (fun H=>?_) (fun H=>?_)
 ·refine vK<|fQ<|vQ<|vB<|iA [0,1,5,7,8]<|iB [0,1,5,7,8,16] H fun H=>cD H (fun H=>iA [4]<|a7<|c9<|fR<|e<|c9<|d<|hr H) fun H=>vK<|fK<|fQ<|jB [0,1,7,8] H fun H=>h H
 exact vE<|fE<|f<|fX rfl<|g H
def Qh(a:List Int)(b:Int×Int):Option Bool :=
 gd ((Qg a b).isSome/\True)<|lt (vl (Qg a b)) fun c =>
 some (decide (0<=c))
def y0V:Ct:=b9 211 [.dat i64.sl,.fn 212 (.pr (.pt i64) (.pt i64))] (fun x=>Qh x.1 x.2.1) (fun r:Bool=>B r) (fun _=>())
theorem q0T:Ok prog y0V:=by
 refine c8 [.tmp 4] func211 ?_;intro y ⟨_,_,_⟩ r H Q hn hr;have:=hz (tc Ux (tc Uw tn));refine iA [0,1]<|iD Ux [4] H fun _ H=>a7<|hr H
def J8(b:List Int)(c:Int)(a:Int):Option Bool :=
 gd ((Qh b (c,a)).isSome/\True) <|
 some (!vl (Qh b (c,a)))
def T0w:Ct:=b9 159 [.dat i64.sl,.dat i64,.dat i64] (fun x=>J8 x.1 x.2.1 x.2.2.1) (fun r:Bool=>B r) (fun _=>())
theorem Nj:Ok prog T0w:=by
 refine c8 [.tmp 6] func159 ?_;intro y ⟨_,_,_,_⟩ r H Q hn hr;have:=hz (tc q0T (tc Uw tn));refine iA [0,4,5]<|iB [6] H fun H=>a7<|hr H
def F6(a:List Int):Option Int :=
 some (a.length:Int)
def T0C:Ct:=b9 153 [.dat i64.sl] (fun x=>F6 x.1) (fun r:Int=>I r) (fun _=>())
theorem Nk:Ok prog T0C:=by
 refine c8 [.tmp 2] func153 ?_;intro y ⟨_,_⟩ r H Q hn hr;refine iA [0]<|iA [2]<|a7<|hr H
def A0t:Unit->Option Bool
 | _ =>
 some true
def A0s(b:D0)(c:Int->Option Bool):Int->Option Bool
 | a =>
 if(decide (a < (b.1.length:Int))) then
  gd (ix a b.1.length/\True) <|
  gd (((b.1.getD a.toNat (0:Int) != (-1:Int))=false/\(a==(0:Int))=true/\True->ix (0:Int) b.2.1.length)/\(decide ((0:Int)<a)=true/\(a==(0:Int)&&(b.1.getD a.toNat (0:Int) != (-1:Int)||b.2.1.getD (Int.toNat (0:Int)) (0:Int) != (0:Int)))=false/\True->b7 (a-(1:Int)))/\(decide ((0:Int)<a)=true/\(a==(0:Int)&&(b.1.getD a.toNat (0:Int) != (-1:Int)||b.2.1.getD (Int.toNat (0:Int)) (0:Int) != (0:Int)))=false/\True->(B0 (b.1.getD a.toNat (0:Int)) (0:Int) (a-(1:Int))).isSome)/\True) <|
  if(a==(0:Int)&&(b.1.getD a.toNat (0:Int) != (-1:Int)||b.2.1.getD (Int.toNat (0:Int)) (0:Int) != (0:Int))||decide ((0:Int)<a)&&!vl (B0 (b.1.getD a.toNat (0:Int)) (0:Int) (a-(1:Int)))) then
   some false
  else
   gd (b7 (a+1)/\True) <|
   c (a+1)
 else
  A0t ()
def Dn(a:D0):Option Bool :=
 lp (A0s a) 0
def S0L:Ct:=b9 202 [.agg y172] (fun x=>Dn x.1) (fun r:Bool=>B r) (fun _=>())
theorem Q0x:Ok prog S0L:=by
 refine c8 [.tmp 2] func202 ?_;intro y ⟨a,_⟩ r H Q hn hr;have:=hz (tc AD tn);refine iA [1]<|jN r (fun(_:Unit)=>Z [] []) (A0t) (fun _ H=>?_) (fun _ f h c=>?_)
 ·refine iA [2]<|a7<|hr H
 refine iA [1,6,7,8]<|vB<|lX (fun(b:Int)=>Z [p 1 (R 1),p 6 (L i64 a.1),p 7 (I (a.1.length:Int)),p 8 (I b)] [(1,K 172 y172 a)]) 0 H fun _ i g e d b H=>iA [1,6,7,8,9]<|vQ<|cD H (fun H=>?_) (fun H=>?_)
 ·refine vK<|fQ<|vQ<|vB<|iB [1,3,4,6,7,8] H fun H=>iB [1,6,7,8,36] H fun H=>cD H (fun H=>iA [2]<|a7<|c9<|fR<|d<|c9<|c<|hr H) fun H=>vK<|fK<|fQ<|jB [1,6,7,8] H fun H=>g H
 exact vE<|fE<|e<|fX rfl<|f H
def Nl(a:D0)(c:Int):Option Bool :=
 gd ((F6 a.1).isSome/\True)<|lt (vl (F6 a.1)) fun b =>
 gd ((B0 b 1 8).isSome/\(vl (B0 b 1 8)=true/\True->(F6 a.2.1).isSome)/\((vl (B0 b 1 8)&&vl (F6 a.2.1)==b)=true/\True->(F6 a.2.2.1).isSome)/\((vl (B0 b 1 8)&&vl (F6 a.2.1)==b&&vl (F6 a.2.2.1)==b)=true/\True->(Dn a).isSome)/\((vl (B0 b 1 8)&&vl (F6 a.2.1)==b&&vl (F6 a.2.2.1)==b&&vl (Dn a))=true/\True->(J8 a.2.1 0 1000).isSome)/\((vl (B0 b 1 8)&&vl (F6 a.2.1)==b&&vl (F6 a.2.2.1)==b&&vl (Dn a)&&vl (J8 a.2.1 0 1000))=true/\True->(J8 a.2.2.1 0 500).isSome)/\((vl (B0 b 1 8)&&vl (F6 a.2.1)==b&&vl (F6 a.2.2.1)==b&&vl (Dn a)&&vl (J8 a.2.1 0 1000)&&vl (J8 a.2.2.1 0 500))=true/\True->(F6 a.2.2.2).isSome)/\((vl (B0 b 1 8)&&vl (F6 a.2.1)==b&&vl (F6 a.2.2.1)==b&&vl (Dn a)&&vl (J8 a.2.1 0 1000)&&vl (J8 a.2.2.1 0 500)&&vl (F6 a.2.2.2)==c)=true/\True->b7 (b-1))/\((vl (B0 b 1 8)&&vl (F6 a.2.1)==b&&vl (F6 a.2.2.1)==b&&vl (Dn a)&&vl (J8 a.2.1 0 1000)&&vl (J8 a.2.2.1 0 500)&&vl (F6 a.2.2.2)==c)=true/\True->(J8 a.2.2.2 0 (b-1)).isSome)/\True)<|lt ((vl (F6 a.2.1),vl (F6 a.2.2.1),vl (F6 a.2.2.2))) fun(d,e,f) =>
 some (vl (B0 b 1 8)&&d==b&&e==b&&vl (Dn a)&&vl (J8 a.2.1 0 1000)&&vl (J8 a.2.2.1 0 500)&&f==c&&vl (J8 a.2.2.2 0 (b-1)))
def T0G:Ct:=b9 149 [.agg y172,.dat i64] (fun x=>Nl x.1 x.2.1) (fun r:Bool=>B r) (fun _=>())
theorem Q0S:Ok prog T0G:=by
 refine c8 [.tmp 4] func149 ?_;intro y ⟨a,f,_⟩ r H Q hn hr;have:=hz (tc Nj (tc Nk (tc Q0x (tc AD tn))));refine iA [1,2]<|iD Nk [1,2,5] H fun b H=>qD (fun(c,d,e)=>Z [p 4 (B (vl (B0 b 1 8)&&c==b&&d==b&&vl (Dn a)&&vl (J8 a.2.1 0 1000)&&vl (J8 a.2.2.1 0 500)&&e==f&&vl (J8 a.2.2.2 0 (b-1))))] [(2,K 172 y172 a)]) H fun⟨c,d,e⟩ H =>
  a7<|hr H
def B0h:List C3->Option (List C3)
 | a =>
 some a
def B0e(d:q9)(e:Int×List C3->Option (List C3)):Int×List C3->Option (List C3)
 | (a,c) =>
 if(decide (a < (d.2.2.length:Int))) then
  gd (ix a d.2.2.length/\True)<|lt (d.2.2.getD a.toNat (a6 y231)) fun b =>
  gd ((c.length+[(-1,a,b.2.2,b.2.1==1)].length<=9223372036854775807/\(c.length+[(-1,a,b.2.2,b.2.1==1)].length)*32<=140737488355328)/\True) <|
  gd (b7 (a+1)/\True) <|
  e ((a+1,c++[(-1,a,b.2.2,b.2.1==1)]))
 else
  B0h c
def Nn(b:q9):List C3->Option (List C3)
 | a =>
 lp (B0e b) (0,a)
def Uy(b:Int)(c:List C3×Int->Option (List C3)):List C3->Option (List C3)
 | a =>
 gd (b7 (b+1)/\True) <|
 c (a,b+1)
def B0f(d:Int)(b:H2)(g:List C3×Int->Option (List C3))(f:Int×List C3->Option (List C3)):Int×List C3->Option (List C3)
 | (a,c) =>
 if(decide (a < (b.2.2.length:Int))) then
  gd (ix a b.2.2.length/\True) <|
  gd (b7 ((b.2.2.length:Int)-1)/\(c.length+[(d,a,b.2.2.getD a.toNat 0,a==(b.2.2.length:Int)-1)].length<=9223372036854775807/\(c.length+[(d,a,b.2.2.getD a.toNat 0,a==(b.2.2.length:Int)-1)].length)*32<=140737488355328)/\True)<|lt ((c++[(d,a,b.2.2.getD a.toNat 0,a==(b.2.2.length:Int)-1)],[(d,a,b.2.2.getD a.toNat 0,a==(b.2.2.length:Int)-1)])) fun(e,_) =>
  gd (b7 (a+1)/\True) <|
  f (a+1,e)
 else
  Uy d g c
def B0g(a:q9)(d:List C3×Int->Option (List C3)):List C3×Int->Option (List C3)
 | (c,b) =>
 if(decide (b < (a.1.length:Int))) then
  gd (ix b a.1.length/\True)<|lt (a.1.getD b.toNat (a6 y155)) fun e =>
  lp (B0f b e d) (0,c)
 else
  Nn a c
def Cw(a:q9):Option (List C3) :=
 lp (B0g a) ([],0)
def T0H:Ct:=b9 148 [.agg y53] (fun x=>Cw x.1) (fun r:List C3=>AV.ow 235 true y235 r) (fun _=>())
theorem Gd:Ok prog T0H:=by
 refine c8 [.tmp 2] func148 ?_;intro y ⟨a,_⟩ r H Q hn hr;refine iA [1]<|iA [1,3]<|jN r (fun(g:List C3)=>Z [p 1 (R 1),p 3 (O 38)] [(1,K 53 y53 a),(38,A 235 y235 g 0)]) (Nn a) (fun g H=>?_) (fun _ w X t0=>?_)
 ·refine jN r (fun(l:List C3)=>Z [p 3 (O 38)] [(38,A 235 y235 l 0)]) (B0h) (fun l H=>?_) (fun _ z W P=>?_)
  ·refine iA [2]<|a7<|hr H
  refine iA [3,42,43,44]<|vB<|lX (fun((c,e):Int×List C3)=>Z [p 3 (O 38),p 42 (L y231 a.2.2),p 43 (I (a.2.2.length:Int)),p 44 (I c)] [(38,A 235 y235 e 0)]) (0,g) H fun _ G s u Y ⟨c,e⟩ H=>iA [3,42,43,44,45]<|vQ<|cD H (fun H=>vK<|fQ<|vQ<|vB<|qD (fun m=>Z [p 3 (O 38),p 8 (I c),p 9 (R 9),p 42 (L y231 a.2.2),p 43 (I (a.2.2.length:Int)),p 44 (I c)] [(9,K 231 y231 m),(38,A 235 y235 e 0)]) H fun m H=>jB [3,42,43,44] H fun H=>fK<|fQ<|jB [3,42,43,44] H fun H=>s H) fun H=>vE<|fE<|u<|fX rfl<|z H
 refine iA [1,3,11,12,13]<|vB<|lX (fun((n,b):List C3×Int)=>Z [p 1 (R 1),p 3 (O 38),p 11 (L y155 a.1),p 12 (I (a.1.length:Int)),p 13 (I b)] [(1,K 53 y53 a),(38,A 235 y235 n 0)]) ([],0) H fun _ E q v t1 ⟨n,b⟩ H=>iA [1,3,11,12,13,14]<|vQ<|cD H (fun H=>?_) (fun H=>?_)
 ·refine vK<|fQ<|jN r (fun(h:List C3)=>Z [p 1 (R 1),p 3 (O 38),p 11 (L y155 a.1),p 12 (I (a.1.length:Int)),p 13 (I b)] [(1,K 53 y53 a),(38,A 235 y235 h 0)]) (Uy b E) (fun h H=>?_) (fun _ t F T=>?_)
  ·refine jB [1,3,11,12,13] H fun H=>q H
  refine vB<|qD (fun d=>Z [p 1 (R 1),p 3 (O 38),p 4 (I b),p 5 (R 5),p 11 (L y155 a.1),p 12 (I (a.1.length:Int)),p 13 (I b)] [(5,K 155 y155 d),(1,K 53 y53 a),(38,A 235 y235 n 0)]) H fun d H=>iA [1,3,4,5,11,12,13,19,20,21]<|vB<|lX (fun((f,k):Int×List C3)=>Z [p 1 (R 1),p 3 (O 38),p 4 (I b),p 5 (R 5),p 11 (L y155 a.1),p 12 (I (a.1.length:Int)),p 13 (I b),p 19 (L i64 d.2.2),p 20 (I (d.2.2.length:Int)),p 21 (I f)] [(5,K 155 y155 d),(1,K 53 y53 a),(38,A 235 y235 k 0)]) (0,n) H fun _ V o x t3 ⟨f,k⟩ H=>iA [1,3,4,5,11,12,13,19,20,21,22]<|vQ<|cD H (fun H=>?_) (fun H=>?_)
  ·refine vK<|fQ<|vQ<|vB<|iB [1,3,4,5,6,7,11,12,13,19,20,21] H fun H=>zD (fun(i,j)=>Z [p 1 (R 1),p 3 (AV.os 38 1),p 4 (I b),p 5 (R 5),p 11 (L y155 a.1),p 12 (I (a.1.length:Int)),p 13 (I b),p 19 (L i64 d.2.2),p 20 (I (d.2.2.length:Int)),p 21 (I f)] [(38,A 235 y235 i 1),(37,A 235 y235 j 0),(5,K 155 y155 d),(1,K 53 y53 a)]) H fun⟨i,j⟩ H =>
    fK<|fQ <|
    jB [1,3,4,5,11,12,13,19,20,21] H fun H =>
    o H
  exact vE<|fE<|x<|fX rfl<|fK<|t H
 exact vE<|fE<|v<|fX rfl<|w H
def Uz(a:Int):Option Bool :=
 some (a != 1)
def S0M:Ct:=b9 201 [.dat i64] (fun x=>Uz x.1) (fun r:Bool=>B r) (fun _=>())
theorem UA:Ok prog S0M:=by
 refine c8 [.tmp 2] func201 ?_;intro y ⟨_,_⟩ r H Q hn hr;refine iA [0]<|iA [2]<|a7<|hr H
def JK(a:List ByteArray):Option Int :=
 some (a.length:Int)
def S0h:Ct:=b9 236 [.dat Ty.str.sl] (fun x=>JK x.1) (fun r:Int=>I r) (fun _=>())
theorem Q0k:Ok prog S0h:=by
 refine c8 [.tmp 2] func236 ?_;intro y ⟨_,_⟩ r H Q hn hr;refine iA [0]<|iA [2]<|a7<|hr H
def HJ(a:q9)(b:Int):Option Bool :=
 gd ((JK a.2.1).isSome/\b7 (vl (JK a.2.1)-1)/\(B0 b 0 (vl (JK a.2.1)-1)).isSome/\True) <|
 some (vl (B0 b 0 (vl (JK a.2.1)-1)))
def S0N:Ct:=b9 199 [.agg y53,.dat i64] (fun x=>HJ x.1 x.2.1) (fun r:Bool=>B r) (fun _=>())
theorem N0u:Ok prog S0N:=by
 refine c8 [.tmp 4] func199 ?_;intro y ⟨_,_,_⟩ r H Q hn hr;have:=hz (tc AD (tc Q0k tn));refine iA [1,2]<|iB [4] H fun H=>a7<|hr H
def Ge(a:List l5):Option Int :=
 some (a.length:Int)
def S0j:Ct:=b9 234 [.dat y153.sl] (fun x=>Ge x.1) (fun r:Int=>I r) (fun _=>())
theorem Q0l:Ok prog S0j:=by
 refine c8 [.tmp 2] func234 ?_;intro y ⟨_,_⟩ r H Q hn hr;refine iA [0]<|iA [2]<|a7<|hr H
def No(a:Int)(b:q9):Option Bool :=
 gd ((HJ b a).isSome/\True) <|
 some (!vl (HJ b a))
def S0i:Ct:=b9 235 [.dat i64,.dat (.pt y53)] (fun x=>No x.1 x.2.1) (fun r:Bool=>B r) (fun _=>())
theorem UB:Ok prog S0i:=by
 refine c8 [.tmp 3] func235 ?_;intro y ⟨_,_,_⟩ r H Q hn hr;have:=hz (tc N0u tn);refine iA [0,1]<|iB [3] H fun H=>a7<|hr H
def k0p:Unit->Option Int
 | _ =>
 some (-1)
def s0d(b:List Int)(c:q9)(d:Int->Option Int):Int->Option Int
 | a =>
 if(decide (a < (b.length:Int))) then
  gd (ix a b.length/\(No (b.getD a.toNat 0) c).isSome/\True) <|
  if(vl (No (b.getD a.toNat 0) c)) then
   some a
  else
   gd (b7 (a+1)/\True) <|
   d (a+1)
 else
  k0p ()
def Qi(a:List Int)(b:q9):Option Int :=
 lp (s0d a b) 0
def y0R:Ct:=b9 246 [.dat i64.sl,.fn 235 y53.pt] (fun x=>Qi x.1 x.2.1) (fun r:Int=>I r) (fun _=>())
theorem q0R:Ok prog y0R:=by
 refine c8 [.tmp 4] func246 ?_;intro y ⟨a,e,_⟩ r H Q hn hr;have:=hz (tc UB tn);refine iA [0,1]<|jN r (fun(_:Unit)=>Z [] []) (k0p) (fun _ H=>?_) (fun _ g i c=>?_)
 ·refine iA [4]<|a7<|hr H
 refine iA [0,1,7,8]<|vB<|lX (fun(b:Int)=>Z [p 0 (L i64 a),p 1 (AV.fn 235 [D y53.pt e]),p 7 (I (a.length:Int)),p 8 (I b)] []) 0 H fun _ j h f d b H=>iA [0,1,7,8,9]<|vQ<|cD H (fun H=>?_) (fun H=>?_)
 ·refine vK<|fQ<|vQ<|vB<|iA [0,1,5,7,8]<|iB [0,1,5,7,8,16] H fun H=>cD H (fun H=>iA [4]<|a7<|c9<|fR<|d<|c9<|c<|hr H) fun H=>vK<|fK<|fQ<|jB [0,1,7,8] H fun H=>h H
 exact vE<|fE<|f<|fX rfl<|g H
def Qj(a:List Int)(b:q9):Option Bool :=
 gd ((Qi a b).isSome/\True)<|lt (vl (Qi a b)) fun c =>
 some (decide (0<=c))
def y0U:Ct:=b9 211 [.dat i64.sl,.fn 235 (.pt y53)] (fun x=>Qj x.1 x.2.1) (fun r:Bool=>B r) (fun _=>())
theorem y0w:Ok prog y0U:=by
 refine c8 [.tmp 4] func211 ?_;intro y ⟨_,_,_⟩ r H Q hn hr;have:=hz (tc Ux (tc q0R (tc UB tn)));refine iA [0,1]<|iD q0R [4] H fun _ H=>a7<|hr H
def Np(c:q9)(b:List l5)(a:H2):Option Bool :=
 gd ((Ge b).isSome/\b7 (vl (Ge b)-1)/\(B0 a.2.1 0 (vl (Ge b)-1)).isSome/\(vl (B0 a.2.1 0 (vl (Ge b)-1))=true/\True->ix a.2.1 b.length)/\((vl (B0 a.2.1 0 (vl (Ge b)-1))&&(a.2.2.length:Int)==(↑(b.getD a.2.1.toNat (a6 y153)).2.2.1.length:Int))=true/\True->(Qj a.2.2 c).isSome)/\True) <|
 some (vl (B0 a.2.1 0 (vl (Ge b)-1))&&(a.2.2.length:Int)==(↑(b.getD a.2.1.toNat (a6 y153)).2.2.1.length:Int)&&!vl (Qj a.2.2 c))
def S0O:Ct:=b9 198 [.agg y53,.agg y153.sl,.agg y155] (fun x=>Np x.1 x.2.1 x.2.2.1) (fun r:Bool=>B r) (fun _=>())
theorem Q0y:Ok prog S0O:=by
 refine c8 [.tmp 6] func198 ?_;intro y ⟨_,_,_,_⟩ r H Q hn hr;have:=hz (tc q0T (tc y0w (tc UB (tc AD (tc Q0l tn)))));refine iA [3,4,5]<|iB [6] H fun H=>a7<|hr H
def z0M:Unit->Option Int
 | _ =>
 some (-1)
def G0N(d:ByteArray)(b:List ByteArray)(c:Int->Option Int):Int->Option Int
 | a =>
 if(decide (a < (b.length:Int))) then
  gd (ix a b.length/\True) <|
  if(decide (d=b.getD a.toNat (a6 Ty.str))) then
   some a
  else
   gd (b7 (a+1)/\True) <|
   c (a+1)
 else
  z0M ()
def Qk(a:List ByteArray)(b:ByteArray):Option Int :=
 lp (G0N b a) 0
def R0H:Ct:=b9 278 [.dat Ty.str.sl,.dat Ty.str] (fun x=>Qk x.1 x.2.1) (fun r:Int=>I r) (fun _=>())
theorem N0c:Ok prog R0H:=by
 refine c8 [.tmp 4] func278 ?_;intro y ⟨a,e,_⟩ r H Q hn hr;refine iA [0,1]<|jN r (fun(_:Unit)=>Z [] []) (z0M) (fun _ H=>?_) (fun _ g i c=>?_)
 ·refine iA [4]<|a7<|hr H
 refine iA [0,1,7,8]<|vB<|lX (fun(b:Int)=>Z [p 0 (L Ty.str a),p 1 (U e),p 7 (I (a.length:Int)),p 8 (I b)] []) 0 H fun _ j h f d b H=>iA [0,1,7,8,9]<|vQ<|cD H (fun H=>?_) (fun H=>?_)
 ·refine vK<|fQ<|vQ<|vB<|iA [0,1,5,7,8]<|iB [0,1,5,7,8,16] H fun H=>cD H (fun H=>iA [4]<|a7<|c9<|fR<|d<|c9<|c<|hr H) fun H=>vK<|fK<|fQ<|jB [0,1,7,8] H fun H=>h H
 exact vE<|fE<|f<|fX rfl<|g H
def Ql(a:List ByteArray)(b:ByteArray):Option Bool :=
 gd ((Qk a b).isSome/\True)<|lt (vl (Qk a b)) fun c =>
 some (decide (0<=c))
def R0S:Ct:=b9 261 [.dat Ty.str.sl,.dat Ty.str] (fun x=>Ql x.1 x.2.1) (fun r:Bool=>B r) (fun _=>())
theorem Q0c:Ok prog R0S:=by
 refine c8 [.tmp 4] func261 ?_;intro y ⟨_,_,_⟩ r H Q hn hr;have:=hz (tc N0c tn);refine iA [0,1]<|iD N0c [4] H fun _ H=>a7<|hr H
def T9(a:ByteArray):Option Bool :=
 gd ((B0 (a.size:Int) (1:Int) (8:Int)).isSome/\(vl (B0 (a.size:Int) (1:Int) (8:Int))=true/\True->(Gf a (ByteArray.mk #[(97:UInt8),(98:UInt8),(99:UInt8),(100:UInt8),(101:UInt8),(102:UInt8),(103:UInt8),(104:UInt8),(105:UInt8),(106:UInt8),(107:UInt8),(108:UInt8),(109:UInt8),(110:UInt8),(111:UInt8),(112:UInt8),(113:UInt8),(114:UInt8),(115:UInt8),(116:UInt8),(117:UInt8),(118:UInt8),(119:UInt8),(120:UInt8),(121:UInt8),(122:UInt8),(48:UInt8),(49:UInt8),(50:UInt8),(51:UInt8),(52:UInt8),(53:UInt8),(54:UInt8),(55:UInt8),(56:UInt8),(57:UInt8)])).isSome)/\((vl (B0 (a.size:Int) (1:Int) (8:Int))&&decide (vl (Gf a (ByteArray.mk #[(97:UInt8),(98:UInt8),(99:UInt8),(100:UInt8),(101:UInt8),(102:UInt8),(103:UInt8),(104:UInt8),(105:UInt8),(106:UInt8),(107:UInt8),(108:UInt8),(109:UInt8),(110:UInt8),(111:UInt8),(112:UInt8),(113:UInt8),(114:UInt8),(115:UInt8),(116:UInt8),(117:UInt8),(118:UInt8),(119:UInt8),(120:UInt8),(121:UInt8),(122:UInt8),(48:UInt8),(49:UInt8),(50:UInt8),(51:UInt8),(52:UInt8),(53:UInt8),(54:UInt8),(55:UInt8),(56:UInt8),(57:UInt8)]))=ByteArray.mk #[]))=true/\True->ix (0:Int) a.size)/\((vl (B0 (a.size:Int) (1:Int) (8:Int))&&decide (vl (Gf a (ByteArray.mk #[(97:UInt8),(98:UInt8),(99:UInt8),(100:UInt8),(101:UInt8),(102:UInt8),(103:UInt8),(104:UInt8),(105:UInt8),(106:UInt8),(107:UInt8),(108:UInt8),(109:UInt8),(110:UInt8),(111:UInt8),(112:UInt8),(113:UInt8),(114:UInt8),(115:UInt8),(116:UInt8),(117:UInt8),(118:UInt8),(119:UInt8),(120:UInt8),(121:UInt8),(122:UInt8),(48:UInt8),(49:UInt8),(50:UInt8),(51:UInt8),(52:UInt8),(53:UInt8),(54:UInt8),(55:UInt8),(56:UInt8),(57:UInt8)]))=ByteArray.mk #[]))=true/\True->(Qm (ByteArray.mk #[(97:UInt8),(98:UInt8),(99:UInt8),(100:UInt8),(101:UInt8),(102:UInt8),(103:UInt8),(104:UInt8),(105:UInt8),(106:UInt8),(107:UInt8),(108:UInt8),(109:UInt8),(110:UInt8),(111:UInt8),(112:UInt8),(113:UInt8),(114:UInt8),(115:UInt8),(116:UInt8),(117:UInt8),(118:UInt8),(119:UInt8),(120:UInt8),(121:UInt8),(122:UInt8)]) (H9 a (Int.toNat (0:Int)))).isSome)/\True)<|lt ((vl (Gf a (ByteArray.mk #[97,98,99,100,101,102,103,104,105,106,107,108,109,110,111,112,113,114,115,116,117,118,119,120,121,122,48,49,50,51,52,53,54,55,56,57])),vl (Qm (ByteArray.mk #[(97:UInt8),(98:UInt8),(99:UInt8),(100:UInt8),(101:UInt8),(102:UInt8),(103:UInt8),(104:UInt8),(105:UInt8),(106:UInt8),(107:UInt8),(108:UInt8),(109:UInt8),(110:UInt8),(111:UInt8),(112:UInt8),(113:UInt8),(114:UInt8),(115:UInt8),(116:UInt8),(117:UInt8),(118:UInt8),(119:UInt8),(120:UInt8),(121:UInt8),(122:UInt8)]) (H9 a (Int.toNat (0:Int)))))) fun(b,c) =>
 some (vl (B0 (a.size:Int) 1 8)&&decide (b=ByteArray.mk #[])&&decide (0<=c))
def T0F:Ct:=b9 150 [.dat Ty.str] (fun x=>T9 x.1) (fun r:Bool=>B r) (fun _=>())
theorem UC:Ok prog T0F:=by
 refine c8 [.tmp 2] func150 ?_;intro y ⟨c,_⟩ r H Q hn hr;have:=hz (tc Q0v (tc Q0w (tc AD tn)));refine iA [0]<|qD (fun(a,b)=>Z [p 2 (B (vl (B0 (c.size:Int) 1 8)&&decide (a=ByteArray.mk #[])&&decide (0<=b)))] []) H fun⟨a,b⟩ H =>
  a7<|hr H
def A0c:Unit->Option Bool
 | _ =>
 some true
def A0b(b:List ByteArray)(c:Int->Option Bool):Int->Option Bool
 | a =>
 if(decide (a < (b.length:Int))) then
  gd (ix a b.length/\True) <|
  gd ((T9 (b.getD a.toNat (a6 Ty.str))).isSome/\((!vl (T9 (b.getD a.toNat (a6 Ty.str))))=false/\True->(0:Int)<=(0:Int)/\(0:Int)<=a/\a<=(b.length:Int))/\((!vl (T9 (b.getD a.toNat (a6 Ty.str))))=false/\True->(Ql (List.take a.toNat b) (b.getD a.toNat (a6 Ty.str))).isSome)/\True) <|
  if(!vl (T9 (b.getD a.toNat (a6 Ty.str)))||vl (Ql (List.take a.toNat b) (b.getD a.toNat (a6 Ty.str)))) then
   some false
  else
   gd (b7 (a+1)/\True) <|
   c (a+1)
 else
  A0c ()
def Ac(a:List ByteArray):Option Bool :=
 lp (A0b a) 0
def S0k:Ct:=b9 233 [.dat Ty.str.sl] (fun x=>Ac x.1) (fun r:Bool=>B r) (fun _=>())
theorem UD:Ok prog S0k:=by
 refine c8 [.tmp 2] func233 ?_;intro y ⟨a,_⟩ r H Q hn hr;have:=hz (tc Q0c (tc UC tn));refine iA [0]<|jN r (fun(_:Unit)=>Z [] []) (A0c) (fun _ H=>?_) (fun _ f h c=>?_)
 ·refine iA [2]<|a7<|hr H
 refine iA [0,5,6,7]<|vB<|lX (fun(b:Int)=>Z [p 0 (L Ty.str a),p 5 (L Ty.str a),p 6 (I (a.length:Int)),p 7 (I b)] []) 0 H fun _ i g e d b H=>iA [0,5,6,7,8]<|vQ<|cD H (fun H=>?_) (fun H=>?_)
 ·refine vK<|fQ<|vQ<|vB<|iB [0,3,4,5,6,7] H fun H=>iB [0,5,6,7,21] H fun H=>cD H (fun H=>iA [2]<|a7<|c9<|fR<|d<|c9<|c<|hr H) fun H=>vK<|fK<|fQ<|jB [0,5,6,7] H fun H=>g H
 exact vE<|fE<|e<|fX rfl<|f H
def Nq(a:List ByteArray)(b:q9):List ByteArray->Option Bool
 | c =>
 gd (((decide ((a.length:Int)<=14)&&decide ((b.2.1.length:Int)<=30)&&decide ((c.length:Int)<=8))=true/\True->(Ac a).isSome)/\((decide ((a.length:Int)<=14)&&decide ((b.2.1.length:Int)<=30)&&decide ((c.length:Int)<=8)&&vl (Ac a))=true/\True->(Ac b.2.1).isSome)/\((decide ((a.length:Int)<=14)&&decide ((b.2.1.length:Int)<=30)&&decide ((c.length:Int)<=8)&&vl (Ac a)&&vl (Ac b.2.1))=true/\True->(Ac c).isSome)/\True) <|
 some (decide ((a.length:Int)<=14)&&decide ((b.2.1.length:Int)<=30)&&decide ((c.length:Int)<=8)&&vl (Ac a)&&vl (Ac b.2.1)&&vl (Ac c))
def A0u(b:q9)(f:List ByteArray)(e:List ByteArray×Int->Option Bool):List ByteArray×Int->Option Bool
 | (c,a) =>
 if(decide (a < (b.2.2.length:Int))) then
  gd (ix a b.2.2.length/\True)<|lt (b.2.2.getD a.toNat (a6 y231)) fun d =>
  gd ((c.length+[d.1].length<=9223372036854775807/\(c.length+[d.1].length)*16<=140737488355328)/\True) <|
  gd (b7 (a+1)/\True) <|
  e (c++[d.1],a+1)
 else
  Nq f b c
def Nr(b:q9):List ByteArray->Option Bool
 | a =>
 lp (A0u b a) ([],0)
def A0v(b:q9)(e:List ByteArray×Int->Option Bool):List ByteArray×Int->Option Bool
 | (c,a) =>
 if(decide (a < (b.1.length:Int))) then
  gd (ix a b.1.length/\True)<|lt (b.1.getD a.toNat (a6 y155)) fun d =>
  gd ((c.length+[d.1].length<=9223372036854775807/\(c.length+[d.1].length)*16<=140737488355328)/\True) <|
  gd (b7 (a+1)/\True) <|
  e (c++[d.1],a+1)
 else
  Nr b c
def Qn(a:q9):Option Bool :=
 lp (A0v a) ([],0)
def S0P:Ct:=b9 197 [.agg y53] (fun x=>Qn x.1) (fun r:Bool=>B r) (fun _=>())
theorem Q0z:Ok prog S0P:=by
 refine c8 [.tmp 2] func197 ?_;intro y ⟨a,_⟩ r H Q hn hr;have:=hz (tc UD tn);refine iA [1]<|iA [1,3,4]<|jN r (fun(b:List ByteArray)=>Z (DT [p 4 (nil)]) [(1,K 53 y53 a),(20,A 9 Ty.str b 0)]) (Nr a) (fun b H=>?_) (fun _ n u x=>?_)
 ·refine jN r (fun(i:List ByteArray)=>Z (DT [p 4 (O 33)]) [(1,K 53 y53 a),(20,A 9 Ty.str b 0),(33,A 9 Ty.str i 0)]) (Nq b a) (fun i H=>?_) (fun _ l q s=>?_)
  ·refine iB [2] H fun H=>a7<|hr H
  refine iA [1,3,4,23,24,25]<|vB<|lX (fun((c,d):List ByteArray×Int)=>Z (DT [p 4 (O 33),p 23 (L y231 a.2.2),p 24 (I (a.2.2.length:Int)),p 25 (I d)]) [(1,K 53 y53 a),(20,A 9 Ty.str b 0),(33,A 9 Ty.str c 0)]) ([],0) H fun _ t j o w ⟨c,d⟩ H=>iA [1,3,4,23,24,25,26]<|vQ<|cD H (fun H=>vK<|fQ<|vQ<|vB<|qD (fun g=>Z (DT [p 4 (O 33),p 8 (R 8),p 23 (L y231 a.2.2),p 24 (I (a.2.2.length:Int)),p 25 (I d)]) [(8,K 231 y231 g),(1,K 53 y53 a),(20,A 9 Ty.str b 0),(33,A 9 Ty.str c 0)]) H fun g H=>jB [1,3,4,23,24,25] H fun H=>fK<|fQ<|jB [1,3,4,23,24,25] H fun H=>j H) fun H=>vE<|fE<|o<|fX rfl<|l H
 refine iA [1,3,4,10,11,12]<|vB<|lX (fun((f,e):List ByteArray×Int)=>Z (DT [p 4 (nil),p 10 (L y155 a.1),p 11 (I (a.1.length:Int)),p 12 (I e)]) [(1,K 53 y53 a),(20,A 9 Ty.str f 0)]) ([],0) H fun _ z k m v ⟨f,e⟩ H=>iA [1,3,4,10,11,12,13]<|vQ<|cD H (fun H=>vK<|fQ<|vQ<|vB<|qD (fun h=>Z (DT [p 4 (nil),p 6 (R 6),p 10 (L y155 a.1),p 11 (I (a.1.length:Int)),p 12 (I e)]) [(6,K 155 y155 h),(1,K 53 y53 a),(20,A 9 Ty.str f 0)]) H fun h H=>jB [1,3,4,10,11,12] H fun H=>fK<|fQ<|jB [1,3,4,10,11,12] H fun H=>k H) fun H=>vE<|fE<|m<|fX rfl<|n H
def UE(a:A6)(b:Int):Option Bool :=
 some (a.1==b)
def R0y:Ct:=b9 291 [.agg y158,.dat (.pt i64)] (fun x=>UE x.1 x.2.1) (fun r:Bool=>B r) (fun _=>())
theorem UG:Ok prog R0y:=by
 refine c8 [.tmp 3] func291 ?_;intro y ⟨_,_,_⟩ r H Q hn hr;refine iA [1,2]<|iA [3]<|a7<|hr H
def k0k:Unit->Option Int
 | _ =>
 some (-1)
def s0b(b:List A6)(c:Int)(d:Int->Option Int):Int->Option Int
 | a =>
 if(decide (a < (b.length:Int))) then
  gd (ix a b.length/\(UE (b.getD a.toNat (a6 y158)) c).isSome/\True) <|
  if(vl (UE (b.getD a.toNat (a6 y158)) c)) then
   some a
  else
   gd (b7 (a+1)/\True) <|
   d (a+1)
 else
  k0k ()
def Qo(a:List A6)(b:Int):Option Int :=
 lp (s0b a b) 0
def y0N:Ct:=b9 290 [.dat y158.sl,.fn 291 i64.pt] (fun x=>Qo x.1 x.2.1) (fun r:Int=>I r) (fun _=>())
theorem UH:Ok prog y0N:=by
 refine c8 [.tmp 4] func290 ?_;intro y ⟨a,e,_⟩ r H Q hn hr;have:=hz (tc UG tn);refine iA [0,1]<|jN r (fun(_:Unit)=>Z [] []) (k0k) (fun _ H=>?_) (fun _ g i c=>?_)
 ·refine iA [4]<|a7<|hr H
 refine iA [0,1,7,8]<|vB<|lX (fun(b:Int)=>Z [p 0 (L y158 a),p 1 (AV.fn 291 [D i64.pt e]),p 7 (I (a.length:Int)),p 8 (I b)] []) 0 H fun _ j h f d b H=>iA [0,1,7,8,9]<|vQ<|cD H (fun H=>?_) (fun H=>?_)
 ·refine vK<|fQ<|vQ<|vB<|iA [0,1,5,7,8]<|iB [0,1,5,7,8,16] H fun H=>cD H (fun H=>iA [4]<|a7<|c9<|fR<|d<|c9<|c<|hr H) fun H=>vK<|fK<|fQ<|jB [0,1,7,8] H fun H=>h H
 exact vE<|fE<|f<|fX rfl<|g H
def Qp(a:List A6)(b:Int):Option Bool :=
 gd ((Qo a b).isSome/\True)<|lt (vl (Qo a b)) fun c =>
 some (decide (0<=c))
def y0P:Ct:=b9 274 [.dat y158.sl,.fn 291 (.pt i64)] (fun x=>Qp x.1 x.2.1) (fun r:Bool=>B r) (fun _=>())
theorem q0Q:Ok prog y0P:=by
 refine c8 [.tmp 4] func274 ?_;intro y ⟨_,_,_⟩ r H Q hn hr;have:=hz (tc UH (tc UG tn));refine iA [0,1]<|iD UH [4] H fun _ H=>a7<|hr H
def Q4(a:l5)(b:Int):Option Bool :=
 gd ((Qp a.2.2.2.1 b).isSome/\True) <|
 some (vl (Qp a.2.2.2.1 b))
def R0I:Ct:=b9 277 [.agg y153,.dat i64] (fun x=>Q4 x.1 x.2.1) (fun r:Bool=>B r) (fun _=>())
theorem P0X:Ok prog R0I:=by
 refine c8 [.tmp 4] func277 ?_;intro y ⟨_,_,_⟩ r H Q hn hr;have:=hz (tc q0Q (tc UG tn));refine iA [2,3]<|iB [4] H fun H=>a7<|hr H
def Dp(a:List F8):Option Int :=
 some (a.length:Int)
def R0M:Ct:=b9 272 [.dat y293.sl] (fun x=>Dp x.1) (fun r:Int=>I r) (fun _=>())
theorem UI:Ok prog R0M:=by
 refine c8 [.tmp 2] func272 ?_;intro y ⟨_,_⟩ r H Q hn hr;refine iA [0]<|iA [2]<|a7<|hr H
def X7(a:l5):Option Int :=
 gd ((Dp a.2.2.1).isSome/\b7 (vl (Dp a.2.2.1)-1)/\True)<|lt (vl (Dp a.2.2.1)) fun b =>
 some (b-1)
def R0J:Ct:=b9 276 [.agg y153] (fun x=>X7 x.1) (fun r:Int=>I r) (fun _=>())
theorem Ns:Ok prog R0J:=by
 refine c8 [.tmp 2] func276 ?_;intro y ⟨_,_⟩ r H Q hn hr;have:=hz (tc UI tn);refine iA [1]<|iD UI [2] H fun _ H=>a7<|hr H
def JL(a:l5):Int->Option Bool
 | b =>
 if(a.2.1==1) then
  gd (((b==(0:Int))=true/\True->(X7 a).isSome)/\((b==(0:Int))=true/\True->((0:Int)<=vl (X7 a)/\vl (X7 a)<=(62:Int))/\b7 ((1:Int)*(2:Int) ^ (vl (X7 a)).toNat))/\((b==(0:Int)&&(a.2.2.2.2.1.length:Int)==(1:Int)*(2:c7 i64) ^ (vl (X7 a)).toNat)=true/\True->(J8 a.2.2.2.2.1 (0:Int) (1:Int)).isSome)/\True)<|lt (vl (X7 a)) fun c =>
  some (b==(0:Int)&&(a.2.2.2.2.1.length:Int)==(1:Int)*(2:c7 i64) ^ c.toNat&&vl (J8 a.2.2.2.2.1 (0:Int) (1:Int)))
 else
  if(a.2.1==2) then
   gd (((b==1&&(a.2.2.2.2.1.length:Int)==0)=true/\True->(Q4 a 1).isSome)/\((b==1&&(a.2.2.2.2.1.length:Int)==0&&!vl (Q4 a 1))=true/\True->(Q4 a 2).isSome)/\((b==1&&(a.2.2.2.2.1.length:Int)==0&&!vl (Q4 a 1))=true/\True->(Q4 a 3).isSome)/\True) <|
   some (b==1&&(a.2.2.2.2.1.length:Int)==0&&!vl (Q4 a 1)&&!vl (Q4 a 2)==vl (Q4 a 3))
  else
   if(a.2.1==3) then
    gd (((b==1&&(a.2.2.2.2.1.length:Int)==0)=true/\True->(Q4 a 1).isSome)/\((b==1&&(a.2.2.2.2.1.length:Int)==0&&vl (Q4 a 1))=true/\True->(Q4 a 2).isSome)/\((b==1&&(a.2.2.2.2.1.length:Int)==0&&vl (Q4 a 1)&&vl (Q4 a 2))=true/\True->(Q4 a 3).isSome)/\True) <|
    some (b==1&&(a.2.2.2.2.1.length:Int)==0&&vl (Q4 a 1)&&vl (Q4 a 2)&&!vl (Q4 a 3))
   else
    some false
def Qq(a:Int)(b:Int×Int->Option Bool):Int->Option Bool
 | c =>
 gd (b7 (a+1)/\True) <|
 b (c,a+1)
def z0P(b:l5)(d:Int×Int->Option Bool):Int×Int->Option Bool
 | (c,a) =>
 if(decide (a < (b.2.2.1.length:Int))) then
  gd (ix a b.2.2.1.length/\True)<|lt (b.2.2.1.getD a.toNat (a6 y293)) fun e =>
  if e.2.2.2 then
   gd (b7 (c+1)/\True) <|
   Qq a d (c+1)
  else
   Qq a d c
 else
  JL b c
def Qr(a:l5):Option Bool :=
 lp (z0P a) (0,0)
def R0T:Ct:=b9 260 [.agg y153] (fun x=>Qr x.1) (fun r:Bool=>B r) (fun _=>())
theorem Q0d:Ok prog R0T:=by
 refine c8 [.tmp 2] func260 ?_;intro y ⟨a,_⟩ r H Q hn hr;have:=hz (tc P0X (tc Nj (tc Ns tn)));refine iA [1]<|iA [1,3]<|jN r (fun(g:Int)=>Z (G8 g []) [(1,K 153 y153 a)]) (JL a) (fun g H=>?_) (fun _ j n m=>?_)
 ·refine vQ<|iA [1,3,19]<|vB<|iA [1,3,19,20]<|cD H (fun H=>iD Ns [2] H fun _ H=>a7<|c9<|fR<|hr H) fun H=>iA [1,3,19,38]<|cD H (fun H=>iB [2] H fun H=>a7<|c9<|fR<|hr H) fun H=>iA [1,3,60]<|cD H (fun H=>iB [2] H fun H=>a7<|c9<|fR<|hr H) fun H=>vK<|fK<|fQ<|iA [2]<|a7<|hr H
 refine iA [1,3,7,8,9]<|vB<|lX (fun((c,b):Int×Int)=>Z (G8 c [p 7 (L y293 a.2.2.1),p 8 (I (a.2.2.1.length:Int)),p 9 (I b)]) [(1,K 153 y153 a)]) (0,0) H fun _ h k i o ⟨c,b⟩ H=>iA [1,3,7,8,9,10]<|vQ<|cD H (fun H=>?_) (fun H=>?_)
 ·refine vK<|fQ<|jN r (fun(e:Int)=>Z (G8 e [p 7 (L y293 a.2.2.1),p 8 (I (a.2.2.1.length:Int)),p 9 (I b)]) [(1,K 153 y153 a)]) (Qq b h) (fun e H=>?_) (fun _ d l q=>?_)
  ·refine jB [1,3,7,8,9] H fun H=>k H
  refine vB<|qD (fun f=>Z (G8 c [p 5 (R 5),p 7 (L y293 a.2.2.1),p 8 (I (a.2.2.1.length:Int)),p 9 (I b)]) [(5,K 293 y293 f),(1,K 153 y153 a)]) H fun f H=>iA [1,3,7,8,9,14]<|cD H (fun H=>jB [1,3,7,8,9] H fun H=>fK<|d H) fun H=>vK<|fK<|d H
 exact vE<|fE<|i<|fX rfl<|j H
def HK(a:l5)(b:Int):Option Bool :=
 gd ((X7 a).isSome/\b7 (vl (X7 a)-1)/\(B0 b 0 (vl (X7 a)-1)).isSome/\True) <|
 some (vl (B0 b 0 (vl (X7 a)-1)))
def R0z:Ct:=b9 289 [.agg y153,.dat i64] (fun x=>HK x.1 x.2.1) (fun r:Bool=>B r) (fun _=>())
theorem P0R:Ok prog R0z:=by
 refine c8 [.tmp 4] func289 ?_;intro y ⟨_,_,_⟩ r H Q hn hr;have:=hz (tc AD (tc Ns tn));refine iA [1,2]<|iB [4] H fun H=>a7<|hr H
def z0I:Int->Option Int
 | a =>
 some a
def UJ(b:List Int)(d:Int×Int->Option Int):Int×Int->Option Int
 | (c,a) =>
 if(decide (a < (b.length:Int))) then
  gd (ix a b.length/\True) <|
  gd (b7 (a+1)/\True) <|
  d ((min c (b.getD a.toNat 0),a+1))
 else
  z0I c
def UK(a:List Int):Unit->Option Int
 | _ =>
 gd (ix 0 a.length/\True) <|
 lp (UJ a) ((a.getD (Int.toNat (0:Int)) (0:Int),1))
def JM(a:List Int):Option Int :=
 if(decide ((a.length:Int)<1)) then
  none
 else
  UK a ()
def R0t:Ct:=b9 300 [.dat i64.sl] (fun x=>JM x.1) (fun r:Int=>I r) (fun _=>())
theorem M0Z:Ok prog R0t:=by
 refine c8 [.tmp 2] func300 ?_;intro y ⟨a,_⟩ r H Q hn hr;refine iA [0]<|jN r (fun(_:Unit)=>Z [p 0 (L i64 a)] []) (UK a) (fun _ H=>?_) (fun _ f k j=>?_)
 ·refine iB [0,3] H fun H=>jN r (fun(d:Int)=>Z [p 3 (J d)] []) (z0I) (fun d H=>?_) (fun _ h n l=>?_)
  ·refine iA [2]<|a7<|hr H
  refine iA [0,3,4]<|vB<|lX (fun((b,c):Int×Int)=>Z [p 0 (L i64 a),p 3 (J b),p 4 (I c)] []) ((a.getD (Int.toNat (0:Int)) (0:Int),1)) H fun _ i g e m ⟨b,c⟩ H=>vQ<|iA [0,3,4,15]<|cD H (fun H=>vK<|fQ<|vQ<|vB<|jB [0,3,4] H fun H=>fK<|fQ<|jB [0,3,4] H fun H=>g H) fun H=>vE<|fE<|e<|fX rfl<|h H
 refine iA [0,7]<|cD H (fun H=>Qs H) fun H=>vK<|f H
def A0X:Unit->Option Bool
 | _ =>
 some true
def A0W(b:List Int)(c:Int->Option Bool):Int->Option Bool
 | a =>
 if(decide (a < (b.length:Int))) then
  gd (b7 (a-1)/\ix (a-1) b.length/\ix a b.length/\True) <|
  if(decide (b.getD a.toNat 0<=b.getD (a-1).toNat 0)) then
   some false
  else
   gd (b7 (a+1)/\True) <|
   c (a+1)
 else
  A0X ()
def Dq(a:List Int):Option Bool :=
 lp (A0W a) 1
def T0u:Ct:=b9 161 [.dat i64.sl] (fun x=>Dq x.1) (fun r:Bool=>B r) (fun _=>())
theorem N0I:Ok prog T0u:=by
 refine c8 [.tmp 2] func161 ?_;intro y ⟨b,_⟩ r H Q hn hr;refine iA [0]<|jN r (fun(_:Unit)=>Z [] []) (A0X) (fun _ H=>?_) (fun _ f h c=>?_)
 ·refine iA [2]<|a7<|hr H
 refine iA [0,3]<|vB<|lX (fun(a:Int)=>Z [p 0 (L i64 b),p 3 (I a)] []) 1 H fun _ i g e d a H=>vQ<|iA [0,3,7]<|cD H (fun H=>?_) (fun H=>?_)
 ·refine vK<|fQ<|vQ<|vB<|iB [0,3,19] H fun H=>cD H (fun H=>iA [2]<|a7<|c9<|fR<|d<|c9<|c<|hr H) fun H=>vK<|fK<|fQ<|jB [0,3] H fun H=>g H
 exact vE<|fE<|e<|fX rfl<|f H
def BC(a:List Int):Option Bool :=
 gd ((F6 a).isSome/\(B0 (vl (F6 a)) 1 4).isSome/\(vl (B0 (vl (F6 a)) 1 4)=true/\True->(J8 a 0 100000).isSome)/\((vl (B0 (vl (F6 a)) 1 4)&&vl (J8 a 0 100000))=true/\True->(Dq a).isSome)/\True) <|
 some (vl (B0 (vl (F6 a)) 1 4)&&vl (J8 a 0 100000)&&vl (Dq a))
def R0q:Ct:=b9 305 [.dat i64.sl] (fun x=>BC x.1) (fun r:Bool=>B r) (fun _=>())
theorem P0M:Ok prog R0q:=by
 refine c8 [.tmp 2] func305 ?_;intro y ⟨_,_⟩ r H Q hn hr;have:=hz (tc N0I (tc Nj (tc AD (tc Nk tn))));refine iA [0]<|iB [2] H fun H=>a7<|hr H
def JN(a:q5):Option Bool :=
 gd ((BC a.1).isSome/\(vl (BC a.1)=true/\True->(BC a.2.1).isSome)/\((vl (BC a.1)&&vl (BC a.2.1))=true/\True->b7 ((a.1.length:Int)*(a.2.1.length:Int)))/\((vl (BC a.1)&&vl (BC a.2.1)&&(a.2.2.length:Int)==(a.1.length:Int)*(a.2.1.length:Int))=true/\True->(J8 a.2.2 (-1000000) 1000000).isSome)/\True) <|
 some (vl (BC a.1)&&vl (BC a.2.1)&&(a.2.2.length:Int)==(a.1.length:Int)*(a.2.1.length:Int)&&vl (J8 a.2.2 (-1000000) 1000000))
def R0u:Ct:=b9 299 [.agg y269] (fun x=>JN x.1) (fun r:Bool=>B r) (fun _=>())
theorem P0O:Ok prog R0u:=by
 refine c8 [.tmp 2] func299 ?_;intro y ⟨_,_⟩ r H Q hn hr;have:=hz (tc Nj (tc P0M tn));refine iA [1]<|iB [2] H fun H=>a7<|hr H
def Nt(a:q5)(b:Bool):Option Bool :=
 gd ((JN a).isSome/\(b=true/\(!vl (JN a))=false/\True->(JM a.2.2).isSome)/\True)<|lt (vl (JM a.2.2)) fun c =>
 some (!vl (JN a)||b&&decide (c<0))
def R0v:Ct:=b9 298 [.agg y269,.dat (.pt Ty.bool)] (fun x=>Nt x.1 x.2.1) (fun r:Bool=>B r) (fun _=>())
theorem UL:Ok prog R0v:=by
 refine c8 [.tmp 3] func298 ?_;intro y ⟨_,_,_⟩ r H Q hn hr;have:=hz (tc M0Z (tc P0O tn));refine iA [1,2]<|iD M0Z [3] H fun _ H=>a7<|hr H
def k0i:Unit->Option Int
 | _ =>
 some (-1)
def r0Z(b:List q5)(c:Bool)(d:Int->Option Int):Int->Option Int
 | a =>
 if(decide (a < (b.length:Int))) then
  gd (ix a b.length/\(Nt (b.getD a.toNat (a6 y269)) c).isSome/\True) <|
  if(vl (Nt (b.getD a.toNat (a6 y269)) c)) then
   some a
  else
   gd (b7 (a+1)/\True) <|
   d (a+1)
 else
  k0i ()
def Qt(a:List q5)(b:Bool):Option Int :=
 lp (r0Z a b) 0
def y0K:Ct:=b9 304 [.dat y269.sl,.fn 298 Ty.bool.pt] (fun x=>Qt x.1 x.2.1) (fun r:Int=>I r) (fun _=>())
theorem q0N:Ok prog y0K:=by
 refine c8 [.tmp 4] func304 ?_;intro y ⟨a,e,_⟩ r H Q hn hr;have:=hz (tc UL tn);refine iA [0,1]<|jN r (fun(_:Unit)=>Z [] []) (k0i) (fun _ H=>?_) (fun _ g i c=>?_)
 ·refine iA [4]<|a7<|hr H
 refine iA [0,1,7,8]<|vB<|lX (fun(b:Int)=>Z [p 0 (L y269 a),p 1 (AV.fn 298 [D Ty.bool.pt e]),p 7 (I (a.length:Int)),p 8 (I b)] []) 0 H fun _ j h f d b H=>iA [0,1,7,8,9]<|vQ<|cD H (fun H=>?_) (fun H=>?_)
 ·refine vK<|fQ<|vQ<|vB<|iA [0,1,5,7,8]<|iB [0,1,5,7,8,16] H fun H=>cD H (fun H=>iA [4]<|a7<|c9<|fR<|d<|c9<|c<|hr H) fun H=>vK<|fK<|fQ<|jB [0,1,7,8] H fun H=>h H
 exact vE<|fE<|f<|fX rfl<|g H
def Qu(a:List q5)(b:Bool):Option Bool :=
 gd ((Qt a b).isSome/\True)<|lt (vl (Qt a b)) fun c =>
 some (decide (0<=c))
def y0M:Ct:=b9 297 [.dat y269.sl,.fn 298 (.pt Ty.bool)] (fun x=>Qu x.1 x.2.1) (fun r:Bool=>B r) (fun _=>())
theorem y0u:Ok prog y0M:=by
 refine c8 [.tmp 4] func297 ?_;intro y ⟨_,_,_⟩ r H Q hn hr;have:=hz (tc q0N (tc UL tn));refine iA [0,1]<|iD q0N [4] H fun _ H=>a7<|hr H
def X8(a:List q5)(b:Bool):Option Bool :=
 gd ((((a.length:Int)==2)=true/\True->(Qu a b).isSome)/\True) <|
 some ((a.length:Int)==2&&!vl (Qu a b))
def R0B:Ct:=b9 287 [.dat y269.sl,.dat Ty.bool] (fun x=>X8 x.1 x.2.1) (fun r:Bool=>B r) (fun _=>())
theorem P0S:Ok prog R0B:=by
 refine c8 [.tmp 4] func287 ?_;intro y ⟨_,_,_⟩ r H Q hn hr;have:=hz (tc y0u (tc UL tn));refine iA [0,3]<|iB [4] H fun H=>a7<|hr H
def UM(a:F8):Option Bool :=
 some a.2.2.2
def R0s:Ct:=b9 302 [.agg y293] (fun x=>UM x.1) (fun r:Bool=>B r) (fun _=>())
theorem M0Y:Ok prog R0s:=by
 refine c8 [.tmp 2] func302 ?_;intro y ⟨_,_⟩ r H Q hn hr;refine iA [1]<|iA [2]<|a7<|hr H
def k0j:Unit->Option Int
 | _ =>
 some (-1)
def s0a(b:List F8)(c:Int->Option Int):Int->Option Int
 | a =>
 if(decide (a < (b.length:Int))) then
  gd (ix a b.length/\(UM (b.getD a.toNat (a6 y293))).isSome/\True) <|
  if(vl (UM (b.getD a.toNat (a6 y293)))) then
   some a
  else
   gd (b7 (a+1)/\True) <|
   c (a+1)
 else
  k0j ()
def Qv(a:List F8):Option Int :=
 lp (s0a a) 0
def y0L:Ct:=b9 301 [.dat y293.sl,.nof 302] (fun x=>Qv x.1) (fun r:Int=>I r) (fun _=>())
theorem q0O:Ok prog y0L:=by
 refine c8 [.tmp 4] func301 ?_;intro y ⟨a,_,_⟩ r H Q hn hr;have:=hz (tc M0Y tn);refine iA [0,1]<|jN r (fun(_:Unit)=>Z [] []) (k0j) (fun _ H=>?_) (fun _ f h c=>?_)
 ·refine iA [4]<|a7<|hr H
 refine iA [0,1,7,8]<|vB<|lX (fun(b:Int)=>Z [p 0 (L y293 a),p 1 (AV.fn 302 []),p 7 (I (a.length:Int)),p 8 (I b)] []) 0 H fun _ i g e d b H=>iA [0,1,7,8,9]<|vQ<|cD H (fun H=>?_) (fun H=>?_)
 ·refine vK<|fQ<|vQ<|vB<|iA [0,1,5,7,8]<|iB [0,1,5,7,8,16] H fun H=>cD H (fun H=>iA [4]<|a7<|c9<|fR<|d<|c9<|c<|hr H) fun H=>vK<|fK<|fQ<|jB [0,1,7,8] H fun H=>g H
 exact vE<|fE<|e<|fX rfl<|f H
def JO(a:l5):Option Int :=
 gd ((Qv a.2.2.1).isSome/\True)<|lt (vl (Qv a.2.2.1)) fun b =>
 some b
def R0A:Ct:=b9 288 [.agg y153] (fun x=>JO x.1) (fun r:Int=>I r) (fun _=>())
theorem N0a:Ok prog R0A:=by
 refine c8 [.tmp 2] func288 ?_;intro y ⟨_,_⟩ r H Q hn hr;have:=hz (tc M0Y (tc q0O tn));refine iA [1]<|iD q0O [2] H fun _ H=>a7<|hr H
def Qw(a:Int):Option Bool :=
 some (a==4||a==5)
def R0C:Ct:=b9 286 [.dat i64] (fun x=>Qw x.1) (fun r:Bool=>B r) (fun _=>())
theorem P0T:Ok prog R0C:=by
 refine c8 [.tmp 2] func286 ?_;intro y ⟨_,_⟩ r H Q hn hr;refine iA [0]<|iA [2]<|a7<|hr H
def Nu(b:l5)(a:A6):Bool->Option Bool
 | c =>
 if c then
  gd (ix a.2.1 b.2.2.1.length/\True) <|
  some ((b.2.2.1.getD a.2.1.toNat (a6 y293)).2.2.2&&a.2.2.2.1==0)
 else
  some false
def HL(b:l5)(a:A6):Option Bool :=
 gd ((Qw a.1).isSome/\True) <|
 if(vl (Qw a.1)) then
  gd (((a.2.2.2.1==0&&(a.2.2.2.2.2.length:Int)==0)=true/\True->(X8 a.2.2.2.2.1 false).isSome)/\((a.2.2.2.1==0&&(a.2.2.2.2.2.length:Int)==0&&vl (X8 a.2.2.2.2.1 false))=true/\True->(JO b).isSome)/\((a.2.2.2.1==0&&(a.2.2.2.2.2.length:Int)==0&&vl (X8 a.2.2.2.2.1 false)&&a.2.1==vl (JO b)&&decide (0<=a.2.1))=true/\True->(HK b a.2.2.1).isSome)/\True)<|lt (vl (JO b)) fun c =>
  some (a.2.2.2.1==0&&(a.2.2.2.2.2.length:Int)==0&&vl (X8 a.2.2.2.2.1 false)&&a.2.1==c&&decide (0<=a.2.1)&&vl (HK b a.2.2.1)&&a.2.2.1 != a.2.1)
 else
  gd ((X8 a.2.2.2.2.1 true).isSome/\((!vl (X8 a.2.2.2.2.1 true))=false/\True->(X8 a.2.2.2.2.2 true).isSome)/\((!vl (X8 a.2.2.2.2.1 true)||!vl (X8 a.2.2.2.2.2 true))=false/\True->(X7 b).isSome)/\((!vl (X8 a.2.2.2.2.1 true)||!vl (X8 a.2.2.2.2.2 true)||a.2.2.1 != vl (X7 b))=false/\True->(HK b a.2.1).isSome)/\True)<|lt (vl (X7 b)) fun d =>
  if(!vl (X8 a.2.2.2.2.1 true)||!vl (X8 a.2.2.2.2.2 true)||a.2.2.1 != d||!vl (HK b a.2.1)) then
   some false
  else
   if(a.1==1) then
    gd (ix a.2.1 b.2.2.1.length/\((!(b.2.2.1.getD a.2.1.toNat (a6 y293)).2.2.2)=true/\True->(B0 a.2.2.2.1 1 3).isSome)/\True) <|
    some (!(b.2.2.1.getD a.2.1.toNat (a6 y293)).2.2.2&&vl (B0 a.2.2.2.1 1 3))
   else
    if(a.1==2) then
     Nu b a (a.1==2)
    else
     Nu b a (a.1==3)
def R0L:Ct:=b9 273 [.agg y153,.agg y158] (fun x=>HL x.1 x.2.1) (fun r:Bool=>B r) (fun _=>())
theorem P0Y:Ok prog R0L:=by
 refine c8 [.tmp 4] func273 ?_;intro y ⟨a,c,_⟩ r H Q hn hr;have:=hz (tc AD (tc P0R (tc Ns (tc P0S (tc N0a (tc P0T tn))))));refine iA [2,3]<|vQ<|iB [2,3,7] H fun H=>cD H (fun H=>iD N0a [4] H fun _ H=>a7<|fR<|hr H) fun H=>vK<|fQ<|vQ<|iD Ns [2,3,70] H fun _ H=>cD H (fun H=>iA [4]<|a7<|fR<|hr H) fun H=>vK<|fQ<|vQ<|iA [2,3,72]<|vB<|iA [2,3,72,73]<|cD H (fun H=>iB [4] H fun H=>a7<|c9<|fR<|hr H) fun H=>jN r (fun(b:Bool)=>Z (Bv [p 88 (B b)]) [(3,K 158 y158 c),(2,K 153 y153 a)]) (Nu a c) (fun b H=>?_) (fun _ d f e=>?_)
 ·refine cD H (fun H=>iB [4] H fun H=>a7<|c9<|fR<|hr H) fun H=>vK<|fK<|fQ<|iA [4]<|a7<|hr H
 refine iA [2,3,72,88]<|cD H (fun H=>vK<|d H) fun H=>jA [2,3,88]<|d H
def UN(a:A6)(b:A6):Option Bool :=
 some (a.1==b.1&&a.2.1==b.2.1&&a.2.2.1==b.2.2.1)
def R0K:Ct:=b9 275 [.agg y158,.dat (.pt y158)] (fun x=>UN x.1 x.2.1) (fun r:Bool=>B r) (fun _=>())
theorem UO:Ok prog R0K:=by
 refine c8 [.tmp 3] func275 ?_;intro y ⟨_,_,_⟩ r H Q hn hr;refine iA [1,2]<|iA [3]<|a7<|hr H
def k0l:Unit->Option Int
 | _ =>
 some (-1)
def s0c(b:List A6)(c:A6)(d:Int->Option Int):Int->Option Int
 | a =>
 if(decide (a < (b.length:Int))) then
  gd (ix a b.length/\(UN (b.getD a.toNat (a6 y158)) c).isSome/\True) <|
  if(vl (UN (b.getD a.toNat (a6 y158)) c)) then
   some a
  else
   gd (b7 (a+1)/\True) <|
   d (a+1)
 else
  k0l ()
def Qx(a:List A6)(b:A6):Option Int :=
 lp (s0c a b) 0
def y0O:Ct:=b9 290 [.dat y158.sl,.fn 275 y158.pt] (fun x=>Qx x.1 x.2.1) (fun r:Int=>I r) (fun _=>())
theorem q0P:Ok prog y0O:=by
 refine c8 [.tmp 4] func290 ?_;intro y ⟨a,e,_⟩ r H Q hn hr;have:=hz (tc UO tn);refine iA [0,1]<|jN r (fun(_:Unit)=>Z [] []) (k0l) (fun _ H=>?_) (fun _ g i c=>?_)
 ·refine iA [4]<|a7<|hr H
 refine iA [0,1,7,8]<|vB<|lX (fun(b:Int)=>Z [p 0 (L y158 a),p 1 (AV.fn 275 [D y158.pt e]),p 7 (I (a.length:Int)),p 8 (I b)] []) 0 H fun _ j h f d b H=>iA [0,1,7,8,9]<|vQ<|cD H (fun H=>?_) (fun H=>?_)
 ·refine vK<|fQ<|vQ<|vB<|iA [0,1,5,7,8]<|iB [0,1,5,7,8,16] H fun H=>cD H (fun H=>iA [4]<|a7<|c9<|fR<|d<|c9<|c<|hr H) fun H=>vK<|fK<|fQ<|jB [0,1,7,8] H fun H=>h H
 exact vE<|fE<|f<|fX rfl<|g H
def Nv(a:List A6)(b:A6):Option Bool :=
 gd ((Qx a b).isSome/\True)<|lt (vl (Qx a b)) fun c =>
 some (decide (0<=c))
def y0Q:Ct:=b9 274 [.dat y158.sl,.fn 275 (.pt y158)] (fun x=>Nv x.1 x.2.1) (fun r:Bool=>B r) (fun _=>())
theorem y0v:Ok prog y0Q:=by
 refine c8 [.tmp 4] func274 ?_;intro y ⟨_,_,_⟩ r H Q hn hr;have:=hz (tc UH (tc q0P (tc UO tn)));refine iA [0,1]<|iD q0P [4] H fun _ H=>a7<|hr H
def Qy(a:l5):Unit->Option Bool
 | _ =>
 some (decide ((a.2.2.2.1.length:Int)<=8))
def z0Q(a:l5)(d:Int->Option Bool):Int->Option Bool
 | b =>
 if(decide (b < (a.2.2.2.1.length:Int))) then
  gd (ix b a.2.2.2.1.length/\True)<|lt (a.2.2.2.1.getD b.toNat (a6 y158)) fun c =>
  gd ((HL a c).isSome/\((!vl (HL a c))=false/\True->(0:Int)<=(0:Int)/\(0:Int)<=b/\b<=(a.2.2.2.1.length:Int))/\((!vl (HL a c))=false/\True->(Nv (List.take b.toNat a.2.2.2.1) c).isSome)/\True) <|
  if(!vl (HL a c)||vl (Nv (List.take b.toNat a.2.2.2.1) c)) then
   some false
  else
   gd (b7 (b+1)/\True) <|
   d (b+1)
 else
  Qy a ()
def HM(a:l5):Option Bool :=
 lp (z0Q a) 0
def R0U:Ct:=b9 259 [.agg y153] (fun x=>HM x.1) (fun r:Bool=>B r) (fun _=>())
theorem Q0e:Ok prog R0U:=by
 refine c8 [.tmp 2] func259 ?_;intro y ⟨a,_⟩ r H Q hn hr;have:=hz (tc q0Q (tc y0v (tc UO (tc P0Y tn))));refine iA [1]<|jN r (fun(_:Unit)=>Z [p 1 (R 1)] [(1,K 153 y153 a)]) (Qy a) (fun _ H=>?_) (fun _ g i d=>?_)
 ·refine iA [2]<|a7<|hr H
 refine iA [1,6,7,8]<|vB<|lX (fun(b:Int)=>Z [p 1 (R 1),p 6 (L y158 a.2.2.2.1),p 7 (I (a.2.2.2.1.length:Int)),p 8 (I b)] [(1,K 153 y153 a)]) 0 H fun _ j h f e b H=>iA [1,6,7,8,9]<|vQ<|cD H (fun H=>?_) (fun H=>?_)
 ·refine vK<|fQ<|vQ<|vB<|qD (fun c=>Z (G8 b [p 4 (R 4),p 6 (L y158 a.2.2.2.1),p 7 (I (a.2.2.2.1.length:Int)),p 8 (I b)]) [(4,K 158 y158 c),(1,K 153 y153 a)]) H fun c H=>iB [1,6,7,8,24] H fun H=>cD H (fun H=>iA [2]<|a7<|c9<|fR<|e<|c9<|d<|hr H) fun H=>vK<|fK<|fQ<|jB [1,6,7,8] H fun H=>h H
 exact vE<|fE<|f<|fX rfl<|g H
def Nw(a:List F8):List ByteArray->Option Bool
 | b =>
 gd ((Dp a).isSome/\(B0 (vl (Dp a)) 2 5).isSome/\(vl (B0 (vl (Dp a)) 2 5)=true/\True->(Ac b).isSome)/\True) <|
 some (vl (B0 (vl (Dp a)) 2 5)&&vl (Ac b))
def Qz(a:Int)(b:List ByteArray×Int->Option Bool):List ByteArray->Option Bool
 | c =>
 gd (b7 (a+1)/\True) <|
 b (c,a+1)
def z0R(b:List F8)(e:List ByteArray×Int->Option Bool):List ByteArray×Int->Option Bool
 | (d,c) =>
 if(decide (c < (b.length:Int))) then
  gd (ix c b.length/\True)<|lt (b.getD c.toNat (a6 y293)) fun a =>
  gd ((d.length+[a.1].length<=9223372036854775807/\(d.length+[a.1].length)*16<=140737488355328)/\True) <|
  gd (b7 ((b.length:Int)-1)/\True) <|
  if(c==(b.length:Int)-1) then
   if(a.2.1 != 2||a.2.2.1 != 0||a.2.2.2) then
    some false
   else
    Qz c e (d++[a.1])
  else
   gd (((a.2.1 != 1)=false/\True->(B0 a.2.2.1 0 500).isSome)/\True) <|
   if(a.2.1 != 1||!vl (B0 a.2.2.1 0 500)) then
    some false
   else
    Qz c e (d++[a.1])
 else
  Nw b d
def Gg(a:List F8):Option Bool :=
 lp (z0R a) ([],0)
def R0V:Ct:=b9 258 [.dat y293.sl] (fun x=>Gg x.1) (fun r:Bool=>B r) (fun _=>())
theorem Q0f:Ok prog R0V:=by
 refine c8 [.tmp 2] func258 ?_;intro y ⟨a,_⟩ r H Q hn hr;have:=hz (tc UD (tc AD (tc UI tn)));refine iA [0]<|iA [0,3]<|jN r (fun(h:List ByteArray)=>Z [p 0 (L y293 a),p 3 (O 17)] [(17,A 9 Ty.str h 0)]) (Nw a) (fun h H=>?_) (fun _ m q g=>?_)
 ·refine iB [2] H fun H=>a7<|hr H
 refine iA [0,3,6,7,8]<|vB<|lX (fun((c,b):List ByteArray×Int)=>Z [p 0 (L y293 a),p 3 (O 17),p 6 (L y293 a),p 7 (I (a.length:Int)),p 8 (I b)] [(17,A 9 Ty.str c 0)]) ([],0) H fun _ k n l i ⟨c,b⟩ H=>iA [0,3,6,7,8,9]<|vQ<|cD H (fun H=>?_) (fun H=>?_)
 ·refine vK<|fQ<|jN r (fun(e:List ByteArray)=>Z [p 0 (L y293 a),p 3 (O 17),p 6 (L y293 a),p 7 (I (a.length:Int)),p 8 (I b)] [(17,A 9 Ty.str e 0)]) (Qz b k) (fun e H=>?_) (fun _ d o j=>?_)
  ·refine jB [0,3,6,7,8] H fun H=>n H
  refine vB<|qD (fun f=>Z [p 0 (L y293 a),p 3 (O 17),p 4 (I b),p 5 (R 5),p 6 (L y293 a),p 7 (I (a.length:Int)),p 8 (I b)] [(5,K 293 y293 f),(17,A 9 Ty.str c 0)]) H fun f H=>iB [0,3,4,5,6,7,8] H fun H=>iB [0,3,5,6,7,8,22] H fun H=>cD H (fun H=>?_) (fun H=>?_)
  ·refine iA [0,3,6,7,8,34]<|cD H (fun H=>iA [2]<|a7<|c9<|j<|i<|c9<|g<|hr H) fun H=>vK<|fK<|d H
  refine iB [0,3,6,7,8,43] H fun H=>cD H (fun H=>iA [2]<|a7<|c9<|j<|i<|c9<|g<|hr H) fun H=>vK<|fK<|d H
 exact vE<|fE<|l<|fX rfl<|m H
def Nx(a:l5):Option Bool :=
 gd ((T9 a.1).isSome/\(vl (T9 a.1)=true/\True->(Gg a.2.2.1).isSome)/\((vl (T9 a.1)&&vl (Gg a.2.2.1))=true/\True->(HM a).isSome)/\((vl (T9 a.1)&&vl (Gg a.2.2.1)&&vl (HM a))=true/\True->(B0 a.2.2.2.2.2.1 0 100000).isSome)/\((vl (T9 a.1)&&vl (Gg a.2.2.1)&&vl (HM a)&&vl (B0 a.2.2.2.2.2.1 0 100000))=true/\True->(B0 a.2.2.2.2.2.2 0 100000).isSome)/\((vl (T9 a.1)&&vl (Gg a.2.2.1)&&vl (HM a)&&vl (B0 a.2.2.2.2.2.1 0 100000)&&vl (B0 a.2.2.2.2.2.2 0 100000))=true/\True->(Qr a).isSome)/\True) <|
 some (vl (T9 a.1)&&vl (Gg a.2.2.1)&&vl (HM a)&&vl (B0 a.2.2.2.2.2.1 0 100000)&&vl (B0 a.2.2.2.2.2.2 0 100000)&&vl (Qr a))
def S0l:Ct:=b9 232 [.agg y153] (fun x=>Nx x.1) (fun r:Bool=>B r) (fun _=>())
theorem Q0m:Ok prog S0l:=by
 refine c8 [.tmp 2] func232 ?_;intro y ⟨_,_⟩ r H Q hn hr;have:=hz (tc Q0d (tc AD (tc Q0e (tc Q0f (tc UC tn)))));refine iA [1]<|iB [2] H fun H=>a7<|hr H
def Ny(b:List l5):List ByteArray->Option Bool
 | a =>
 gd ((decide ((b.length:Int)<=8)=true/\True->(Ac a).isSome)/\True) <|
 some (decide ((b.length:Int)<=8)&&vl (Ac a))
def A0w(c:List l5)(e:List ByteArray×Int->Option Bool):List ByteArray×Int->Option Bool
 | (d,a) =>
 if(decide (a < (c.length:Int))) then
  gd (ix a c.length/\True)<|lt (c.getD a.toNat (a6 y153)) fun b =>
  gd ((Nx b).isSome/\True) <|
  if(!vl (Nx b)) then
   some false
  else
   gd ((d.length+[b.1].length<=9223372036854775807/\(d.length+[b.1].length)*16<=140737488355328)/\True) <|
   gd (b7 (a+1)/\True) <|
   e (d++[b.1],a+1)
 else
  Ny c d
def Nz(a:List l5):Option Bool :=
 lp (A0w a) ([],0)
def S0Q:Ct:=b9 196 [.agg y153.sl] (fun x=>Nz x.1) (fun r:Bool=>B r) (fun _=>())
theorem Q0A:Ok prog S0Q:=by
 refine c8 [.tmp 2] func196 ?_;intro y ⟨a,_⟩ r H Q hn hr;have:=hz (tc UD (tc Q0m tn));refine iA [1]<|iA [1,3]<|jN r (fun(d:List ByteArray)=>Z (DT []) [(1,bx 49 [L y153 a]),(20,A 9 Ty.str d 0)]) (Ny a) (fun d H=>?_) (fun _ f k g=>?_)
 ·refine iB [2] H fun H=>a7<|hr H
 refine iA [1,3,7,8,9]<|vB<|lX (fun((b,c):List ByteArray×Int)=>Z (DT [p 7 (L y153 a),p 8 (I (a.length:Int)),p 9 (I c)]) [(1,bx 49 [L y153 a]),(20,A 9 Ty.str b 0)]) ([],0) H fun _ l j i h ⟨b,c⟩ H=>iA [1,3,7,8,9,10]<|vQ<|cD H (fun H=>?_) (fun H=>?_)
 ·refine vK<|fQ<|vQ<|vB<|qD (fun e=>Z (DT [p 5 (R 5),p 7 (L y153 a),p 8 (I (a.length:Int)),p 9 (I c)]) [(5,K 153 y153 e),(1,bx 49 [L y153 a]),(20,A 9 Ty.str b 0)]) H fun e H=>vQ<|iB [1,3,5,7,8,9,15] H fun H=>cD H (fun H=>iA [2]<|a7<|fR<|c9<|fR<|h<|c9<|g<|hr H) fun H=>vK<|fQ<|jB [1,3,7,8,9] H fun H=>fK<|fQ<|jB [1,3,7,8,9] H fun H=>j H
 exact vE<|fE<|i<|fX rfl<|f H
def k0r:Unit->Option Int
 | _ =>
 some (-1)
def s0f(b:List Int)(c:Int->Option Int):Int->Option Int
 | a =>
 if(decide (a < (b.length:Int))) then
  gd (ix a b.length/\(Uz (b.getD a.toNat 0)).isSome/\True) <|
  if(vl (Uz (b.getD a.toNat 0))) then
   some a
  else
   gd (b7 (a+1)/\True) <|
   c (a+1)
 else
  k0r ()
def QA(a:List Int):Option Int :=
 lp (s0f a) 0
def y0T:Ct:=b9 237 [.dat i64.sl,.nof 201] (fun x=>QA x.1) (fun r:Int=>I r) (fun _=>())
theorem q0S:Ok prog y0T:=by
 refine c8 [.tmp 4] func237 ?_;intro y ⟨a,_,_⟩ r H Q hn hr;have:=hz (tc UA tn);refine iA [0,1]<|jN r (fun(_:Unit)=>Z [] []) (k0r) (fun _ H=>?_) (fun _ f h c=>?_)
 ·refine iA [4]<|a7<|hr H
 refine iA [0,1,7,8]<|vB<|lX (fun(b:Int)=>Z [p 0 (L i64 a),p 1 (AV.fn 201 []),p 7 (I (a.length:Int)),p 8 (I b)] []) 0 H fun _ i g e d b H=>iA [0,1,7,8,9]<|vQ<|cD H (fun H=>?_) (fun H=>?_)
 ·refine vK<|fQ<|vQ<|vB<|iA [0,1,5,7,8]<|iB [0,1,5,7,8,16] H fun H=>cD H (fun H=>iA [4]<|a7<|c9<|fR<|d<|c9<|c<|hr H) fun H=>vK<|fK<|fQ<|jB [0,1,7,8] H fun H=>g H
 exact vE<|fE<|e<|fX rfl<|f H
def QB(a:List Int):Option Bool :=
 gd ((QA a).isSome/\True)<|lt (vl (QA a)) fun b =>
 some (decide (0<=b))
def y0W:Ct:=b9 200 [.dat i64.sl,.nof 201] (fun x=>QB x.1) (fun r:Bool=>B r) (fun _=>())
theorem y0x:Ok prog y0W:=by
 refine c8 [.tmp 4] func200 ?_;intro y ⟨_,_,_⟩ r H Q hn hr;have:=hz (tc q0S (tc UA tn));refine iA [0,1]<|iD q0S [4] H fun _ H=>a7<|hr H
def NA:List Int->Option Bool
 | a =>
 gd ((QB a).isSome/\True) <|
 some (!vl (QB a))
def QC(b:Int)(c:Int×List Int->Option Bool):List Int->Option Bool
 | a =>
 gd (b7 (b+1)/\True) <|
 c (b+1,a)
def B0i(d:q9)(e:Int×List Int->Option Bool):Int×List Int->Option Bool
 | (c,b) =>
 if(decide (c < (d.2.2.length:Int))) then
  gd (ix c d.2.2.length/\True)<|lt (d.2.2.getD c.toNat (a6 y231)) fun a =>
  gd (((a.2.1 != 1&&a.2.1 != 2)=false/\True->(HJ d a.2.2).isSome)/\True) <|
  if(a.2.1 != 1&&a.2.1 != 2||!vl (HJ d a.2.2)) then
   some false
  else
   if(a.2.1==1) then
    gd (ix a.2.2 b.length/\a.2.2.toNat<b.length/\b7 (b.getD a.2.2.toNat 0+1)/\ix a.2.2 b.length/\a.2.2.toNat<b.length/\True) <|
    QC c e (b.set a.2.2.toNat (b.getD a.2.2.toNat 0+1))
   else
    QC c e b
 else
  NA b
def QD(b:q9):List Int->Option Bool
 | a =>
 lp (B0i b) (0,a)
def B0j(c:q9)(e:List l5)(g:Int×List Int->Option Bool):Int×List Int->Option Bool
 | (d,b) =>
 if(decide (d < (c.1.length:Int))) then
  gd (ix d c.1.length/\True)<|lt (c.1.getD d.toNat (a6 y155)) fun a =>
  gd ((Np c e a).isSome/\True) <|
  if(!vl (Np c e a)) then
   some false
  else
   gd (b7 ((a.2.2.length:Int)-1)/\ix ((a.2.2.length:Int)-1) a.2.2.length/\ix (a.2.2.getD ((a.2.2.length:Int)-1).toNat 0) b.length/\Int.toNat (a.2.2.getD ((a.2.2.length:Int)-1).toNat 0)<b.length/\b7 (b.getD (Int.toNat (a.2.2.getD ((a.2.2.length:Int)-1).toNat 0)) 0+1)/\ix (a.2.2.getD ((a.2.2.length:Int)-1).toNat 0) b.length/\Int.toNat (a.2.2.getD ((a.2.2.length:Int)-1).toNat 0)<b.length/\True)<|lt (b.set (Int.toNat (a.2.2.getD ((a.2.2.length:Int)-1).toNat 0)) (b.getD (Int.toNat (a.2.2.getD ((a.2.2.length:Int)-1).toNat 0)) 0+1)) fun f =>
   gd (b7 (d+1)/\True) <|
   g (d+1,f)
 else
  QD c b
def NB(b:List l5)(a:q9):Option Bool :=
 gd ((Nz b).isSome/\((!vl (Nz b))=false/\True->(Qn a).isSome)/\True) <|
 if(!vl (Nz b)||!vl (Qn a)) then
  some false
 else
  gd ((0<=(a.2.1.length:Int)/\(a.2.1.length:Int)=(a.2.1.length:Int)/\(a.2.1.length:Int).toNat*8<=281474976710656/\(a.2.1.length:Int)<=9223372036854775807)/\True) <|
  lp (B0j a b) ((0,List.replicate (a.2.1.length:Int).toNat 0))
def T0I:Ct:=b9 147 [.agg y153.sl,.agg y53] (fun x=>NB x.1 x.2.1) (fun r:Bool=>B r) (fun _=>())
theorem Q0T:Ok prog T0I:=by
 refine c8 [.tmp 4] func147 ?_;intro y ⟨h,a,_⟩ r H Q hn hr;have:=hz (tc UA (tc y0x (tc N0u (tc Q0y (tc Q0z (tc Q0A tn))))));refine iA [2,3]<|vQ<|iB [2,3,17] H fun H=>cD H (fun H=>iA [4]<|a7<|fR<|hr H) fun H=>vK<|fQ<|iB [2,3,5] H fun H=>jN r (fun(i:List Int)=>Z [p 3 (R 3),p 5 (O 21)] [(21,A 3 i64 i 0),(3,K 53 y53 a)]) (QD a) (fun i H=>?_) (fun _ x T F=>?_)
 ·refine jN r (fun(d:List Int)=>Z [p 5 (O 21)] [(21,A 3 i64 d 0)]) (NA) (fun d H=>?_) (fun _ u G q=>?_)
  ·refine iB [4] H fun H=>a7<|hr H
  refine iA [3,5,49,50,51]<|vB<|lX (fun((c,b):Int×List Int)=>Z [p 3 (R 3),p 5 (O 21),p 49 (L y231 a.2.2),p 50 (I (a.2.2.length:Int)),p 51 (I c)] [(21,A 3 i64 b 0),(3,K 53 y53 a)]) (0,i) H fun _ t n E w ⟨c,b⟩ H=>iA [3,5,49,50,51,52]<|vQ<|cD H (fun H=>?_) (fun H=>?_)
  ·refine vK<|fQ<|jN r (fun(e:List Int)=>Z [p 3 (R 3),p 5 (O 21),p 49 (L y231 a.2.2),p 50 (I (a.2.2.length:Int)),p 51 (I c)] [(21,A 3 i64 e 0),(3,K 53 y53 a)]) (QC c t) (fun e H=>?_) (fun _ m P o=>?_)
   ·refine jB [3,5,49,50,51] H fun H=>n H
   refine vB<|qD (fun f=>Z [p 3 (R 3),p 5 (O 21),p 9 (R 9),p 49 (L y231 a.2.2),p 50 (I (a.2.2.length:Int)),p 51 (I c)] [(9,K 231 y231 f),(21,A 3 i64 b 0),(3,K 53 y53 a)]) H fun f H=>vQ<|iB [3,5,9,49,50,51,69] H fun H=>cD H (fun H=>iA [4]<|a7<|fR<|c9<|o<|w<|c9<|q<|hr H) fun H=>vK<|fQ<|iA [3,5,9,49,50,51,72]<|cD H (fun H=>jB [3,5,49,50,51] H fun H=>fK<|m H) fun H=>vK<|fK<|m H
  exact vE<|fE<|E<|fX rfl<|u H
 refine iA [2,3,5,23,24,25]<|vB<|lX (fun((g,j):Int×List Int)=>Z (Bv [p 5 (O 21),p 23 (L y155 a.1),p 24 (I (a.1.length:Int)),p 25 (I g)]) ((21,A 3 i64 j 0)::Hi a h)) ((0,List.replicate (a.2.1.length:Int).toNat 0)) H fun _ V s z v ⟨g,j⟩ H=>iA [2,3,5,23,24,25,26]<|vQ<|cD H (fun H=>?_) (fun H=>?_)
 ·refine vK<|fQ<|vQ<|vB<|qD (fun k=>Z (Bv [p 5 (O 21),p 7 (R 7),p 23 (L y155 a.1),p 24 (I (a.1.length:Int)),p 25 (I g)]) ((7,K 155 y155 k)::(21,A 3 i64 j 0)::Hi a h)) H fun k H=>vQ<|iB [2,3,5,7,23,24,25,33] H fun H=>cD H (fun H=>iA [4]<|a7<|fR<|c9<|fR<|v<|c9<|F<|hr H) fun H=>vK<|fQ<|zD (fun l=>Z (Bv [p 5 (O 21),p 23 (L y155 a.1),p 24 (I (a.1.length:Int)),p 25 (I g)]) ((21,A 3 i64 l 0)::(7,K 155 y155 k)::Hi a h)) H fun l H=>fK<|fQ<|jB [2,3,5,23,24,25] H fun H=>s H
 exact vE<|fE<|z<|fX rfl<|x H
def B0R:Unit->Option Bool
 | _ =>
 some true
def B0P(c:List Int)(d:j0)(e:Int->Option Bool):Int->Option Bool
 | a =>
 if(decide (a < (d.2.2.length:Int))) then
  gd (ix a d.2.2.length/\True)<|lt (d.2.2.getD a.toNat (a6 y172)) fun b =>
  gd (ix a c.length/\a.toNat<c.length/\(Nl b (c.getD a.toNat 0)).isSome/\True) <|
  if(!vl (Nl b (c.getD a.toNat 0))) then
   some false
  else
   gd (b7 (a+1)/\True) <|
   e (a+1)
 else
  B0R ()
def QE(a:j0):List Int->Option Bool
 | b =>
 lp (B0P b a) 0
def QF(a:Int)(c:Int×List Int->Option Bool):List Int->Option Bool
 | b =>
 gd (b7 (a+1)/\True) <|
 c (a+1,b)
def B0Q(d:List C3)(f:j0)(e:Int×List Int->Option Bool):Int×List Int->Option Bool
 | (c,a) =>
 if(decide (c < (d.length:Int))) then
  gd (ix c d.length/\c.toNat<d.length/\True)<|lt (d.getD c.toNat (a6 y235)) fun b =>
  if(!b.2.2.2) then
   gd (ix b.2.2.1 a.length/\b.2.2.1.toNat<a.length/\b7 (a.getD b.2.2.1.toNat 0+1)/\ix b.2.2.1 a.length/\b.2.2.1.toNat<a.length/\True)<|lt (a.set b.2.2.1.toNat (a.getD b.2.2.1.toNat 0+1)) fun g =>
   QF c e g
  else
   QF c e a
 else
  QE f a
def Fc(a:j0):Option Bool :=
 gd ((NB a.1 a.2.1).isSome/\True) <|
 if(!vl (NB a.1 a.2.1)||(a.2.2.length:Int) != (a.2.1.2.1.length:Int)) then
  some false
 else
  gd ((0<=(a.2.2.length:Int)/\(a.2.2.length:Int)=(a.2.2.length:Int)/\(a.2.2.length:Int).toNat*8<=281474976710656/\(a.2.2.length:Int)<=9223372036854775807)/\True) <|
  gd ((Cw a.2.1).isSome/\True)<|lt (vl (Cw a.2.1)) fun b =>
  lp (B0Q b a) ((0,List.replicate (a.2.2.length:Int).toNat 0))
def U0x:Ct:=b9 100 [.agg j3] (fun x=>Fc x.1) (fun r:Bool=>B r) (fun _=>())
theorem N0Y:Ok prog U0x:=by
 refine c8 [.tmp 2] func100 ?_;intro y ⟨a,_⟩ r H Q hn hr;have:=hz (tc Q0S (tc Gd (tc Q0T tn)));refine iA [1]<|vQ<|iB [1,23] H fun H=>cD H (fun H=>iA [2]<|a7<|fR<|hr H) fun H=>vK<|fQ<|iB [1,3] H fun H=>jN r (fun(f:List Int)=>Z [p 1 (R 1),p 3 (O 27)] [(27,A 2 i64 f 0),(1,K 56 j3 a)]) (QE a) (fun f H=>?_) (fun _ u x G=>?_)
 ·refine jN r (fun(_:Unit)=>Z [] []) (B0R) (fun _ H=>?_) (fun _ n3 F s=>?_)
  ·refine iA [2]<|a7<|hr H
  refine iA [3,48,49,50]<|vB<|lX (fun(b:Int)=>Z [p 3 (O 27),p 48 (L y172 a.2.2),p 49 (I (a.2.2.length:Int)),p 50 (I b)] [(27,A 2 i64 f 0)]) 0 H fun _ z q o l b H=>iA [3,48,49,50,51]<|vQ<|cD H (fun H=>?_) (fun H=>?_)
  ·refine vK<|fQ<|vQ<|vB<|qD (fun e=>Z [p 3 (O 27),p 6 (I b),p 7 (R 7),p 48 (L y172 a.2.2),p 49 (I (a.2.2.length:Int)),p 50 (I b)] [(7,K 172 y172 e),(27,A 2 i64 f 0)]) H fun e H=>iB [3,48,49,50,61] H fun H=>cD H (fun H=>iA [2]<|a7<|c9<|fR<|l<|c9<|s<|hr H) fun H=>vK<|fK<|fQ<|jB [3,48,49,50] H fun H=>q H
  exact vE<|fE<|o<|fX rfl<|n3 H
 refine iD Gd [1,3,30,31,32] H fun c H=>vB<|lX (fun((d,g):Int×List Int)=>Z [p 1 (R 1),p 3 (O 27),p 30 (O 30),p 31 (I (c.length:Int)),p 32 (I d)] [(30,A 235 y235 c 0),(27,A 2 i64 g 0),(1,K 56 j3 a)]) ((0,List.replicate (a.2.2.length:Int).toNat 0)) H fun _ n m t E ⟨d,g⟩ H=>iA [1,3,30,31,32,33]<|vQ<|cD H (fun H=>?_) (fun H=>?_)
 ·refine vK<|fQ<|jN r (fun(i:List Int)=>Z [p 1 (R 1),p 3 (O 27),p 30 (O 30),p 31 (I (c.length:Int)),p 32 (I d)] [(27,A 2 i64 i 0),(30,A 235 y235 c 0),(1,K 56 j3 a)]) (QF d n) (fun i H=>?_) (fun _ k v w=>?_)
  ·refine jB [1,3,30,31,32] H fun H=>m H
  refine vB<|qD (fun h=>Z [p 1 (R 1),p 3 (O 27),p 5 (R 5),p 30 (O 30),p 31 (I (c.length:Int)),p 32 (I d)] [(5,bx 235 (A7 true y235 h)),(30,A 235 y235 c 0),(27,A 2 i64 g 0),(1,K 56 j3 a)]) H fun h H=>iA [1,3,5,30,31,32,38]<|cD H (fun H=>zD (fun j=>Z [p 1 (R 1),p 3 (O 27),p 30 (O 30),p 31 (I (c.length:Int)),p 32 (I d)] [(27,A 2 i64 j 0),(5,bx 235 (A7 true y235 h)),(30,A 235 y235 c 0),(1,K 56 j3 a)]) H fun j H=>fK<|k H) fun H=>vK<|fK<|k H
 exact vE<|fE<|t<|fX rfl<|u H
def HN(a:Int)(b:Int):Option Bool :=
 some (decide (100<=a)&&decide (a<=b)&&decide (b<=5000))
def T0E:Ct:=b9 151 [.dat i64,.dat i64] (fun x=>HN x.1 x.2.1) (fun r:Bool=>B r) (fun _=>())
theorem Q0R:Ok prog T0E:=by
 refine c8 [.tmp 4] func151 ?_;intro y ⟨_,_,_⟩ r H Q hn hr;refine iA [0,1]<|iA [4]<|a7<|hr H
def HO(a:p8):Option Bool :=
 gd ((T9 a.1).isSome/\(vl (T9 a.1)=true/\True->(HN a.2.1 a.2.2.1).isSome)/\((vl (T9 a.1)&&vl (HN a.2.1 a.2.2.1))=true/\True->(HN a.2.2.2.1 a.2.2.2.2).isSome)/\True) <|
 some (vl (T9 a.1)&&vl (HN a.2.1 a.2.2.1)&&vl (HN a.2.2.2.1 a.2.2.2.2))
def U0w:Ct:=b9 101 [.agg q4] (fun x=>HO x.1) (fun r:Bool=>B r) (fun _=>())
theorem N0X:Ok prog U0w:=by
 refine c8 [.tmp 2] func101 ?_;intro y ⟨_,_⟩ r H Q hn hr;have:=hz (tc Q0R (tc UC tn));refine iA [1]<|iB [2] H fun H=>a7<|hr H
def HP(b:q9)(c:List l5)(a:C3):Option Int :=
 if(decide (a.1<0)) then
  some 0
 else
  gd (ix a.1 b.1.length/\ix (b.1.getD a.1.toNat (a6 y155)).2.1 c.length/\ix a.2.1 (c.getD (b.1.getD a.1.toNat (a6 y155)).2.1.toNat (a6 y153)).2.2.1.length/\True)<|lt ((c.getD (b.1.getD a.1.toNat (a6 y155)).2.1.toNat (a6 y153)).2.2.1.getD a.2.1.toNat (a6 y293)) fun d =>
  some d.2.2.1
def S0H:Ct:=b9 208 [.agg y53,.agg y153.sl,.agg y235] (fun x=>HP x.1 x.2.1 x.2.2.1) (fun r:Int=>I r) (fun _=>())
theorem Q0u:Ok prog S0H:=by
 refine c8 [.tmp 6] func208 ?_;intro y ⟨c,d,b,_⟩ r H Q hn hr;refine iA [3,4,5]<|vQ<|iA [3,4,5,9]<|cD H (fun H=>iA [6]<|a7<|fR<|hr H) fun H=>vK<|fQ<|qD (fun a=>Z [p 6 (J a.2.2.1)] [(5,K 235 y235 b),(4,bx 49 [L y153 d]),(3,K 53 y53 c)]) H fun a H=>a7<|hr H
def A0q:List Int->Option (List Int)
 | a =>
 some a
def QG(a:Int)(c:List Int×Int->Option (List Int)):List Int->Option (List Int)
 | b =>
 gd (b7 (a+1)/\True) <|
 c (b,a+1)
def A0p(f:Int)(c:List C3)(e:List Int×Int->Option (List Int)):List Int×Int->Option (List Int)
 | (b,a) =>
 if(decide (a < (c.length:Int))) then
  gd (ix a c.length/\a.toNat<c.length/\True)<|lt (c.getD a.toNat (a6 y235)) fun d =>
  if(d.2.2.1==f&&!d.2.2.2) then
   gd ((b.length+[a].length<=9223372036854775807/\(b.length+[a].length)*8<=140737488355328)/\True) <|
   QG a e (b++[a])
  else
   QG a e b
 else
  A0q b
def NC(a:q9)(c:Int):Option (List Int) :=
 gd ((Cw a).isSome/\True)<|lt (vl (Cw a)) fun b =>
 lp (A0p c b) ([],0)
def S0I:Ct:=b9 207 [.agg y53,.dat i64] (fun x=>NC x.1 x.2.1) (fun r:List Int=>AV.ow 2 true i64 r) (fun _=>())
theorem N0r:Ok prog S0I:=by
 refine c8 [.tmp 4] func207 ?_;intro y ⟨_,d,_⟩ r H Q hn hr;have:=hz (tc Gd tn);refine iA [1,2]<|iA [1,2,5]<|jN r (fun(g:List Int)=>Z [p 5 (O 28)] [(28,A 2 i64 g 0)]) (A0q) (fun g H=>?_) (fun _ k o n=>?_)
 ·refine iA [4]<|a7<|hr H
 refine iD Gd [1,5,9,10,11] H fun b H=>vB<|lX (fun((c,a):List Int×Int)=>Z [p 1 (J d),p 5 (O 28),p 9 (O 9),p 10 (I (b.length:Int)),p 11 (I a)] [(9,A 235 y235 b 0),(28,A 2 i64 c 0)]) ([],0) H fun _ i l j q ⟨c,a⟩ H=>iA [1,5,9,10,11,12]<|vQ<|cD H (fun H=>?_) (fun H=>?_)
 ·refine vK<|fQ<|jN r (fun(h:List Int)=>Z [p 1 (J d),p 5 (O 28),p 9 (O 9),p 10 (I (b.length:Int)),p 11 (I a)] [(28,A 2 i64 h 0),(9,A 235 y235 b 0)]) (QG a i) (fun h H=>?_) (fun _ e m s=>?_)
  ·refine jB [1,5,9,10,11] H fun H=>l H
  refine vB<|qD (fun f=>Z [p 1 (J d),p 5 (O 28),p 6 (I a),p 7 (R 7),p 9 (O 9),p 10 (I (b.length:Int)),p 11 (I a)] [(7,bx 235 (A7 true y235 f)),(9,A 235 y235 b 0),(28,A 2 i64 c 0)]) H fun f H=>iA [1,5,6,9,10,11,24]<|cD H (fun H=>jB [1,5,9,10,11] H fun H=>fK<|e H) fun H=>vK<|fK<|e H
 exact vE<|fE<|j<|fX rfl<|k H
def UP:List Int->Option (List Int)
 | a =>
 some a
def JP(c:D0)(e:Int×List Int->Option (List Int)):Int×List Int->Option (List Int)
 | (a,b) =>
 if(decide (0<a)) then
  gd (ix a c.1.length/\ix (c.1.getD a.toNat 0) b.length/\Int.toNat (c.1.getD a.toNat 0)<b.length/\ix a b.length/\a.toNat<b.length/\b7 (b.getD (Int.toNat (c.1.getD a.toNat 0)) 0+b.getD a.toNat 0)/\ix (c.1.getD a.toNat 0) b.length/\Int.toNat (c.1.getD a.toNat 0)<b.length/\True)<|lt (b.set (Int.toNat (c.1.getD a.toNat 0)) (b.getD (Int.toNat (c.1.getD a.toNat 0)) 0+b.getD a.toNat 0)) fun d =>
  gd (b7 (a-1)/\True) <|
  e (a-1,d)
 else
  UP b
def QH(b:D0):List Int->Option (List Int)
 | a =>
 gd (b7 ((a.length:Int)-1)/\True) <|
 lp (JP b) (((a.length:Int)-1,a))
def B0b(d:j0)(f:List C3)(c:List Int)(b:D0)(h:Int×List Int->Option (List Int)):Int×List Int->Option (List Int)
 | (a,e) =>
 if(decide (a < (c.length:Int))) then
  gd (ix a c.length/\a.toNat<c.length/\True) <|
  gd (ix a b.2.2.2.length/\ix (b.2.2.2.getD a.toNat 0) e.length/\Int.toNat (b.2.2.2.getD a.toNat 0)<e.length/\ix (c.getD a.toNat 0) f.length/\Int.toNat (c.getD a.toNat 0)<f.length/\(HP d.2.1 d.1 (f.getD (Int.toNat (c.getD a.toNat 0)) (a6 y235))).isSome/\b7 (e.getD (Int.toNat (b.2.2.2.getD a.toNat 0)) 0+vl (HP d.2.1 d.1 (f.getD (Int.toNat (c.getD a.toNat 0)) (a6 y235))))/\ix (b.2.2.2.getD a.toNat 0) e.length/\Int.toNat (b.2.2.2.getD a.toNat 0)<e.length/\True)<|lt ((vl (HP d.2.1 d.1 (f.getD (Int.toNat (c.getD a.toNat 0)) (a6 y235))),e.set (Int.toNat (b.2.2.2.getD a.toNat 0)) (e.getD (Int.toNat (b.2.2.2.getD a.toNat 0)) 0+vl (HP d.2.1 d.1 (f.getD (Int.toNat (c.getD a.toNat 0)) (a6 y235)))))) fun(_,g) =>
  gd (b7 (a+1)/\True) <|
  h (a+1,g)
 else
  QH b e
def Cy(a:j0)(b:Int):Option (List Int) :=
 gd (ix b a.2.2.length/\True)<|lt (a.2.2.getD b.toNat (a6 y172)) fun c =>
 gd ((QJ c.2.2.1).isSome/\True)<|lt (vl (QJ c.2.2.1)) fun d =>
 gd ((Cw a.2.1).isSome/\True)<|lt (vl (Cw a.2.1)) fun e =>
 gd ((NC a.2.1 b).isSome/\True)<|lt (vl (NC a.2.1 b)) fun f =>
 lp (B0b a e f c) (0,d)
def T0B:Ct:=b9 154 [.agg j3,.dat i64] (fun x=>Cy x.1 x.2.1) (fun r:List Int=>AV.ow 2 true i64 r) (fun _=>())
theorem UQ:Ok prog T0B:=by
 refine c8 [.tmp 4] func154 ?_;intro y ⟨h,s,_⟩ r H Q hn hr;have:=hz (tc Q0u (tc N0r (tc Gd (tc N0s tn))));refine iA [1,2]<|qD (fun b=>Z [p 1 (J s),p 2 (R 2),p 5 (R 5)] [(5,K 172 y172 b),(2,K 56 j3 h)]) H fun b H=>iD N0s [1,2,5,6] H fun w H=>iD Gd [1,2,5,6,7] H fun k H=>jN r (fun(a:List Int)=>Z [p 5 (R 5),p 6 (O 18)] [(18,A 2 i64 a 0),(5,K 172 y172 b)]) (QH b) (fun a H=>?_) (fun _ t F T=>?_)
 ·refine jN r (fun(e:List Int)=>Z [p 6 (O 18)] [(18,A 2 i64 e 0)]) (UP) (fun e H=>?_) (fun _ q x z=>?_)
  ·refine iA [4]<|a7<|hr H
  refine iB [5,6,10] H fun H=>vB<|lX (fun((c,f):Int×List Int)=>Z [p 5 (R 5),p 6 (O 18),p 10 (I c)] [(18,A 2 i64 f 0),(5,K 172 y172 b)]) (((a.length:Int)-1,a)) H fun _ E m v P ⟨c,f⟩ H=>vQ<|iA [5,6,10,56]<|cD H (fun H=>vK<|fQ<|vQ<|vB<|zD (fun d=>Z [p 5 (R 5),p 6 (O 18),p 10 (I c)] [(18,A 2 i64 d 0),(5,K 172 y172 b)]) H fun d H=>fK<|fQ<|jB [5,6,10] H fun H=>m H) fun H=>vE<|fE<|v<|fX rfl<|q H
 refine iD N0r [2,5,6,7,25,26,27] H fun g H=>vB<|lX (fun((i,j):Int×List Int)=>Z [p 2 (R 2),p 5 (R 5),p 6 (O 18),p 7 (O 21),p 25 (O 25),p 26 (I (g.length:Int)),p 27 (I i)] [(25,A 2 i64 g 0),(21,A 235 y235 k 0),(18,A 2 i64 j 0),(5,K 172 y172 b),(2,K 56 j3 h)]) (0,w) H fun _ V o u G ⟨i,j⟩ H=>iA [2,5,6,7,25,26,27,28]<|vQ<|cD H (fun H=>?_) (fun H=>?_)
 ·refine vK<|fQ<|vQ<|vB<|iB [2,5,6,7,8,9,25,26,27] H fun H=>zD (fun(n,l)=>Z [p 2 (R 2),p 5 (R 5),p 6 (O 18),p 7 (O 21),p 25 (O 25),p 26 (I (g.length:Int)),p 27 (I i)] [(18,A 2 i64 l 0),(25,A 2 i64 g 0),(21,A 235 y235 k 0),(5,K 172 y172 b),(2,K 56 j3 h)]) H fun⟨n,l⟩ H =>
   fK<|fQ <|
   jB [2,5,6,7,25,26,27] H fun H =>
   o H
 exact vE<|fE<|u<|fX rfl<|t H
def A0o:List Int->Option (List Int)
 | a =>
 some a
def ND(b:D0)(d:List Int)(f:Int×List Int->Option (List Int)):Int×List Int->Option (List Int)
 | (a,c) =>
 if(decide (a < (c.length:Int))) then
  gd (ix a b.1.length/\ix (b.1.getD a.toNat 0) c.length/\Int.toNat (b.1.getD a.toNat 0)<c.length/\ix a b.2.1.length/\ix a d.length/\a.toNat<d.length/\b7 (b.2.1.getD a.toNat 0*d.getD a.toNat 0)/\b7 (c.getD (Int.toNat (b.1.getD a.toNat 0)) 0+b.2.1.getD a.toNat 0*d.getD a.toNat 0)/\ix a c.length/\a.toNat<c.length/\True)<|lt (c.set a.toNat (c.getD (Int.toNat (b.1.getD a.toNat 0)) 0+b.2.1.getD a.toNat 0*d.getD a.toNat 0)) fun e =>
  gd (b7 (a+1)/\True) <|
  f (a+1,e)
 else
  A0o c
def NE(b:j0)(c:Int):Option (List Int) :=
 gd (ix c b.2.2.length/\(Cy b c).isSome/\True)<|lt ((vl (Cy b c),b.2.2.getD c.toNat (a6 y172))) fun(a,d) =>
 gd ((0<=(a.length:Int)/\(a.length:Int)=(a.length:Int)/\(a.length:Int).toNat*8<=281474976710656/\(a.length:Int)<=9223372036854775807)/\True) <|
 lp (ND d a) ((1,List.replicate (a.length:Int).toNat 0))
def S0G:Ct:=b9 209 [.agg j3,.dat i64] (fun x=>NE x.1 x.2.1) (fun r:List Int=>AV.ow 2 true i64 r) (fun _=>())
theorem N0q:Ok prog S0G:=by
 refine c8 [.tmp 4] func209 ?_;intro y ⟨g,_,_⟩ r H Q hn hr;have:=hz (tc UQ tn);refine iA [1,2]<|qD (fun(a,b)=>Z [p 5 (R 5),p 6 (O 16)] [(5,K 172 y172 b),(16,A 2 i64 a 0),(2,K 56 j3 g)]) H fun w H=>?_
 obtain⟨a,b⟩:=w;refine iB [5,6,7] H fun H=>jN r (fun(f:List Int)=>Z [p 7 (O 19)] [(19,A 2 i64 f 0)]) (A0o) (fun f H=>?_) (fun _ i l k=>?_)
 ·refine iA [4]<|a7<|hr H
 refine iA [5,6,7,8]<|vB<|lX (fun((c,e):Int×List Int)=>Z [p 5 (R 5),p 6 (O 16),p 7 (O 19),p 8 (I c)] [(19,A 2 i64 e 0),(5,K 172 y172 b),(16,A 2 i64 a 0)]) ((1,List.replicate (a.length:Int).toNat 0)) H fun _ n j h m ⟨c,e⟩ H=>vQ<|iA [5,6,7,8,23]<|cD H (fun H=>vK<|fQ<|vQ<|vB<|zD (fun d=>Z [p 5 (R 5),p 6 (O 16),p 7 (O 19),p 8 (I c)] [(19,A 2 i64 d 0),(5,K 172 y172 b),(16,A 2 i64 a 0)]) H fun d H=>fK<|fQ<|jB [5,6,7,8] H fun H=>j H) fun H=>vE<|fE<|h<|fX rfl<|i H
def A0Z:List Int->Option (List Int)
 | a =>
 some a
def A0Y(c:List Int)(b:D0)(f:List Int×Int->Option (List Int)):List Int×Int->Option (List Int)
 | (d,a) =>
 if(decide (a < (b.2.2.2.length:Int))) then
  gd (ix a b.2.2.2.length/\True) <|
  gd (ix (b.2.2.2.getD a.toNat 0) c.length/\Int.toNat (b.2.2.2.getD a.toNat 0)<c.length/\(d.length+[c.getD (Int.toNat (b.2.2.2.getD a.toNat 0)) 0].length<=9223372036854775807/\(d.length+[c.getD (Int.toNat (b.2.2.2.getD a.toNat 0)) 0].length)*8<=140737488355328)/\True)<|lt (d++[c.getD (Int.toNat (b.2.2.2.getD a.toNat 0)) 0]) fun e =>
  gd (b7 (a+1)/\True) <|
  f (e,a+1)
 else
  A0Z d
def Gi(a:j0)(b:Int):Option (List Int) :=
 gd ((NE a b).isSome/\True)<|lt (vl (NE a b)) fun c =>
 gd (ix b a.2.2.length/\True)<|lt (a.2.2.getD b.toNat (a6 y172)) fun d =>
 lp (A0Y c d) ([],0)
def T0A:Ct:=b9 155 [.agg j3,.dat i64] (fun x=>Gi x.1 x.2.1) (fun r:List Int=>AV.ow 2 true i64 r) (fun _=>())
theorem Q0Q:Ok prog T0A:=by
 refine c8 [.tmp 4] func155 ?_;intro y ⟨g,_,_⟩ r H Q hn hr;have:=hz (tc N0q tn);refine iA [1,2]<|iD N0q [1,2,5] H fun c H=>iA [1,2,5,6]<|jN r (fun(f:List Int)=>Z [p 6 (O 29)] [(29,A 2 i64 f 0)]) (A0Z) (fun f H=>?_) (fun _ i l k=>?_)
 ·refine iA [4]<|a7<|hr H
 refine qD (fun a=>Z [p 5 (O 11),p 6 (nil),p 17 (L i64 a.2.2.2),p 18 (I (a.2.2.2.length:Int)),p 19 (I 0)] [(11,A 2 i64 c 0),(2,K 56 j3 g)]) H fun a H=>vB<|lX (fun((d,b):List Int×Int)=>Z [p 5 (O 11),p 6 (O 29),p 17 (L i64 a.2.2.2),p 18 (I (a.2.2.2.length:Int)),p 19 (I b)] [(11,A 2 i64 c 0),(29,A 2 i64 d 0)]) ([],0) H fun _ n j h m ⟨d,b⟩ H=>iA [5,6,17,18,19,20]<|vQ<|cD H (fun H=>vK<|fQ<|vQ<|vB<|iB [5,6,8,17,18,19] H fun H=>zD (fun e=>Z [p 5 (O 11),p 6 (AV.os 29 1),p 17 (L i64 a.2.2.2),p 18 (I (a.2.2.2.length:Int)),p 19 (I b)] [(29,A 2 i64 e 1),(28,A 2 i64 [c.getD (Int.toNat (a.2.2.2.getD b.toNat 0)) 0] 0),(11,A 2 i64 c 0)]) H fun e H=>fK<|fQ<|jB [5,6,17,18,19] H fun H=>j H) fun H=>vE<|fE<|h<|fX rfl<|i H
def M0f:Ct:=b9 155 [.agg j3,.dat i64] (fun x=>Gi x.1 x.2.1) (fun r=>frz ((fun r:List Int=>AV.ow 2 true i64 r) r)) (fun _=>())
theorem L0O:Ok prog M0f:=JA Q0Q
def NF(a:A6):Option (List (Int×Int)) :=
 if(a.1==2) then
  some ([((0:Int),(0:Int)),((0:Int),(1:Int))])
 else
  if(a.1==3) then
   some ([((1:Int),(0:Int)),((1:Int),(1:Int))])
  else
   if(a.1 != 1) then
    some []
   else
    if(a.2.2.2.1==1) then
     some ([((0:Int),(0:Int)),((1:Int),(1:Int))])
    else
     if(a.2.2.2.1==2) then
      some ([((0:Int),(1:Int)),((1:Int),(0:Int))])
     else
      lt ([((0:Int),(0:Int)),((0:Int),(1:Int)),((1:Int),(0:Int)),((1:Int),(1:Int))]) fun b =>
      some b
def S0K:Ct:=b9 205 [.agg y158] (fun x=>NF x.1) (fun r:List (Int×Int)=>AV.ow 284 true (i64.pr i64) r) (fun _=>())
theorem N0t:Ok prog S0K:=by
 refine c8 [.tmp 2] func205 ?_;intro y ⟨b,_⟩ r H Q hn hr;refine iA [1]<|iA [1,3]<|iA [1,3,4]<|vQ<|vB<|iA [1,3,4,11]<|cD H (fun H=>iA [2]<|a7<|c9<|fR<|hr H) fun H=>iA [1,3,4,18]<|cD H (fun H=>iA [2]<|a7<|c9<|fR<|hr H) fun H=>iA [1,3,4,25]<|cD H (fun H=>iA [2]<|a7<|c9<|fR<|hr H) fun H=>iA [1,3,4,29]<|cD H (fun H=>iA [2]<|a7<|c9<|fR<|hr H) fun H=>iA [4,34]<|cD H (fun H=>iA [2]<|a7<|c9<|fR<|hr H) fun H=>vK<|fK<|fQ<|qC (fun a=>Z [p 2 (O 43)] [(43,A 284 (i64.pr i64) a 0),(10,A 284 (i64.pr i64) [((0:Int),(1:Int)),((1:Int),(0:Int))] 0),(7,A 284 (i64.pr i64) [((0:Int),(0:Int)),((1:Int),(1:Int))] 0),(1,K 158 y158 b)]) H fun a H=>a7<|hr H
def B0c:List j2->Option (List j2)
 | a =>
 some a
def UR(a:Int)(c:List j2×Int->Option (List j2)):List j2->Option (List j2)
 | b =>
 gd (b7 (a+1)/\True) <|
 c (b,a+1)
def US(c:Int)(a:A6)(e:Int)(f:List (Int×Int))(j:List j2×Int->Option (List j2))(i:Int×List j2->Option (List j2)):Int×List j2->Option (List j2)
 | (d,g) =>
 if(decide (d < (f.length:Int))) then
  gd (ix d f.length/\d.toNat<f.length/\True)<|lt (f.getD d.toNat (a6 (i64.pr i64))) fun b =>
  gd (b7 (c+a.2.1)/\b7 ((2:Int)*(c+a.2.1))/\ix (0:Int) 2/\b7 ((2:Int)*(c+a.2.1)+b.1)/\b7 (c+a.2.2.1)/\b7 ((2:Int)*(c+a.2.2.1))/\ix (1:Int) 2/\b7 ((2:Int)*(c+a.2.2.1)+b.2)/\(g.length+[((2:Int)*(c+a.2.1)+b.1,(2:Int)*(c+a.2.2.1)+b.2,(1:Int),e)].length<=9223372036854775807/\(g.length+[((2:Int)*(c+a.2.1)+b.1,(2:Int)*(c+a.2.2.1)+b.2,(1:Int),e)].length)*32<=140737488355328)/\True)<|lt ((g++[((2:Int)*(c+a.2.1)+b.1,(2:Int)*(c+a.2.2.1)+b.2,(1:Int),e)],[((2:Int)*(c+a.2.1)+b.1,(2:Int)*(c+a.2.2.1)+b.2,(1:Int),e)])) fun(h,_) =>
  gd (b7 (d+1)/\True) <|
  i (d+1,h)
 else
  UR e j g
def UT(f:Int)(e:l5)(g:List j2×Int->Option (List j2)):List j2×Int->Option (List j2)
 | (c,a) =>
 if(decide (a < (e.2.2.2.1.length:Int))) then
  gd (ix a e.2.2.2.1.length/\True)<|lt (e.2.2.2.1.getD a.toNat (a6 y158)) fun b =>
  gd ((NF b).isSome/\True)<|lt (vl (NF b)) fun d =>
  lp (US f b a d g) (0,c)
 else
  B0c c
def Gj(a:j0)(b:H2)(d:Int):Option (List j2) :=
 gd (ix b.2.1 a.1.length/\True)<|lt (a.1.getD b.2.1.toNat (a6 y153)) fun c =>
 lp (UT d c) ([],0)
def T0D:Ct:=b9 152 [.agg j3,.agg y155,.dat i64] (fun x=>Gj x.1 x.2.1 x.2.2.1) (fun r:List j2=>AV.ow 138 true y138 r) (fun _=>())
theorem N0K:Ok prog T0D:=by
 refine c8 [.tmp 6] func152 ?_;intro y ⟨o,v,h,_⟩ r H Q hn hr;have:=hz (tc N0t tn);refine iA [2,3,4]<|iA [2,3,4,7]<|jN r (fun(l:List j2)=>Z [p 7 (O 53)] [(53,A 138 y138 l 0)]) (B0c) (fun l H=>?_) (fun _ w G V=>?_)
 ·refine iA [6]<|a7<|hr H
 refine qD (fun b=>Z [p 2 (J h),p 7 (nil),p 19 (L y158 b.2.2.2.1),p 20 (I (b.2.2.2.1.length:Int)),p 21 (I 0)] [(4,K 155 y155 v),(3,K 56 j3 o)]) H fun b H=>vB<|lX (fun((f,a):List j2×Int)=>Z [p 2 (J h),p 7 (O 53),p 19 (L y158 b.2.2.2.1),p 20 (I (b.2.2.2.1.length:Int)),p 21 (I a)] [(53,A 138 y138 f 0)]) ([],0) H fun _ s q u P ⟨f,a⟩ H=>iA [2,7,19,20,21,22]<|vQ<|cD H (fun H=>?_) (fun H=>?_)
 ·refine vK<|fQ<|jN r (fun(m:List j2)=>Z [p 2 (J h),p 7 (O 53),p 19 (L y158 b.2.2.2.1),p 20 (I (b.2.2.2.1.length:Int)),p 21 (I a)] [(53,A 138 y138 m 0)]) (UR a s) (fun m H=>?_) (fun _ t z E=>?_)
  ·refine jB [2,7,19,20,21] H fun H=>q H
  refine vB<|qD (fun d=>Z [p 2 (J h),p 7 (O 53),p 8 (I a),p 9 (R 9),p 19 (L y158 b.2.2.2.1),p 20 (I (b.2.2.2.1.length:Int)),p 21 (I a)] [(9,K 158 y158 d),(53,A 138 y138 f 0)]) H fun d H=>iD N0t [2,7,8,9,19,20,21,27,28,29] H fun c H=>vB<|lX (fun((e,i):Int×List j2)=>Z [p 2 (J h),p 7 (O 53),p 8 (I a),p 9 (R 9),p 19 (L y158 b.2.2.2.1),p 20 (I (b.2.2.2.1.length:Int)),p 21 (I a),p 27 (O 27),p 28 (I (c.length:Int)),p 29 (I e)] [(27,A 284 (i64.pr i64) c 0),(9,K 158 y158 d),(53,A 138 y138 i 0)]) (0,f) H fun _ F n x T ⟨e,i⟩ H=>iA [2,7,8,9,19,20,21,27,28,29,30]<|vQ<|cD H (fun H=>?_) (fun H=>?_)
  ·refine vK<|fQ<|vQ<|vB<|qD (fun g=>Z [p 2 (J h),p 7 (O 53),p 8 (I a),p 9 (R 9),p 11 (R 11),p 19 (L y158 b.2.2.2.1),p 20 (I (b.2.2.2.1.length:Int)),p 21 (I a),p 27 (O 27),p 28 (I (c.length:Int)),p 29 (I e)] [(11,bx 284 (A7 true (i64.pr i64) g)),(27,A 284 (i64.pr i64) c 0),(9,K 158 y158 d),(53,A 138 y138 i 0)]) H fun g H=>zD (fun(k,j)=>Z [p 2 (J h),p 7 (AV.os 53 1),p 8 (I a),p 9 (R 9),p 19 (L y158 b.2.2.2.1),p 20 (I (b.2.2.2.1.length:Int)),p 21 (I a),p 27 (O 27),p 28 (I (c.length:Int)),p 29 (I e)] [(53,A 138 y138 k 1),(52,A 138 y138 j 0),(11,bx 284 (A7 true (i64.pr i64) g)),(27,A 284 (i64.pr i64) c 0),(9,K 158 y158 d)]) H fun⟨k,j⟩ H =>
    fK<|fQ <|
    jB [2,7,8,9,19,20,21,27,28,29] H fun H =>
    n H
  exact vE<|fE<|x<|fX rfl<|fK<|t H
 exact vE<|fE<|u<|fX rfl<|w H
def B0O(d:j0)(e:List C3):List j2×List Int×List (List Int)->Option D1
 | (a,c,b) =>
 some (d,e,a,c,b,[])
def UU(a:Int)(e:Int×List Int×List (List Int)×List j2->Option D1):List (List Int)×List Int×List j2->Option D1
 | (c,b,d) =>
 gd (b7 (a+1)/\True) <|
 e (a+1,b,c,d)
def UW(a:Int)(c:Int×List j2->Option D1):List j2->Option D1
 | b =>
 gd (b7 (a+1)/\True) <|
 c (a+1,b)
def NG(d:List Int)(a:Int)(e:List (List Int))(c:Int)(i:Int×List j2->Option D1)(g:Int×List j2->Option D1):Int×List j2->Option D1
 | (b,f) =>
 if(decide (b<2)) then
  gd (ix a d.length/\a.toNat<d.length/\b7 ((2:Int)*d.getD a.toNat (0:Int))/\b7 ((2:Int)*d.getD a.toNat (0:Int)+b)/\b7 ((2:Int)*List.getD (e.getD a.toNat []) c.toNat (0:Int))/\b7 ((2:Int)*List.getD (e.getD a.toNat []) c.toNat (0:Int)+b)/\(f.length+[((2:Int)*d.getD a.toNat (0:Int)+b,(2:Int)*List.getD (e.getD a.toNat []) c.toNat (0:Int)+b,(2:Int),c)].length<=9223372036854775807/\(f.length+[((2:Int)*d.getD a.toNat (0:Int)+b,(2:Int)*List.getD (e.getD a.toNat []) c.toNat (0:Int)+b,(2:Int),c)].length)*32<=140737488355328)/\True)<|lt ((f++[((2:Int)*d.getD a.toNat (0:Int)+b,(2:Int)*List.getD (e.getD a.toNat []) c.toNat (0:Int)+b,(2:Int),c)],[((2:Int)*d.getD a.toNat (0:Int)+b,(2:Int)*List.getD (e.getD a.toNat []) c.toNat (0:Int)+b,(2:Int),c)])) fun(h,_) =>
  gd (b7 (b+1)/\True) <|
  g (b+1,h)
 else
  UW c i f
def HQ(e:List Int)(a:Int)(b:List (List Int))(h:List (List Int))(i:List Int)(g:List Int)(f:List Int)(k:Int×List Int×List (List Int)×List j2->Option D1)(j:Int×List j2->Option D1):Int×List j2->Option D1
 | (c,d) =>
 if(decide (c < (↑(List.length (b.getD a.toNat [])):Int))) then
  gd (ix c (List.length (b.getD a.toNat []))/\True) <|
  lp (NG e a b c j) (0,d)
 else
  UU a k ((h++[i],g++[f.getD (Int.toNat (0:Int)) (0:Int)],d))
def UX(g:List Int)(e:List (List Int))(b:j0)(k:List C3)(j:Int×List Int×List (List Int)×List j2->Option D1):Int×List Int×List (List Int)×List j2->Option D1
 | (a,c,d,f) =>
 if(decide (a < (b.2.2.length:Int))) then
  gd ((Cy b a).isSome/\ix (0:Int) (vl (Cy b a)).length/\Int.toNat (0:Int) < (vl (Cy b a)).length/\(c.length+[(vl (Cy b a)).getD (Int.toNat (0:Int)) (0:Int)].length<=9223372036854775807/\(c.length+[(vl (Cy b a)).getD (Int.toNat (0:Int)) (0:Int)].length)*8<=140737488355328)/\True)<|lt (vl (Cy b a)) fun h =>
  gd ((Gi b a).isSome/\(d.length+[vl (Gi b a)].length<=9223372036854775807/\(d.length+[vl (Gi b a)].length)*24<=140737488355328)/\True)<|lt (vl (Gi b a)) fun i =>
  gd (ix a e.length/\True) <|
  lp (HQ g a e d i c h j) (0,f)
 else
  B0O b k (f,c,d)
def UY(d:j0)(e:List C3)(a:List j2):List (List Int)×List Int->Option D1
 | (c,b) =>
 lp (UX b c d e) (0,[],[],a)
def QK(a:Int)(d:Int×List (List Int)×List Int->Option D1):List Int×List (List Int)->Option D1
 | (c,b) =>
 gd (b7 (a+1)/\True) <|
 d (a+1,b,c)
def UZ(e:List C3)(i:j0)(f:List j2)(h:Int×List (List Int)×List Int->Option D1):Int×List (List Int)×List Int->Option D1
 | (b,c,d) =>
 if(decide (b < (e.length:Int))) then
  gd (ix b e.length/\b.toNat<e.length/\True)<|lt (e.getD b.toNat (a6 y235)) fun a =>
  if a.2.2.2 then
   gd (ix a.2.2.1 d.length/\a.2.2.1.toNat<d.length/\True) <|
   QK b h (d.set a.2.2.1.toNat b,c)
  else
   gd (ix a.2.2.1 c.length/\a.2.2.1.toNat<c.length/\((c.getD a.2.2.1.toNat []).length+[b].length<=9223372036854775807/\((c.getD a.2.2.1.toNat []).length+[b].length)*8<=140737488355328)/\ix a.2.2.1 c.length/\(a.2.2.1.toNat<c.length/\a.2.2.1.toNat=a.2.2.1.toNat)/\True)<|lt (c.set a.2.2.1.toNat (c.getD a.2.2.1.toNat []++[b])) fun g =>
   QK b h (d,g)
 else
  UY i e f (c,d)
def NH(c:List C3)(a:j0):List j2->Option D1
 | b =>
 gd ((0<=(a.2.2.length:Int)/\(a.2.2.length:Int)=(a.2.2.length:Int)/\(a.2.2.length:Int).toNat*8<=281474976710656/\(a.2.2.length:Int)<=9223372036854775807)/\True) <|
 gd ((0<=(a.2.2.length:Int)/\(a.2.2.length:Int)=(a.2.2.length:Int)/\(a.2.2.length:Int).toNat*24<=281474976710656/\(a.2.2.length:Int)<=9223372036854775807)/\True) <|
 lp (UZ c a b) ((0,List.replicate (a.2.2.length:Int).toNat [],List.replicate (a.2.2.length:Int).toNat 0))
def B0N(a:j0)(g:List C3)(h:Int×Int×List j2->Option D1):Int×Int×List j2->Option D1
 | (c,d,e) =>
 if(decide (d < (a.2.1.1.length:Int))) then
  gd (ix d a.2.1.1.length/\True)<|lt (a.2.1.1.getD d.toNat (a6 y155)) fun b =>
  gd ((Gj a b c).isSome/\(e.length+(vl (Gj a b c)).length<=9223372036854775807/\(e.length+(vl (Gj a b c)).length)*32<=140737488355328)/\True)<|lt (vl (Gj a b c)) fun i =>
  gd ((F6 b.2.2).isSome/\b7 (c+vl (F6 b.2.2))/\True)<|lt (vl (F6 b.2.2)) fun f =>
  gd (b7 (d+1)/\True) <|
  h (c+f,d+1,e++i)
 else
  NH g a e
def HR(a:j0):Option D1 :=
 gd ((Cw a.2.1).isSome/\True)<|lt (vl (Cw a.2.1)) fun b =>
 lp (B0N a b) (0,0,[])
def U0v:Ct:=b9 102 [.agg j3] (fun x=>HR x.1) (fun r:D1=>D y189.pt r) (fun _=>())
theorem QL:Ok prog U0v:=by
 refine c8 [.tmp 2] func102 ?_;intro y ⟨a,_⟩ r H Q hn hr;have:=hz (tc L0O (tc UQ (tc Nk (tc N0K (tc Gd tn)))));refine iA [1]<|iD Gd [1,3] H fun d H=>iA [1,3,4]<|jN r (fun(f:List j2)=>Z [p 1 (R 1),p 3 (R 20)] ((20,bx 189 (Q0 a))::W1 d a f)) (NH d a) (fun f H=>?_) (fun _ n0 e0 t0=>?_)
 ·refine iB [1,3,7] H fun H=>iB [1,3,7,8] H fun H=>jN r (fun((c,g):List (List Int)×List Int)=>Z (G3 [p 8 (AV.og 54)]) ((54,Ob.grd 35 2 true i64 c none)::(50,A 2 i64 g 0)::(20,bx 189 (Q0 a))::W1 d a f)) (UY a d f) (fun w H=>?_) (fun _ n2 e2 t2=>?_)
  ·obtain⟨c,g⟩:=w;refine jN r (fun((W,V,X):List j2×List Int×List (List Int))=>Z [p 3 (R 20)] [(20,bx 189 (Q1 a)),(18,A 235 y235 d 0),(38,A 138 y138 W 0),(102,A 2 i64 V 0),(114,A 35 i64.sl X 0)]) (B0O a d) (fun⟨W,V,X⟩ H=>?_) (fun _ n5 e5 t5=>?_)
   ·refine iA [2]<|a7<|hr H
   refine iA [1,3,7,8,87,88]<|vB<|fZ 54 (Z (G3 [p 8 (M i64.sl c),p 87 (I (a.2.2.length:Int)),p 88 (I 0)]) ((50,A 2 i64 g 0)::(20,bx 189 (Q0 a))::W1 d a f))<|lX (fun((b,i,l,m):Int×List Int×List (List Int)×List j2)=>Z (G3 [p 8 (M i64.sl c),p 87 (I (a.2.2.length:Int)),p 88 (I b)]) [(50,A 2 i64 g 0),(20,bx 189 (Q1 a)),(18,A 235 y235 d 0),(1,K 56 j3 a),(38,A 138 y138 m 0),(102,A 2 i64 i 0),(114,A 35 i64.sl l 0)]) (0,[],[],f) H fun _ g6 b6 e6 t6 ⟨b,i,l,m⟩ H=>iA [1,3,7,8,87,88,89]<|vQ<|cD H (fun H=>?_) (fun H=>?_)
   ·refine vK<|fQ<|jN r (fun((F,v,T):List (List Int)×List Int×List j2)=>Z (G3 [p 8 (M i64.sl c),p 87 (I (a.2.2.length:Int)),p 88 (I b)]) ((20,bx 189 (Q1 a))::(114,A 35 i64.sl F 0)::(102,A 2 i64 v 0)::(50,A 2 i64 g 0)::W1 d a T)) (UU b g6) (fun⟨F,v,T⟩ H=>?_) (fun _ n7 e7 t7=>?_)
    ·refine jB [1,3,7,8,87,88] H fun H=>b6 H
    refine vB<|iA [1,3,7,8,11,87,88]<|iD UQ [1,3,7,8,11,87,88] H fun k H=>qD (fun j=>Z (G3 [p 8 (M i64.sl c),p 11 (I b),p 87 (I (a.2.2.length:Int)),p 88 (I b)]) ((20,bx 189 [L y153 a.1,L y155 a.2.1.1,L Ty.str a.2.1.2.1,L y231 a.2.1.2.2,L y172 a.2.2,AV.os 18 0,AV.os 38 0,AV.os 102 1,AV.os 114 1,nil])::(114,A 35 i64.sl (l++[j]) 1)::(113,A 35 i64.sl [j] 0)::(102,A 2 i64 (i++[k.getD (Int.toNat (0:Int)) (0:Int)]) 1)::(101,A 2 i64 [k.getD (Int.toNat (0:Int)) (0:Int)] 0)::(98,A 2 i64 k 0)::(50,A 2 i64 g 0)::W1 d a m)) H fun j H=>iB [1,3,7,8,11,87,88,120,121,122] H fun H=>vB<|lX (fun((e,q):Int×List j2)=>Z (G3 [p 8 (M i64.sl c),p 11 (I b),p 87 (I (a.2.2.length:Int)),p 88 (I b),p 120 (M i64 (c.getD b.toNat [])),p 121 (I (↑(List.length (c.getD b.toNat [])):Int)),p 122 (I e)]) ((20,bx 189 (Q1 a))::(114,A 35 i64.sl (l++[j]) 0)::(102,A 2 i64 (i++[k.getD (Int.toNat (0:Int)) (0:Int)]) 0)::(50,A 2 i64 g 0)::W1 d a q)) (0,m) H fun _ g8 b8 e8 t8 ⟨e,q⟩ H=>iA [1,3,7,8,11,87,88,120,121,122,123]<|vQ<|cD H (fun H=>?_) (fun H=>?_)
    ·refine vK<|fQ<|jN r (fun(E:List j2)=>Z (G3 [p 8 (M i64.sl c),p 11 (I b),p 87 (I (a.2.2.length:Int)),p 88 (I b),p 120 (M i64 (c.getD b.toNat [])),p 121 (I (↑(List.length (c.getD b.toNat [])):Int)),p 122 (I e)]) ((20,bx 189 (Q1 a))::(114,A 35 i64.sl (l++[j]) 0)::(102,A 2 i64 (i++[k.getD (Int.toNat (0:Int)) (0:Int)]) 0)::(50,A 2 i64 g 0)::W1 d a E)) (UW e g8) (fun E H=>?_) (fun _ n9 e9 t9=>?_)
     ·refine jB [1,3,7,8,11,87,88,120,121,122] H fun H=>b8 H
     refine vB<|iB [1,3,7,8,11,12,13,87,88,120,121,122] H fun H=>iA [1,3,7,8,11,12,13,87,88,120,121,122,127]<|vB<|lX (fun((o,x):Int×List j2)=>Z (G3 [p 8 (M i64.sl c),p 11 (I b),p 12 (I e),p 13 (I (List.getD (c.getD b.toNat []) e.toNat (0:Int))),p 87 (I (a.2.2.length:Int)),p 88 (I b),p 120 (M i64 (c.getD b.toNat [])),p 121 (I (↑(List.length (c.getD b.toNat [])):Int)),p 122 (I e),p 127 (I o)]) ((20,bx 189 (Q1 a))::(114,A 35 i64.sl (l++[j]) 0)::(102,A 2 i64 (i++[k.getD (Int.toNat (0:Int)) (0:Int)]) 0)::(50,A 2 i64 g 0)::W1 d a x)) (0,q) H fun _ aD aB aA aC ⟨o,x⟩ H=>iA [1,3,7,8,11,12,13,87,88,120,121,122,127,128]<|vQ<|cD H (fun H=>?_) (fun H=>?_)
     ·refine vK<|fQ<|vQ<|vB<|iA [1,3,7,8,11,12,13,14,87,88,120,121,122,127]<|zD (fun(G,Y)=>Z (G3 [p 8 (M i64.sl c),p 11 (I b),p 12 (I e),p 13 (I (List.getD (c.getD b.toNat []) e.toNat (0:Int))),p 87 (I (a.2.2.length:Int)),p 88 (I b),p 120 (M i64 (c.getD b.toNat [])),p 121 (I (↑(List.length (c.getD b.toNat [])):Int)),p 122 (I e),p 127 (I o)]) [(20,bx 189 [L y153 a.1,L y155 a.2.1.1,L Ty.str a.2.1.2.1,L y231 a.2.1.2.2,L y172 a.2.2,AV.os 18 0,AV.os 38 1,AV.os 102 0,AV.os 114 0,nil]),(38,A 138 y138 G 1),(148,A 138 y138 Y 0),(114,A 35 i64.sl (l++[j]) 0),(102,A 2 i64 (i++[k.getD (Int.toNat (0:Int)) (0:Int)]) 0),(50,A 2 i64 g 0),(18,A 235 y235 d 0),(1,K 56 j3 a)]) H fun⟨G,Y⟩ H =>
       fK<|fQ <|
       jB [1,3,7,8,11,12,13,87,88,120,121,122,127] H fun H =>
       aB H
     exact vE<|fE<|aA<|fX rfl<|fK<|n9 H
    exact vE<|fE<|e8<|fX rfl<|fK<|n7 H
   exact vE<|fE<|e6<|fX rfl<|n5 H
  refine iA [1,3,7,8,58,59,60]<|vB<|lX (fun((h,t,n):Int×List (List Int)×List Int)=>Z (G3 [p 8 (AV.og 54),p 58 (O 18),p 59 (I (d.length:Int)),p 60 (I h)]) ((54,Ob.grd 35 2 true i64 t none)::(50,A 2 i64 n 0)::(20,bx 189 (Q0 a))::W1 d a f)) ((0,List.replicate (a.2.2.length:Int).toNat [],List.replicate (a.2.2.length:Int).toNat 0)) H fun _ g3 b3 e3 t3 ⟨h,t,n⟩ H=>iA [1,3,7,8,58,59,60,61]<|vQ<|cD H (fun H=>?_) (fun H=>?_)
  ·refine vK<|fQ<|jN r (fun((z,u):List Int×List (List Int))=>Z (G3 [p 8 (AV.og 54),p 58 (O 18),p 59 (I (d.length:Int)),p 60 (I h)]) ((50,A 2 i64 z 0)::(54,Ob.grd 35 2 true i64 u none)::(20,bx 189 (Q0 a))::W1 d a f)) (QK h g3) (fun⟨z,u⟩ H=>?_) (fun _ n4 e4 t4=>?_)
   ·refine jB [1,3,7,8,58,59,60] H fun H=>b3 H
   refine vB<|qD (fun s=>Z (G3 [p 8 (AV.og 54),p 9 (I h),p 10 (R 10),p 58 (O 18),p 59 (I (d.length:Int)),p 60 (I h)]) ((10,bx 235 (A7 true y235 s))::(54,Ob.grd 35 2 true i64 t none)::(50,A 2 i64 n 0)::(20,bx 189 (Q0 a))::W1 d a f)) H fun s H=>iA [1,3,7,8,9,10,58,59,60,66]<|cD H (fun H=>jB [1,3,7,8,58,59,60] H fun H=>fK<|n4 H) fun H=>zD (fun P=>Z (G3 [p 8 (AV.og 54),p 58 (O 18),p 59 (I (d.length:Int)),p 60 (I h)]) ((54,Ob.grd 35 2 true i64 P none)::(79,A 2 i64 [] 2)::(81,A 2 i64 [h] 0)::(10,bx 235 (A7 true y235 s))::(50,A 2 i64 n 0)::(20,bx 189 (Q0 a))::W1 d a f)) H fun P H=>fK<|n4 H
  exact vE<|fE<|e3<|fX rfl<|n2 H
 refine iA [1,3,4,23,24,25]<|vB<|lX (fun((v4,v5,v6):Int×Int×List j2)=>Z [p 1 (R 1),p 3 (R 20),p 4 (I v4),p 23 (L y155 a.2.1.1),p 24 (I (a.2.1.1.length:Int)),p 25 (I v5)] ((20,bx 189 (Q0 a))::W1 d a v6)) (0,0,[]) H fun _ g1 b1 e1 t1 ⟨v4,v5,v6⟩ H=>iA [1,3,4,23,24,25,26]<|vQ<|cD H (fun H=>vK<|fQ<|vQ<|vB<|qD (fun v7=>Z [p 1 (R 1),p 3 (R 20),p 4 (I v4),p 6 (R 6),p 23 (L y155 a.2.1.1),p 24 (I (a.2.1.1.length:Int)),p 25 (I v5)] ((6,K 155 y155 v7)::(20,bx 189 (Q0 a))::W1 d a v6)) H fun v7 H=>iD N0K [1,3,4,6,23,24,25] H fun _ H=>jD Nk [1,3,4,23,24,25] H fun _ H=>fK<|fQ<|jB [1,3,4,23,24,25] H fun H=>b1 H) fun H=>vE<|fE<|e1<|fX rfl<|n0 H
def Gk(a:Int):Option Bool :=
 gd ((B0 a 0 1000000).isSome/\True) <|
 some (vl (B0 a 0 1000000))
def S0F:Ct:=b9 210 [.dat i64] (fun x=>Gk x.1) (fun r:Bool=>B r) (fun _=>())
theorem Q0t:Ok prog S0F:=by
 refine c8 [.tmp 2] func210 ?_;intro y ⟨_,_⟩ r H Q hn hr;have:=hz (tc AD tn);refine iA [0]<|iB [2] H fun H=>a7<|hr H
def BD(a:l9):Option Bool :=
 gd ((M8 a).isSome/\(vl (M8 a)=true/\True->(Gk a.1).isSome)/\((vl (M8 a)&&vl (Gk a.1))=true/\True->(Gk a.2).isSome)/\True) <|
 some (vl (M8 a)&&vl (Gk a.1)&&vl (Gk a.2))
def T0x:Ct:=b9 158 [.agg y73] (fun x=>BD x.1) (fun r:Bool=>B r) (fun _=>())
theorem N0J:Ok prog T0x:=by
 refine c8 [.tmp 2] func158 ?_;intro y ⟨_,_⟩ r H Q hn hr;have:=hz (tc Q0t (tc Nh tn));refine iA [1]<|iB [2] H fun H=>a7<|hr H
def JQ(a:List l9):Option Int :=
 some (a.length:Int)
def T0y:Ct:=b9 157 [.dat y73.sl] (fun x=>JQ x.1) (fun r:Int=>I r) (fun _=>())
theorem Q0O:Ok prog T0y:=by
 refine c8 [.tmp 2] func157 ?_;intro y ⟨_,_⟩ r H Q hn hr;refine iA [0]<|iA [2]<|a7<|hr H
def NI(a:List Bool):Option Int :=
 some (a.length:Int)
def T0z:Ct:=b9 156 [.dat Ty.bool.sl] (fun x=>NI x.1) (fun r:Int=>I r) (fun _=>())
theorem Q0P:Ok prog T0z:=by
 refine c8 [.tmp 2] func156 ?_;intro y ⟨_,_⟩ r H Q hn hr;refine iA [0]<|iA [2]<|a7<|hr H
def B0M:Unit->Option Bool
 | _ =>
 some true
def I0g(b:B8)(c:Int->Option Bool):Int->Option Bool
 | a =>
 if(decide (a < (b.1.length:Int))) then
  gd (ix a b.1.length/\True) <|
  gd (ix a b.2.1.length/\(M8 (b.2.1.getD a.toNat (a6 y73))).isSome/\((!vl (M8 (b.2.1.getD a.toNat (a6 y73))))=false/\True->ix a b.2.2.length)/\((!vl (M8 (b.2.1.getD a.toNat (a6 y73))))=false/\True->(BD (b.2.2.getD a.toNat (a6 y73))).isSome)/\((!b.1.getD a.toNat false)=true/\(!vl (M8 (b.2.1.getD a.toNat (a6 y73)))||!vl (BD (b.2.2.getD a.toNat (a6 y73))))=false/\True->ix a b.2.1.length)/\((!((b.2.1.getD a.toNat (a6 y73)).1==0&&((b.2.1.getD a.toNat (a6 y73)).2==0&&true)))=false/\(!b.1.getD a.toNat false)=true/\(!vl (M8 (b.2.1.getD a.toNat (a6 y73)))||!vl (BD (b.2.2.getD a.toNat (a6 y73))))=false/\True->ix a b.2.2.length)/\True)<|lt (!vl (M8 (b.2.1.getD a.toNat (a6 y73)))||!vl (BD (b.2.2.getD a.toNat (a6 y73)))||!b.1.getD a.toNat false&&(!((b.2.1.getD a.toNat (a6 y73)).1==0&&((b.2.1.getD a.toNat (a6 y73)).2==0&&true))||!((b.2.2.getD a.toNat (a6 y73)).1==0&&((b.2.2.getD a.toNat (a6 y73)).2==0&&true)))) fun d =>
  if d then
   some false
  else
   gd (b7 (a+1)/\True) <|
   c (a+1)
 else
  B0M ()
def Va(c:D1)(a:B8):Option Bool :=
 gd ((T8 c).isSome/\True)<|lt (vl (T8 c)) fun b =>
 gd ((NI a.1).isSome/\((vl (NI a.1) != b)=false/\True->(JQ a.2.1).isSome)/\((vl (NI a.1) != b||vl (JQ a.2.1) != b)=false/\True->(JQ a.2.2).isSome)/\True)<|lt ((vl (NI a.1),vl (JQ a.2.1),vl (JQ a.2.2))) fun(d,e,f) =>
 if(d != b||e != b||f != b) then
  some false
 else
  lp (I0g a) 0
def U0u:Ct:=b9 103 [.dat y189.pt,.agg y65] (fun x=>Va x.1 x.2.1) (fun r:Bool=>B r) (fun _=>())
theorem N0W:Ok prog U0u:=by
 refine c8 [.tmp 4] func103 ?_;intro y ⟨_,a,_⟩ r H Q hn hr;have:=hz (tc N0J (tc Nh (tc Q0O (tc Q0P (tc HI tn)))));refine iA [0,3]<|iD HI [3,5] H fun c H=>vQ<|qD (fun(d,e,g)=>Z [p 3 (R 3),p 28 (B (d != c||e != c||g != c))] [(3,K 65 y65 a)]) H fun⟨d,e,g⟩ H =>
  cD H (fun H=>iA [4]<|a7<|fR<|hr H) fun H=>vK<|fQ<|jN r (fun(_:Unit)=>Z [] []) (B0M) (fun _ H=>?_) (fun _ l m i=>?_)
 ·refine iA [4]<|a7<|hr H
 refine iA [3,30,31,32]<|vB<|lX (fun(b:Int)=>Z [p 3 (R 3),p 30 (L Ty.bool a.1),p 31 (I (a.1.length:Int)),p 32 (I b)] [(3,K 65 y65 a)]) 0 H fun _ n h k j b H=>iA [3,30,31,32,33]<|vQ<|cD H (fun H=>?_) (fun H=>?_)
 ·refine vK<|fQ<|vQ<|vB<|iB [3,6,7,30,31,32] H fun H=>qD (fun f=>Z [p 3 (R 3),p 30 (L Ty.bool a.1),p 31 (I (a.1.length:Int)),p 32 (I b),p 74 (B f)] [(3,K 65 y65 a)]) H fun f H=>cD H (fun H=>iA [4]<|a7<|c9<|fR<|j<|c9<|i<|hr H) fun H=>vK<|fK<|fQ<|jB [3,30,31,32] H fun H=>h H
 exact vE<|fE<|k<|fX rfl<|l H
def HS(a:List j2):Option Int :=
 some (a.length:Int)
def T0v:Ct:=b9 160 [.dat y138.sl] (fun x=>HS x.1) (fun r:Int=>I r) (fun _=>())
theorem Q0N:Ok prog T0v:=by
 refine c8 [.tmp 2] func160 ?_;intro y ⟨_,_⟩ r H Q hn hr;refine iA [0]<|iA [2]<|a7<|hr H
def Fe(a:D1)(b:List Int):Option Bool :=
 gd ((HS a.2.2.1).isSome/\b7 (vl (HS a.2.2.1)-1)/\(J8 b 0 (vl (HS a.2.2.1)-1)).isSome/\(vl (J8 b 0 (vl (HS a.2.2.1)-1))=true/\True->(Dq b).isSome)/\True) <|
 some (vl (J8 b 0 (vl (HS a.2.2.1)-1))&&vl (Dq b))
def U0t:Ct:=b9 104 [.dat y189.pt,.dat i64.sl] (fun x=>Fe x.1 x.2.1) (fun r:Bool=>B r) (fun _=>())
theorem N0V:Ok prog U0t:=by
 refine c8 [.tmp 4] func104 ?_;intro y ⟨_,_,_⟩ r H Q hn hr;have:=hz (tc N0I (tc Nj (tc Q0N tn)));refine iA [0,1]<|iB [4] H fun H=>a7<|hr H
def B0L:Unit->Option Bool
 | _ =>
 some true
def B0K(c:D1)(d:List l7)(e:Int->Option Bool):Int->Option Bool
 | b =>
 if(decide (b < (d.length:Int))) then
  gd (ix b d.length/\True)<|lt (d.getD b.toNat (a6 y75)) fun a =>
  gd ((Ab c a.1).isSome/\((!vl (Ab c a.1))=false/\True->(M8 a.2.1).isSome)/\((!vl (Ab c a.1)||!vl (M8 a.2.1))=false/\True->(BD a.2.2).isSome)/\(decide (0<b)=true/\(!vl (Ab c a.1)||!vl (M8 a.2.1)||!vl (BD a.2.2))=false/\True->b7 (b-1))/\(decide (0<b)=true/\(!vl (Ab c a.1)||!vl (M8 a.2.1)||!vl (BD a.2.2))=false/\True->ix (b-1) d.length)/\True) <|
  if(!vl (Ab c a.1)||!vl (M8 a.2.1)||!vl (BD a.2.2)||decide (0<b)&&decide (a.1<=(d.getD (b-1).toNat (a6 y75)).1)) then
   some false
  else
   gd (b7 (b+1)/\True) <|
   e (b+1)
 else
  B0L ()
def HU(a:D1)(b:List l7):Option Bool :=
 lp (B0K a b) 0
def U0s:Ct:=b9 105 [.dat y189.pt,.dat y75.sl] (fun x=>HU x.1 x.2.1) (fun r:Bool=>B r) (fun _=>())
theorem N0U:Ok prog U0s:=by
 refine c8 [.tmp 4] func105 ?_;intro y ⟨c,a,_⟩ r H Q hn hr;have:=hz (tc N0J (tc Nh (tc Ut tn)));refine iA [0,1]<|jN r (fun(_:Unit)=>Z [] []) (B0L) (fun _ H=>?_) (fun _ h j e=>?_)
 ·refine iA [4]<|a7<|hr H
 refine iA [0,1,7,8,9]<|vB<|lX (fun(b:Int)=>Z [p 0 (D y189.pt c),p 1 (L y75 a),p 7 (L y75 a),p 8 (I (a.length:Int)),p 9 (I b)] []) 0 H fun _ k i g f b H=>iA [0,1,7,8,9,10]<|vQ<|cD H (fun H=>?_) (fun H=>?_)
 ·refine vK<|fQ<|vQ<|vB<|qD (fun d=>Z [p 0 (D y189.pt c),p 1 (L y75 a),p 5 (I b),p 6 (R 6),p 7 (L y75 a),p 8 (I (a.length:Int)),p 9 (I b)] [(6,K 75 y75 d)]) H fun d H=>iB [0,1,7,8,9,45] H fun H=>cD H (fun H=>iA [4]<|a7<|c9<|fR<|f<|c9<|e<|hr H) fun H=>vK<|fK<|fQ<|jB [0,1,7,8,9] H fun H=>i H
 exact vE<|fE<|g<|fX rfl<|h H
def B0J(a:D1):List Bool->Option H3
 | b =>
 some (a,b)
def B0H(b:List Int)(e:D1)(d:Int×List Bool->Option H3):Int×List Bool->Option H3
 | (a,c) =>
 if(decide (a < (b.length:Int))) then
  gd (ix a b.length/\True) <|
  gd (ix (b.getD a.toNat 0) c.length/\Int.toNat (b.getD a.toNat 0)<c.length/\True) <|
  gd (b7 (a+1)/\True) <|
  d ((a+1,c.set (Int.toNat (b.getD a.toNat 0)) false))
 else
  B0J e c
def NJ(c:List Int)(b:D1):List Bool->Option H3
 | a =>
 lp (B0H c b) (0,a)
def B0I(f:List Int)(c:D1)(d:Int)(e:Int×List Bool->Option H3):Int×List Bool->Option H3
 | (a,b) =>
 if(decide (a<d)) then
  gd (ix a b.length/\a.toNat<b.length/\True) <|
  gd (b7 (a+1)/\True) <|
  e (a+1,b.set a.toNat true)
 else
  NJ f c b
def HV(a:D1)(c:List Int):Option H3 :=
 gd ((0<=(a.2.2.1.length:Int)/\(a.2.2.1.length:Int)=(a.2.2.1.length:Int)/\(a.2.2.1.length:Int).toNat*1<=281474976710656/\(a.2.2.1.length:Int)<=9223372036854775807)/\True) <|
 lt ((↑(List.replicate (a.2.2.1.length:Int).toNat false).length:Int)) fun b =>
 lp (B0I c a b) ((0,List.replicate (a.2.2.1.length:Int).toNat false))
def U0r:Ct:=b9 106 [.dat y189.pt,.dat i64.sl] (fun x=>HV x.1 x.2.1) (fun r:H3=>D y126.pt r) (fun _=>())
theorem QM:Ok prog U0r:=by
 refine c8 [.tmp 4] func106 ?_;intro y ⟨a,b,_⟩ r H Q hn hr;refine iA [0,1]<|iB [1,5] H fun H=>jN r (fun(c:List Bool)=>Z [p 1 (L i64 b),p 5 (R 17)] (W9 a c)) (NJ b a) (fun c H=>?_) (fun _ m u x=>?_)
 ·refine jN r (fun(f:List Bool)=>Z [p 5 (R 17)] (W9 a f)) (B0J a) (fun f H=>?_) (fun _ l q s=>?_)
  ·refine iA [4]<|a7<|hr H
  refine iA [5,33,34,35]<|vB<|lX (fun((e,g):Int×List Bool)=>Z [p 5 (R 17),p 33 (L i64 b),p 34 (I (b.length:Int)),p 35 (I e)] (W9 a g)) (0,c) H fun _ t j o w ⟨e,g⟩ H=>iA [5,33,34,35,36]<|vQ<|cD H (fun H=>vK<|fQ<|vQ<|vB<|iB [5,8,33,34,35] H fun H=>jB [5,33,34,35] H fun H=>fK<|fQ<|jB [5,33,34,35] H fun H=>j H) fun H=>vE<|fE<|o<|fX rfl<|l H
 refine qC (fun d=>Z [p 1 (L i64 b),p 5 (R 17),p 22 (I d),p 23 (I 0)] (W9 a (List.replicate (a.2.2.1.length:Int).toNat false))) H fun d H=>vB<|lX (fun((i,h):Int×List Bool)=>Z [p 1 (L i64 b),p 5 (R 17),p 22 (I d),p 23 (I i)] (W9 a h)) ((0,List.replicate (a.2.2.1.length:Int).toNat false)) H fun _ z k n v ⟨i,h⟩ H=>iA [1,5,22,23,24]<|vQ<|cD H (fun H=>vK<|fQ<|vQ<|vB<|iA [1,5,6,22,23]<|jB [1,5,22,23] H fun H=>fK<|fQ<|jB [1,5,22,23] H fun H=>k H) fun H=>vE<|fE<|n<|fX rfl<|m H
def Vb(a:j2)(b:Int):Option Bool :=
 some (a.1==b)
def S0D:Ct:=b9 213 [.agg y138,.dat (.pt i64)] (fun x=>Vb x.1 x.2.1) (fun r:Bool=>B r) (fun _=>())
theorem N0p:Ok prog S0D:=by
 refine c8 [.tmp 3] func213 ?_;intro y ⟨_,_,_⟩ r H Q hn hr;refine iA [1,2]<|iA [3]<|a7<|hr H
def k0B:List Int->Option (List Int)
 | a =>
 some a
def Vc(a:Int)(b:List Int×Int->Option (List Int)):List Int->Option (List Int)
 | c =>
 gd (b7 (a+1)/\True) <|
 b (c,a+1)
def k0A(b:H3)(f:Int)(e:List Int×Int->Option (List Int)):List Int×Int->Option (List Int)
 | (c,a) =>
 if(decide (a < (b.1.2.2.1.length:Int))) then
  gd (ix a b.1.2.2.1.length/\True)<|lt (b.1.2.2.1.getD a.toNat (a6 y138)) fun d =>
  gd (ix a b.2.length/\(b.2.getD a.toNat false=true/\True->(Vb d f).isSome)/\True) <|
  if(b.2.getD a.toNat false&&vl (Vb d f)) then
   gd ((c.length+[a].length<=9223372036854775807/\(c.length+[a].length)*8<=140737488355328)/\True) <|
   Vc a e (c++[a])
  else
   Vc a e c
 else
  k0B c
def QN(a:H3)(b:Int):Option (List Int) :=
 lp (k0A a b) ([],0)
def y0Y:Ct:=b9 162 [.dat y126.pt,.fn 213 (.pt i64)] (fun x=>QN x.1 x.2.1) (fun r:List Int=>AV.ow 2 true i64 r) (fun _=>())
theorem Vd:Ok prog y0Y:=by
 refine c8 [.tmp 4] func162 ?_;intro y ⟨a,d,_⟩ r H Q hn hr;have:=hz (tc N0p tn);refine iA [0,1]<|iA [0,1,5]<|jN r (fun(h:List Int)=>Z [p 5 (O 36)] [(36,A 2 i64 h 0)]) (k0B) (fun h H=>?_) (fun _ k o n=>?_)
 ·refine iA [4]<|a7<|hr H
 refine iA [0,1,5,14,15,16]<|vB<|lX (fun((c,b):List Int×Int)=>Z [p 0 (D y126.pt a),p 1 (AV.fn 213 [D i64.pt d]),p 5 (O 36),p 14 (L y138 a.1.2.2.1),p 15 (I (a.1.2.2.1.length:Int)),p 16 (I b)] [(36,A 2 i64 c 0)]) ([],0) H fun _ i l j q ⟨c,b⟩ H=>iA [0,1,5,14,15,16,17]<|vQ<|cD H (fun H=>?_) (fun H=>?_)
 ·refine vK<|fQ<|jN r (fun(f:List Int)=>Z [p 0 (D y126.pt a),p 1 (AV.fn 213 [D i64.pt d]),p 5 (O 36),p 14 (L y138 a.1.2.2.1),p 15 (I (a.1.2.2.1.length:Int)),p 16 (I b)] [(36,A 2 i64 f 0)]) (Vc b i) (fun f H=>?_) (fun _ e m s=>?_)
  ·refine jB [0,1,5,14,15,16] H fun H=>l H
  refine vB<|qD (fun g=>Z [p 0 (D y126.pt a),p 1 (AV.fn 213 [D i64.pt d]),p 5 (O 36),p 6 (I b),p 7 (R 7),p 14 (L y138 a.1.2.2.1),p 15 (I (a.1.2.2.1.length:Int)),p 16 (I b)] [(7,K 138 y138 g),(36,A 2 i64 c 0)]) H fun g H=>iB [0,1,5,6,14,15,16,32] H fun H=>cD H (fun H=>jB [0,1,5,14,15,16] H fun H=>fK<|e H) fun H=>vK<|fK<|e H
 exact vE<|fE<|j<|fX rfl<|k H
def HW(a:H3)(b:Int):Option (List Int) :=
 gd ((QN a b).isSome/\True)<|lt (vl (QN a b)) fun c =>
 some c
def T0r:Ct:=b9 165 [.dat y126.pt,.dat i64] (fun x=>HW x.1 x.2.1) (fun r:List Int=>AV.ow 2 true i64 r) (fun _=>())
theorem N0F:Ok prog T0r:=by
 refine c8 [.tmp 4] func165 ?_;intro y ⟨_,_,_⟩ r H Q hn hr;have:=hz (tc Qc (tc Vd (tc N0p tn)));refine iA [0,3]<|iD Vd [4] H fun _ H=>a7<|hr H
def A0V:Unit->Option Int
 | _ =>
 some (-1)
def A0U(d:Int)(b:List Int)(c:Int->Option Int):Int->Option Int
 | a =>
 if(decide (a < (b.length:Int))) then
  gd (ix a b.length/\True) <|
  if(d==b.getD a.toNat 0) then
   some a
  else
   gd (b7 (a+1)/\True) <|
   c (a+1)
 else
  A0V ()
def QO(a:List Int)(b:Int):Option Int :=
 lp (A0U b a) 0
def T0s:Ct:=b9 164 [.dat i64.sl,.dat i64] (fun x=>QO x.1 x.2.1) (fun r:Int=>I r) (fun _=>())
theorem N0G:Ok prog T0s:=by
 refine c8 [.tmp 4] func164 ?_;intro y ⟨a,e,_⟩ r H Q hn hr;refine iA [0,1]<|jN r (fun(_:Unit)=>Z [] []) (A0V) (fun _ H=>?_) (fun _ g i c=>?_)
 ·refine iA [4]<|a7<|hr H
 refine iA [0,1,7,8]<|vB<|lX (fun(b:Int)=>Z [p 0 (L i64 a),p 1 (J e),p 7 (I (a.length:Int)),p 8 (I b)] []) 0 H fun _ j h f d b H=>iA [0,1,7,8,9]<|vQ<|cD H (fun H=>?_) (fun H=>?_)
 ·refine vK<|fQ<|vQ<|vB<|iA [0,1,5,7,8]<|iB [0,1,5,7,8,16] H fun H=>cD H (fun H=>iA [4]<|a7<|c9<|fR<|d<|c9<|c<|hr H) fun H=>vK<|fK<|fQ<|jB [0,1,7,8] H fun H=>h H
 exact vE<|fE<|f<|fX rfl<|g H
def Ve(_:j2):Option Bool :=
 some true
def T0t:Ct:=b9 163 [.agg y138] (fun x=>Ve x.1) (fun r:Bool=>B r) (fun _=>())
theorem N0H:Ok prog T0t:=by
 refine c8 [.tmp 2] func163 ?_;intro y ⟨_,_⟩ r H Q hn hr;refine iA []<|iA [2]<|a7<|hr H
def k0F:List Int->Option (List Int)
 | a =>
 some a
def Vf(a:Int)(b:List Int×Int->Option (List Int)):List Int->Option (List Int)
 | c =>
 gd (b7 (a+1)/\True) <|
 b (c,a+1)
def k0E(b:H3)(e:List Int×Int->Option (List Int)):List Int×Int->Option (List Int)
 | (c,a) =>
 if(decide (a < (b.1.2.2.1.length:Int))) then
  gd (ix a b.1.2.2.1.length/\True)<|lt (b.1.2.2.1.getD a.toNat (a6 y138)) fun d =>
  gd (ix a b.2.length/\(b.2.getD a.toNat false=true/\True->(Ve d).isSome)/\True) <|
  if(b.2.getD a.toNat false&&vl (Ve d)) then
   gd ((c.length+[a].length<=9223372036854775807/\(c.length+[a].length)*8<=140737488355328)/\True) <|
   Vf a e (c++[a])
  else
   Vf a e c
 else
  k0F c
def QP(a:H3):Option (List Int) :=
 lp (k0E a) ([],0)
def z0a:Ct:=b9 162 [.dat y126.pt,.nof 163] (fun x=>QP x.1) (fun r:List Int=>AV.ow 2 true i64 r) (fun _=>())
theorem q0V:Ok prog z0a:=by
 refine c8 [.tmp 4] func162 ?_;intro y ⟨a,_,_⟩ r H Q hn hr;have:=hz (tc N0H tn);refine iA [0,1]<|iA [0,1,5]<|jN r (fun(g:List Int)=>Z [p 5 (O 36)] [(36,A 2 i64 g 0)]) (k0F) (fun g H=>?_) (fun _ j n m=>?_)
 ·refine iA [4]<|a7<|hr H
 refine iA [0,1,5,14,15,16]<|vB<|lX (fun((c,b):List Int×Int)=>Z [p 0 (D y126.pt a),p 1 (AV.fn 163 []),p 5 (O 36),p 14 (L y138 a.1.2.2.1),p 15 (I (a.1.2.2.1.length:Int)),p 16 (I b)] [(36,A 2 i64 c 0)]) ([],0) H fun _ h k i o ⟨c,b⟩ H=>iA [0,1,5,14,15,16,17]<|vQ<|cD H (fun H=>?_) (fun H=>?_)
 ·refine vK<|fQ<|jN r (fun(e:List Int)=>Z [p 0 (D y126.pt a),p 1 (AV.fn 163 []),p 5 (O 36),p 14 (L y138 a.1.2.2.1),p 15 (I (a.1.2.2.1.length:Int)),p 16 (I b)] [(36,A 2 i64 e 0)]) (Vf b h) (fun e H=>?_) (fun _ d l q=>?_)
  ·refine jB [0,1,5,14,15,16] H fun H=>k H
  refine vB<|qD (fun f=>Z [p 0 (D y126.pt a),p 1 (AV.fn 163 []),p 5 (O 36),p 6 (I b),p 7 (R 7),p 14 (L y138 a.1.2.2.1),p 15 (I (a.1.2.2.1.length:Int)),p 16 (I b)] [(7,K 138 y138 f),(36,A 2 i64 c 0)]) H fun f H=>iB [0,1,5,6,14,15,16,32] H fun H=>cD H (fun H=>jB [0,1,5,14,15,16] H fun H=>fK<|d H) fun H=>vK<|fK<|d H
 exact vE<|fE<|i<|fX rfl<|j H
def B0G:List Int->Option (List Int×Bool)
 | a =>
 some (a,true)
def QQ(a:Int)(d:List Int×Int×List Int->Option (List Int×Bool)):List Int×List Int->Option (List Int×Bool)
 | (b,c) =>
 gd (b7 (a+1)/\True) <|
 d (b,a+1,c)
def QR(d:H3)(b:List Int)(f:Int)(h:List Int)(e:Int)(j:List Int×Int×List Int->Option (List Int×Bool))(i:Int×List Int->Option (List Int×Bool)):Int×List Int->Option (List Int×Bool)
 | (a,c) =>
 if(decide (a < (b.length:Int))) then
  gd (ix a b.length/\a.toNat<b.length/\True) <|
  gd (ix (b.getD a.toNat 0) d.1.2.2.1.length/\ix (d.1.2.2.1.getD (Int.toNat (b.getD a.toNat 0)) (a6 y138)).2.1 c.length/\(d.1.2.2.1.getD (Int.toNat (b.getD a.toNat 0)) (a6 y138)).2.1.toNat<c.length/\b7 (c.getD (d.1.2.2.1.getD (Int.toNat (b.getD a.toNat 0)) (a6 y138)).2.1.toNat 0-1)/\ix (d.1.2.2.1.getD (Int.toNat (b.getD a.toNat 0)) (a6 y138)).2.1 c.length/\(d.1.2.2.1.getD (Int.toNat (b.getD a.toNat 0)) (a6 y138)).2.1.toNat<c.length/\True)<|lt (c.set (d.1.2.2.1.getD (Int.toNat (b.getD a.toNat 0)) (a6 y138)).2.1.toNat (c.getD (d.1.2.2.1.getD (Int.toNat (b.getD a.toNat 0)) (a6 y138)).2.1.toNat 0-1)) fun g =>
  gd (b7 (a+1)/\True) <|
  i (a+1,g)
 else
  QQ f j (h++[e],c)
def B0F(e:H3)(h:List Int)(g:List Int×Int×List Int->Option (List Int×Bool)):List Int×Int×List Int->Option (List Int×Bool)
 | (c,d,b) =>
 if(decide (d < (h.length:Int))) then
  gd ((QO b 0).isSome/\True)<|lt (vl (QO b 0)) fun a =>
  if(decide (a<0)) then
   some ([],false)
  else
   gd (ix a b.length/\a.toNat<b.length/\True) <|
   gd ((c.length+[a].length<=9223372036854775807/\(c.length+[a].length)*8<=140737488355328)/\True) <|
   gd ((HW e a).isSome/\True)<|lt (vl (HW e a)) fun f =>
   lp (QR e f d c a g) ((0,b.set a.toNat (-1)))
 else
  B0G c
def NK(b:H3):List Int->Option (List Int×Bool)
 | a =>
 lp (B0F b a) ([],0,a)
def Vg(c:H3)(b:List Int)(f:Int×List Int->Option (List Int×Bool)):Int×List Int->Option (List Int×Bool)
 | (a,d) =>
 if(decide (a < (b.length:Int))) then
  gd (ix a b.length/\a.toNat<b.length/\True) <|
  gd (ix (b.getD a.toNat 0) c.1.2.2.1.length/\ix (c.1.2.2.1.getD (Int.toNat (b.getD a.toNat 0)) (a6 y138)).2.1 d.length/\(c.1.2.2.1.getD (Int.toNat (b.getD a.toNat 0)) (a6 y138)).2.1.toNat<d.length/\b7 (d.getD (c.1.2.2.1.getD (Int.toNat (b.getD a.toNat 0)) (a6 y138)).2.1.toNat 0+1)/\ix (c.1.2.2.1.getD (Int.toNat (b.getD a.toNat 0)) (a6 y138)).2.1 d.length/\(c.1.2.2.1.getD (Int.toNat (b.getD a.toNat 0)) (a6 y138)).2.1.toNat<d.length/\True)<|lt (d.set (c.1.2.2.1.getD (Int.toNat (b.getD a.toNat 0)) (a6 y138)).2.1.toNat (d.getD (c.1.2.2.1.getD (Int.toNat (b.getD a.toNat 0)) (a6 y138)).2.1.toNat 0+1)) fun e =>
  gd (b7 (a+1)/\True) <|
  f (a+1,e)
 else
  NK c d
def HX(a:H3):Option (List Int×Bool) :=
 gd ((T8 a.1).isSome/\(0<=vl (T8 a.1)/\vl (T8 a.1)=vl (T8 a.1)/\(vl (T8 a.1)).toNat*8<=281474976710656/\vl (T8 a.1)<=9223372036854775807)/\True)<|lt (vl (T8 a.1)) fun b =>
 gd ((QP a).isSome/\True)<|lt (vl (QP a)) fun c =>
 lp (Vg a c) (0,List.replicate b.toNat 0)
def U0q:Ct:=b9 107 [.dat y126.pt] (fun x=>HX x.1) (fun r:List Int×Bool=>AV.tup [AV.ow 2 true i64 r.1,B r.2]) (fun _=>())
theorem QS:Ok prog U0q:=by
 refine c8 [.tmp 2,.tmp 3] func107 ?_;intro y ⟨d,_⟩ r H Q hn hr;have:=hz (tc N0F (tc N0G (tc N0H (tc Qc (tc Vd (tc q0V (tc HI tn)))))));refine iA [0]<|iD HI [0,4] H fun F H=>jN r (fun(f:List Int)=>Z [p 0 (D y126.pt d),p 4 (O 16)] [(16,A 3 i64 f 0)]) (NK d) (fun f H=>?_) (fun _ T e0 t0=>?_)
 ·refine iA [0,4,7]<|jN r (fun(j:List Int)=>Z [p 7 (O 55)] [(55,A 2 i64 j 0)]) (B0G) (fun j H=>?_) (fun _ E Y v=>?_)
  ·refine iA [2,3]<|a7<|hr H
  refine iA [0,4,7,42,43]<|vB<|lX (fun((b,a,g):List Int×Int×List Int)=>Z [p 0 (D y126.pt d),p 4 (O 16),p 7 (O 55),p 42 (I (f.length:Int)),p 43 (I a)] [(16,A 3 i64 g 0),(55,A 2 i64 b 0)]) ([],0,f) H fun _ x t W P ⟨b,a,g⟩ H=>iA [0,4,7,42,43,44]<|vQ<|cD H (fun H=>?_) (fun H=>?_)
  ·refine vK<|fQ<|jN r (fun((k,m):List Int×List Int)=>Z [p 0 (D y126.pt d),p 4 (O 16),p 7 (O 55),p 42 (I (f.length:Int)),p 43 (I a)] [(55,A 2 i64 k 0),(16,A 3 i64 m 0)]) (QQ a x) (fun⟨k,m⟩ H=>?_) (fun _ X e4 u=>?_)
   ·refine jB [0,4,7,42,43] H fun H=>t H
   refine vB<|iD N0G [0,4,7,8,42,43] H fun h H=>vQ<|iA [0,4,7,8,42,43,48]<|cD H (fun H=>iA [2,3]<|a7<|fR<|c9<|u<|P<|c9<|v<|hr H) fun H=>vK<|fQ<|iB [0,4,7,8,42,43] H fun H=>iB [0,4,7,8,42,43] H fun H=>iD N0F [0,4,7,42,43,58,59,60] H fun c H=>vB<|lX (fun((e,i):Int×List Int)=>Z [p 0 (D y126.pt d),p 4 (O 16),p 7 (O 55),p 42 (I (f.length:Int)),p 43 (I a),p 58 (O 58),p 59 (I (c.length:Int)),p 60 (I e)] [(58,A 2 i64 c 0),(55,A 2 i64 (b++[h]) 0),(16,A 3 i64 i 0)]) ((0,g.set h.toNat (-1))) H fun _ g5 z G t5 ⟨e,i⟩ H=>iA [0,4,7,42,43,58,59,60,61]<|vQ<|cD H (fun H=>vK<|fQ<|vQ<|vB<|iB [0,4,7,10,42,43,58,59,60] H fun H=>zD (fun l=>Z [p 0 (D y126.pt d),p 4 (O 16),p 7 (O 55),p 42 (I (f.length:Int)),p 43 (I a),p 58 (O 58),p 59 (I (c.length:Int)),p 60 (I e)] [(16,A 3 i64 l 0),(58,A 2 i64 c 0),(55,A 2 i64 (b++[h]) 0)]) H fun l H=>fK<|fQ<|jB [0,4,7,42,43,58,59,60] H fun H=>z H) fun H=>vE<|fE<|G<|fX rfl<|fK<|X H
  exact vE<|fE<|W<|fX rfl<|E H
 refine iD q0V [0,4,18,19,20] H fun n H=>vB<|lX (fun((o,s):Int×List Int)=>Z [p 0 (D y126.pt d),p 4 (O 16),p 18 (O 18),p 19 (I (n.length:Int)),p 20 (I o)] [(18,A 2 i64 n 0),(16,A 3 i64 s 0)]) (0,List.replicate F.toNat 0) H fun _ g1 w V t1 ⟨o,s⟩ H=>iA [0,4,18,19,20,21]<|vQ<|cD H (fun H=>vK<|fQ<|vQ<|vB<|iB [0,4,6,18,19,20] H fun H=>zD (fun q=>Z [p 0 (D y126.pt d),p 4 (O 16),p 18 (O 18),p 19 (I (n.length:Int)),p 20 (I o)] [(16,A 3 i64 q 0),(18,A 2 i64 n 0)]) H fun q H=>fK<|fQ<|jB [0,4,18,19,20] H fun H=>w H) fun H=>vE<|fE<|V<|fX rfl<|T H
def NL(a:l9)(b:l9):Option l9 :=
 some (min a.1 b.1,max a.2 b.2)
def U0e:Ct:=b9 119 [.agg y73,.agg y73] (fun x=>NL x.1 x.2.1) (fun r:l9=>AV.agg [I r.1,I r.2]) (fun _=>())
theorem Vh:Ok prog U0e:=by
 refine c8 [.cell 4 73] func119 ?_;intro y ⟨_,_,_⟩ r H Q hn hr;refine iA [2,3,4]<|iA [4]<|a7<|hr H
def NM(a:Int):Option B8 :=
 gd ((0<=a/\a=a/\a.toNat*1<=281474976710656/\a<=9223372036854775807)/\(0<=a/\a=a/\a.toNat*16<=281474976710656/\a<=9223372036854775807)/\(0<=a/\a=a/\a.toNat*16<=281474976710656/\a<=9223372036854775807)/\True) <|
 some ((List.replicate a.toNat false,List.replicate a.toNat ((0:Int),(0:Int)),List.replicate a.toNat ((0:Int),(0:Int))))
def T0X:Ct:=b9 127 [.dat i64] (fun x=>NM x.1) (fun r:B8=>AV.agg [AV.ow 4 true Ty.bool r.1,AV.ow 73 true y73 r.2.1,AV.ow 73 true y73 r.2.2]) (fun _=>())
theorem N0R:Ok prog T0X:=by
 refine c8 [.cell 2 65] func127 ?_;intro y ⟨_,_⟩ r H Q hn hr;refine iA [0,2]<|iB [2] H fun H=>a7<|hr H
def NN(b:D1):Option B8 :=
 gd ((T8 b).isSome/\True)<|lt (vl (T8 b)) fun a =>
 gd ((0<=a/\a=a/\a.toNat*1<=281474976710656/\a<=9223372036854775807)/\(0<=a/\a=a/\a.toNat*16<=281474976710656/\a<=9223372036854775807)/\(0<=a/\a=a/\a.toNat*16<=281474976710656/\a<=9223372036854775807)/\True) <|
 some ((List.replicate a.toNat false,List.replicate a.toNat ((0:Int),(0:Int)),List.replicate a.toNat ((0:Int),(0:Int))))
def T0W:Ct:=b9 128 [.dat y189.pt] (fun x=>NN x.1) (fun r:B8=>AV.agg [AV.ow 4 true Ty.bool r.1,AV.ow 73 true y73 r.2.1,AV.ow 73 true y73 r.2.2]) (fun _=>())
theorem N0Q:Ok prog T0W:=by
 refine c8 [.cell 2 65] func128 ?_;intro y ⟨_,_⟩ r H Q hn hr;have:=hz (tc HI tn);refine iA [0,2]<|iD HI [2,3] H fun _ H=>iB [2] H fun H=>a7<|hr H
def NO(a:l9)(b:l9):Option l9 :=
 some (min a.1 b.1,max a.2 b.2)
def T0h:Ct:=b9 176 [.agg y73,.agg y73] (fun x=>NO x.1 x.2.1) (fun r:l9=>AV.agg [I r.1,I r.2]) (fun _=>())
theorem Q0H:Ok prog T0h:=by
 refine c8 [.cell 4 73] func176 ?_;intro y ⟨_,_,_⟩ r H Q hn hr;refine iA [2,3,4]<|iA [4]<|a7<|hr H
def G0q:Bool×Int×Int×Int×Int×Int->Option (Bool×l7)
 | (a,b,d,e,c,f) =>
 some ((a,b,(d,e),c,f))
def JR(a:Int)(h:Bool×Int×Int×Int×Int×Int×Int->Option (Bool×l7)):Bool×Int×Int×Int×Int×Int->Option (Bool×l7)
 | (b,f,g,e,c,d) =>
 gd (b7 (a+1)/\True) <|
 h (b,a+1,f,g,e,c,d)
def Vi(c:Int)(f:Int)(g:Bool×Int×Int×Int×Int×Int×Int->Option (Bool×l7)):Int×Int×Int×Int->Option (Bool×l7)
 | (e,a,d,b) =>
 JR c g (true,f,d,b,e,a)
def G0o(m:Int)(d:B8)(r:j0)(s:p8)(q:List Bool)(n:List j2)(o:Bool×Int×Int×Int×Int×Int×Int->Option (Bool×l7)):Bool×Int×Int×Int×Int×Int×Int->Option (Bool×l7)
 | (i,c,k,e,f,g,h) =>
 if(decide (c < (n.length:Int))) then
  gd (ix c n.length/\True)<|lt (n.getD c.toNat (a6 y138)) fun a =>
  gd (ix c q.length/\((!q.getD c.toNat false||a.2.1 != m)=false/\True->ix a.1 d.1.length)/\True) <|
  if(!q.getD c.toNat false||a.2.1 != m||!d.1.getD a.1.toNat false) then
   JR c o (i,k,e,f,g,h)
  else
   gd (ix a.1 d.2.2.length/\(FT r s a (d.2.2.getD a.1.toNat (a6 y73))).isSome/\True)<|lt (vl (FT r s a (d.2.2.getD a.1.toNat (a6 y73)))) fun b =>
   gd (ix a.1 d.2.1.length/\b7 ((d.2.1.getD a.1.toNat (a6 y73)).1+b.1.1)/\ix a.1 d.2.1.length/\b7 ((d.2.1.getD a.1.toNat (a6 y73)).2+b.1.2)/\True) <|
   if i then
    gd ((NL ((d.2.1.getD a.1.toNat (a6 y73)).1+b.1.1,(d.2.1.getD a.1.toNat (a6 y73)).2+b.1.2) (e,f)).isSome/\True)<|lt (vl (NL ((d.2.1.getD a.1.toNat (a6 y73)).1+b.1.1,(d.2.1.getD a.1.toNat (a6 y73)).2+b.1.2) (e,f))) fun j =>
    gd ((NL b.2 (g,h)).isSome/\True)<|lt (vl (NL b.2 (g,h))) fun l =>
    Vi c m o (l.1,l.2,j.1,j.2)
   else
    Vi c m o ((b.2.1,b.2.2,(d.2.1.getD a.1.toNat (a6 y73)).1+b.1.1,(d.2.1.getD a.1.toNat (a6 y73)).2+b.1.2))
 else
  G0q (i,k,e,f,g,h)
def JS(h:Int)(j:B8)(i:j0)(k:p8)(l:List Bool)(g:List j2):Bool×Int×Int×Int×Int×Int->Option (Bool×l7)
 | (c,a,d,b,e,f) =>
 lp (G0o h j i k l g) (c,0,a,d,b,e,f)
def Vj(g:Int)(h:Bool×Int×Int×Int×Int×Int×Int->Option (Bool×l7)):Int×Int×Int×Int×Int×Bool->Option (Bool×l7)
 | (f,b,e,a,d,c) =>
 gd (b7 (g+1)/\True) <|
 h (c,g+1,f,b,e,a,d)
def G0p(d:List l7)(i:Int)(n:B8)(m:j0)(o:p8)(q:List Bool)(l:List j2)(h:Bool×Int×Int×Int×Int×Int×Int->Option (Bool×l7)):Bool×Int×Int×Int×Int×Int×Int->Option (Bool×l7)
 | (k,b,j,c,f,g,e) =>
 if(decide (b < (d.length:Int))) then
  gd (ix b d.length/\True) <|
  if((d.getD b.toNat (a6 y75)).1==i) then
   gd (ix b d.length/\True)<|lt (d.getD b.toNat (a6 y75)) fun a =>
   Vj b h (a.1,a.2.1.1,a.2.1.2,a.2.2.1,a.2.2.2,true)
  else
   Vj b h (j,c,f,g,e,k)
 else
  JS i n m o q l (k,j,c,f,g,e)
def Gl(c:j0)(f:p8)(a:List j2)(g:List Bool)(b:List l7)(e:B8)(d:Int):Option (Bool×l7) :=
 lp (G0p b d e c f g a) (false,0,0,0,0,0,0)
def k61:Ct:=b9 61 [.agg j3,.agg q4,.dat y138.sl,.dat Ty.bool.sl,.dat y75.sl,.agg y65,.dat i64] (fun x=>Gl x.1 x.2.1 x.2.2.1 x.2.2.2.1 x.2.2.2.2.1 x.2.2.2.2.2.1 x.2.2.2.2.2.2.1) (fun r:Bool×l7=>AV.tup [B r.1,AV.agg (Q2 r.2)]) (fun _=>())
theorem Vk:Ok prog k61:=by
 refine c8 [.tmp 14,.cell 15 75] func61 ?_;intro y ⟨c,i,g,j,a4,l,b,_⟩ r H Q hn hr;have:=hz (tc Vh (tc PB tn));refine iA [2,3,4,6,7,8,12,15]<|iA [2,3,4,6,7,8,12,15,16]<|iA [2,3,4,6,7,8,12,15,16,17]<|jN r (fun((n,m,E,z,v,x):Bool×Int×Int×Int×Int×Int)=>Z (G4 g j [p 6 (J b),p 7 (R 7),p 8 (R 8),p 12 (R 12),p 15 (R 15),p 16 (B n),p 17 (R 17)]) (W0 m E z v x l i c)) (JS b l c i j g) (fun w H=>?_) (fun _ n0 e0 t0=>?_)
 ·obtain⟨n,m,E,z,v,x⟩:=w;refine jN r (fun((aL,V,aQ,aH,aP,aJ):Bool×Int×Int×Int×Int×Int)=>Z [p 15 (R 15),p 16 (B aL),p 17 (R 17)] [(17,bx 75 [J V,J aQ,J aH,J aP,J aJ]),(15,bx 75 [I 0,I 0,I 0,I 0,I 0])]) (G0q) (fun⟨aL,V,aQ,aH,aP,aJ⟩ H=>?_) (fun _ n3 e3 t3=>?_)
  ·refine iA [14,15]<|a7<|hr H
  refine iA [2,3,6,7,8,12,15,16,17,19]<|vB<|lX (fun((o,a,e,k,h,d,f):Bool×Int×Int×Int×Int×Int×Int)=>Z (G4 g j [p 6 (J b),p 7 (R 7),p 8 (R 8),p 12 (R 12),p 15 (R 15),p 16 (B o),p 17 (R 17),p 19 (I a)]) (W0 e k h d f l i c)) (n,0,m,E,z,v,x) H fun _ g4 b4 e4 t4 ⟨o,a,e,k,h,d,f⟩ H=>vQ<|iA [2,3,6,7,8,12,15,16,17,19,45]<|cD H (fun H=>?_) (fun H=>?_)
  ·refine vK<|fQ<|jN r (fun((aD,W,aG,T,Y,aK):Bool×Int×Int×Int×Int×Int)=>Z (G4 g j [p 6 (J b),p 7 (R 7),p 8 (R 8),p 12 (R 12),p 15 (R 15),p 16 (B aD),p 17 (R 17),p 19 (I a)]) (W0 W aG T Y aK l i c)) (JR a g4) (fun⟨aD,W,aG,T,Y,aK⟩ H=>?_) (fun _ n5 e5 t5=>?_)
   ·refine jB [2,3,6,7,8,12,15,16,17,19] H fun H=>b4 H
   refine vB<|qD (fun aS=>Z (G4 g j [p 6 (J b),p 7 (R 7),p 8 (R 8),p 12 (R 12),p 15 (R 15),p 16 (B o),p 17 (R 17),p 19 (I a),p 20 (R 20)]) ((20,K 138 y138 aS)::W0 e k h d f l i c)) H fun aS H=>vQ<|iB [2,3,6,7,8,12,15,16,17,19,20,71] H fun H=>cD H (fun H=>vE<|fE<|fX rfl<|n5 H) fun H=>vK<|fQ<|iD PB [2,3,6,7,8,12,15,16,17,19,20,21,22] H fun _ H=>iB [2,3,6,7,8,12,15,16,17,19,22,23] H fun H=>jN r (fun((F,q,u,t):Int×Int×Int×Int)=>Z (G4 g j [p 6 (J b),p 7 (R 7),p 8 (R 8),p 12 (R 12),p 15 (R 15),p 17 (R 17),p 19 (I a),p 22 (R 22),p 23 (R 23)]) ((22,bx 73 [I F,I q])::(23,bx 73 [I u,I t])::W0 e k h d f l i c)) (Vi a b g4) (fun⟨F,q,u,t⟩ H=>?_) (fun _ n6 e6 t6=>?_)
   ·refine iA [2,3,6,7,8,12,15,16,17,19,22,23]<|jA [2,3,6,7,8,12,15,16,17,19]<|fK<|n5 (s:=(true,b,u,t,F,q)) H (by kernel_rfl)
   refine iA [2,3,6,7,8,12,15,17,19,22,23,106]<|cD H (fun H=>iD Vh [2,3,6,7,8,12,15,17,19,22,23] H fun _ H=>jD Vh [2,3,6,7,8,12,15,17,19,22,23] H fun _ H=>n6 H) fun H=>vK<|n6 H
  exact vE<|fE<|e4<|fX rfl<|n3 H
 refine iA [2,3,4,6,7,8,12,15,16,17,18]<|vB<|lX (fun((v7,X,v9,aA,aR,aO,aF):Bool×Int×Int×Int×Int×Int×Int)=>Z (G4 g j [p 4 (L y75 a4),p 6 (J b),p 7 (R 7),p 8 (R 8),p 12 (R 12),p 15 (R 15),p 16 (B v7),p 17 (R 17),p 18 (I X)]) (W0 v9 aA aR aO aF l i c)) (false,0,0,0,0,0,0) H fun _ g1 b1 e1 t1 ⟨v7,X,v9,aA,aR,aO,aF⟩ H=>vQ<|iA [2,3,4,6,7,8,12,15,16,17,18,28]<|cD H (fun H=>?_) (fun H=>?_)
 ·refine vK<|fQ<|jN r (fun((aC,G,aM,aN,aI,aB):Int×Int×Int×Int×Int×Bool)=>Z (G4 g j [p 4 (L y75 a4),p 6 (J b),p 7 (R 7),p 8 (R 8),p 12 (R 12),p 15 (R 15),p 16 (B aB),p 17 (R 17),p 18 (I X)]) (W0 aC G aM aN aI l i c)) (Vj X g1) (fun⟨aC,G,aM,aN,aI,aB⟩ H=>?_) (fun _ n2 e2 t2=>?_)
  ·refine jB [2,3,4,6,7,8,12,15,16,17,18] H fun H=>b1 H
  refine vB<|iB [2,3,4,6,7,8,12,15,16,17,18,37] H fun H=>cD H (fun H=>iA [2,3,4,6,7,8,12,15,16,17,18]<|zD (fun P=>Z (G4 g j [p 4 (L y75 a4),p 6 (J b),p 7 (R 7),p 8 (R 8),p 12 (R 12),p 15 (R 15),p 16 (B true),p 17 (R 17),p 18 (I X)]) [(17,K 75 y75 P),(15,bx 75 [I 0,I 0,I 0,I 0,I 0]),(12,K 65 y65 l),(8,K 58 q4 i),(7,K 56 j3 c)]) H fun P H=>fK<|n2 H) fun H=>vK<|fK<|n2 H
 exact vE<|fE<|e1<|fX rfl<|n0 H
end Go.Proofs.YtechodbafnmddaaGreatDoor
end
