/- Functions of this program as plain functions of data, and that they are so: printed by program. -/
import Derived.Test.YtechodbafnmddaaGreatDoorF94a
section
namespace Go.Proofs.YtechodbafnmddaaGreatDoor
open Go Go.Proofs Go.Proofs.Sv Go.Proofs.Xv Go.Proofs.Xl Go.RowKit
open Tryz
def ZO:Unit->Option Bool
 | _ =>
 some true
def G0H(b:List F7)(c:List F7)(d:Int->Option Bool):Int->Option Bool
 | a =>
 if(decide (a < (b.length:Int))) then
  gd (ix a b.length/\ix a c.length/\(LH (b.getD a.toNat (a7 y155)) (c.getD a.toNat (a7 y155))).isSome/\True) <|
  if(!vl (LH (b.getD a.toNat (a7 y155)) (c.getD a.toNat (a7 y155)))) then
   some false
  else
   gd (b9 (a+1)/\True) <|
   d (a+1)
 else
  ZO ()
def LI(b:List F7)(a:List F7):Option Bool :=
 if((b.length:Int) != (a.length:Int)) then
  some false
 else
  lp (G0H b a) 0
def S0M:Ct:=c7 114 [.dat y155.sl,.dat y155.sl] (fun x=>LI x.1 x.2.1) (fun r:Bool=>B r) (fun _=>())
theorem P0D:Ok prog S0M:=by
 refine c8 [.tmp 4] func114 ?_;intro y ⟨e,f,_⟩ r H Q hn hr;have:=hz (tc P0j tn);refine iA [0,1]<|vQ<|iA [0,1,10]<|cD H (fun H=>iA [4]<|a8<|fR<|hr H) fun H=>vK<|fQ<|jN r (fun(_:Unit)=>Z [] []) (ZO) (fun _ H=>?_) (fun _ d j c=>?_)
 ·refine iA [4]<|a8<|hr H
 refine iA [0,1,5]<|vB<|lX (fun(a:Int)=>Z [p 0 (L y155 e),p 1 (L y155 f),p 5 (I a)] []) 0 H fun _ i g b h a H=>vQ<|iA [0,1,5,14]<|cD H (fun H=>?_) (fun H=>?_)
 ·refine vK<|fQ<|vQ<|vB<|iB [0,1,5,26] H fun H=>cD H (fun H=>iA [4]<|a8<|j0<|fR<|h<|j0<|c<|hr H) fun H=>vK<|fK<|fQ<|jB [0,1,5] H fun H=>g H
 exact vE<|fE<|b<|fX rfl<|d H
def LJ(b:p9)(a:p9):Option Bool :=
 gd ((LI b.1 a.1).isSome/\True) <|
 if(!vl (LI b.1 a.1)) then
  some false
 else
  gd ((LG b.2.1 a.2.1).isSome/\True) <|
  if(!vl (LG b.2.1 a.2.1)) then
   some false
  else
   gd ((LF b.2.2 a.2.2).isSome/\True) <|
   if(!vl (LF b.2.2 a.2.2)) then
    some false
   else
    some true
def k55:Ct:=c7 55 [.agg y53,.agg y53] (fun x=>LJ x.1 x.2.1) (fun r:Bool=>B r) (fun _=>())
theorem o55:Ok prog k55:=by
 refine c8 [.tmp 4] func55 ?_;intro y ⟨_,_,_⟩ r H Q hn hr;have:=hz (tc P0B (tc P0C (tc P0D tn)));refine iA [2,3]<|vQ<|iB [2,3,10] H fun H=>cD H (fun H=>iA [4]<|a8<|fR<|hr H) fun H=>vK<|fQ<|vQ<|iB [2,3,16] H fun H=>cD H (fun H=>iA [4]<|a8<|fR<|hr H) fun H=>vK<|fQ<|vQ<|iB [22] H fun H=>cD H (fun H=>iA [4]<|a8<|fR<|hr H) fun H=>vK<|fQ<|iA [4]<|a8<|hr H
def LK(b:o5)(a:o5):Option Bool :=
 gd ((M6 b.1 a.1).isSome/\True) <|
 if(!vl (M6 b.1 a.1)) then
  some false
 else
  gd ((M6 b.2.1 a.2.1).isSome/\True) <|
  if(!vl (M6 b.2.1 a.2.1)) then
   some false
  else
   gd ((M6 b.2.2 a.2.2).isSome/\True) <|
   if(!vl (M6 b.2.2 a.2.2)) then
    some false
   else
    some true
def Q0l:Ct:=c7 284 [.agg y269,.agg y269] (fun x=>LK x.1 x.2.1) (fun r:Bool=>B r) (fun _=>())
theorem O0v:Ok prog Q0l:=by
 refine c8 [.tmp 4] func284 ?_;intro y ⟨_,_,_⟩ r H Q hn hr;have:=hz (tc Fu tn);refine iA [2,3]<|vQ<|iB [2,3,10] H fun H=>cD H (fun H=>iA [4]<|a8<|fR<|hr H) fun H=>vK<|fQ<|vQ<|iB [2,3,16] H fun H=>cD H (fun H=>iA [4]<|a8<|fR<|hr H) fun H=>vK<|fQ<|vQ<|iB [22] H fun H=>cD H (fun H=>iA [4]<|a8<|fR<|hr H) fun H=>vK<|fQ<|iA [4]<|a8<|hr H
def ZP:Unit->Option Bool
 | _ =>
 some true
def F0A(b:List o5)(c:List o5)(d:Int->Option Bool):Int->Option Bool
 | a =>
 if(decide (a < (b.length:Int))) then
  gd (ix a b.length/\ix a c.length/\(LK (b.getD a.toNat (a7 y269)) (c.getD a.toNat (a7 y269))).isSome/\True) <|
  if(!vl (LK (b.getD a.toNat (a7 y269)) (c.getD a.toNat (a7 y269)))) then
   some false
  else
   gd (b9 (a+1)/\True) <|
   d (a+1)
 else
  ZP ()
def GC(b:List o5)(a:List o5):Option Bool :=
 if((b.length:Int) != (a.length:Int)) then
  some false
 else
  lp (F0A b a) 0
def Q0x:Ct:=c7 268 [.dat y269.sl,.dat y269.sl] (fun x=>GC x.1 x.2.1) (fun r:Bool=>B r) (fun _=>())
theorem O0C:Ok prog Q0x:=by
 refine c8 [.tmp 4] func268 ?_;intro y ⟨e,f,_⟩ r H Q hn hr;have:=hz (tc O0v tn);refine iA [0,1]<|vQ<|iA [0,1,10]<|cD H (fun H=>iA [4]<|a8<|fR<|hr H) fun H=>vK<|fQ<|jN r (fun(_:Unit)=>Z [] []) (ZP) (fun _ H=>?_) (fun _ d j c=>?_)
 ·refine iA [4]<|a8<|hr H
 refine iA [0,1,5]<|vB<|lX (fun(a:Int)=>Z [p 0 (L y269 e),p 1 (L y269 f),p 5 (I a)] []) 0 H fun _ i g b h a H=>vQ<|iA [0,1,5,14]<|cD H (fun H=>?_) (fun H=>?_)
 ·refine vK<|fQ<|vQ<|vB<|iB [0,1,5,26] H fun H=>cD H (fun H=>iA [4]<|a8<|j0<|fR<|h<|j0<|c<|hr H) fun H=>vK<|fK<|fQ<|jB [0,1,5] H fun H=>g H
 exact vE<|fE<|b<|fX rfl<|d H
def LL(b:A6)(a:A6):Option Bool :=
 if(b.1 != a.1) then
  some false
 else
  if(b.2.1 != a.2.1) then
   some false
  else
   if(b.2.2.1 != a.2.2.1) then
    some false
   else
    if(b.2.2.2.1 != a.2.2.2.1) then
     some false
    else
     gd ((GC b.2.2.2.2.1 a.2.2.2.2.1).isSome/\True) <|
     if(!vl (GC b.2.2.2.2.1 a.2.2.2.2.1)) then
      some false
     else
      gd ((GC b.2.2.2.2.2 a.2.2.2.2.2).isSome/\True) <|
      if(!vl (GC b.2.2.2.2.2 a.2.2.2.2.2)) then
       some false
      else
       some true
def Q0K:Ct:=c7 250 [.agg y158,.agg y158] (fun x=>LL x.1 x.2.1) (fun r:Bool=>B r) (fun _=>())
theorem O0J:Ok prog Q0K:=by
 refine c8 [.tmp 4] func250 ?_;intro y ⟨_,_,_⟩ r H Q hn hr;have:=hz (tc O0C tn);refine iA [2,3]<|vQ<|iA [2,3,9]<|cD H (fun H=>iA [4]<|a8<|fR<|hr H) fun H=>vK<|fQ<|vQ<|iA [2,3,14]<|cD H (fun H=>iA [4]<|a8<|fR<|hr H) fun H=>vK<|fQ<|vQ<|iA [2,3,19]<|cD H (fun H=>iA [4]<|a8<|fR<|hr H) fun H=>vK<|fQ<|vQ<|iA [2,3,24]<|cD H (fun H=>iA [4]<|a8<|fR<|hr H) fun H=>vK<|fQ<|vQ<|iB [2,3,30] H fun H=>cD H (fun H=>iA [4]<|a8<|fR<|hr H) fun H=>vK<|fQ<|vQ<|iB [36] H fun H=>cD H (fun H=>iA [4]<|a8<|fR<|hr H) fun H=>vK<|fQ<|iA [4]<|a8<|hr H
def ZQ:Unit->Option Bool
 | _ =>
 some true
def F0Q(b:List A6)(c:List A6)(d:Int->Option Bool):Int->Option Bool
 | a =>
 if(decide (a < (b.length:Int))) then
  gd (ix a b.length/\ix a c.length/\(LL (b.getD a.toNat (a7 y158)) (c.getD a.toNat (a7 y158))).isSome/\True) <|
  if(!vl (LL (b.getD a.toNat (a7 y158)) (c.getD a.toNat (a7 y158)))) then
   some false
  else
   gd (b9 (a+1)/\True) <|
   d (a+1)
 else
  ZQ ()
def LM(b:List A6)(a:List A6):Option Bool :=
 if((b.length:Int) != (a.length:Int)) then
  some false
 else
  lp (F0Q b a) 0
def R0c:Ct:=c7 221 [.dat y158.sl,.dat y158.sl] (fun x=>LM x.1 x.2.1) (fun r:Bool=>B r) (fun _=>())
theorem O0R:Ok prog R0c:=by
 refine c8 [.tmp 4] func221 ?_;intro y ⟨e,f,_⟩ r H Q hn hr;have:=hz (tc O0J tn);refine iA [0,1]<|vQ<|iA [0,1,10]<|cD H (fun H=>iA [4]<|a8<|fR<|hr H) fun H=>vK<|fQ<|jN r (fun(_:Unit)=>Z [] []) (ZQ) (fun _ H=>?_) (fun _ d j c=>?_)
 ·refine iA [4]<|a8<|hr H
 refine iA [0,1,5]<|vB<|lX (fun(a:Int)=>Z [p 0 (L y158 e),p 1 (L y158 f),p 5 (I a)] []) 0 H fun _ i g b h a H=>vQ<|iA [0,1,5,14]<|cD H (fun H=>?_) (fun H=>?_)
 ·refine vK<|fQ<|vQ<|vB<|iB [0,1,5,26] H fun H=>cD H (fun H=>iA [4]<|a8<|j0<|fR<|h<|j0<|c<|hr H) fun H=>vK<|fK<|fQ<|jB [0,1,5] H fun H=>g H
 exact vE<|fE<|b<|fX rfl<|d H
def LN(b:F3)(a:F3):Option Bool :=
 if(!decide (b.1=a.1)) then
  some false
 else
  if(b.2.1 != a.2.1) then
   some false
  else
   if(b.2.2.1 != a.2.2.1) then
    some false
   else
    if(!b.2.2.2==a.2.2.2) then
     some false
    else
     some true
def Q0L:Ct:=c7 249 [.agg y293,.agg y293] (fun x=>LN x.1 x.2.1) (fun r:Bool=>B r) (fun _=>())
theorem O0K:Ok prog Q0L:=by
 refine c8 [.tmp 4] func249 ?_;intro y ⟨_,_,_⟩ r H Q hn hr;refine iA [2,3]<|vQ<|iA [2,3,9]<|cD H (fun H=>iA [4]<|a8<|fR<|hr H) fun H=>vK<|fQ<|vQ<|iA [2,3,14]<|cD H (fun H=>iA [4]<|a8<|fR<|hr H) fun H=>vK<|fQ<|vQ<|iA [2,3,19]<|cD H (fun H=>iA [4]<|a8<|fR<|hr H) fun H=>vK<|fQ<|vQ<|iA [24]<|cD H (fun H=>iA [4]<|a8<|fR<|hr H) fun H=>vK<|fQ<|iA [4]<|a8<|hr H
def ZR:Unit->Option Bool
 | _ =>
 some true
def F0S(b:List F3)(c:List F3)(d:Int->Option Bool):Int->Option Bool
 | a =>
 if(decide (a < (b.length:Int))) then
  gd (ix a b.length/\ix a c.length/\(LN (b.getD a.toNat (a7 y293)) (c.getD a.toNat (a7 y293))).isSome/\True) <|
  if(!vl (LN (b.getD a.toNat (a7 y293)) (c.getD a.toNat (a7 y293)))) then
   some false
  else
   gd (b9 (a+1)/\True) <|
   d (a+1)
 else
  ZR ()
def LO(b:List F3)(a:List F3):Option Bool :=
 if((b.length:Int) != (a.length:Int)) then
  some false
 else
  lp (F0S b a) 0
def R0d:Ct:=c7 220 [.dat y293.sl,.dat y293.sl] (fun x=>LO x.1 x.2.1) (fun r:Bool=>B r) (fun _=>())
theorem O0S:Ok prog R0d:=by
 refine c8 [.tmp 4] func220 ?_;intro y ⟨e,f,_⟩ r H Q hn hr;have:=hz (tc O0K tn);refine iA [0,1]<|vQ<|iA [0,1,10]<|cD H (fun H=>iA [4]<|a8<|fR<|hr H) fun H=>vK<|fQ<|jN r (fun(_:Unit)=>Z [] []) (ZR) (fun _ H=>?_) (fun _ d j c=>?_)
 ·refine iA [4]<|a8<|hr H
 refine iA [0,1,5]<|vB<|lX (fun(a:Int)=>Z [p 0 (L y293 e),p 1 (L y293 f),p 5 (I a)] []) 0 H fun _ i g b h a H=>vQ<|iA [0,1,5,14]<|cD H (fun H=>?_) (fun H=>?_)
 ·refine vK<|fQ<|vQ<|vB<|iB [0,1,5,26] H fun H=>cD H (fun H=>iA [4]<|a8<|j0<|fR<|h<|j0<|c<|hr H) fun H=>vK<|fK<|fQ<|jB [0,1,5] H fun H=>g H
 exact vE<|fE<|b<|fX rfl<|d H
def LP(b:l6)(a:l6):Option Bool :=
 if(!decide (b.1=a.1)) then
  some false
 else
  if(b.2.1 != a.2.1) then
   some false
  else
   gd ((LO b.2.2.1 a.2.2.1).isSome/\True) <|
   if(!vl (LO b.2.2.1 a.2.2.1)) then
    some false
   else
    gd ((LM b.2.2.2.1 a.2.2.2.1).isSome/\True) <|
    if(!vl (LM b.2.2.2.1 a.2.2.2.1)) then
     some false
    else
     gd ((M6 b.2.2.2.2.1 a.2.2.2.2.1).isSome/\True) <|
     if(!vl (M6 b.2.2.2.2.1 a.2.2.2.2.1)) then
      some false
     else
      if(b.2.2.2.2.2.1 != a.2.2.2.2.2.1) then
       some false
      else
       if(b.2.2.2.2.2.2 != a.2.2.2.2.2.2) then
        some false
       else
        some true
def R0R:Ct:=c7 172 [.agg y153,.agg y153] (fun x=>LP x.1 x.2.1) (fun r:Bool=>B r) (fun _=>())
theorem P0k:Ok prog R0R:=by
 refine c8 [.tmp 4] func172 ?_;intro y ⟨_,_,_⟩ r H Q hn hr;have:=hz (tc Fu (tc O0R (tc O0S tn)));refine iA [2,3]<|vQ<|iA [2,3,9]<|cD H (fun H=>iA [4]<|a8<|fR<|hr H) fun H=>vK<|fQ<|vQ<|iA [2,3,14]<|cD H (fun H=>iA [4]<|a8<|fR<|hr H) fun H=>vK<|fQ<|vQ<|iB [2,3,20] H fun H=>cD H (fun H=>iA [4]<|a8<|fR<|hr H) fun H=>vK<|fQ<|vQ<|iB [2,3,26] H fun H=>cD H (fun H=>iA [4]<|a8<|fR<|hr H) fun H=>vK<|fQ<|vQ<|iB [2,3,32] H fun H=>cD H (fun H=>iA [4]<|a8<|fR<|hr H) fun H=>vK<|fQ<|vQ<|iA [2,3,37]<|cD H (fun H=>iA [4]<|a8<|fR<|hr H) fun H=>vK<|fQ<|vQ<|iA [42]<|cD H (fun H=>iA [4]<|a8<|fR<|hr H) fun H=>vK<|fQ<|iA [4]<|a8<|hr H
def ZS:Unit->Option Bool
 | _ =>
 some true
def G0J(b:List l6)(c:List l6)(d:Int->Option Bool):Int->Option Bool
 | a =>
 if(decide (a < (b.length:Int))) then
  gd (ix a b.length/\ix a c.length/\(LP (b.getD a.toNat (a7 y153)) (c.getD a.toNat (a7 y153))).isSome/\True) <|
  if(!vl (LP (b.getD a.toNat (a7 y153)) (c.getD a.toNat (a7 y153)))) then
   some false
  else
   gd (b9 (a+1)/\True) <|
   d (a+1)
 else
  ZS ()
def LQ(b:List l6)(a:List l6):Option Bool :=
 if((b.length:Int) != (a.length:Int)) then
  some false
 else
  lp (G0J b a) 0
def S0N:Ct:=c7 113 [.dat y153.sl,.dat y153.sl] (fun x=>LQ x.1 x.2.1) (fun r:Bool=>B r) (fun _=>())
theorem P0E:Ok prog S0N:=by
 refine c8 [.tmp 4] func113 ?_;intro y ⟨e,f,_⟩ r H Q hn hr;have:=hz (tc P0k tn);refine iA [0,1]<|vQ<|iA [0,1,10]<|cD H (fun H=>iA [4]<|a8<|fR<|hr H) fun H=>vK<|fQ<|jN r (fun(_:Unit)=>Z [] []) (ZS) (fun _ H=>?_) (fun _ d j c=>?_)
 ·refine iA [4]<|a8<|hr H
 refine iA [0,1,5]<|vB<|lX (fun(a:Int)=>Z [p 0 (L y153 e),p 1 (L y153 f),p 5 (I a)] []) 0 H fun _ i g b h a H=>vQ<|iA [0,1,5,14]<|cD H (fun H=>?_) (fun H=>?_)
 ·refine vK<|fQ<|vQ<|vB<|iB [0,1,5,26] H fun H=>cD H (fun H=>iA [4]<|a8<|j0<|fR<|h<|j0<|c<|hr H) fun H=>vK<|fK<|fQ<|jB [0,1,5] H fun H=>g H
 exact vE<|fE<|b<|fX rfl<|d H
def LR(b:List l6)(a:List l6):Option Bool :=
 gd ((LQ b a).isSome/\True) <|
 if(!vl (LQ b a)) then
  some false
 else
  some true
def k54:Ct:=c7 54 [.agg y153.sl,.agg y153.sl] (fun x=>LR x.1 x.2.1) (fun r:Bool=>B r) (fun _=>())
theorem o54:Ok prog k54:=by
 refine c8 [.tmp 4] func54 ?_;intro y ⟨_,_,_⟩ r H Q hn hr;have:=hz (tc P0E tn);refine iA [2,3]<|vQ<|iB [10] H fun H=>cD H (fun H=>iA [4]<|a8<|fR<|hr H) fun H=>vK<|fQ<|iA [4]<|a8<|hr H
def OT(b:j1)(a:j1):Option Bool :=
 gd ((LR b.1 a.1).isSome/\True) <|
 if(!vl (LR b.1 a.1)) then
  some false
 else
  gd ((LJ b.2.1 a.2.1).isSome/\True) <|
  if(!vl (LJ b.2.1 a.2.1)) then
   some false
  else
   gd ((LC b.2.2 a.2.2).isSome/\True) <|
   if(!vl (LC b.2.2 a.2.2)) then
    some false
   else
    some true
def k18:Ct:=c7 18 [.agg j6,.agg j6] (fun x=>OT x.1 x.2.1) (fun r:Bool=>B r) (fun _=>())
theorem o18:Ok prog k18:=by
 refine c8 [.tmp 4] func18 ?_;intro y ⟨_,_,_⟩ r H Q hn hr;have:=hz (tc o56 (tc o55 (tc o54 tn)));refine iA [2,3]<|vQ<|iB [2,3,10] H fun H=>cD H (fun H=>iA [4]<|a8<|fR<|hr H) fun H=>vK<|fQ<|vQ<|iB [2,3,16] H fun H=>cD H (fun H=>iA [4]<|a8<|fR<|hr H) fun H=>vK<|fQ<|vQ<|iB [22] H fun H=>cD H (fun H=>iA [4]<|a8<|fR<|hr H) fun H=>vK<|fQ<|iA [4]<|a8<|hr H
def Dx(b:B0)(a:B0):Option Bool :=
 if(b.1 != a.1) then
  some false
 else
  if(b.2 != a.2) then
   some false
  else
   some true
def k66:Ct:=c7 66 [.agg y73,.agg y73] (fun x=>Dx x.1 x.2.1) (fun r:Bool=>B r) (fun _=>())
theorem ZT:Ok prog k66:=by
 refine c8 [.tmp 4] func66 ?_;intro y ⟨_,_,_⟩ r H Q hn hr;refine iA [2,3]<|vQ<|iA [2,3,9]<|cD H (fun H=>iA [4]<|a8<|fR<|hr H) fun H=>vK<|fQ<|vQ<|iA [14]<|cD H (fun H=>iA [4]<|a8<|fR<|hr H) fun H=>vK<|fQ<|iA [4]<|a8<|hr H
def LS(b:r8)(a:r8):Option Bool :=
 if(b.1 != a.1) then
  some false
 else
  gd ((Dx b.2.1 a.2.1).isSome/\True) <|
  if(!vl (Dx b.2.1 a.2.1)) then
   some false
  else
   gd ((Dx b.2.2 a.2.2).isSome/\True) <|
   if(!vl (Dx b.2.2 a.2.2)) then
    some false
   else
    some true
def k24:Ct:=c7 24 [.agg y75,.agg y75] (fun x=>LS x.1 x.2.1) (fun r:Bool=>B r) (fun _=>())
theorem o24:Ok prog k24:=by
 refine c8 [.tmp 4] func24 ?_;intro y ⟨_,_,_⟩ r H Q hn hr;have:=hz (tc ZT tn);refine iA [2,3]<|vQ<|iA [2,3,9]<|cD H (fun H=>iA [4]<|a8<|fR<|hr H) fun H=>vK<|fQ<|vQ<|iB [2,3,15] H fun H=>cD H (fun H=>iA [4]<|a8<|fR<|hr H) fun H=>vK<|fQ<|vQ<|iB [21] H fun H=>cD H (fun H=>iA [4]<|a8<|fR<|hr H) fun H=>vK<|fQ<|iA [4]<|a8<|hr H
def ZU:Unit->Option Bool
 | _ =>
 some true
def J0y(b:List r8)(c:List r8)(d:Int->Option Bool):Int->Option Bool
 | a =>
 if(decide (a < (b.length:Int))) then
  gd (ix a b.length/\ix a c.length/\(LS (b.getD a.toNat (a7 y75)) (c.getD a.toNat (a7 y75))).isSome/\True) <|
  if(!vl (LS (b.getD a.toNat (a7 y75)) (c.getD a.toNat (a7 y75)))) then
   some false
  else
   gd (b9 (a+1)/\True) <|
   d (a+1)
 else
  ZU ()
def OU(b:List r8)(a:List r8):Option Bool :=
 if((b.length:Int) != (a.length:Int)) then
  some false
 else
  lp (J0y b a) 0
def k20:Ct:=c7 20 [.dat y75.sl,.dat y75.sl] (fun x=>OU x.1 x.2.1) (fun r:Bool=>B r) (fun _=>())
theorem o20:Ok prog k20:=by
 refine c8 [.tmp 4] func20 ?_;intro y ⟨e,f,_⟩ r H Q hn hr;have:=hz (tc o24 tn);refine iA [0,1]<|vQ<|iA [0,1,10]<|cD H (fun H=>iA [4]<|a8<|fR<|hr H) fun H=>vK<|fQ<|jN r (fun(_:Unit)=>Z [] []) (ZU) (fun _ H=>?_) (fun _ d j c=>?_)
 ·refine iA [4]<|a8<|hr H
 refine iA [0,1,5]<|vB<|lX (fun(a:Int)=>Z [p 0 (L y75 e),p 1 (L y75 f),p 5 (I a)] []) 0 H fun _ i g b h a H=>vQ<|iA [0,1,5,14]<|cD H (fun H=>?_) (fun H=>?_)
 ·refine vK<|fQ<|vQ<|vB<|iB [0,1,5,26] H fun H=>cD H (fun H=>iA [4]<|a8<|j0<|fR<|h<|j0<|c<|hr H) fun H=>vK<|fK<|fQ<|jB [0,1,5] H fun H=>g H
 exact vE<|fE<|b<|fX rfl<|d H
def ZV:Unit->Option Bool
 | _ =>
 some true
def J0n(b:List B0)(c:List B0)(d:Int->Option Bool):Int->Option Bool
 | a =>
 if(decide (a < (b.length:Int))) then
  gd (ix a b.length/\ix a c.length/\(Dx (b.getD a.toNat (a7 y73)) (c.getD a.toNat (a7 y73))).isSome/\True) <|
  if(!vl (Dx (b.getD a.toNat (a7 y73)) (c.getD a.toNat (a7 y73)))) then
   some false
  else
   gd (b9 (a+1)/\True) <|
   d (a+1)
 else
  ZV ()
def GD(b:List B0)(a:List B0):Option Bool :=
 if((b.length:Int) != (a.length:Int)) then
  some false
 else
  lp (J0n b a) 0
def k58:Ct:=c7 58 [.dat y73.sl,.dat y73.sl] (fun x=>GD x.1 x.2.1) (fun r:Bool=>B r) (fun _=>())
theorem o58:Ok prog k58:=by
 refine c8 [.tmp 4] func58 ?_;intro y ⟨e,f,_⟩ r H Q hn hr;have:=hz (tc ZT tn);refine iA [0,1]<|vQ<|iA [0,1,10]<|cD H (fun H=>iA [4]<|a8<|fR<|hr H) fun H=>vK<|fQ<|jN r (fun(_:Unit)=>Z [] []) (ZV) (fun _ H=>?_) (fun _ d j c=>?_)
 ·refine iA [4]<|a8<|hr H
 refine iA [0,1,5]<|vB<|lX (fun(a:Int)=>Z [p 0 (L y73 e),p 1 (L y73 f),p 5 (I a)] []) 0 H fun _ i g b h a H=>vQ<|iA [0,1,5,14]<|cD H (fun H=>?_) (fun H=>?_)
 ·refine vK<|fQ<|vQ<|vB<|iB [0,1,5,26] H fun H=>cD H (fun H=>iA [4]<|a8<|j0<|fR<|h<|j0<|c<|hr H) fun H=>vK<|fK<|fQ<|jB [0,1,5] H fun H=>g H
 exact vE<|fE<|b<|fX rfl<|d H
def ZW:Unit->Option Bool
 | _ =>
 some true
def J0o(b:List Bool)(c:List Bool)(d:Int->Option Bool):Int->Option Bool
 | a =>
 if(decide (a < (b.length:Int))) then
  gd (ix a b.length/\ix a c.length/\True) <|
  if(!b.getD a.toNat false==c.getD a.toNat false) then
   some false
  else
   gd (b9 (a+1)/\True) <|
   d (a+1)
 else
  ZW ()
def LU(b:List Bool)(a:List Bool):Option Bool :=
 if((b.length:Int) != (a.length:Int)) then
  some false
 else
  lp (J0o b a) 0
def k57:Ct:=c7 57 [.dat Ty.bool.sl,.dat Ty.bool.sl] (fun x=>LU x.1 x.2.1) (fun r:Bool=>B r) (fun _=>())
theorem o57:Ok prog k57:=by
 refine c8 [.tmp 4] func57 ?_;intro y ⟨e,f,_⟩ r H Q hn hr;refine iA [0,1]<|vQ<|iA [0,1,10]<|cD H (fun H=>iA [4]<|a8<|fR<|hr H) fun H=>vK<|fQ<|jN r (fun(_:Unit)=>Z [] []) (ZW) (fun _ H=>?_) (fun _ d j c=>?_)
 ·refine iA [4]<|a8<|hr H
 refine iA [0,1,5]<|vB<|lX (fun(a:Int)=>Z [p 0 (L Ty.bool e),p 1 (L Ty.bool f),p 5 (I a)] []) 0 H fun _ i g b h a H=>vQ<|iA [0,1,5,14]<|cD H (fun H=>?_) (fun H=>?_)
 ·refine vK<|fQ<|vQ<|vB<|iB [0,1,5,25] H fun H=>cD H (fun H=>iA [4]<|a8<|j0<|fR<|h<|j0<|c<|hr H) fun H=>vK<|fK<|fQ<|jB [0,1,5] H fun H=>g H
 exact vE<|fE<|b<|fX rfl<|d H
def OV(b:C0)(a:C0):Option Bool :=
 gd ((LU b.1 a.1).isSome/\True) <|
 if(!vl (LU b.1 a.1)) then
  some false
 else
  gd ((GD b.2.1 a.2.1).isSome/\True) <|
  if(!vl (GD b.2.1 a.2.1)) then
   some false
  else
   gd ((GD b.2.2 a.2.2).isSome/\True) <|
   if(!vl (GD b.2.2 a.2.2)) then
    some false
   else
    some true
def k21:Ct:=c7 21 [.agg y65,.agg y65] (fun x=>OV x.1 x.2.1) (fun r:Bool=>B r) (fun _=>())
theorem o21:Ok prog k21:=by
 refine c8 [.tmp 4] func21 ?_;intro y ⟨_,_,_⟩ r H Q hn hr;have:=hz (tc o58 (tc o57 tn));refine iA [2,3]<|vQ<|iB [2,3,10] H fun H=>cD H (fun H=>iA [4]<|a8<|fR<|hr H) fun H=>vK<|fQ<|vQ<|iB [2,3,16] H fun H=>cD H (fun H=>iA [4]<|a8<|fR<|hr H) fun H=>vK<|fQ<|vQ<|iB [22] H fun H=>cD H (fun H=>iA [4]<|a8<|fR<|hr H) fun H=>vK<|fQ<|iA [4]<|a8<|hr H
def GF(b:List j5)(f:j1)(h:r5)(j:List Bool)(k:List r8)(e:C0)(i:Int)(l:List Int×Int->Option (List Int×Int)):List Int×Int->Option (List Int×Int)
 | (c,g) =>
 gd ((Dt f h b j k e g i).isSome/\True)<|lt (vl (Dt f h b j k e g i)) fun a =>
 if(a.2 != 0) then
  some ([],a.2)
 else
  if(decide (a.1<0)) then
   some ((c,(0:Int)))
  else
   gd (([a.1].length+c.length<=9223372036854775807/\([a.1].length+c.length)*8<=140737488355328)/\True) <|
   gd (ix a.1 b.length/\a.1.toNat<b.length/\True)<|lt (b.getD a.1.toNat (a7 y138)) fun d =>
   l ([a.1]++c,d.1)
def u32(a:j1)(d:r5)(b:List Int)(g:List r8)(c:C0)(i:Int)(f:Int):Option (List Int×Int) :=
 gd ((Gz a d b g c).isSome/\True)<|lt (vl (Gz a d b g c)) fun h =>
 if(h != 0) then
  some ([],h)
 else
  gd ((KL f).isSome/\True) <|
  if(!vl (KL f)) then
   some (([],(2:Int)))
  else
   gd ((Bf a).isSome/\True)<|lt (vl (Bf a)) fun e =>
   gd ((Be e b).isSome/\True)<|lt (vl (Be e b)) fun j =>
   lp (GF e a d j g c f) ([],i)
def k32:Ct:=c7 32 [.agg j6,.agg A0,.dat i64.sl,.dat y75.sl,.agg y65,.dat i64,.dat i64] (fun x=>u32 x.1 x.2.1 x.2.2.1 x.2.2.2.1 x.2.2.2.2.1 x.2.2.2.2.2.1 x.2.2.2.2.2.2.1) (fun r:List Int×Int=>AV.tup [M i64 r.1,I r.2]) (fun _=>())
theorem o32:Ok prog k32:=by
 refine c8 [.tmp 14,.tmp 15] func32 ?_;intro y ⟨c,e,_,i,b,m,g,_⟩ r H Q hn hr;have:=hz (tc XQ (tc Sw (tc Ip (tc o41 (tc Zj tn)))));refine iA [2,3,5,6,7,8,11]<|vQ<|iD Zj [2,3,5,6,7,8,11,16] H fun _ H=>iA [2,3,5,6,7,8,11,16,30]<|cD H (fun H=>iA [14,15]<|a8<|fR<|hr H) fun H=>vK<|fQ<|vQ<|iB [2,3,5,6,7,8,11,35] H fun H=>cD H (fun H=>iA [14,15]<|a8<|fR<|hr H) fun H=>vK<|fQ<|iD Ip [2,3,5,6,7,8,11,17] H fun f H=>iD Sw [3,5,6,7,8,11,17,18] H fun h H=>iA [3,5,6,7,8,11,17,18,19]<|iA [3,6,7,8,11,17,18,19,20]<|vB<|fZ 42 (Z (G9 i g [p 19 (M i64 []),p 20 (J m)]) (Oj h f b e c))<|lX (fun((d,l):List Int×Int)=>Z (G9 i g [p 19 (M i64 d),p 20 (J l)]) (Oj h f b e c)) ([],m) H fun _ q n o k ⟨d,l⟩ H=>vB<|iD XQ [3,6,7,8,11,17,18,19,21,22] H fun j H=>?_
 refine vQ<|iA [3,6,7,8,11,17,18,19,21,22,57]<|cD H (fun H=>iA [14,15]<|a8<|fR<|j0<|k<|j0<|hr H) fun H=>vK<|fQ<|vQ<|iA [3,6,7,8,11,17,18,19,21,61]<|cD H (fun H=>iA [14,15]<|a8<|fR<|j0<|k<|j0<|hr H) fun H=>vK<|fQ<|iB [3,6,7,8,11,17,18,19,21] H fun H=>zD (fun a=>Z (G9 i g [p 19 (AV.os 64 1),p 20 (I a.1)]) ((64,A 2 i64 ([j.1]++d) 1)::Oj h f b e c)) H fun a H=>fK<|fzF 64 (Z (G9 i g [p 19 (M i64 ([j.1]++d)),p 20 (I a.1)]) (Oj h f b e c)) (by kernel_rfl) rfl<|n H
def BS(a:Int):Option Bool :=
 some (a==0||a==1)
def k52:Ct:=c7 52 [.dat i64] (fun x=>BS x.1) (fun r:Bool=>B r) (fun _=>())
theorem o52:Ok prog k52:=by
 refine c8 [.tmp 2] func52 ?_;intro y ⟨_,_⟩ r H Q hn hr;refine iA [0]<|iA [2]<|a8<|hr H
def Dy(a:B0)(b:Int):Option Int :=
 if(b==0) then
  some a.1
 else
  some a.2
def S0S:Ct:=c7 108 [.agg y73,.dat i64] (fun x=>Dy x.1 x.2.1) (fun r:Int=>I r) (fun _=>())
theorem OW:Ok prog S0S:=by
 refine c8 [.tmp 4] func108 ?_;intro y ⟨_,_,_⟩ r H Q hn hr;refine iA [1,2]<|vQ<|iA [2,6]<|cD H (fun H=>iA [4]<|a8<|fR<|hr H) fun H=>vK<|fQ<|iA [4]<|a8<|hr H
def Ix(b:B0)(a:B0):Option B0 :=
 gd (b9 (b.1+a.1)/\b9 (b.2+a.2)/\True) <|
 some (b.1+a.1,b.2+a.2)
def S0O:Ct:=c7 112 [.agg y73,.agg y73] (fun x=>Ix x.1 x.2.1) (fun r:B0=>AV.agg [I r.1,I r.2]) (fun _=>())
theorem P0F:Ok prog S0O:=by
 refine c8 [.cell 4 73] func112 ?_;intro y ⟨_,_,_⟩ r H Q hn hr;refine iA [2,3,4]<|iB [4] H fun H=>a8<|hr H
def BT(b:Int)(a:Int)(c:Int):Option Int :=
 gd (0<a/\0<a/\True) <|
 if(c==0&&decide (b.tmod a<0)) then
  gd (b9 (b.tdiv a-1)/\True) <|
  some (b.tdiv a-1)
 else
  if(c==1&&decide (0<b.tmod a)) then
   gd (b9 (b.tdiv a+1)/\True) <|
   some (b.tdiv a+1)
  else
   some (b.tdiv a)
def R0h:Ct:=c7 216 [.dat i64,.dat i64,.dat i64] (fun x=>BT x.1 x.2.1 x.2.2.1) (fun r:Int=>I r) (fun _=>())
theorem Fv:Ok prog R0h:=by
 refine c8 [.tmp 6] func216 ?_;intro y ⟨_,_,_,_⟩ r H Q hn hr;refine iA [0,1,2]<|iB [2,7,8] H fun H=>vQ<|vB<|iA [2,7,8,15]<|cD H (fun H=>iB [6] H fun H=>a8<|j0<|fR<|hr H) fun H=>iA [7,24]<|cD H (fun H=>iB [6] H fun H=>a8<|j0<|fR<|hr H) fun H=>vK<|fK<|fQ<|iA [6]<|a8<|hr H
def ZX:Int->Option Int
 | a =>
 some a
def SL(d:Int)(c:Int×Int->Option Int):Int×Int->Option Int
 | (a,b) =>
 if(decide (a<b)) then
  gd (b9 (a+b)/\b9 (a+b+(1:Int))/\(0:Int) < (2:Int)/\True) <|
  gd (b9 ((a+b+1).tdiv 2*(a+b+1).tdiv 2)/\True) <|
  if(decide ((a+b+1).tdiv 2*(a+b+1).tdiv 2<=d)) then
   c (((a+b+1).tdiv 2,b))
  else
   gd (b9 ((a+b+1).tdiv 2-1)/\True) <|
   c ((a,(a+b+1).tdiv 2-1))
 else
  ZX a
def LV(a:Int):Option Int :=
 lp (SL a) (0,3000000000)
def Q0M:Ct:=c7 248 [.dat i64] (fun x=>LV x.1) (fun r:Int=>I r) (fun _=>())
theorem ZY:Ok prog Q0M:=by
 refine c8 [.tmp 2] func248 ?_;intro y ⟨g,_⟩ r H Q hn hr;refine iA [0]<|iA [0,3,4]<|jN r (fun(d:Int)=>Z [p 3 (I d)] []) (ZX) (fun d H=>?_) (fun _ f k i=>?_)
 ·refine iA [2]<|a8<|hr H
 refine vB<|lX (fun((a,c):Int×Int)=>Z [p 0 (J g),p 3 (I a),p 4 (I c)] []) (0,3000000000) H fun _ h b e j ⟨a,c⟩ H=>vQ<|iA [0,3,4,8]<|cD H (fun H=>?_) (fun H=>?_)
 ·refine vK<|fQ<|vB<|iB [0,3,4,5] H fun H=>iB [0,3,4,5,18] H fun H=>cD H (fun H=>jA [0,3,4]<|fK<|b H) fun H=>jB [0,3,4] H fun H=>fK<|b H
 exact vE<|fE<|e<|fX rfl<|f H
def V0(a:Int)(b:Int)(d:Int):Option Int :=
 gd (b9 (500*a)/\b9 (500*a*500)/\b9 (500*a*500*a)/\b9 (b*b)/\b9 (500*a*500*a+b*b)/\True) <|
 gd ((LV (500*a*500*a+b*b)).isSome/\True)<|lt (vl (LV (500*a*500*a+b*b))) fun c =>
 gd (((d==1)=true/\True->b9 (c*c))/\True) <|
 if(d==1&&decide (c*c<500*a*500*a+b*b)) then
  gd ((0:Int) < (500:Int)/\b9 (c.tdiv (500:Int)+(1:Int))/\True) <|
  some (c.tdiv 500+1)
 else
  gd ((BT c 500 d).isSome/\True)<|lt (vl (BT c 500 d)) fun e =>
  some e
def R0e:Ct:=c7 219 [.dat i64,.dat i64,.dat i64] (fun x=>V0 x.1 x.2.1 x.2.2.1) (fun r:Int=>I r) (fun _=>())
theorem ZZ:Ok prog R0e:=by
 refine c8 [.tmp 6] func219 ?_;intro y ⟨_,_,_,_⟩ r H Q hn hr;have:=hz (tc Fv (tc ZY tn));refine iA [0,1,2]<|iB [2,7] H fun H=>iD ZY [2,7,8] H fun _ H=>vQ<|iB [2,8,28] H fun H=>cD H (fun H=>iB [6] H fun H=>a8<|fR<|hr H) fun H=>vK<|fQ<|iD Fv [6] H fun _ H=>a8<|hr H
def GG(a:Int):Option Bool :=
 some (a != a)
def Q0m:Ct:=c7 283 [.dat i64] (fun x=>GG x.1) (fun r:Bool=>B r) (fun _=>())
theorem O0w:Ok prog Q0m:=by
 refine c8 [.tmp 2] func283 ?_;intro y ⟨_,_⟩ r H Q hn hr;refine iA [0]<|iA [2]<|a8<|hr H
def GH(a:Int):Option Bool :=
 some (a != a)
def Q0e:Ct:=c7 295 [.dat i64] (fun x=>GH x.1) (fun r:Bool=>B r) (fun _=>())
theorem O0r:Ok prog Q0e:=by
 refine c8 [.tmp 2] func295 ?_;intro y ⟨_,_⟩ r H Q hn hr;refine iA [0]<|iA [2]<|a8<|hr H
def LW(a:Int)(b:Int):Option Bool :=
 gd ((GH a).isSome/\(vl (GH a)=true/\True->(GH b).isSome)/\True) <|
 some (vl (GH a)&&!vl (GH b)||decide (a<b))
def Q0n:Ct:=c7 282 [.dat i64,.dat i64] (fun x=>LW x.1 x.2.1) (fun r:Bool=>B r) (fun _=>())
theorem O0x:Ok prog Q0n:=by
 refine c8 [.tmp 4] func282 ?_;intro y ⟨_,_,_⟩ r H Q hn hr;have:=hz (tc O0r tn);refine iA [0,1]<|iB [4] H fun H=>a8<|hr H
def SM(b:List Int)(c:Int):Int->Option (Int×Bool)
 | a =>
 gd ((decide (a < (b.length:Int))=true/\True->ix a b.length)/\((b.getD a.toNat 0==c)=false/\decide (a < (b.length:Int))=true/\True->ix a b.length)/\((b.getD a.toNat 0==c)=false/\decide (a < (b.length:Int))=true/\True->(GG (b.getD a.toNat 0)).isSome)/\(vl (GG (b.getD a.toNat 0))=true/\(b.getD a.toNat 0==c)=false/\decide (a < (b.length:Int))=true/\True->(GG c).isSome)/\True) <|
 some ((a,decide (a < (b.length:Int))&&(b.getD a.toNat 0==c||vl (GG (b.getD a.toNat 0))&&vl (GG c))))
def LX(c:List Int)(d:Int)(e:Int×Int->Option (Int×Bool)):Int×Int->Option (Int×Bool)
 | (a,b) =>
 if(decide (a<b)) then
  gd (b9 (a+b)/\((0:Int)<=a+b/\a+b<=(18446744073709551615:Int))/\(((0:Int)<=(1:Int)/\(1:Int)<=(62:Int))/\(0:Int)<=(a+b).fdiv ((2:Int) ^ Int.toNat (1:Int))/\(a+b).fdiv ((2:Int) ^ Int.toNat (1:Int))<=(18446744073709551615:Int))/\b9 ((a+b).fdiv ((2:Int) ^ Int.toNat (1:Int)))/\True) <|
  gd (ix ((a+b).fdiv ((2:Int) ^ Int.toNat (1:Int))) c.length/\(LW (c.getD ((a+b).fdiv ((2:Int) ^ Int.toNat (1:Int))).toNat (0:Int)) d).isSome/\True) <|
  if(vl (LW (c.getD ((a+b).fdiv ((2:Int) ^ Int.toNat (1:Int))).toNat (0:Int)) d)) then
   gd (b9 ((a+b).fdiv ((2:Int) ^ Int.toNat (1:Int))+(1:Int))/\True) <|
   e (((a+b).fdiv ((2:Int) ^ Int.toNat (1:Int))+(1:Int),b))
  else
   e ((a,(a+b).fdiv ((2:Int) ^ Int.toNat (1:Int))))
 else
  SM c d a
def LY(a:List Int)(b:Int):Option (Int×Bool) :=
 lp (LX a b) ((0,(a.length:Int)))
def Q0y:Ct:=c7 267 [.dat i64.sl,.dat i64] (fun x=>LY x.1 x.2.1) (fun r:Int×Bool=>AV.tup [I r.1,B r.2]) (fun _=>())
theorem L0B:Ok prog Q0y:=by
 refine c8 [.tmp 4,.tmp 5] func267 ?_;intro y ⟨a,b,_⟩ r H Q hn hr;have:=hz (tc O0w (tc O0x tn));refine iA [0,1]<|iA [0,1,6]<|iA [0,1,6,7,8]<|jN r (fun(c:Int)=>Z [p 0 (L i64 a),p 1 (J b),p 6 (I (a.length:Int)),p 7 (I c)] []) (SM a b) (fun c H=>?_) (fun _ h l j=>?_)
 ·refine iB [4,5] H fun H=>a8<|hr H
 refine vB<|lX (fun((d,f):Int×Int)=>Z [p 0 (L i64 a),p 1 (J b),p 6 (I (a.length:Int)),p 7 (I d),p 8 (I f)] []) ((0,(a.length:Int))) H fun _ i e g k ⟨d,f⟩ H=>vQ<|iA [0,1,6,7,8,15]<|cD H (fun H=>?_) (fun H=>?_)
 ·refine vK<|fQ<|vB<|iB [0,1,6,7,8,9] H fun H=>iB [0,1,6,7,8,9,27] H fun H=>cD H (fun H=>jB [0,1,6,7,8] H fun H=>fK<|e H) fun H=>jA [0,1,6,7,8]<|fK<|e H
 exact vE<|fE<|g<|fX rfl<|h H
def P2(a:List Int)(d:Int):Option (List BU×Int) :=
 gd (ix 0 a.length/\b9 ((a.length:Int)-1)/\ix ((a.length:Int)-1) a.length/\True)<|lt (min (max d (a.getD (Int.toNat (0:Int)) (0:Int))) (a.getD ((a.length:Int)-(1:Int)).toNat (0:Int))) fun c =>
 gd ((LY a c).isSome/\True)<|lt (vl (LY a c)) fun b =>
 if b.2 then
  some (([(b.1,(1:Int))],(1:Int)))
 else
  gd (b9 (b.1-1)/\ix b.1 a.length/\b9 (a.getD b.1.toNat 0-c)/\b9 (b.1-1)/\ix (b.1-1) a.length/\b9 (c-a.getD (b.1-1).toNat 0)/\ix b.1 a.length/\b9 (b.1-1)/\ix (b.1-1) a.length/\b9 (a.getD b.1.toNat 0-a.getD (b.1-1).toNat 0)/\True)<|lt ([(b.1-1,a.getD b.1.toNat 0-c),(b.1,c-a.getD (b.1-1).toNat 0)]) fun e =>
  some ((e,a.getD b.1.toNat 0-a.getD (b.1-1).toNat 0))
def Q0N:Ct:=c7 247 [.dat i64.sl,.dat i64] (fun x=>P2 x.1 x.2.1) (fun r:List BU×Int=>AV.tup [AV.ow 322 true S9 r.1,I r.2]) (fun _=>())
theorem SN:Ok prog Q0N:=by
 refine c8 [.tmp 4,.tmp 5] func247 ?_;intro y ⟨a,_,_⟩ r H Q hn hr;have:=hz (tc L0B tn);refine iA [0,1]<|qD (fun c=>Z [p 0 (L i64 a),p 1 (I c)] []) H fun c H=>iD L0B [0,1,6,7] H fun d H=>vQ<|iA [0,1,6,26]<|cD H (fun H=>iA [4,5]<|a8<|fR<|hr H) fun H=>vK<|fQ<|qD (fun b=>Z [p 4 (O 48),p 5 (I (a.getD d.1.toNat 0-a.getD (d.1-1).toNat 0))] [(48,A 322 S9 b 0)]) H fun b H=>a8<|hr H
def Iy(c:List BU×Int)(d:List BU×Int)(e:Int):Int->Option Int
 | a =>
 gd (b9 (c.2*d.2)/\(BT a (c.2*d.2) e).isSome/\True)<|lt (vl (BT a (c.2*d.2) e)) fun b =>
 some b
def SO(a:Int)(c:Int×Int->Option Int):Int->Option Int
 | b =>
 gd (b9 (a+1)/\True) <|
 c (b,a+1)
def Iz(d:o5)(a:BU)(f:List BU×Int)(g:Int)(i:Int×Int->Option Int)(j:Int×Int->Option Int):Int×Int->Option Int
 | (e,c) =>
 if(decide (c < (f.1.length:Int))) then
  gd (ix c f.1.length/\c.toNat<f.1.length/\True)<|lt (f.1.getD c.toNat (a7 S9)) fun b =>
  gd (b9 (a.1*(d.2.1.length:Int))/\b9 (a.1*(d.2.1.length:Int)+b.1)/\ix (a.1*(d.2.1.length:Int)+b.1) d.2.2.length/\b9 (d.2.2.getD (a.1*(d.2.1.length:Int)+b.1).toNat 0*a.2)/\b9 (d.2.2.getD (a.1*(d.2.1.length:Int)+b.1).toNat 0*a.2*b.2)/\b9 (e+d.2.2.getD (a.1*(d.2.1.length:Int)+b.1).toNat 0*a.2*b.2)/\True)<|lt (e+d.2.2.getD (a.1*(d.2.1.length:Int)+b.1).toNat 0*a.2*b.2) fun h =>
  gd (b9 (c+1)/\True) <|
  j (h,c+1)
 else
  SO g i e
def GI(g:o5)(e:List BU×Int)(c:List BU×Int)(h:Int)(f:Int×Int->Option Int):Int×Int->Option Int
 | (b,a) =>
 if(decide (a < (c.1.length:Int))) then
  gd (ix a c.1.length/\a.toNat<c.1.length/\True)<|lt (c.1.getD a.toNat (a7 S9)) fun d =>
  lp (Iz g d e a f) (b,0)
 else
  Iy c e h b
def K6(a:o5)(b:Int)(c:Int)(f:Int):Option Int :=
 gd ((P2 a.1 b).isSome/\True)<|lt (vl (P2 a.1 b)) fun d =>
 gd ((P2 a.2.1 c).isSome/\True)<|lt (vl (P2 a.2.1 c)) fun e =>
 lp (GI a e d f) (0,0)
def R0i:Ct:=c7 215 [.agg y269,.dat i64,.dat i64,.dat i64] (fun x=>K6 x.1 x.2.1 x.2.2.1 x.2.2.2.1) (fun r:Int=>I r) (fun _=>())
theorem OX:Ok prog R0i:=by
 refine c8 [.tmp 8] func215 ?_;intro y ⟨j,_,_,g,_⟩ r H Q hn hr;have:=hz (tc Fv (tc SN tn));refine iA [1,2,3,4]<|iD SN [2,3,4,9,10] H fun a H=>iD SN [3,4,9,10,11,12] H fun b H=>iA [3,4,9,10,11,12,13]<|jN r (fun(m:Int)=>Z [p 3 (J g),p 10 (I a.2),p 12 (I b.2),p 13 (I m)] []) (Iy a b g) (fun m H=>?_) (fun _ n x F=>?_)
 ·refine iD Fv [8] H fun _ H=>a8<|hr H
 refine iA [3,4,10,11,12,13,32,33,34]<|vB<|lX (fun((f,c):Int×Int)=>Z (G5 g a.2 b.2 f [p 32 (O 22),p 33 (I (a.1.length:Int)),p 34 (I c)]) (W8 b.1 a.1 j)) (0,0) H fun _ q v t w ⟨f,c⟩ H=>iA [3,4,10,11,12,13,32,33,34,35]<|vQ<|cD H (fun H=>?_) (fun H=>?_)
 ·refine vK<|fQ<|jN r (fun(k:Int)=>Z (G5 g a.2 b.2 k [p 32 (O 22),p 33 (I (a.1.length:Int)),p 34 (I c)]) (W8 b.1 a.1 j)) (SO c q) (fun k H=>?_) (fun _ s E G=>?_)
  ·refine jB [3,4,10,11,12,13,32,33,34] H fun H=>v H
  refine vB<|qD (fun d=>Z (G5 g a.2 b.2 f [p 15 (R 15),p 32 (O 22),p 33 (I (a.1.length:Int)),p 34 (I c)]) ((15,bx 322 (F2 true S9 d))::W8 b.1 a.1 j)) H fun d H=>iA [3,4,10,11,12,13,15,32,33,34,38,39,40]<|vB<|lX (fun((i,e):Int×Int)=>Z (G5 g a.2 b.2 i [p 15 (R 15),p 32 (O 22),p 33 (I (a.1.length:Int)),p 34 (I c),p 38 (O 29),p 39 (I (b.1.length:Int)),p 40 (I e)]) ((15,bx 322 (F2 true S9 d))::W8 b.1 a.1 j)) (f,0) H fun _ z o u P ⟨i,e⟩ H=>iA [3,4,10,11,12,13,15,32,33,34,38,39,40,41]<|vQ<|cD H (fun H=>vK<|fQ<|vQ<|vB<|qD (fun h=>Z (G5 g a.2 b.2 i [p 15 (R 15),p 17 (R 17),p 32 (O 22),p 33 (I (a.1.length:Int)),p 34 (I c),p 38 (O 29),p 39 (I (b.1.length:Int)),p 40 (I e)]) ((17,bx 322 (F2 true S9 h))::(15,bx 322 (F2 true S9 d))::W8 b.1 a.1 j)) H fun h H=>zD (fun l=>Z (G5 g a.2 b.2 l [p 15 (R 15),p 32 (O 22),p 33 (I (a.1.length:Int)),p 34 (I c),p 38 (O 29),p 39 (I (b.1.length:Int)),p 40 (I e)]) ((17,bx 322 (F2 true S9 h))::(15,bx 322 (F2 true S9 d))::W8 b.1 a.1 j)) H fun l H=>fK<|fQ<|jB [3,4,10,11,12,13,15,32,33,34,38,39,40] H fun H=>o H) fun H=>vE<|fE<|u<|fX rfl<|fK<|s H
 exact vE<|fE<|t<|fX rfl<|n H
def BV(a:C6)(b:j5):Option A6 :=
 gd ((0:Int) < (2:Int)/\ix (b.2.1.tdiv (2:Int)) a.2.1.length/\ix (a.2.1.getD (b.2.1.tdiv (2:Int)).toNat (a7 y235)).1 a.1.2.1.1.length/\True)<|lt (a.1.2.1.1.getD (a.2.1.getD (b.2.1.tdiv 2).toNat (a7 y235)).1.toNat (a7 y155)) fun c =>
 gd (ix c.2.1 a.1.1.length/\ix b.2.2.2 (a.1.1.getD c.2.1.toNat (a7 y153)).2.2.2.1.length/\True)<|lt ((a.1.1.getD c.2.1.toNat (a7 y153)).2.2.2.1.getD b.2.2.2.toNat (a7 y158)) fun d =>
 some d
def R0j:Ct:=c7 214 [.dat y189.pt,.agg y138] (fun x=>BV x.1 x.2.1) (fun r:A6=>AV.agg [I r.1,I r.2.1,I r.2.2.1,I r.2.2.2.1,L y269 r.2.2.2.2.1,L y269 r.2.2.2.2.2]) (fun _=>())
theorem L0L:Ok prog R0j:=by
 refine c8 [.cell 4 158] func214 ?_;intro y ⟨d,b,_⟩ r H Q hn hr;refine iA [0,3,4]<|qD (fun a=>Z [p 0 (D y189.pt d),p 3 (R 3),p 4 (R 4),p 5 (R 5)] [(5,K 155 y155 a),(4,bx 158 [I 0,I 0,I 0,I 0,nil,nil]),(3,K 138 y138 b)]) H fun a H=>qD (fun c=>Z [p 4 (R 4)] [(4,K 158 y158 c),(5,K 155 y155 a),(3,K 138 y138 b)]) H fun c H=>a8<|hr H
def CG(b:C6)(a:j5):Option Int :=
 gd ((0:Int) < (2:Int)/\ix (a.2.1.tdiv (2:Int)) b.2.1.length/\True)<|lt (b.2.1.getD (a.2.1.tdiv 2).toNat (a7 y235)) fun c =>
 some c.2.2.1
def R0T:Ct:=c7 170 [.dat y189.pt,.agg y138] (fun x=>CG x.1 x.2.1) (fun r:Int=>I r) (fun _=>())
theorem IA:Ok prog R0T:=by
 refine c8 [.tmp 4] func170 ?_;intro y ⟨_,b,_⟩ r H Q hn hr;refine iA [0,3]<|qD (fun a=>Z [p 4 (J a.2.2.1)] [(3,K 138 y138 b)]) H fun a H=>a8<|hr H
def F9(a:C6)(f:Int)(d:Int)(e:Int):Option Int :=
 gd (ix f a.2.2.1.length/\True)<|lt (a.2.2.1.getD f.toNat (a7 y138)) fun b =>
 gd ((CG a b).isSome/\True)<|lt (vl (CG a b)) fun c =>
 if(b.2.2.1==1) then
  gd ((BV a b).isSome/\(0:Int) < (2:Int)/\ix (b.2.1.tmod (2:Int)) (vl (BV a b)).2.2.2.2.2.length/\ix c a.2.2.2.1.length/\(K6 ((vl (BV a b)).2.2.2.2.2.getD (b.2.1.tmod (2:Int)).toNat (a7 y269)) d (a.2.2.2.1.getD c.toNat (0:Int)) e).isSome/\True)<|lt (vl (K6 ((vl (BV a b)).2.2.2.2.2.getD (b.2.1.tmod 2).toNat (a7 y269)) d (a.2.2.2.1.getD c.toNat 0) e)) fun h =>
  some (min h 1000000)
 else
  gd (ix c a.2.2.2.2.1.length/\ix b.2.2.2 (List.length (a.2.2.2.2.1.getD c.toNat []))/\(V0 d (List.getD (a.2.2.2.2.1.getD c.toNat []) b.2.2.2.toNat 0) e).isSome/\True)<|lt (vl (V0 d (List.getD (a.2.2.2.2.1.getD c.toNat []) b.2.2.2.toNat 0) e)) fun g =>
  some (min g 1000000)
def R0S:Ct:=c7 171 [.dat y189.pt,.dat i64,.dat i64,.dat i64] (fun x=>F9 x.1 x.2.1 x.2.2.1 x.2.2.2.1) (fun r:Int=>I r) (fun _=>())
theorem P0l:Ok prog R0S:=by
 refine c8 [.tmp 8] func171 ?_;intro y ⟨d,_,b,c,_⟩ r H Q hn hr;have:=hz (tc ZZ (tc OX (tc L0L (tc IA tn))));refine iA [0,1,2,3]<|qD (fun a=>Z [p 0 (D y189.pt d),p 2 (J b),p 3 (J c),p 9 (R 9)] [(9,K 138 y138 a)]) H fun a H=>iD IA [0,2,3,9,10] H fun _ H=>vQ<|iA [0,2,3,9,10,23]<|cD H (fun H=>iD OX [8] H fun _ H=>a8<|fR<|hr H) fun H=>vK<|fQ<|iD ZZ [8] H fun _ H=>a8<|hr H
def Av(b:Int)(a:Int)(c:Int):Option Int :=
 gd (b9 (b*a)/\(BT (b*a) 1000 c).isSome/\True)<|lt (vl (BT (b*a) 1000 c)) fun d =>
 some d
def R0g:Ct:=c7 217 [.dat i64,.dat i64,.dat i64] (fun x=>Av x.1 x.2.1 x.2.2.1) (fun r:Int=>I r) (fun _=>())
theorem L0K:Ok prog R0g:=by
 refine c8 [.tmp 6] func217 ?_;intro y ⟨_,_,_,_⟩ r H Q hn hr;have:=hz (tc Fv tn);refine iA [0,1,2]<|iD Fv [6] H fun _ H=>a8<|hr H
def IB(a:r5)(b:Int)(c:Int):Option Int :=
 if(b==1&&c==0) then
  some a.2.1
 else
  if(b==1) then
   some a.2.2.1
  else
   if(c==0) then
    some a.2.2.2.1
   else
    some a.2.2.2.2
def R0f:Ct:=c7 218 [.agg A0,.dat i64,.dat i64] (fun x=>IB x.1 x.2.1 x.2.2.1) (fun r:Int=>I r) (fun _=>())
theorem O0T:Ok prog R0f:=by
 refine c8 [.tmp 6] func218 ?_;intro y ⟨_,_,_,_⟩ r H Q hn hr;refine iA [1,2,3]<|vQ<|vB<|iA [1,2,3,7]<|cD H (fun H=>iA [6]<|a8<|j0<|fR<|hr H) fun H=>iA [2,3,16]<|cD H (fun H=>iA [6]<|a8<|j0<|fR<|hr H) fun H=>iA [3,21]<|cD H (fun H=>iA [6]<|a8<|j0<|fR<|hr H) fun H=>vK<|fK<|fQ<|iA [6]<|a8<|hr H
def Aw(c:r5)(b:j5)(a:Int):Int->Option Int
 | d =>
 gd ((IB c b.2.2.1 a).isSome/\(Av d (vl (IB c b.2.2.1 a)) a).isSome/\True)<|lt (vl (Av d (vl (IB c b.2.2.1 a)) a)) fun e =>
 some e
def M7(a:C6)(e:r5)(f:Int)(g:Int)(d:Int):Option Int :=
 gd (ix f a.2.2.1.length/\True)<|lt (a.2.2.1.getD f.toNat (a7 y138)) fun b =>
 gd ((CG a b).isSome/\True)<|lt (vl (CG a b)) fun c =>
 if(b.2.2.1==1) then
  gd ((BV a b).isSome/\(0:Int) < (2:Int)/\ix (b.2.1.tmod (2:Int)) (vl (BV a b)).2.2.2.2.1.length/\ix c a.2.2.2.1.length/\(K6 ((vl (BV a b)).2.2.2.2.1.getD (b.2.1.tmod (2:Int)).toNat (a7 y269)) g (a.2.2.2.1.getD c.toNat (0:Int)) d).isSome/\True)<|lt (vl (K6 ((vl (BV a b)).2.2.2.2.1.getD (b.2.1.tmod 2).toNat (a7 y269)) g (a.2.2.2.1.getD c.toNat 0) d)) fun i =>
  Aw e b d i
 else
  gd (ix c a.2.2.2.2.1.length/\ix b.2.2.2 (List.length (a.2.2.2.2.1.getD c.toNat []))/\(BT (List.getD (a.2.2.2.2.1.getD c.toNat []) b.2.2.2.toNat 0) 1000 d).isSome/\True)<|lt (vl (BT (List.getD (a.2.2.2.2.1.getD c.toNat []) b.2.2.2.toNat 0) 1000 d)) fun h =>
  Aw e b d h
def R0U:Ct:=c7 169 [.dat y189.pt,.agg A0,.dat i64,.dat i64,.dat i64] (fun x=>M7 x.1 x.2.1 x.2.2.1 x.2.2.2.1 x.2.2.2.2.1) (fun r:Int=>I r) (fun _=>())
theorem P0m:Ok prog R0U:=by
 refine c8 [.tmp 10] func169 ?_;intro y ⟨f,c,_,g,b,_⟩ r H Q hn hr;have:=hz (tc L0K (tc O0T (tc Fv (tc OX (tc L0L (tc IA tn))))));refine iA [0,2,3,4,6]<|qD (fun a=>Z [p 0 (D y189.pt f),p 3 (J g),p 4 (J b),p 6 (R 6),p 11 (R 11)] [(11,K 138 y138 a),(6,K 58 A0 c)]) H fun a H=>iD IA [0,3,4,6,11,12] H fun _ H=>iA [0,3,4,6,11,12]<|jN r (fun(e:Int)=>Z [p 4 (J b),p 6 (R 6),p 11 (R 11),p 13 (I e)] [(11,K 138 y138 a),(6,K 58 A0 c)]) (Aw c a b) (fun e H=>?_) (fun _ d i h=>?_)
 ·refine iD L0K [10] H fun _ H=>a8<|hr H
 refine iA [0,3,4,6,11,12,26]<|cD H (fun H=>jD OX [4,6,11,13] H fun _ H=>d H) fun H=>jD Fv [4,6,11,13] H fun _ H=>d H
def GJ(b:C6)(c:Int)(a:B0):Int×Int->Option (B0×B0)
 | (g,h) =>
 gd ((F9 b c a.1 0).isSome/\(F9 b c a.2 0).isSome/\(F9 b c a.1 1).isSome/\(F9 b c a.2 1).isSome/\True)<|lt ((vl (F9 b c a.1 0),vl (F9 b c a.2 0),vl (F9 b c a.1 1),vl (F9 b c a.2 1))) fun(i,f,d,e) =>
 some (((g,h),min i f,max d e))
def Dz(a:C6)(d:r5)(b:Int)(c:B0):Option (B0×B0) :=
 gd ((M7 a d b c.1 0).isSome/\(M7 a d b c.2 0).isSome/\(M7 a d b c.1 1).isSome/\(M7 a d b c.2 1).isSome/\True)<|lt ((vl (M7 a d b c.1 0),vl (M7 a d b c.2 0),vl (M7 a d b c.1 1),vl (M7 a d b c.2 1))) fun(h,i,j,g) =>
 gd (ix b a.2.2.1.length/\True)<|lt (a.2.2.1.getD b.toNat (a7 y138)) fun f =>
 if(decide (0 < (a.2.2.2.2.2.length:Int))&&f.2.2.1==2) then
  gd ((CG a f).isSome/\ix (vl (CG a f)) a.2.2.2.2.2.length/\True)<|lt (vl (CG a f)) fun e =>
  gd (b9 (min h i-a.2.2.2.2.2.getD e.toNat 0)/\b9 (max j g+a.2.2.2.2.2.getD e.toNat 0)/\True) <|
  GJ a b c (min h i-a.2.2.2.2.2.getD e.toNat 0,max j g+a.2.2.2.2.2.getD e.toNat 0)
 else
  GJ a b c (min h i,max j g)
def S0P:Ct:=c7 111 [.dat y189.pt,.agg A0,.dat i64,.agg y73] (fun x=>Dz x.1 x.2.1 x.2.2.1 x.2.2.2.1) (fun r:B0×B0=>AV.tup [AV.agg [I r.1.1,I r.1.2],AV.agg [I r.2.1,I r.2.2]]) (fun _=>())
theorem M0o:Ok prog S0P:=by
 refine c8 [.cell 8 73,.cell 9 73] func111 ?_;intro y ⟨d,n,e,a,_⟩ r H Q hn hr;have:=hz (tc P0l (tc IA (tc P0m tn)));refine iA [0,2,5,7,8,9]<|iA [0,2,5,8,9,10,11]<|qD (fun(h,j,k,f)=>Z [p 0 (D y189.pt d),p 2 (J e),p 8 (R 8),p 9 (R 9),p 10 (J a.1),p 11 (J a.2),p 12 (R 12)] [(12,bx 73 [I (min h j),I (max k f)]),(9,bx 73 [I 0,I 0]),(8,bx 73 [I 0,I 0]),(7,K 73 y73 a),(5,K 58 A0 n)]) H fun⟨h,j,k,f⟩ H =>
  jN r (fun((g,i):Int×Int)=>Z [p 0 (D y189.pt d),p 2 (J e),p 8 (R 8),p 9 (R 9),p 10 (J a.1),p 11 (J a.2),p 12 (R 12)] [(12,bx 73 [I g,I i]),(9,bx 73 [I 0,I 0]),(8,bx 73 [I 0,I 0])]) (GJ d e a) (fun⟨g,i⟩ H=>?_) (fun _ m t s=>?_)
 ·refine qD (fun(o,l,b,c)=>Z [p 8 (R 8),p 9 (R 9),p 12 (R 12),p 15 (R 15)] [(15,bx 73 [I (min o l),I (max b c)]),(12,bx 73 [I g,I i]),(9,bx 73 [I 0,I 0]),(8,bx 73 [I 0,I 0])]) H fun⟨o,l,b,c⟩ H =>
   iA [8,9] <|
   a8<|hr H
 refine qD (fun q=>Z [p 0 (D y189.pt d),p 2 (J e),p 8 (R 8),p 9 (R 9),p 10 (J a.1),p 11 (J a.2),p 12 (R 12),p 13 (R 13)] [(13,K 138 y138 q),(12,bx 73 [I (min h j),I (max k f)]),(9,bx 73 [I 0,I 0]),(8,bx 73 [I 0,I 0]),(7,K 73 y73 a),(5,K 58 A0 n)]) H fun q H=>iA [0,2,8,9,10,11,12,13,60]<|cD H (fun H=>iD IA [0,2,8,9,10,11,12,14] H fun _ H=>jB [0,2,8,9,10,11,12] H fun H=>m H) fun H=>vK<|m H
def SP(b:j5)(a:Int):Option Bool :=
 some (b.2.1==a)
def R0V:Ct:=c7 168 [.agg y138,.dat (.pt i64)] (fun x=>SP x.1 x.2.1) (fun r:Bool=>B r) (fun _=>())
theorem M0a:Ok prog R0V:=by
 refine c8 [.tmp 3] func168 ?_;intro y ⟨_,_,_⟩ r H Q hn hr;refine iA [1,2]<|iA [3]<|a8<|hr H
def k0n:List Int->Option (List Int)
 | a =>
 some a
def SQ(a:Int)(b:List Int×Int->Option (List Int)):List Int->Option (List Int)
 | c =>
 gd (b9 (a+1)/\True) <|
 b (c,a+1)
def k0m(b:I6)(f:Int)(d:List Int×Int->Option (List Int)):List Int×Int->Option (List Int)
 | (c,a) =>
 if(decide (a < (b.1.2.2.1.length:Int))) then
  gd (ix a b.1.2.2.1.length/\True)<|lt (b.1.2.2.1.getD a.toNat (a7 y138)) fun e =>
  gd (ix a b.2.length/\(b.2.getD a.toNat false=true/\True->(SP e f).isSome)/\True) <|
  if(b.2.getD a.toNat false&&vl (SP e f)) then
   gd ((c.length+[a].length<=9223372036854775807/\(c.length+[a].length)*8<=140737488355328)/\True) <|
   SQ a d (c++[a])
  else
   SQ a d c
 else
  k0n c
def OY(b:I6)(a:Int):Option (List Int) :=
 lp (k0m b a) ([],0)
def y0d:Ct:=c7 162 [.dat y126.pt,.fn 168 (.pt i64)] (fun x=>OY x.1 x.2.1) (fun r:List Int=>AV.ow 2 true i64 r) (fun _=>())
theorem OZ:Ok prog y0d:=by
 refine c8 [.tmp 4] func162 ?_;intro y ⟨a,c,_⟩ r H Q hn hr;have:=hz (tc M0a tn);refine iA [0,1]<|iA [0,1,5]<|jN r (fun(g:List Int)=>Z [p 5 (O 36)] [(36,A 2 i64 g 0)]) (k0n) (fun g H=>?_) (fun _ k o m=>?_)
 ·refine iA [4]<|a8<|hr H
 refine iA [0,1,5,14,15,16]<|vB<|lX (fun((d,b):List Int×Int)=>Z [p 0 (D y126.pt a),p 1 (AV.fn 168 [D i64.pt c]),p 5 (O 36),p 14 (L y138 a.1.2.2.1),p 15 (I (a.1.2.2.1.length:Int)),p 16 (I b)] [(36,A 2 i64 d 0)]) ([],0) H fun _ i l j n ⟨d,b⟩ H=>iA [0,1,5,14,15,16,17]<|vQ<|cD H (fun H=>?_) (fun H=>?_)
 ·refine vK<|fQ<|jN r (fun(e:List Int)=>Z [p 0 (D y126.pt a),p 1 (AV.fn 168 [D i64.pt c]),p 5 (O 36),p 14 (L y138 a.1.2.2.1),p 15 (I (a.1.2.2.1.length:Int)),p 16 (I b)] [(36,A 2 i64 e 0)]) (SQ b i) (fun e H=>?_) (fun _ f s q=>?_)
  ·refine jB [0,1,5,14,15,16] H fun H=>l H
  refine vB<|qD (fun h=>Z [p 0 (D y126.pt a),p 1 (AV.fn 168 [D i64.pt c]),p 5 (O 36),p 6 (I b),p 7 (R 7),p 14 (L y138 a.1.2.2.1),p 15 (I (a.1.2.2.1.length:Int)),p 16 (I b)] [(7,K 138 y138 h),(36,A 2 i64 d 0)]) H fun h H=>iB [0,1,5,6,14,15,16,32] H fun H=>cD H (fun H=>jB [0,1,5,14,15,16] H fun H=>fK<|f H) fun H=>vK<|fK<|f H
 exact vE<|fE<|j<|fX rfl<|k H
def GK(b:I6)(a:Int):Option (List Int) :=
 gd ((OY b a).isSome/\True)<|lt (vl (OY b a)) fun c =>
 some c
def S0Q:Ct:=c7 110 [.dat y126.pt,.dat i64] (fun x=>GK x.1 x.2.1) (fun r:List Int=>AV.ow 2 true i64 r) (fun _=>())
theorem M0p:Ok prog S0Q:=by
 refine c8 [.tmp 4] func110 ?_;intro y ⟨_,_,_⟩ r H Q hn hr;have:=hz (tc OZ (tc M0a tn));refine iA [0,3]<|iD OZ [4] H fun _ H=>a8<|hr H
def SR(b:r8)(a:Int):Option Bool :=
 some (b.1==a)
def R0W:Ct:=c7 167 [.agg y75,.dat (.pt i64)] (fun x=>SR x.1 x.2.1) (fun r:Bool=>B r) (fun _=>())
theorem M0b:Ok prog R0W:=by
 refine c8 [.tmp 3] func167 ?_;intro y ⟨_,_,_⟩ r H Q hn hr;refine iA [1,2]<|iA [3]<|a8<|hr H
def k0j:Unit->Option Int
 | _ =>
 some (-1)
def k0i(b:List r8)(c:Int)(d:Int->Option Int):Int->Option Int
 | a =>
 if(decide (a < (b.length:Int))) then
  gd (ix a b.length/\(SR (b.getD a.toNat (a7 y75)) c).isSome/\True) <|
  if(vl (SR (b.getD a.toNat (a7 y75)) c)) then
   some a
  else
   gd (b9 (a+1)/\True) <|
   d (a+1)
 else
  k0j ()
def Pb(b:List r8)(a:Int):Option Int :=
 lp (k0i b a) 0
def y0b:Ct:=c7 166 [.dat y75.sl,.fn 167 (.pt i64)] (fun x=>Pb x.1 x.2.1) (fun r:Int=>I r) (fun _=>())
theorem q0x:Ok prog y0b:=by
 refine c8 [.tmp 4] func166 ?_;intro y ⟨a,f,_⟩ r H Q hn hr;have:=hz (tc M0b tn);refine iA [0,1]<|jN r (fun(_:Unit)=>Z [] []) (k0j) (fun _ H=>?_) (fun _ e j d=>?_)
 ·refine iA [4]<|a8<|hr H
 refine iA [0,1,7,8]<|vB<|lX (fun(b:Int)=>Z [p 0 (L y75 a),p 1 (AV.fn 167 [D i64.pt f]),p 7 (I (a.length:Int)),p 8 (I b)] []) 0 H fun _ i g c h b H=>iA [0,1,7,8,9]<|vQ<|cD H (fun H=>?_) (fun H=>?_)
 ·refine vK<|fQ<|vQ<|vB<|iA [0,1,5,7,8]<|iB [0,1,5,7,8,16] H fun H=>cD H (fun H=>iA [4]<|a8<|j0<|fR<|h<|j0<|d<|hr H) fun H=>vK<|fK<|fQ<|jB [0,1,7,8] H fun H=>g H
 exact vE<|fE<|c<|fX rfl<|e H
def LZ(a:List r8)(c:Int):Option (r8×Bool) :=
 gd ((Pb a c).isSome/\True)<|lt (vl (Pb a c)) fun b =>
 if(decide (0<=b)) then
  gd (ix b a.length/\True)<|lt (a.getD b.toNat (a7 y75)) fun d =>
  some (d,true)
 else
  some ((((0:Int),((0:Int),(0:Int)),(0:Int),(0:Int)),false))
def S0R:Ct:=c7 109 [.dat y75.sl,.dat i64] (fun x=>LZ x.1 x.2.1) (fun r:r8×Bool=>AV.tup [AV.agg [I r.1.1,I r.1.2.1.1,I r.1.2.1.2,I r.1.2.2.1,I r.1.2.2.2],B r.2]) (fun _=>())
theorem M0q:Ok prog S0R:=by
 refine c8 [.cell 4 75,.tmp 5] func109 ?_;intro y ⟨_,b,_⟩ r H Q hn hr;have:=hz (tc q0x (tc M0b tn));refine iA [0,3,4]<|vQ<|iD q0x [0,4,6] H fun _ H=>iA [0,4,6,11]<|cD H (fun H=>qD (fun a=>Z [p 4 (R 4),p 5 (B true)] [(4,K 75 y75 a),(3,bx 2 [J b])]) H fun a H=>a8<|fR<|hr H) fun H=>vK<|fQ<|iA [4,5]<|a8<|hr H
def A8(a:Int)(b:Int)(c:Int):Option Bool :=
 some (decide (b<=a)&&decide (a<=c))
def S0H:Ct:=c7 120 [.dat i64,.dat i64,.dat i64] (fun x=>A8 x.1 x.2.1 x.2.2.1) (fun r:Bool=>B r) (fun _=>())
theorem Ab:Ok prog S0H:=by
 refine c8 [.tmp 6] func120 ?_;intro y ⟨_,_,_,_⟩ r H Q hn hr;refine iA [0,1,2]<|iA [6]<|a8<|hr H
def IC(a:List B6):Option Int :=
 some (a.length:Int)
def R0O:Ct:=c7 175 [.dat y235.sl] (fun x=>IC x.1) (fun r:Int=>I r) (fun _=>())
theorem L0Z:Ok prog R0O:=by
 refine c8 [.tmp 2] func175 ?_;intro y ⟨_,_⟩ r H Q hn hr;refine iA [0]<|iA [2]<|a8<|hr H
def Q8(a:C6):Option Int :=
 gd ((IC a.2.1).isSome/\b9 (2*vl (IC a.2.1))/\True)<|lt (vl (IC a.2.1)) fun b =>
 some (2*b)
def S0G:Ct:=c7 121 [.dat y189.pt] (fun x=>Q8 x.1) (fun r:Int=>I r) (fun _=>())
theorem Ma:Ok prog S0G:=by
 refine c8 [.tmp 2] func121 ?_;intro y ⟨_,_⟩ r H Q hn hr;have:=hz (tc L0Z tn);refine iA [0]<|iD L0Z [2] H fun _ H=>a8<|hr H
def T4(a:C6)(b:Int):Option Bool :=
 gd ((Q8 a).isSome/\b9 (vl (Q8 a)-1)/\(A8 b 0 (vl (Q8 a)-1)).isSome/\True) <|
 some (vl (A8 b 0 (vl (Q8 a)-1)))
def k63:Ct:=c7 63 [.dat y189.pt,.dat i64] (fun x=>T4 x.1 x.2.1) (fun r:Bool=>B r) (fun _=>())
theorem o63:Ok prog k63:=by
 refine c8 [.tmp 4] func63 ?_;intro y ⟨_,_,_⟩ r H Q hn hr;have:=hz (tc Ab (tc Ma tn));refine iA [0,1]<|iB [4] H fun H=>a8<|hr H
def F0f:Unit->Option (Int×Int)
 | _ =>
 some (((0:Int),(5:Int)))
def SS(a:Int)(b:Int->Option (Int×Int)):Unit->Option (Int×Int)
 | _ =>
 gd (b9 (a+1)/\True) <|
 b (a+1)
def Mb(d:List Int)(k:Int)(c:C0)(i:Int)(e:I6)(j:r5)(h:Int->Option (Int×Int)):Int->Option (Int×Int)
 | a =>
 if(decide (a < (d.length:Int))) then
  gd (ix a d.length/\a.toNat<d.length/\True) <|
  gd (ix (d.getD a.toNat 0) e.1.2.2.1.length/\True)<|lt (e.1.2.2.1.getD (Int.toNat (d.getD a.toNat 0)) (a7 y138)) fun b =>
  gd (ix b.1 c.1.length/\True) <|
  if(!c.1.getD b.1.toNat false) then
   SS a h ()
  else
   gd (ix b.1 c.2.2.length/\(Dz e.1 j (d.getD a.toNat 0) (c.2.2.getD b.1.toNat (a7 y73))).isSome/\True)<|lt (vl (Dz e.1 j (d.getD a.toNat 0) (c.2.2.getD b.1.toNat (a7 y73)))) fun g =>
   gd (ix b.1 c.2.1.length/\(Ix (c.2.1.getD b.1.toNat (a7 y73)) g.1).isSome/\(Dy (vl (Ix (c.2.1.getD b.1.toNat (a7 y73)) g.1)) i).isSome/\True)<|lt (vl (Dy (vl (Ix (c.2.1.getD b.1.toNat (a7 y73)) g.1)) i)) fun f =>
   if(f==k) then
    some ((d.getD a.toNat (0:Int),(0:Int)))
   else
    SS a h ()
 else
  F0f ()
def DA(b:I6)(i:r5)(g:List r8)(c:C0)(a:Int)(d:Int):Option (Int×Int) :=
 gd ((T4 b.1 a).isSome/\((!vl (T4 b.1 a))=false/\True->ix a c.1.length)/\True) <|
 if(!vl (T4 b.1 a)||!c.1.getD a.toNat false) then
  some (((0:Int),(4:Int)))
 else
  gd (ix a c.2.1.length/\(Dy (c.2.1.getD a.toNat (a7 y73)) d).isSome/\True)<|lt (vl (Dy (c.2.1.getD a.toNat (a7 y73)) d)) fun f =>
  gd ((LZ g a).isSome/\True)<|lt (vl (LZ g a)) fun e =>
  gd ((e.2=true/\True->(Dy e.1.2.1 d).isSome)/\True)<|lt (vl (Dy e.1.2.1 d)) fun j =>
  if(e.2&&j==f) then
   some (((-1:Int),(0:Int)))
  else
   gd ((GK b a).isSome/\True)<|lt (vl (GK b a)) fun h =>
   lp (Mb h f c d b i) 0
def k53:Ct:=c7 53 [.dat y126.pt,.agg A0,.dat y75.sl,.agg y65,.dat i64,.dat i64] (fun x=>DA x.1 x.2.1 x.2.2.1 x.2.2.2.1 x.2.2.2.2.1 x.2.2.2.2.2.1) (fun r:Int×Int=>AV.tup [I r.1,I r.2]) (fun _=>())
theorem o53:Ok prog k53:=by
 refine c8 [.tmp 12,.tmp 13] func53 ?_;intro y ⟨d,g,_,c,_,f,_⟩ r H Q hn hr;have:=hz (tc OW (tc P0F (tc M0o (tc M0p (tc M0q (tc o63 tn))))));refine iA [0,2,4,5,7,9]<|vQ<|iB [0,2,4,5,7,9,36] H fun H=>cD H (fun H=>iA [12,13]<|a8<|fR<|hr H) fun H=>vK<|fQ<|iD OW [0,2,4,5,7,9,14] H fun e H=>vQ<|iD M0q [0,4,5,7,9,14,15,16] H fun _ H=>iD OW [0,4,5,7,9,14,58] H fun _ H=>cD H (fun H=>iA [12,13]<|a8<|fR<|hr H) fun H=>vK<|fQ<|jN r (fun(_:Unit)=>Z [] []) (F0f) (fun _ H=>?_) (fun _ m s l=>?_)
 ·refine iA [12,13]<|a8<|hr H
 refine iD M0p [0,5,7,9,14,61,62,63] H fun a H=>vB<|lX (fun(b:Int)=>Z [p 0 (D y126.pt d),p 5 (J f),p 7 (R 7),p 9 (R 9),p 14 (I e),p 61 (O 61),p 62 (I (a.length:Int)),p 63 (I b)] [(61,A 2 i64 a 0),(9,K 65 y65 c),(7,K 58 A0 g)]) 0 H fun _ j n k o b H=>iA [0,5,7,9,14,61,62,63,64]<|vQ<|cD H (fun H=>?_) (fun H=>?_)
 ·refine vK<|fQ<|jN r (fun(_:Unit)=>Z [p 0 (D y126.pt d),p 5 (J f),p 7 (R 7),p 9 (R 9),p 14 (I e),p 61 (O 61),p 62 (I (a.length:Int)),p 63 (I b)] [(61,A 2 i64 a 0),(9,K 65 y65 c),(7,K 58 A0 g)]) (SS b j) (fun _ H=>?_) (fun _ h t q=>?_)
  ·refine jB [0,5,7,9,14,61,62,63] H fun H=>n H
  refine vB<|iB [0,5,7,9,14,18,61,62,63] H fun H=>qD (fun i=>Z [p 0 (D y126.pt d),p 5 (J f),p 7 (R 7),p 9 (R 9),p 14 (I e),p 18 (I (a.getD b.toNat 0)),p 19 (J i.1),p 61 (O 61),p 62 (I (a.length:Int)),p 63 (I b)] [(61,A 2 i64 a 0),(9,K 65 y65 c),(7,K 58 A0 g)]) H fun i H=>vQ<|iB [0,5,7,9,14,18,19,61,62,63,83] H fun H=>cD H (fun H=>vE<|fE<|fX rfl<|h H) fun H=>vK<|fQ<|iD M0o [0,5,7,9,14,18,19,20,61,62,63] H fun _ H=>iD OW [0,5,7,9,14,18,61,62,63,109] H fun _ H=>cD H (fun H=>iA [12,13]<|a8<|j0<|q<|o<|j0<|l<|hr H) fun H=>vK<|fK<|h H
 exact vE<|fE<|k<|fX rfl<|m H
def Fw(a:Int):Option Bool :=
 gd ((A8 a (-1000000000) 1000000000).isSome/\True) <|
 some (vl (A8 a (-1000000000) 1000000000))
def S0F:Ct:=c7 123 [.dat i64] (fun x=>Fw x.1) (fun r:Bool=>B r) (fun _=>())
theorem P0z:Ok prog S0F:=by
 refine c8 [.tmp 2] func123 ?_;intro y ⟨_,_⟩ r H Q hn hr;have:=hz (tc Ab tn);refine iA [0]<|iB [2] H fun H=>a8<|hr H
def P3(a:B0):Option Bool :=
 gd ((Fw a.1).isSome/\(vl (Fw a.1)=true/\True->(Fw a.2).isSome)/\True) <|
 some (vl (Fw a.1)&&vl (Fw a.2)&&decide (a.1<=a.2))
def k65:Ct:=c7 65 [.agg y73] (fun x=>P3 x.1) (fun r:Bool=>B r) (fun _=>())
theorem SU:Ok prog k65:=by
 refine c8 [.tmp 2] func65 ?_;intro y ⟨_,_⟩ r H Q hn hr;have:=hz (tc P0z tn);refine iA [1]<|iB [2] H fun H=>a8<|hr H
def Mc(c:Int)(a:Int)(b:Int):Option Bool :=
 gd ((A8 c a b).isSome/\True) <|
 some (!vl (A8 c a b))
def R0l:Ct:=c7 212 [.dat i64,.dat (.pt i64),.dat (.pt i64)] (fun x=>Mc x.1 x.2.1 x.2.2.1) (fun r:Bool=>B r) (fun _=>())
theorem SV:Ok prog R0l:=by
 refine c8 [.tmp 4] func212 ?_;intro y ⟨_,_,_,_⟩ r H Q hn hr;have:=hz (tc Ab tn);refine iA [0,1,2]<|iB [4] H fun H=>a8<|hr H
def k0a:Unit->Option Int
 | _ =>
 some (-1)
def r0y(c:List Int)(b:Int×Int)(d:Int->Option Int):Int->Option Int
 | a =>
 if(decide (a < (c.length:Int))) then
  gd (ix a c.length/\(Mc (c.getD a.toNat 0) b.1 b.2).isSome/\True) <|
  if(vl (Mc (c.getD a.toNat 0) b.1 b.2)) then
   some a
  else
   gd (b9 (a+1)/\True) <|
   d (a+1)
 else
  k0a ()
def Pc(b:List Int)(a:Int×Int):Option Int :=
 lp (r0y b a) 0
def x0W:Ct:=c7 246 [.dat i64.sl,.fn 212 (.pr i64.pt i64.pt)] (fun x=>Pc x.1 x.2.1) (fun r:Int=>I r) (fun _=>())
theorem SW:Ok prog x0W:=by
 refine c8 [.tmp 4] func246 ?_;intro y ⟨a,c,_⟩ r H Q hn hr;have:=hz (tc SV tn);refine iA [0,1]<|jN r (fun(_:Unit)=>Z [] []) (k0a) (fun _ H=>?_) (fun _ f j e=>?_)
 ·refine iA [4]<|a8<|hr H
 refine iA [0,1,7,8]<|vB<|lX (fun(b:Int)=>Z [p 0 (L i64 a),p 1 (AV.fn 212 [D i64.pt c.1,D i64.pt c.2]),p 7 (I (a.length:Int)),p 8 (I b)] []) 0 H fun _ i g d h b H=>iA [0,1,7,8,9]<|vQ<|cD H (fun H=>?_) (fun H=>?_)
 ·refine vK<|fQ<|vQ<|vB<|iA [0,1,5,7,8]<|iB [0,1,5,7,8,16] H fun H=>cD H (fun H=>iA [4]<|a8<|j0<|fR<|h<|j0<|e<|hr H) fun H=>vK<|fK<|fQ<|jB [0,1,7,8] H fun H=>g H
 exact vE<|fE<|d<|fX rfl<|f H
def Pd(b:List Int)(a:Int×Int):Option Bool :=
 gd ((Pc b a).isSome/\True)<|lt (vl (Pc b a)) fun c =>
 some (decide (0<=c))
def x0Z:Ct:=c7 211 [.dat i64.sl,.fn 212 (.pr (.pt i64) (.pt i64))] (fun x=>Pd x.1 x.2.1) (fun r:Bool=>B r) (fun _=>())
theorem q0w:Ok prog x0Z:=by
 refine c8 [.tmp 4] func211 ?_;intro y ⟨_,_,_⟩ r H Q hn hr;have:=hz (tc SW (tc SV tn));refine iA [0,1]<|iD SW [4] H fun _ H=>a8<|hr H
def I7(c:List Int)(a:Int)(b:Int):Option Bool :=
 gd ((Pd c (a,b)).isSome/\True) <|
 some (!vl (Pd c (a,b)))
def S0c:Ct:=c7 159 [.dat i64.sl,.dat i64,.dat i64] (fun x=>I7 x.1 x.2.1 x.2.2.1) (fun r:Bool=>B r) (fun _=>())
theorem Md:Ok prog S0c:=by
 refine c8 [.tmp 6] func159 ?_;intro y ⟨_,_,_,_⟩ r H Q hn hr;have:=hz (tc q0w (tc SV tn));refine iA [0,4,5]<|iB [6] H fun H=>a8<|hr H
def D9(a:List Int):Option Int :=
 some (a.length:Int)
def S0i:Ct:=c7 153 [.dat i64.sl] (fun x=>D9 x.1) (fun r:Int=>I r) (fun _=>())
theorem Me:Ok prog S0i:=by
 refine c8 [.tmp 2] func153 ?_;intro y ⟨_,_⟩ r H Q hn hr;refine iA [0]<|iA [2]<|a8<|hr H
def z0x:Unit->Option Bool
 | _ =>
 some true
def z0w(b:C3)(c:Int->Option Bool):Int->Option Bool
 | a =>
 if(decide (a < (b.1.length:Int))) then
  gd (ix a b.1.length/\True) <|
  gd (((b.1.getD a.toNat (0:Int) != (-1:Int))=false/\(a==(0:Int))=true/\True->ix (0:Int) b.2.1.length)/\(decide ((0:Int)<a)=true/\(a==(0:Int)&&(b.1.getD a.toNat (0:Int) != (-1:Int)||b.2.1.getD (Int.toNat (0:Int)) (0:Int) != (0:Int)))=false/\True->b9 (a-(1:Int)))/\(decide ((0:Int)<a)=true/\(a==(0:Int)&&(b.1.getD a.toNat (0:Int) != (-1:Int)||b.2.1.getD (Int.toNat (0:Int)) (0:Int) != (0:Int)))=false/\True->(A8 (b.1.getD a.toNat (0:Int)) (0:Int) (a-(1:Int))).isSome)/\True) <|
  if(a==(0:Int)&&(b.1.getD a.toNat (0:Int) != (-1:Int)||b.2.1.getD (Int.toNat (0:Int)) (0:Int) != (0:Int))||decide ((0:Int)<a)&&!vl (A8 (b.1.getD a.toNat (0:Int)) (0:Int) (a-(1:Int)))) then
   some false
  else
   gd (b9 (a+1)/\True) <|
   c (a+1)
 else
  z0x ()
def CH(a:C3):Option Bool :=
 lp (z0w a) 0
def R0s:Ct:=c7 202 [.agg y172] (fun x=>CH x.1) (fun r:Bool=>B r) (fun _=>())
theorem O0Y:Ok prog R0s:=by
 refine c8 [.tmp 2] func202 ?_;intro y ⟨a,_⟩ r H Q hn hr;have:=hz (tc Ab tn);refine iA [1]<|jN r (fun(_:Unit)=>Z [] []) (z0x) (fun _ H=>?_) (fun _ e i d=>?_)
 ·refine iA [2]<|a8<|hr H
 refine iA [1,6,7,8]<|vB<|lX (fun(b:Int)=>Z [p 1 (R 1),p 6 (L i64 a.1),p 7 (I (a.1.length:Int)),p 8 (I b)] [(1,K 172 y172 a)]) 0 H fun _ h f c g b H=>iA [1,6,7,8,9]<|vQ<|cD H (fun H=>?_) (fun H=>?_)
 ·refine vK<|fQ<|vQ<|vB<|iB [1,3,4,6,7,8] H fun H=>iB [1,6,7,8,36] H fun H=>cD H (fun H=>iA [2]<|a8<|j0<|fR<|g<|j0<|d<|hr H) fun H=>vK<|fK<|fQ<|jB [1,6,7,8] H fun H=>f H
 exact vE<|fE<|c<|fX rfl<|e H
def Mf(a:C3)(c:Int):Option Bool :=
 gd ((D9 a.1).isSome/\True)<|lt (vl (D9 a.1)) fun b =>
 gd ((A8 b 1 8).isSome/\(vl (A8 b 1 8)=true/\True->(D9 a.2.1).isSome)/\((vl (A8 b 1 8)&&vl (D9 a.2.1)==b)=true/\True->(D9 a.2.2.1).isSome)/\((vl (A8 b 1 8)&&vl (D9 a.2.1)==b&&vl (D9 a.2.2.1)==b)=true/\True->(CH a).isSome)/\((vl (A8 b 1 8)&&vl (D9 a.2.1)==b&&vl (D9 a.2.2.1)==b&&vl (CH a))=true/\True->(I7 a.2.1 0 1000).isSome)/\((vl (A8 b 1 8)&&vl (D9 a.2.1)==b&&vl (D9 a.2.2.1)==b&&vl (CH a)&&vl (I7 a.2.1 0 1000))=true/\True->(I7 a.2.2.1 0 500).isSome)/\((vl (A8 b 1 8)&&vl (D9 a.2.1)==b&&vl (D9 a.2.2.1)==b&&vl (CH a)&&vl (I7 a.2.1 0 1000)&&vl (I7 a.2.2.1 0 500))=true/\True->(D9 a.2.2.2).isSome)/\((vl (A8 b 1 8)&&vl (D9 a.2.1)==b&&vl (D9 a.2.2.1)==b&&vl (CH a)&&vl (I7 a.2.1 0 1000)&&vl (I7 a.2.2.1 0 500)&&vl (D9 a.2.2.2)==c)=true/\True->b9 (b-1))/\((vl (A8 b 1 8)&&vl (D9 a.2.1)==b&&vl (D9 a.2.2.1)==b&&vl (CH a)&&vl (I7 a.2.1 0 1000)&&vl (I7 a.2.2.1 0 500)&&vl (D9 a.2.2.2)==c)=true/\True->(I7 a.2.2.2 0 (b-1)).isSome)/\True)<|lt ((vl (D9 a.2.1),vl (D9 a.2.2.1),vl (D9 a.2.2.2))) fun(e,f,d) =>
 some (vl (A8 b 1 8)&&e==b&&f==b&&vl (CH a)&&vl (I7 a.2.1 0 1000)&&vl (I7 a.2.2.1 0 500)&&d==c&&vl (I7 a.2.2.2 0 (b-1)))
def S0m:Ct:=c7 149 [.agg y172,.dat i64] (fun x=>Mf x.1 x.2.1) (fun r:Bool=>B r) (fun _=>())
theorem P0s:Ok prog S0m:=by
 refine c8 [.tmp 4] func149 ?_;intro y ⟨a,f,_⟩ r H Q hn hr;have:=hz (tc Md (tc Me (tc O0Y (tc Ab tn))));refine iA [1,2]<|iD Me [1,2,5] H fun b H=>qD (fun(d,e,c)=>Z [p 4 (B (vl (A8 b 1 8)&&d==b&&e==b&&vl (CH a)&&vl (I7 a.2.1 0 1000)&&vl (I7 a.2.2.1 0 500)&&c==f&&vl (I7 a.2.2.2 0 (b-1))))] [(2,K 172 y172 a)]) H fun⟨d,e,c⟩ H =>
  a8<|hr H
def A0l:List B6->Option (List B6)
 | a =>
 some a
def A0i(d:p9)(e:Int×List B6->Option (List B6)):Int×List B6->Option (List B6)
 | (a,c) =>
 if(decide (a < (d.2.2.length:Int))) then
  gd (ix a d.2.2.length/\True)<|lt (d.2.2.getD a.toNat (a7 y231)) fun b =>
  gd ((c.length+[(-1,a,b.2.2,b.2.1==1)].length<=9223372036854775807/\(c.length+[(-1,a,b.2.2,b.2.1==1)].length)*32<=140737488355328)/\True) <|
  gd (b9 (a+1)/\True) <|
  e ((a+1,c++[(-1,a,b.2.2,b.2.1==1)]))
 else
  A0l c
def Mg(b:p9):List B6->Option (List B6)
 | a =>
 lp (A0i b) (0,a)
def SX(b:Int)(c:List B6×Int->Option (List B6)):List B6->Option (List B6)
 | a =>
 gd (b9 (b+1)/\True) <|
 c (a,b+1)
def A0j(d:Int)(b:F7)(f:List B6×Int->Option (List B6))(g:Int×List B6->Option (List B6)):Int×List B6->Option (List B6)
 | (a,c) =>
 if(decide (a < (b.2.2.length:Int))) then
  gd (ix a b.2.2.length/\True) <|
  gd (b9 ((b.2.2.length:Int)-1)/\(c.length+[(d,a,b.2.2.getD a.toNat 0,a==(b.2.2.length:Int)-1)].length<=9223372036854775807/\(c.length+[(d,a,b.2.2.getD a.toNat 0,a==(b.2.2.length:Int)-1)].length)*32<=140737488355328)/\True)<|lt ((c++[(d,a,b.2.2.getD a.toNat 0,a==(b.2.2.length:Int)-1)],[(d,a,b.2.2.getD a.toNat 0,a==(b.2.2.length:Int)-1)])) fun(e,_) =>
  gd (b9 (a+1)/\True) <|
  g (a+1,e)
 else
  SX d f c
def A0k(a:p9)(d:List B6×Int->Option (List B6)):List B6×Int->Option (List B6)
 | (c,b) =>
 if(decide (b < (a.1.length:Int))) then
  gd (ix b a.1.length/\True)<|lt (a.1.getD b.toNat (a7 y155)) fun e =>
  lp (A0j b e d) (0,c)
 else
  Mg a c
def BW(a:p9):Option (List B6) :=
 lp (A0k a) ([],0)
def S0n:Ct:=c7 148 [.agg y53] (fun x=>BW x.1) (fun r:List B6=>AV.ow 235 true y235 r) (fun _=>())
theorem Fx:Ok prog S0n:=by
 refine c8 [.tmp 2] func148 ?_;intro y ⟨a,_⟩ r H Q hn hr;refine iA [1]<|iA [1,3]<|jN r (fun(f:List B6)=>Z [p 1 (R 1),p 3 (O 38)] [(1,K 53 y53 a),(38,A 235 y235 f 0)]) (Mg a) (fun f H=>?_) (fun _ o P X=>?_)
 ·refine jN r (fun(k:List B6)=>Z [p 3 (O 38)] [(38,A 235 y235 k 0)]) (A0l) (fun k H=>?_) (fun _ q e4 Y=>?_)
  ·refine iA [2]<|a8<|hr H
  refine iA [3,42,43,44]<|vB<|lX (fun((c,g):Int×List B6)=>Z [p 3 (O 38),p 42 (L y231 a.2.2),p 43 (I (a.2.2.length:Int)),p 44 (I c)] [(38,A 235 y235 g 0)]) (0,f) H fun _ W s t F ⟨c,g⟩ H=>iA [3,42,43,44,45]<|vQ<|cD H (fun H=>vK<|fQ<|vQ<|vB<|qD (fun j=>Z [p 3 (O 38),p 8 (I c),p 9 (R 9),p 42 (L y231 a.2.2),p 43 (I (a.2.2.length:Int)),p 44 (I c)] [(9,K 231 y231 j),(38,A 235 y235 g 0)]) H fun j H=>jB [3,42,43,44] H fun H=>fK<|fQ<|jB [3,42,43,44] H fun H=>s H) fun H=>vE<|fE<|t<|fX rfl<|q H
 refine iA [1,3,11,12,13]<|vB<|lX (fun((n,b):List B6×Int)=>Z [p 1 (R 1),p 3 (O 38),p 11 (L y155 a.1),p 12 (I (a.1.length:Int)),p 13 (I b)] [(1,K 53 y53 a),(38,A 235 y235 n 0)]) ([],0) H fun _ v E x G ⟨n,b⟩ H=>iA [1,3,11,12,13,14]<|vQ<|cD H (fun H=>?_) (fun H=>?_)
 ·refine vK<|fQ<|jN r (fun(h:List B6)=>Z [p 1 (R 1),p 3 (O 38),p 11 (L y155 a.1),p 12 (I (a.1.length:Int)),p 13 (I b)] [(1,K 53 y53 a),(38,A 235 y235 h 0)]) (SX b v) (fun h H=>?_) (fun _ w V t2=>?_)
  ·refine jB [1,3,11,12,13] H fun H=>E H
  refine vB<|qD (fun d=>Z [p 1 (R 1),p 3 (O 38),p 4 (I b),p 5 (R 5),p 11 (L y155 a.1),p 12 (I (a.1.length:Int)),p 13 (I b)] [(5,K 155 y155 d),(1,K 53 y53 a),(38,A 235 y235 n 0)]) H fun d H=>iA [1,3,4,5,11,12,13,19,20,21]<|vB<|lX (fun((e,m):Int×List B6)=>Z [p 1 (R 1),p 3 (O 38),p 4 (I b),p 5 (R 5),p 11 (L y155 a.1),p 12 (I (a.1.length:Int)),p 13 (I b),p 19 (L i64 d.2.2),p 20 (I (d.2.2.length:Int)),p 21 (I e)] [(5,K 155 y155 d),(1,K 53 y53 a),(38,A 235 y235 m 0)]) (0,n) H fun _ T u z t3 ⟨e,m⟩ H=>iA [1,3,4,5,11,12,13,19,20,21,22]<|vQ<|cD H (fun H=>?_) (fun H=>?_)
  ·refine vK<|fQ<|vQ<|vB<|iB [1,3,4,5,6,7,11,12,13,19,20,21] H fun H=>zD (fun(i,l)=>Z [p 1 (R 1),p 3 (AV.os 38 1),p 4 (I b),p 5 (R 5),p 11 (L y155 a.1),p 12 (I (a.1.length:Int)),p 13 (I b),p 19 (L i64 d.2.2),p 20 (I (d.2.2.length:Int)),p 21 (I e)] [(38,A 235 y235 i 1),(37,A 235 y235 l 0),(5,K 155 y155 d),(1,K 53 y53 a)]) H fun⟨i,l⟩ H =>
    fK<|fQ <|
    jB [1,3,4,5,11,12,13,19,20,21] H fun H =>
    u H
  exact vE<|fE<|z<|fX rfl<|fK<|w H
 exact vE<|fE<|x<|fX rfl<|o H
def SY(a:Int):Option Bool :=
 some (a != 1)
def R0t:Ct:=c7 201 [.dat i64] (fun x=>SY x.1) (fun r:Bool=>B r) (fun _=>())
theorem SZ:Ok prog R0t:=by
 refine c8 [.tmp 2] func201 ?_;intro y ⟨_,_⟩ r H Q hn hr;refine iA [0]<|iA [2]<|a8<|hr H
def ID(a:List ByteArray):Option Int :=
 some (a.length:Int)
def Q0O:Ct:=c7 236 [.dat Ty.str.sl] (fun x=>ID x.1) (fun r:Int=>I r) (fun _=>())
theorem O0L:Ok prog Q0O:=by
 refine c8 [.tmp 2] func236 ?_;intro y ⟨_,_⟩ r H Q hn hr;refine iA [0]<|iA [2]<|a8<|hr H
def GL(a:p9)(b:Int):Option Bool :=
 gd ((ID a.2.1).isSome/\b9 (vl (ID a.2.1)-1)/\(A8 b 0 (vl (ID a.2.1)-1)).isSome/\True) <|
 some (vl (A8 b 0 (vl (ID a.2.1)-1)))
def R0u:Ct:=c7 199 [.agg y53,.dat i64] (fun x=>GL x.1 x.2.1) (fun r:Bool=>B r) (fun _=>())
theorem L0R:Ok prog R0u:=by
 refine c8 [.tmp 4] func199 ?_;intro y ⟨_,_,_⟩ r H Q hn hr;have:=hz (tc Ab (tc O0L tn));refine iA [1,2]<|iB [4] H fun H=>a8<|hr H
def Fy(a:List l6):Option Int :=
 some (a.length:Int)
def Q0Q:Ct:=c7 234 [.dat y153.sl] (fun x=>Fy x.1) (fun r:Int=>I r) (fun _=>())
theorem O0M:Ok prog Q0Q:=by
 refine c8 [.tmp 2] func234 ?_;intro y ⟨_,_⟩ r H Q hn hr;refine iA [0]<|iA [2]<|a8<|hr H
def Mh(b:Int)(a:p9):Option Bool :=
 gd ((GL a b).isSome/\True) <|
 some (!vl (GL a b))
def Q0P:Ct:=c7 235 [.dat i64,.dat (.pt y53)] (fun x=>Mh x.1 x.2.1) (fun r:Bool=>B r) (fun _=>())
theorem Ta:Ok prog Q0P:=by
 refine c8 [.tmp 3] func235 ?_;intro y ⟨_,_,_⟩ r H Q hn hr;have:=hz (tc L0R tn);refine iA [0,1]<|iB [3] H fun H=>a8<|hr H
def j0Z:Unit->Option Int
 | _ =>
 some (-1)
def r0x(b:List Int)(c:p9)(d:Int->Option Int):Int->Option Int
 | a =>
 if(decide (a < (b.length:Int))) then
  gd (ix a b.length/\(Mh (b.getD a.toNat 0) c).isSome/\True) <|
  if(vl (Mh (b.getD a.toNat 0) c)) then
   some a
  else
   gd (b9 (a+1)/\True) <|
   d (a+1)
 else
  j0Z ()
def Pe(b:List Int)(a:p9):Option Int :=
 lp (r0x b a) 0
def x0V:Ct:=c7 246 [.dat i64.sl,.fn 235 y53.pt] (fun x=>Pe x.1 x.2.1) (fun r:Int=>I r) (fun _=>())
theorem q0u:Ok prog x0V:=by
 refine c8 [.tmp 4] func246 ?_;intro y ⟨a,f,_⟩ r H Q hn hr;have:=hz (tc Ta tn);refine iA [0,1]<|jN r (fun(_:Unit)=>Z [] []) (j0Z) (fun _ H=>?_) (fun _ e j d=>?_)
 ·refine iA [4]<|a8<|hr H
 refine iA [0,1,7,8]<|vB<|lX (fun(b:Int)=>Z [p 0 (L i64 a),p 1 (AV.fn 235 [D y53.pt f]),p 7 (I (a.length:Int)),p 8 (I b)] []) 0 H fun _ i g c h b H=>iA [0,1,7,8,9]<|vQ<|cD H (fun H=>?_) (fun H=>?_)
 ·refine vK<|fQ<|vQ<|vB<|iA [0,1,5,7,8]<|iB [0,1,5,7,8,16] H fun H=>cD H (fun H=>iA [4]<|a8<|j0<|fR<|h<|j0<|d<|hr H) fun H=>vK<|fK<|fQ<|jB [0,1,7,8] H fun H=>g H
 exact vE<|fE<|c<|fX rfl<|e H
def Pf(b:List Int)(a:p9):Option Bool :=
 gd ((Pe b a).isSome/\True)<|lt (vl (Pe b a)) fun c =>
 some (decide (0<=c))
def x0Y:Ct:=c7 211 [.dat i64.sl,.fn 235 (.pt y53)] (fun x=>Pf x.1 x.2.1) (fun r:Bool=>B r) (fun _=>())
theorem x0C:Ok prog x0Y:=by
 refine c8 [.tmp 4] func211 ?_;intro y ⟨_,_,_⟩ r H Q hn hr;have:=hz (tc SW (tc q0u (tc Ta tn)));refine iA [0,1]<|iD q0u [4] H fun _ H=>a8<|hr H
def Mi(c:p9)(b:List l6)(a:F7):Option Bool :=
 gd ((Fy b).isSome/\b9 (vl (Fy b)-1)/\(A8 a.2.1 0 (vl (Fy b)-1)).isSome/\(vl (A8 a.2.1 0 (vl (Fy b)-1))=true/\True->ix a.2.1 b.length)/\((vl (A8 a.2.1 0 (vl (Fy b)-1))&&(a.2.2.length:Int)==(↑(b.getD a.2.1.toNat (a7 y153)).2.2.1.length:Int))=true/\True->(Pf a.2.2 c).isSome)/\True) <|
 some (vl (A8 a.2.1 0 (vl (Fy b)-1))&&(a.2.2.length:Int)==(↑(b.getD a.2.1.toNat (a7 y153)).2.2.1.length:Int)&&!vl (Pf a.2.2 c))
def R0v:Ct:=c7 198 [.agg y53,.agg y153.sl,.agg y155] (fun x=>Mi x.1 x.2.1 x.2.2.1) (fun r:Bool=>B r) (fun _=>())
theorem O0Z:Ok prog R0v:=by
 refine c8 [.tmp 6] func198 ?_;intro y ⟨_,_,_,_⟩ r H Q hn hr;have:=hz (tc q0w (tc x0C (tc Ta (tc Ab (tc O0M tn)))));refine iA [3,4,5]<|iB [6] H fun H=>a8<|hr H
def y0Q:Unit->Option Int
 | _ =>
 some (-1)
def F0y(d:ByteArray)(b:List ByteArray)(c:Int->Option Int):Int->Option Int
 | a =>
 if(decide (a < (b.length:Int))) then
  gd (ix a b.length/\True) <|
  if(decide (d=b.getD a.toNat (a7 Ty.str))) then
   some a
  else
   gd (b9 (a+1)/\True) <|
   c (a+1)
 else
  y0Q ()
def Pg(b:List ByteArray)(a:ByteArray):Option Int :=
 lp (F0y a b) 0
def Q0o:Ct:=c7 278 [.dat Ty.str.sl,.dat Ty.str] (fun x=>Pg x.1 x.2.1) (fun r:Int=>I r) (fun _=>())
theorem L0z:Ok prog Q0o:=by
 refine c8 [.tmp 4] func278 ?_;intro y ⟨a,f,_⟩ r H Q hn hr;refine iA [0,1]<|jN r (fun(_:Unit)=>Z [] []) (y0Q) (fun _ H=>?_) (fun _ e j d=>?_)
 ·refine iA [4]<|a8<|hr H
 refine iA [0,1,7,8]<|vB<|lX (fun(b:Int)=>Z [p 0 (L Ty.str a),p 1 (U f),p 7 (I (a.length:Int)),p 8 (I b)] []) 0 H fun _ i g c h b H=>iA [0,1,7,8,9]<|vQ<|cD H (fun H=>?_) (fun H=>?_)
 ·refine vK<|fQ<|vQ<|vB<|iA [0,1,5,7,8]<|iB [0,1,5,7,8,16] H fun H=>cD H (fun H=>iA [4]<|a8<|j0<|fR<|h<|j0<|d<|hr H) fun H=>vK<|fK<|fQ<|jB [0,1,7,8] H fun H=>g H
 exact vE<|fE<|c<|fX rfl<|e H
def Ph(b:List ByteArray)(a:ByteArray):Option Bool :=
 gd ((Pg b a).isSome/\True)<|lt (vl (Pg b a)) fun c =>
 some (decide (0<=c))
def Q0z:Ct:=c7 261 [.dat Ty.str.sl,.dat Ty.str] (fun x=>Ph x.1 x.2.1) (fun r:Bool=>B r) (fun _=>())
theorem O0D:Ok prog Q0z:=by
 refine c8 [.tmp 4] func261 ?_;intro y ⟨_,_,_⟩ r H Q hn hr;have:=hz (tc L0z tn);refine iA [0,1]<|iD L0z [4] H fun _ H=>a8<|hr H
def Q9(a:ByteArray):Option Bool :=
 gd ((A8 (a.size:Int) (1:Int) (8:Int)).isSome/\(vl (A8 (a.size:Int) (1:Int) (8:Int))=true/\True->(Fz a (ByteArray.mk #[(97:UInt8),(98:UInt8),(99:UInt8),(100:UInt8),(101:UInt8),(102:UInt8),(103:UInt8),(104:UInt8),(105:UInt8),(106:UInt8),(107:UInt8),(108:UInt8),(109:UInt8),(110:UInt8),(111:UInt8),(112:UInt8),(113:UInt8),(114:UInt8),(115:UInt8),(116:UInt8),(117:UInt8),(118:UInt8),(119:UInt8),(120:UInt8),(121:UInt8),(122:UInt8),(48:UInt8),(49:UInt8),(50:UInt8),(51:UInt8),(52:UInt8),(53:UInt8),(54:UInt8),(55:UInt8),(56:UInt8),(57:UInt8)])).isSome)/\((vl (A8 (a.size:Int) (1:Int) (8:Int))&&decide (vl (Fz a (ByteArray.mk #[(97:UInt8),(98:UInt8),(99:UInt8),(100:UInt8),(101:UInt8),(102:UInt8),(103:UInt8),(104:UInt8),(105:UInt8),(106:UInt8),(107:UInt8),(108:UInt8),(109:UInt8),(110:UInt8),(111:UInt8),(112:UInt8),(113:UInt8),(114:UInt8),(115:UInt8),(116:UInt8),(117:UInt8),(118:UInt8),(119:UInt8),(120:UInt8),(121:UInt8),(122:UInt8),(48:UInt8),(49:UInt8),(50:UInt8),(51:UInt8),(52:UInt8),(53:UInt8),(54:UInt8),(55:UInt8),(56:UInt8),(57:UInt8)]))=ByteArray.mk #[]))=true/\True->ix (0:Int) a.size)/\((vl (A8 (a.size:Int) (1:Int) (8:Int))&&decide (vl (Fz a (ByteArray.mk #[(97:UInt8),(98:UInt8),(99:UInt8),(100:UInt8),(101:UInt8),(102:UInt8),(103:UInt8),(104:UInt8),(105:UInt8),(106:UInt8),(107:UInt8),(108:UInt8),(109:UInt8),(110:UInt8),(111:UInt8),(112:UInt8),(113:UInt8),(114:UInt8),(115:UInt8),(116:UInt8),(117:UInt8),(118:UInt8),(119:UInt8),(120:UInt8),(121:UInt8),(122:UInt8),(48:UInt8),(49:UInt8),(50:UInt8),(51:UInt8),(52:UInt8),(53:UInt8),(54:UInt8),(55:UInt8),(56:UInt8),(57:UInt8)]))=ByteArray.mk #[]))=true/\True->(Pj (ByteArray.mk #[(97:UInt8),(98:UInt8),(99:UInt8),(100:UInt8),(101:UInt8),(102:UInt8),(103:UInt8),(104:UInt8),(105:UInt8),(106:UInt8),(107:UInt8),(108:UInt8),(109:UInt8),(110:UInt8),(111:UInt8),(112:UInt8),(113:UInt8),(114:UInt8),(115:UInt8),(116:UInt8),(117:UInt8),(118:UInt8),(119:UInt8),(120:UInt8),(121:UInt8),(122:UInt8)]) (F8 a (Int.toNat (0:Int)))).isSome)/\True)<|lt ((vl (Fz a (ByteArray.mk #[97,98,99,100,101,102,103,104,105,106,107,108,109,110,111,112,113,114,115,116,117,118,119,120,121,122,48,49,50,51,52,53,54,55,56,57])),vl (Pj (ByteArray.mk #[(97:UInt8),(98:UInt8),(99:UInt8),(100:UInt8),(101:UInt8),(102:UInt8),(103:UInt8),(104:UInt8),(105:UInt8),(106:UInt8),(107:UInt8),(108:UInt8),(109:UInt8),(110:UInt8),(111:UInt8),(112:UInt8),(113:UInt8),(114:UInt8),(115:UInt8),(116:UInt8),(117:UInt8),(118:UInt8),(119:UInt8),(120:UInt8),(121:UInt8),(122:UInt8)]) (F8 a (Int.toNat (0:Int)))))) fun(b,c) =>
 some (vl (A8 (a.size:Int) 1 8)&&decide (b=ByteArray.mk #[])&&decide (0<=c))
def S0l:Ct:=c7 150 [.dat Ty.str] (fun x=>Q9 x.1) (fun r:Bool=>B r) (fun _=>())
theorem Tb:Ok prog S0l:=by
 refine c8 [.tmp 2] func150 ?_;intro y ⟨c,_⟩ r H Q hn hr;have:=hz (tc O0W (tc O0X (tc Ab tn)));refine iA [0]<|qD (fun(a,b)=>Z [p 2 (B (vl (A8 (c.size:Int) 1 8)&&decide (a=ByteArray.mk #[])&&decide (0<=b)))] []) H fun⟨a,b⟩ H =>
  a8<|hr H
def z0g:Unit->Option Bool
 | _ =>
 some true
def z0f(b:List ByteArray)(c:Int->Option Bool):Int->Option Bool
 | a =>
 if(decide (a < (b.length:Int))) then
  gd (ix a b.length/\True) <|
  gd ((Q9 (b.getD a.toNat (a7 Ty.str))).isSome/\((!vl (Q9 (b.getD a.toNat (a7 Ty.str))))=false/\True->(0:Int)<=(0:Int)/\(0:Int)<=a/\a<=(b.length:Int))/\((!vl (Q9 (b.getD a.toNat (a7 Ty.str))))=false/\True->(Ph (List.take a.toNat b) (b.getD a.toNat (a7 Ty.str))).isSome)/\True) <|
  if(!vl (Q9 (b.getD a.toNat (a7 Ty.str)))||vl (Ph (List.take a.toNat b) (b.getD a.toNat (a7 Ty.str)))) then
   some false
  else
   gd (b9 (a+1)/\True) <|
   c (a+1)
 else
  z0g ()
def X8(a:List ByteArray):Option Bool :=
 lp (z0f a) 0
def Q0R:Ct:=c7 233 [.dat Ty.str.sl] (fun x=>X8 x.1) (fun r:Bool=>B r) (fun _=>())
theorem Tc:Ok prog Q0R:=by
 refine c8 [.tmp 2] func233 ?_;intro y ⟨a,_⟩ r H Q hn hr;have:=hz (tc O0D (tc Tb tn));refine iA [0]<|jN r (fun(_:Unit)=>Z [] []) (z0g) (fun _ H=>?_) (fun _ e i d=>?_)
 ·refine iA [2]<|a8<|hr H
 refine iA [0,5,6,7]<|vB<|lX (fun(b:Int)=>Z [p 0 (L Ty.str a),p 5 (L Ty.str a),p 6 (I (a.length:Int)),p 7 (I b)] []) 0 H fun _ h f c g b H=>iA [0,5,6,7,8]<|vQ<|cD H (fun H=>?_) (fun H=>?_)
 ·refine vK<|fQ<|vQ<|vB<|iB [0,3,4,5,6,7] H fun H=>iB [0,5,6,7,21] H fun H=>cD H (fun H=>iA [2]<|a8<|j0<|fR<|g<|j0<|d<|hr H) fun H=>vK<|fK<|fQ<|jB [0,5,6,7] H fun H=>f H
 exact vE<|fE<|c<|fX rfl<|e H
def Mj(a:List ByteArray)(b:p9):List ByteArray->Option Bool
 | c =>
 gd (((decide ((a.length:Int)<=14)&&decide ((b.2.1.length:Int)<=30)&&decide ((c.length:Int)<=8))=true/\True->(X8 a).isSome)/\((decide ((a.length:Int)<=14)&&decide ((b.2.1.length:Int)<=30)&&decide ((c.length:Int)<=8)&&vl (X8 a))=true/\True->(X8 b.2.1).isSome)/\((decide ((a.length:Int)<=14)&&decide ((b.2.1.length:Int)<=30)&&decide ((c.length:Int)<=8)&&vl (X8 a)&&vl (X8 b.2.1))=true/\True->(X8 c).isSome)/\True) <|
 some (decide ((a.length:Int)<=14)&&decide ((b.2.1.length:Int)<=30)&&decide ((c.length:Int)<=8)&&vl (X8 a)&&vl (X8 b.2.1)&&vl (X8 c))
def z0y(b:p9)(e:List ByteArray)(f:List ByteArray×Int->Option Bool):List ByteArray×Int->Option Bool
 | (c,a) =>
 if(decide (a < (b.2.2.length:Int))) then
  gd (ix a b.2.2.length/\True)<|lt (b.2.2.getD a.toNat (a7 y231)) fun d =>
  gd ((c.length+[d.1].length<=9223372036854775807/\(c.length+[d.1].length)*16<=140737488355328)/\True) <|
  gd (b9 (a+1)/\True) <|
  f (c++[d.1],a+1)
 else
  Mj e b c
def Mm(b:p9):List ByteArray->Option Bool
 | a =>
 lp (z0y b a) ([],0)
def z0z(b:p9)(e:List ByteArray×Int->Option Bool):List ByteArray×Int->Option Bool
 | (c,a) =>
 if(decide (a < (b.1.length:Int))) then
  gd (ix a b.1.length/\True)<|lt (b.1.getD a.toNat (a7 y155)) fun d =>
  gd ((c.length+[d.1].length<=9223372036854775807/\(c.length+[d.1].length)*16<=140737488355328)/\True) <|
  gd (b9 (a+1)/\True) <|
  e (c++[d.1],a+1)
 else
  Mm b c
def Pk(a:p9):Option Bool :=
 lp (z0z a) ([],0)
def R0w:Ct:=c7 197 [.agg y53] (fun x=>Pk x.1) (fun r:Bool=>B r) (fun _=>())
theorem P0a:Ok prog R0w:=by
 refine c8 [.tmp 2] func197 ?_;intro y ⟨a,_⟩ r H Q hn hr;have:=hz (tc Tc tn);refine iA [1]<|iA [1,3,4]<|jN r (fun(b:List ByteArray)=>Z (Dl [p 4 (nil)]) [(1,K 53 y53 a),(20,A 9 Ty.str b 0)]) (Mm a) (fun b H=>?_) (fun _ j s v=>?_)
 ·refine jN r (fun(g:List ByteArray)=>Z (Dl [p 4 (O 33)]) [(1,K 53 y53 a),(20,A 9 Ty.str b 0),(33,A 9 Ty.str g 0)]) (Mj b a) (fun g H=>?_) (fun _ l u w=>?_)
  ·refine iB [2] H fun H=>a8<|hr H
  refine iA [1,3,4,23,24,25]<|vB<|lX (fun((e,c):List ByteArray×Int)=>Z (Dl [p 4 (O 33),p 23 (L y231 a.2.2),p 24 (I (a.2.2.length:Int)),p 25 (I c)]) [(1,K 53 y53 a),(20,A 9 Ty.str b 0),(33,A 9 Ty.str e 0)]) ([],0) H fun _ t k n z ⟨e,c⟩ H=>iA [1,3,4,23,24,25,26]<|vQ<|cD H (fun H=>vK<|fQ<|vQ<|vB<|qD (fun i=>Z (Dl [p 4 (O 33),p 8 (R 8),p 23 (L y231 a.2.2),p 24 (I (a.2.2.length:Int)),p 25 (I c)]) [(8,K 231 y231 i),(1,K 53 y53 a),(20,A 9 Ty.str b 0),(33,A 9 Ty.str e 0)]) H fun i H=>jB [1,3,4,23,24,25] H fun H=>fK<|fQ<|jB [1,3,4,23,24,25] H fun H=>k H) fun H=>vE<|fE<|n<|fX rfl<|l H
 refine iA [1,3,4,10,11,12]<|vB<|lX (fun((d,f):List ByteArray×Int)=>Z (Dl [p 4 (nil),p 10 (L y155 a.1),p 11 (I (a.1.length:Int)),p 12 (I f)]) [(1,K 53 y53 a),(20,A 9 Ty.str d 0)]) ([],0) H fun _ x o m q ⟨d,f⟩ H=>iA [1,3,4,10,11,12,13]<|vQ<|cD H (fun H=>vK<|fQ<|vQ<|vB<|qD (fun h=>Z (Dl [p 4 (nil),p 6 (R 6),p 10 (L y155 a.1),p 11 (I (a.1.length:Int)),p 12 (I f)]) [(6,K 155 y155 h),(1,K 53 y53 a),(20,A 9 Ty.str d 0)]) H fun h H=>jB [1,3,4,10,11,12] H fun H=>fK<|fQ<|jB [1,3,4,10,11,12] H fun H=>o H) fun H=>vE<|fE<|m<|fX rfl<|j H
def Td(b:A6)(a:Int):Option Bool :=
 some (b.1==a)
def Q0f:Ct:=c7 291 [.agg y158,.dat (.pt i64)] (fun x=>Td x.1 x.2.1) (fun r:Bool=>B r) (fun _=>())
theorem Tf:Ok prog Q0f:=by
 refine c8 [.tmp 3] func291 ?_;intro y ⟨_,_,_⟩ r H Q hn hr;refine iA [1,2]<|iA [3]<|a8<|hr H
def j0U:Unit->Option Int
 | _ =>
 some (-1)
def r0v(b:List A6)(c:Int)(d:Int->Option Int):Int->Option Int
 | a =>
 if(decide (a < (b.length:Int))) then
  gd (ix a b.length/\(Td (b.getD a.toNat (a7 y158)) c).isSome/\True) <|
  if(vl (Td (b.getD a.toNat (a7 y158)) c)) then
   some a
  else
   gd (b9 (a+1)/\True) <|
   d (a+1)
 else
  j0U ()
def Pl(b:List A6)(a:Int):Option Int :=
 lp (r0v b a) 0
def x0R:Ct:=c7 290 [.dat y158.sl,.fn 291 i64.pt] (fun x=>Pl x.1 x.2.1) (fun r:Int=>I r) (fun _=>())
theorem Tg:Ok prog x0R:=by
 refine c8 [.tmp 4] func290 ?_;intro y ⟨a,f,_⟩ r H Q hn hr;have:=hz (tc Tf tn);refine iA [0,1]<|jN r (fun(_:Unit)=>Z [] []) (j0U) (fun _ H=>?_) (fun _ e j d=>?_)
 ·refine iA [4]<|a8<|hr H
 refine iA [0,1,7,8]<|vB<|lX (fun(b:Int)=>Z [p 0 (L y158 a),p 1 (AV.fn 291 [D i64.pt f]),p 7 (I (a.length:Int)),p 8 (I b)] []) 0 H fun _ i g c h b H=>iA [0,1,7,8,9]<|vQ<|cD H (fun H=>?_) (fun H=>?_)
 ·refine vK<|fQ<|vQ<|vB<|iA [0,1,5,7,8]<|iB [0,1,5,7,8,16] H fun H=>cD H (fun H=>iA [4]<|a8<|j0<|fR<|h<|j0<|d<|hr H) fun H=>vK<|fK<|fQ<|jB [0,1,7,8] H fun H=>g H
 exact vE<|fE<|c<|fX rfl<|e H
def Pm(b:List A6)(a:Int):Option Bool :=
 gd ((Pl b a).isSome/\True)<|lt (vl (Pl b a)) fun c =>
 some (decide (0<=c))
def x0T:Ct:=c7 274 [.dat y158.sl,.fn 291 (.pt i64)] (fun x=>Pm x.1 x.2.1) (fun r:Bool=>B r) (fun _=>())
theorem q0t:Ok prog x0T:=by
 refine c8 [.tmp 4] func274 ?_;intro y ⟨_,_,_⟩ r H Q hn hr;have:=hz (tc Tg (tc Tf tn));refine iA [0,1]<|iD Tg [4] H fun _ H=>a8<|hr H
def P4(b:l6)(a:Int):Option Bool :=
 gd ((Pm b.2.2.2.1 a).isSome/\True) <|
 some (vl (Pm b.2.2.2.1 a))
def Q0p:Ct:=c7 277 [.agg y153,.dat i64] (fun x=>P4 x.1 x.2.1) (fun r:Bool=>B r) (fun _=>())
theorem O0y:Ok prog Q0p:=by
 refine c8 [.tmp 4] func277 ?_;intro y ⟨_,_,_⟩ r H Q hn hr;have:=hz (tc q0t (tc Tf tn));refine iA [2,3]<|iB [4] H fun H=>a8<|hr H
def CI(a:List F3):Option Int :=
 some (a.length:Int)
def Q0t:Ct:=c7 272 [.dat y293.sl] (fun x=>CI x.1) (fun r:Int=>I r) (fun _=>())
theorem Th:Ok prog Q0t:=by
 refine c8 [.tmp 2] func272 ?_;intro y ⟨_,_⟩ r H Q hn hr;refine iA [0]<|iA [2]<|a8<|hr H
def V2(a:l6):Option Int :=
 gd ((CI a.2.2.1).isSome/\b9 (vl (CI a.2.2.1)-1)/\True)<|lt (vl (CI a.2.2.1)) fun b =>
 some (b-1)
def Q0q:Ct:=c7 276 [.agg y153] (fun x=>V2 x.1) (fun r:Int=>I r) (fun _=>())
theorem Mn:Ok prog Q0q:=by
 refine c8 [.tmp 2] func276 ?_;intro y ⟨_,_⟩ r H Q hn hr;have:=hz (tc Th tn);refine iA [1]<|iD Th [2] H fun _ H=>a8<|hr H
def IE(a:l6):Int->Option Bool
 | b =>
 if(a.2.1==1) then
  gd (((b==(0:Int))=true/\True->(V2 a).isSome)/\((b==(0:Int))=true/\True->((0:Int)<=vl (V2 a)/\vl (V2 a)<=(62:Int))/\b9 ((1:Int)*(2:Int) ^ (vl (V2 a)).toNat))/\((b==(0:Int)&&(a.2.2.2.2.1.length:Int)==(1:Int)*(2:c9 i64) ^ (vl (V2 a)).toNat)=true/\True->(I7 a.2.2.2.2.1 (0:Int) (1:Int)).isSome)/\True)<|lt (vl (V2 a)) fun c =>
  some (b==(0:Int)&&(a.2.2.2.2.1.length:Int)==(1:Int)*(2:c9 i64) ^ c.toNat&&vl (I7 a.2.2.2.2.1 (0:Int) (1:Int)))
 else
  if(a.2.1==2) then
   gd (((b==1&&(a.2.2.2.2.1.length:Int)==0)=true/\True->(P4 a 1).isSome)/\((b==1&&(a.2.2.2.2.1.length:Int)==0&&!vl (P4 a 1))=true/\True->(P4 a 2).isSome)/\((b==1&&(a.2.2.2.2.1.length:Int)==0&&!vl (P4 a 1))=true/\True->(P4 a 3).isSome)/\True) <|
   some (b==1&&(a.2.2.2.2.1.length:Int)==0&&!vl (P4 a 1)&&!vl (P4 a 2)==vl (P4 a 3))
  else
   if(a.2.1==3) then
    gd (((b==1&&(a.2.2.2.2.1.length:Int)==0)=true/\True->(P4 a 1).isSome)/\((b==1&&(a.2.2.2.2.1.length:Int)==0&&vl (P4 a 1))=true/\True->(P4 a 2).isSome)/\((b==1&&(a.2.2.2.2.1.length:Int)==0&&vl (P4 a 1)&&vl (P4 a 2))=true/\True->(P4 a 3).isSome)/\True) <|
    some (b==1&&(a.2.2.2.2.1.length:Int)==0&&vl (P4 a 1)&&vl (P4 a 2)&&!vl (P4 a 3))
   else
    some false
def Pn(a:Int)(b:Int×Int->Option Bool):Int->Option Bool
 | c =>
 gd (b9 (a+1)/\True) <|
 b (c,a+1)
def y0T(b:l6)(d:Int×Int->Option Bool):Int×Int->Option Bool
 | (c,a) =>
 if(decide (a < (b.2.2.1.length:Int))) then
  gd (ix a b.2.2.1.length/\True)<|lt (b.2.2.1.getD a.toNat (a7 y293)) fun e =>
  if e.2.2.2 then
   gd (b9 (c+1)/\True) <|
   Pn a d (c+1)
  else
   Pn a d c
 else
  IE b c
def Po(a:l6):Option Bool :=
 lp (y0T a) (0,0)
def Q0A:Ct:=c7 260 [.agg y153] (fun x=>Po x.1) (fun r:Bool=>B r) (fun _=>())
theorem O0E:Ok prog Q0A:=by
 refine c8 [.tmp 2] func260 ?_;intro y ⟨a,_⟩ r H Q hn hr;have:=hz (tc O0y (tc Md (tc Mn tn)));refine iA [1]<|iA [1,3]<|jN r (fun(f:Int)=>Z (G6 f []) [(1,K 153 y153 a)]) (IE a) (fun f H=>?_) (fun _ j n l=>?_)
 ·refine vQ<|iA [1,3,19]<|vB<|iA [1,3,19,20]<|cD H (fun H=>iD Mn [2] H fun _ H=>a8<|j0<|fR<|hr H) fun H=>iA [1,3,19,38]<|cD H (fun H=>iB [2] H fun H=>a8<|j0<|fR<|hr H) fun H=>iA [1,3,60]<|cD H (fun H=>iB [2] H fun H=>a8<|j0<|fR<|hr H) fun H=>vK<|fK<|fQ<|iA [2]<|a8<|hr H
 refine iA [1,3,7,8,9]<|vB<|lX (fun((c,b):Int×Int)=>Z (G6 c [p 7 (L y293 a.2.2.1),p 8 (I (a.2.2.1.length:Int)),p 9 (I b)]) [(1,K 153 y153 a)]) (0,0) H fun _ h k i m ⟨c,b⟩ H=>iA [1,3,7,8,9,10]<|vQ<|cD H (fun H=>?_) (fun H=>?_)
 ·refine vK<|fQ<|jN r (fun(d:Int)=>Z (G6 d [p 7 (L y293 a.2.2.1),p 8 (I (a.2.2.1.length:Int)),p 9 (I b)]) [(1,K 153 y153 a)]) (Pn b h) (fun d H=>?_) (fun _ e q o=>?_)
  ·refine jB [1,3,7,8,9] H fun H=>k H
  refine vB<|qD (fun g=>Z (G6 c [p 5 (R 5),p 7 (L y293 a.2.2.1),p 8 (I (a.2.2.1.length:Int)),p 9 (I b)]) [(5,K 293 y293 g),(1,K 153 y153 a)]) H fun g H=>iA [1,3,7,8,9,14]<|cD H (fun H=>jB [1,3,7,8,9] H fun H=>fK<|e H) fun H=>vK<|fK<|e H
 exact vE<|fE<|i<|fX rfl<|j H
def GM(a:l6)(b:Int):Option Bool :=
 gd ((V2 a).isSome/\b9 (vl (V2 a)-1)/\(A8 b 0 (vl (V2 a)-1)).isSome/\True) <|
 some (vl (A8 b 0 (vl (V2 a)-1)))
def Q0g:Ct:=c7 289 [.agg y153,.dat i64] (fun x=>GM x.1 x.2.1) (fun r:Bool=>B r) (fun _=>())
theorem O0s:Ok prog Q0g:=by
 refine c8 [.tmp 4] func289 ?_;intro y ⟨_,_,_⟩ r H Q hn hr;have:=hz (tc Ab (tc Mn tn));refine iA [1,2]<|iB [4] H fun H=>a8<|hr H
def y0M:Int->Option Int
 | a =>
 some a
def Ti(b:List Int)(d:Int×Int->Option Int):Int×Int->Option Int
 | (c,a) =>
 if(decide (a < (b.length:Int))) then
  gd (ix a b.length/\True) <|
  gd (b9 (a+1)/\True) <|
  d ((min c (b.getD a.toNat 0),a+1))
 else
  y0M c
def Tj(a:List Int):Unit->Option Int
 | _ =>
 gd (ix 0 a.length/\True) <|
 lp (Ti a) ((a.getD (Int.toNat (0:Int)) (0:Int),1))
def IF(a:List Int):Option Int :=
 if(decide ((a.length:Int)<1)) then
  none
 else
  Tj a ()
def Q0a:Ct:=c7 300 [.dat i64.sl] (fun x=>IF x.1) (fun r:Int=>I r) (fun _=>())
theorem L0w:Ok prog Q0a:=by
 refine c8 [.tmp 2] func300 ?_;intro y ⟨a,_⟩ r H Q hn hr;refine iA [0]<|jN r (fun(_:Unit)=>Z [p 0 (L i64 a)] []) (Tj a) (fun _ H=>?_) (fun _ f m j=>?_)
 ·refine iB [0,3] H fun H=>jN r (fun(b:Int)=>Z [p 3 (J b)] []) (y0M) (fun b H=>?_) (fun _ e i k=>?_)
  ·refine iA [2]<|a8<|hr H
  refine iA [0,3,4]<|vB<|lX (fun((c,d):Int×Int)=>Z [p 0 (L i64 a),p 3 (J c),p 4 (I d)] []) ((a.getD (Int.toNat (0:Int)) (0:Int),1)) H fun _ l h g n ⟨c,d⟩ H=>vQ<|iA [0,3,4,15]<|cD H (fun H=>vK<|fQ<|vQ<|vB<|jB [0,3,4] H fun H=>fK<|fQ<|jB [0,3,4] H fun H=>h H) fun H=>vE<|fE<|g<|fX rfl<|e H
 refine iA [0,7]<|cD H (fun H=>M0F H) fun H=>vK<|f H
def A0b:Unit->Option Bool
 | _ =>
 some true
def A0a(b:List Int)(c:Int->Option Bool):Int->Option Bool
 | a =>
 if(decide (a < (b.length:Int))) then
  gd (b9 (a-1)/\ix (a-1) b.length/\ix a b.length/\True) <|
  if(decide (b.getD a.toNat 0<=b.getD (a-1).toNat 0)) then
   some false
  else
   gd (b9 (a+1)/\True) <|
   c (a+1)
 else
  A0b ()
def CJ(a:List Int):Option Bool :=
 lp (A0a a) 1
def S0a:Ct:=c7 161 [.dat i64.sl] (fun x=>CJ x.1) (fun r:Bool=>B r) (fun _=>())
theorem M0f:Ok prog S0a:=by
 refine c8 [.tmp 2] func161 ?_;intro y ⟨e,_⟩ r H Q hn hr;refine iA [0]<|jN r (fun(_:Unit)=>Z [] []) (A0b) (fun _ H=>?_) (fun _ d i c=>?_)
 ·refine iA [2]<|a8<|hr H
 refine iA [0,3]<|vB<|lX (fun(a:Int)=>Z [p 0 (L i64 e),p 3 (I a)] []) 1 H fun _ h f b g a H=>vQ<|iA [0,3,7]<|cD H (fun H=>?_) (fun H=>?_)
 ·refine vK<|fQ<|vQ<|vB<|iB [0,3,19] H fun H=>cD H (fun H=>iA [2]<|a8<|j0<|fR<|g<|j0<|c<|hr H) fun H=>vK<|fK<|fQ<|jB [0,3] H fun H=>f H
 exact vE<|fE<|b<|fX rfl<|d H
def Bg(a:List Int):Option Bool :=
 gd ((D9 a).isSome/\(A8 (vl (D9 a)) 1 4).isSome/\(vl (A8 (vl (D9 a)) 1 4)=true/\True->(I7 a 0 100000).isSome)/\((vl (A8 (vl (D9 a)) 1 4)&&vl (I7 a 0 100000))=true/\True->(CJ a).isSome)/\True) <|
 some (vl (A8 (vl (D9 a)) 1 4)&&vl (I7 a 0 100000)&&vl (CJ a))
def P0X:Ct:=c7 305 [.dat i64.sl] (fun x=>Bg x.1) (fun r:Bool=>B r) (fun _=>())
theorem O0n:Ok prog P0X:=by
 refine c8 [.tmp 2] func305 ?_;intro y ⟨_,_⟩ r H Q hn hr;have:=hz (tc M0f (tc Md (tc Ab (tc Me tn))));refine iA [0]<|iB [2] H fun H=>a8<|hr H
def IG(a:o5):Option Bool :=
 gd ((Bg a.1).isSome/\(vl (Bg a.1)=true/\True->(Bg a.2.1).isSome)/\((vl (Bg a.1)&&vl (Bg a.2.1))=true/\True->b9 ((a.1.length:Int)*(a.2.1.length:Int)))/\((vl (Bg a.1)&&vl (Bg a.2.1)&&(a.2.2.length:Int)==(a.1.length:Int)*(a.2.1.length:Int))=true/\True->(I7 a.2.2 (-1000000) 1000000).isSome)/\True) <|
 some (vl (Bg a.1)&&vl (Bg a.2.1)&&(a.2.2.length:Int)==(a.1.length:Int)*(a.2.1.length:Int)&&vl (I7 a.2.2 (-1000000) 1000000))
def Q0b:Ct:=c7 299 [.agg y269] (fun x=>IG x.1) (fun r:Bool=>B r) (fun _=>())
theorem O0p:Ok prog Q0b:=by
 refine c8 [.tmp 2] func299 ?_;intro y ⟨_,_⟩ r H Q hn hr;have:=hz (tc Md (tc O0n tn));refine iA [1]<|iB [2] H fun H=>a8<|hr H
def Mo(a:o5)(b:Bool):Option Bool :=
 gd ((IG a).isSome/\(b=true/\(!vl (IG a))=false/\True->(IF a.2.2).isSome)/\True)<|lt (vl (IF a.2.2)) fun c =>
 some (!vl (IG a)||b&&decide (c<0))
def Q0c:Ct:=c7 298 [.agg y269,.dat (.pt Ty.bool)] (fun x=>Mo x.1 x.2.1) (fun r:Bool=>B r) (fun _=>())
theorem Tk:Ok prog Q0c:=by
 refine c8 [.tmp 3] func298 ?_;intro y ⟨_,_,_⟩ r H Q hn hr;have:=hz (tc L0w (tc O0p tn));refine iA [1,2]<|iD L0w [3] H fun _ H=>a8<|hr H
def j0S:Unit->Option Int
 | _ =>
 some (-1)
def r0t(b:List o5)(c:Bool)(d:Int->Option Int):Int->Option Int
 | a =>
 if(decide (a < (b.length:Int))) then
  gd (ix a b.length/\(Mo (b.getD a.toNat (a7 y269)) c).isSome/\True) <|
  if(vl (Mo (b.getD a.toNat (a7 y269)) c)) then
   some a
  else
   gd (b9 (a+1)/\True) <|
   d (a+1)
 else
  j0S ()
def Pp(b:List o5)(a:Bool):Option Int :=
 lp (r0t b a) 0
def x0O:Ct:=c7 304 [.dat y269.sl,.fn 298 Ty.bool.pt] (fun x=>Pp x.1 x.2.1) (fun r:Int=>I r) (fun _=>())
theorem q0q:Ok prog x0O:=by
 refine c8 [.tmp 4] func304 ?_;intro y ⟨a,f,_⟩ r H Q hn hr;have:=hz (tc Tk tn);refine iA [0,1]<|jN r (fun(_:Unit)=>Z [] []) (j0S) (fun _ H=>?_) (fun _ e j d=>?_)
 ·refine iA [4]<|a8<|hr H
 refine iA [0,1,7,8]<|vB<|lX (fun(b:Int)=>Z [p 0 (L y269 a),p 1 (AV.fn 298 [D Ty.bool.pt f]),p 7 (I (a.length:Int)),p 8 (I b)] []) 0 H fun _ i g c h b H=>iA [0,1,7,8,9]<|vQ<|cD H (fun H=>?_) (fun H=>?_)
 ·refine vK<|fQ<|vQ<|vB<|iA [0,1,5,7,8]<|iB [0,1,5,7,8,16] H fun H=>cD H (fun H=>iA [4]<|a8<|j0<|fR<|h<|j0<|d<|hr H) fun H=>vK<|fK<|fQ<|jB [0,1,7,8] H fun H=>g H
 exact vE<|fE<|c<|fX rfl<|e H
def Pq(b:List o5)(a:Bool):Option Bool :=
 gd ((Pp b a).isSome/\True)<|lt (vl (Pp b a)) fun c =>
 some (decide (0<=c))
def x0Q:Ct:=c7 297 [.dat y269.sl,.fn 298 (.pt Ty.bool)] (fun x=>Pq x.1 x.2.1) (fun r:Bool=>B r) (fun _=>())
theorem x0A:Ok prog x0Q:=by
 refine c8 [.tmp 4] func297 ?_;intro y ⟨_,_,_⟩ r H Q hn hr;have:=hz (tc q0q (tc Tk tn));refine iA [0,1]<|iD q0q [4] H fun _ H=>a8<|hr H
def V3(a:List o5)(b:Bool):Option Bool :=
 gd ((((a.length:Int)==2)=true/\True->(Pq a b).isSome)/\True) <|
 some ((a.length:Int)==2&&!vl (Pq a b))
def Q0i:Ct:=c7 287 [.dat y269.sl,.dat Ty.bool] (fun x=>V3 x.1 x.2.1) (fun r:Bool=>B r) (fun _=>())
theorem O0t:Ok prog Q0i:=by
 refine c8 [.tmp 4] func287 ?_;intro y ⟨_,_,_⟩ r H Q hn hr;have:=hz (tc x0A (tc Tk tn));refine iA [0,3]<|iB [4] H fun H=>a8<|hr H
def Tl(a:F3):Option Bool :=
 some a.2.2.2
def P0Z:Ct:=c7 302 [.agg y293] (fun x=>Tl x.1) (fun r:Bool=>B r) (fun _=>())
theorem L0v:Ok prog P0Z:=by
 refine c8 [.tmp 2] func302 ?_;intro y ⟨_,_⟩ r H Q hn hr;refine iA [1]<|iA [2]<|a8<|hr H
def j0T:Unit->Option Int
 | _ =>
 some (-1)
def r0u(b:List F3)(c:Int->Option Int):Int->Option Int
 | a =>
 if(decide (a < (b.length:Int))) then
  gd (ix a b.length/\(Tl (b.getD a.toNat (a7 y293))).isSome/\True) <|
  if(vl (Tl (b.getD a.toNat (a7 y293)))) then
   some a
  else
   gd (b9 (a+1)/\True) <|
   c (a+1)
 else
  j0T ()
def Pr(a:List F3):Option Int :=
 lp (r0u a) 0
def x0P:Ct:=c7 301 [.dat y293.sl,.nof 302] (fun x=>Pr x.1) (fun r:Int=>I r) (fun _=>())
theorem q0r:Ok prog x0P:=by
 refine c8 [.tmp 4] func301 ?_;intro y ⟨a,_,_⟩ r H Q hn hr;have:=hz (tc L0v tn);refine iA [0,1]<|jN r (fun(_:Unit)=>Z [] []) (j0T) (fun _ H=>?_) (fun _ e i d=>?_)
 ·refine iA [4]<|a8<|hr H
 refine iA [0,1,7,8]<|vB<|lX (fun(b:Int)=>Z [p 0 (L y293 a),p 1 (AV.fn 302 []),p 7 (I (a.length:Int)),p 8 (I b)] []) 0 H fun _ h f c g b H=>iA [0,1,7,8,9]<|vQ<|cD H (fun H=>?_) (fun H=>?_)
 ·refine vK<|fQ<|vQ<|vB<|iA [0,1,5,7,8]<|iB [0,1,5,7,8,16] H fun H=>cD H (fun H=>iA [4]<|a8<|j0<|fR<|g<|j0<|d<|hr H) fun H=>vK<|fK<|fQ<|jB [0,1,7,8] H fun H=>f H
 exact vE<|fE<|c<|fX rfl<|e H
def IH(a:l6):Option Int :=
 gd ((Pr a.2.2.1).isSome/\True)<|lt (vl (Pr a.2.2.1)) fun b =>
 some b
def Q0h:Ct:=c7 288 [.agg y153] (fun x=>IH x.1) (fun r:Int=>I r) (fun _=>())
theorem L0x:Ok prog Q0h:=by
 refine c8 [.tmp 2] func288 ?_;intro y ⟨_,_⟩ r H Q hn hr;have:=hz (tc L0v (tc q0r tn));refine iA [1]<|iD q0r [2] H fun _ H=>a8<|hr H
def Ps(a:Int):Option Bool :=
 some (a==4||a==5)
def Q0j:Ct:=c7 286 [.dat i64] (fun x=>Ps x.1) (fun r:Bool=>B r) (fun _=>())
theorem O0u:Ok prog Q0j:=by
 refine c8 [.tmp 2] func286 ?_;intro y ⟨_,_⟩ r H Q hn hr;refine iA [0]<|iA [2]<|a8<|hr H
def Mp(b:l6)(a:A6):Bool->Option Bool
 | c =>
 if c then
  gd (ix a.2.1 b.2.2.1.length/\True) <|
  some ((b.2.2.1.getD a.2.1.toNat (a7 y293)).2.2.2&&a.2.2.2.1==0)
 else
  some false
def GN(b:l6)(a:A6):Option Bool :=
 gd ((Ps a.1).isSome/\True) <|
 if(vl (Ps a.1)) then
  gd (((a.2.2.2.1==0&&(a.2.2.2.2.2.length:Int)==0)=true/\True->(V3 a.2.2.2.2.1 false).isSome)/\((a.2.2.2.1==0&&(a.2.2.2.2.2.length:Int)==0&&vl (V3 a.2.2.2.2.1 false))=true/\True->(IH b).isSome)/\((a.2.2.2.1==0&&(a.2.2.2.2.2.length:Int)==0&&vl (V3 a.2.2.2.2.1 false)&&a.2.1==vl (IH b)&&decide (0<=a.2.1))=true/\True->(GM b a.2.2.1).isSome)/\True)<|lt (vl (IH b)) fun c =>
  some (a.2.2.2.1==0&&(a.2.2.2.2.2.length:Int)==0&&vl (V3 a.2.2.2.2.1 false)&&a.2.1==c&&decide (0<=a.2.1)&&vl (GM b a.2.2.1)&&a.2.2.1 != a.2.1)
 else
  gd ((V3 a.2.2.2.2.1 true).isSome/\((!vl (V3 a.2.2.2.2.1 true))=false/\True->(V3 a.2.2.2.2.2 true).isSome)/\((!vl (V3 a.2.2.2.2.1 true)||!vl (V3 a.2.2.2.2.2 true))=false/\True->(V2 b).isSome)/\((!vl (V3 a.2.2.2.2.1 true)||!vl (V3 a.2.2.2.2.2 true)||a.2.2.1 != vl (V2 b))=false/\True->(GM b a.2.1).isSome)/\True)<|lt (vl (V2 b)) fun d =>
  if(!vl (V3 a.2.2.2.2.1 true)||!vl (V3 a.2.2.2.2.2 true)||a.2.2.1 != d||!vl (GM b a.2.1)) then
   some false
  else
   if(a.1==1) then
    gd (ix a.2.1 b.2.2.1.length/\((!(b.2.2.1.getD a.2.1.toNat (a7 y293)).2.2.2)=true/\True->(A8 a.2.2.2.1 1 3).isSome)/\True) <|
    some (!(b.2.2.1.getD a.2.1.toNat (a7 y293)).2.2.2&&vl (A8 a.2.2.2.1 1 3))
   else
    if(a.1==2) then
     Mp b a (a.1==2)
    else
     Mp b a (a.1==3)
def Q0s:Ct:=c7 273 [.agg y153,.agg y158] (fun x=>GN x.1 x.2.1) (fun r:Bool=>B r) (fun _=>())
theorem O0z:Ok prog Q0s:=by
 refine c8 [.tmp 4] func273 ?_;intro y ⟨b,c,_⟩ r H Q hn hr;have:=hz (tc Ab (tc O0s (tc Mn (tc O0t (tc L0x (tc O0u tn))))));refine iA [2,3]<|vQ<|iB [2,3,7] H fun H=>cD H (fun H=>iD L0x [4] H fun _ H=>a8<|fR<|hr H) fun H=>vK<|fQ<|vQ<|iD Mn [2,3,70] H fun _ H=>cD H (fun H=>iA [4]<|a8<|fR<|hr H) fun H=>vK<|fQ<|vQ<|iA [2,3,72]<|vB<|iA [2,3,72,73]<|cD H (fun H=>iB [4] H fun H=>a8<|j0<|fR<|hr H) fun H=>jN r (fun(d:Bool)=>Z (AW [p 88 (B d)]) [(3,K 158 y158 c),(2,K 153 y153 b)]) (Mp b c) (fun d H=>?_) (fun _ a f e=>?_)
 ·refine cD H (fun H=>iB [4] H fun H=>a8<|j0<|fR<|hr H) fun H=>vK<|fK<|fQ<|iA [4]<|a8<|hr H
 refine iA [2,3,72,88]<|cD H (fun H=>vK<|a H) fun H=>jA [2,3,88]<|a H
def Tm(b:A6)(a:A6):Option Bool :=
 some (b.1==a.1&&b.2.1==a.2.1&&b.2.2.1==a.2.2.1)
def Q0r:Ct:=c7 275 [.agg y158,.dat (.pt y158)] (fun x=>Tm x.1 x.2.1) (fun r:Bool=>B r) (fun _=>())
theorem Tn:Ok prog Q0r:=by
 refine c8 [.tmp 3] func275 ?_;intro y ⟨_,_,_⟩ r H Q hn hr;refine iA [1,2]<|iA [3]<|a8<|hr H
def j0V:Unit->Option Int
 | _ =>
 some (-1)
def r0w(b:List A6)(c:A6)(d:Int->Option Int):Int->Option Int
 | a =>
 if(decide (a < (b.length:Int))) then
  gd (ix a b.length/\(Tm (b.getD a.toNat (a7 y158)) c).isSome/\True) <|
  if(vl (Tm (b.getD a.toNat (a7 y158)) c)) then
   some a
  else
   gd (b9 (a+1)/\True) <|
   d (a+1)
 else
  j0V ()
def Pt(b:List A6)(a:A6):Option Int :=
 lp (r0w b a) 0
def x0S:Ct:=c7 290 [.dat y158.sl,.fn 275 y158.pt] (fun x=>Pt x.1 x.2.1) (fun r:Int=>I r) (fun _=>())
theorem q0s:Ok prog x0S:=by
 refine c8 [.tmp 4] func290 ?_;intro y ⟨a,f,_⟩ r H Q hn hr;have:=hz (tc Tn tn);refine iA [0,1]<|jN r (fun(_:Unit)=>Z [] []) (j0V) (fun _ H=>?_) (fun _ e j d=>?_)
 ·refine iA [4]<|a8<|hr H
 refine iA [0,1,7,8]<|vB<|lX (fun(b:Int)=>Z [p 0 (L y158 a),p 1 (AV.fn 275 [D y158.pt f]),p 7 (I (a.length:Int)),p 8 (I b)] []) 0 H fun _ i g c h b H=>iA [0,1,7,8,9]<|vQ<|cD H (fun H=>?_) (fun H=>?_)
 ·refine vK<|fQ<|vQ<|vB<|iA [0,1,5,7,8]<|iB [0,1,5,7,8,16] H fun H=>cD H (fun H=>iA [4]<|a8<|j0<|fR<|h<|j0<|d<|hr H) fun H=>vK<|fK<|fQ<|jB [0,1,7,8] H fun H=>g H
 exact vE<|fE<|c<|fX rfl<|e H
def Mq(b:List A6)(a:A6):Option Bool :=
 gd ((Pt b a).isSome/\True)<|lt (vl (Pt b a)) fun c =>
 some (decide (0<=c))
def x0U:Ct:=c7 274 [.dat y158.sl,.fn 275 (.pt y158)] (fun x=>Mq x.1 x.2.1) (fun r:Bool=>B r) (fun _=>())
theorem x0B:Ok prog x0U:=by
 refine c8 [.tmp 4] func274 ?_;intro y ⟨_,_,_⟩ r H Q hn hr;have:=hz (tc Tg (tc q0s (tc Tn tn)));refine iA [0,1]<|iD q0s [4] H fun _ H=>a8<|hr H
def Pu(a:l6):Unit->Option Bool
 | _ =>
 some (decide ((a.2.2.2.1.length:Int)<=8))
def y0U(a:l6)(d:Int->Option Bool):Int->Option Bool
 | b =>
 if(decide (b < (a.2.2.2.1.length:Int))) then
  gd (ix b a.2.2.2.1.length/\True)<|lt (a.2.2.2.1.getD b.toNat (a7 y158)) fun c =>
  gd ((GN a c).isSome/\((!vl (GN a c))=false/\True->(0:Int)<=(0:Int)/\(0:Int)<=b/\b<=(a.2.2.2.1.length:Int))/\((!vl (GN a c))=false/\True->(Mq (List.take b.toNat a.2.2.2.1) c).isSome)/\True) <|
  if(!vl (GN a c)||vl (Mq (List.take b.toNat a.2.2.2.1) c)) then
   some false
  else
   gd (b9 (b+1)/\True) <|
   d (b+1)
 else
  Pu a ()
def GO(a:l6):Option Bool :=
 lp (y0U a) 0
def Q0B:Ct:=c7 259 [.agg y153] (fun x=>GO x.1) (fun r:Bool=>B r) (fun _=>())
theorem O0F:Ok prog Q0B:=by
 refine c8 [.tmp 2] func259 ?_;intro y ⟨a,_⟩ r H Q hn hr;have:=hz (tc q0t (tc x0B (tc Tn (tc O0z tn))));refine iA [1]<|jN r (fun(_:Unit)=>Z [p 1 (R 1)] [(1,K 153 y153 a)]) (Pu a) (fun _ H=>?_) (fun _ f j e=>?_)
 ·refine iA [2]<|a8<|hr H
 refine iA [1,6,7,8]<|vB<|lX (fun(b:Int)=>Z [p 1 (R 1),p 6 (L y158 a.2.2.2.1),p 7 (I (a.2.2.2.1.length:Int)),p 8 (I b)] [(1,K 153 y153 a)]) 0 H fun _ i g d h b H=>iA [1,6,7,8,9]<|vQ<|cD H (fun H=>?_) (fun H=>?_)
 ·refine vK<|fQ<|vQ<|vB<|qD (fun c=>Z (G6 b [p 4 (R 4),p 6 (L y158 a.2.2.2.1),p 7 (I (a.2.2.2.1.length:Int)),p 8 (I b)]) [(4,K 158 y158 c),(1,K 153 y153 a)]) H fun c H=>iB [1,6,7,8,24] H fun H=>cD H (fun H=>iA [2]<|a8<|j0<|fR<|h<|j0<|e<|hr H) fun H=>vK<|fK<|fQ<|jB [1,6,7,8] H fun H=>g H
 exact vE<|fE<|d<|fX rfl<|f H
def Mr(a:List F3):List ByteArray->Option Bool
 | b =>
 gd ((CI a).isSome/\(A8 (vl (CI a)) 2 5).isSome/\(vl (A8 (vl (CI a)) 2 5)=true/\True->(X8 b).isSome)/\True) <|
 some (vl (A8 (vl (CI a)) 2 5)&&vl (X8 b))
def Pv(a:Int)(b:List ByteArray×Int->Option Bool):List ByteArray->Option Bool
 | c =>
 gd (b9 (a+1)/\True) <|
 b (c,a+1)
def y0V(b:List F3)(e:List ByteArray×Int->Option Bool):List ByteArray×Int->Option Bool
 | (d,c) =>
 if(decide (c < (b.length:Int))) then
  gd (ix c b.length/\True)<|lt (b.getD c.toNat (a7 y293)) fun a =>
  gd ((d.length+[a.1].length<=9223372036854775807/\(d.length+[a.1].length)*16<=140737488355328)/\True) <|
  gd (b9 ((b.length:Int)-1)/\True) <|
  if(c==(b.length:Int)-1) then
   if(a.2.1 != 2||a.2.2.1 != 0||a.2.2.2) then
    some false
   else
    Pv c e (d++[a.1])
  else
   gd (((a.2.1 != 1)=false/\True->(A8 a.2.2.1 0 500).isSome)/\True) <|
   if(a.2.1 != 1||!vl (A8 a.2.2.1 0 500)) then
    some false
   else
    Pv c e (d++[a.1])
 else
  Mr b d
def FA(a:List F3):Option Bool :=
 lp (y0V a) ([],0)
def Q0C:Ct:=c7 258 [.dat y293.sl] (fun x=>FA x.1) (fun r:Bool=>B r) (fun _=>())
theorem O0G:Ok prog Q0C:=by
 refine c8 [.tmp 2] func258 ?_;intro y ⟨a,_⟩ r H Q hn hr;have:=hz (tc Tc (tc Ab (tc Th tn)));refine iA [0]<|iA [0,3]<|jN r (fun(g:List ByteArray)=>Z [p 0 (L y293 a),p 3 (O 17)] [(17,A 9 Ty.str g 0)]) (Mr a) (fun g H=>?_) (fun _ m o e=>?_)
 ·refine iB [2] H fun H=>a8<|hr H
 refine iA [0,3,6,7,8]<|vB<|lX (fun((c,b):List ByteArray×Int)=>Z [p 0 (L y293 a),p 3 (O 17),p 6 (L y293 a),p 7 (I (a.length:Int)),p 8 (I b)] [(17,A 9 Ty.str c 0)]) ([],0) H fun _ k n l i ⟨c,b⟩ H=>iA [0,3,6,7,8,9]<|vQ<|cD H (fun H=>?_) (fun H=>?_)
 ·refine vK<|fQ<|jN r (fun(d:List ByteArray)=>Z [p 0 (L y293 a),p 3 (O 17),p 6 (L y293 a),p 7 (I (a.length:Int)),p 8 (I b)] [(17,A 9 Ty.str d 0)]) (Pv b k) (fun d H=>?_) (fun _ f q j=>?_)
  ·refine jB [0,3,6,7,8] H fun H=>n H
  refine vB<|qD (fun h=>Z [p 0 (L y293 a),p 3 (O 17),p 4 (I b),p 5 (R 5),p 6 (L y293 a),p 7 (I (a.length:Int)),p 8 (I b)] [(5,K 293 y293 h),(17,A 9 Ty.str c 0)]) H fun h H=>iB [0,3,4,5,6,7,8] H fun H=>iB [0,3,5,6,7,8,22] H fun H=>cD H (fun H=>?_) (fun H=>?_)
  ·refine iA [0,3,6,7,8,34]<|cD H (fun H=>iA [2]<|a8<|j0<|j<|i<|j0<|e<|hr H) fun H=>vK<|fK<|f H
  refine iB [0,3,6,7,8,43] H fun H=>cD H (fun H=>iA [2]<|a8<|j0<|j<|i<|j0<|e<|hr H) fun H=>vK<|fK<|f H
 exact vE<|fE<|l<|fX rfl<|m H
def Ms(a:l6):Option Bool :=
 gd ((Q9 a.1).isSome/\(vl (Q9 a.1)=true/\True->(FA a.2.2.1).isSome)/\((vl (Q9 a.1)&&vl (FA a.2.2.1))=true/\True->(GO a).isSome)/\((vl (Q9 a.1)&&vl (FA a.2.2.1)&&vl (GO a))=true/\True->(A8 a.2.2.2.2.2.1 0 100000).isSome)/\((vl (Q9 a.1)&&vl (FA a.2.2.1)&&vl (GO a)&&vl (A8 a.2.2.2.2.2.1 0 100000))=true/\True->(A8 a.2.2.2.2.2.2 0 100000).isSome)/\((vl (Q9 a.1)&&vl (FA a.2.2.1)&&vl (GO a)&&vl (A8 a.2.2.2.2.2.1 0 100000)&&vl (A8 a.2.2.2.2.2.2 0 100000))=true/\True->(Po a).isSome)/\True) <|
 some (vl (Q9 a.1)&&vl (FA a.2.2.1)&&vl (GO a)&&vl (A8 a.2.2.2.2.2.1 0 100000)&&vl (A8 a.2.2.2.2.2.2 0 100000)&&vl (Po a))
def Q0S:Ct:=c7 232 [.agg y153] (fun x=>Ms x.1) (fun r:Bool=>B r) (fun _=>())
theorem O0N:Ok prog Q0S:=by
 refine c8 [.tmp 2] func232 ?_;intro y ⟨_,_⟩ r H Q hn hr;have:=hz (tc O0E (tc Ab (tc O0F (tc O0G (tc Tb tn)))));refine iA [1]<|iB [2] H fun H=>a8<|hr H
def Mt(b:List l6):List ByteArray->Option Bool
 | a =>
 gd ((decide ((b.length:Int)<=8)=true/\True->(X8 a).isSome)/\True) <|
 some (decide ((b.length:Int)<=8)&&vl (X8 a))
def z0A(c:List l6)(e:List ByteArray×Int->Option Bool):List ByteArray×Int->Option Bool
 | (d,b) =>
 if(decide (b < (c.length:Int))) then
  gd (ix b c.length/\True)<|lt (c.getD b.toNat (a7 y153)) fun a =>
  gd ((Ms a).isSome/\True) <|
  if(!vl (Ms a)) then
   some false
  else
   gd ((d.length+[a.1].length<=9223372036854775807/\(d.length+[a.1].length)*16<=140737488355328)/\True) <|
   gd (b9 (b+1)/\True) <|
   e (d++[a.1],b+1)
 else
  Mt c d
def Mu(a:List l6):Option Bool :=
 lp (z0A a) ([],0)
def R0x:Ct:=c7 196 [.agg y153.sl] (fun x=>Mu x.1) (fun r:Bool=>B r) (fun _=>())
theorem P0b:Ok prog R0x:=by
 refine c8 [.tmp 2] func196 ?_;intro y ⟨a,_⟩ r H Q hn hr;have:=hz (tc Tc (tc O0N tn));refine iA [1]<|iA [1,3]<|jN r (fun(e:List ByteArray)=>Z (Dl []) [(1,bx 49 [L y153 a]),(20,A 9 Ty.str e 0)]) (Mt a) (fun e H=>?_) (fun _ h l g=>?_)
 ·refine iB [2] H fun H=>a8<|hr H
 refine iA [1,3,7,8,9]<|vB<|lX (fun((b,c):List ByteArray×Int)=>Z (Dl [p 7 (L y153 a),p 8 (I (a.length:Int)),p 9 (I c)]) [(1,bx 49 [L y153 a]),(20,A 9 Ty.str b 0)]) ([],0) H fun _ k i f j ⟨b,c⟩ H=>iA [1,3,7,8,9,10]<|vQ<|cD H (fun H=>?_) (fun H=>?_)
 ·refine vK<|fQ<|vQ<|vB<|qD (fun d=>Z (Dl [p 5 (R 5),p 7 (L y153 a),p 8 (I (a.length:Int)),p 9 (I c)]) [(5,K 153 y153 d),(1,bx 49 [L y153 a]),(20,A 9 Ty.str b 0)]) H fun d H=>vQ<|iB [1,3,5,7,8,9,15] H fun H=>cD H (fun H=>iA [2]<|a8<|fR<|j0<|fR<|j<|j0<|g<|hr H) fun H=>vK<|fQ<|jB [1,3,7,8,9] H fun H=>fK<|fQ<|jB [1,3,7,8,9] H fun H=>i H
 exact vE<|fE<|f<|fX rfl<|h H
def k0b:Unit->Option Int
 | _ =>
 some (-1)
def r0z(b:List Int)(c:Int->Option Int):Int->Option Int
 | a =>
 if(decide (a < (b.length:Int))) then
  gd (ix a b.length/\(SY (b.getD a.toNat 0)).isSome/\True) <|
  if(vl (SY (b.getD a.toNat 0))) then
   some a
  else
   gd (b9 (a+1)/\True) <|
   c (a+1)
 else
  k0b ()
def Pw(a:List Int):Option Int :=
 lp (r0z a) 0
def x0X:Ct:=c7 237 [.dat i64.sl,.nof 201] (fun x=>Pw x.1) (fun r:Int=>I r) (fun _=>())
theorem q0v:Ok prog x0X:=by
 refine c8 [.tmp 4] func237 ?_;intro y ⟨a,_,_⟩ r H Q hn hr;have:=hz (tc SZ tn);refine iA [0,1]<|jN r (fun(_:Unit)=>Z [] []) (k0b) (fun _ H=>?_) (fun _ e i d=>?_)
 ·refine iA [4]<|a8<|hr H
 refine iA [0,1,7,8]<|vB<|lX (fun(b:Int)=>Z [p 0 (L i64 a),p 1 (AV.fn 201 []),p 7 (I (a.length:Int)),p 8 (I b)] []) 0 H fun _ h f c g b H=>iA [0,1,7,8,9]<|vQ<|cD H (fun H=>?_) (fun H=>?_)
 ·refine vK<|fQ<|vQ<|vB<|iA [0,1,5,7,8]<|iB [0,1,5,7,8,16] H fun H=>cD H (fun H=>iA [4]<|a8<|j0<|fR<|g<|j0<|d<|hr H) fun H=>vK<|fK<|fQ<|jB [0,1,7,8] H fun H=>f H
 exact vE<|fE<|c<|fX rfl<|e H
def Px(a:List Int):Option Bool :=
 gd ((Pw a).isSome/\True)<|lt (vl (Pw a)) fun b =>
 some (decide (0<=b))
def y0a:Ct:=c7 200 [.dat i64.sl,.nof 201] (fun x=>Px x.1) (fun r:Bool=>B r) (fun _=>())
theorem x0D:Ok prog y0a:=by
 refine c8 [.tmp 4] func200 ?_;intro y ⟨_,_,_⟩ r H Q hn hr;have:=hz (tc q0v (tc SZ tn));refine iA [0,1]<|iD q0v [4] H fun _ H=>a8<|hr H
def Mv:List Int->Option Bool
 | a =>
 gd ((Px a).isSome/\True) <|
 some (!vl (Px a))
def Py(b:Int)(c:Int×List Int->Option Bool):List Int->Option Bool
 | a =>
 gd (b9 (b+1)/\True) <|
 c (b+1,a)
def A0m(d:p9)(e:Int×List Int->Option Bool):Int×List Int->Option Bool
 | (c,b) =>
 if(decide (c < (d.2.2.length:Int))) then
  gd (ix c d.2.2.length/\True)<|lt (d.2.2.getD c.toNat (a7 y231)) fun a =>
  gd (((a.2.1 != 1&&a.2.1 != 2)=false/\True->(GL d a.2.2).isSome)/\True) <|
  if(a.2.1 != 1&&a.2.1 != 2||!vl (GL d a.2.2)) then
   some false
  else
   if(a.2.1==1) then
    gd (ix a.2.2 b.length/\a.2.2.toNat<b.length/\b9 (b.getD a.2.2.toNat 0+1)/\ix a.2.2 b.length/\a.2.2.toNat<b.length/\True) <|
    Py c e (b.set a.2.2.toNat (b.getD a.2.2.toNat 0+1))
   else
    Py c e b
 else
  Mv b
def Pz(a:p9):List Int->Option Bool
 | b =>
 lp (A0m a) (0,b)
def A0n(c:p9)(e:List l6)(f:Int×List Int->Option Bool):Int×List Int->Option Bool
 | (d,b) =>
 if(decide (d < (c.1.length:Int))) then
  gd (ix d c.1.length/\True)<|lt (c.1.getD d.toNat (a7 y155)) fun a =>
  gd ((Mi c e a).isSome/\True) <|
  if(!vl (Mi c e a)) then
   some false
  else
   gd (b9 ((a.2.2.length:Int)-1)/\ix ((a.2.2.length:Int)-1) a.2.2.length/\ix (a.2.2.getD ((a.2.2.length:Int)-1).toNat 0) b.length/\Int.toNat (a.2.2.getD ((a.2.2.length:Int)-1).toNat 0)<b.length/\b9 (b.getD (Int.toNat (a.2.2.getD ((a.2.2.length:Int)-1).toNat 0)) 0+1)/\ix (a.2.2.getD ((a.2.2.length:Int)-1).toNat 0) b.length/\Int.toNat (a.2.2.getD ((a.2.2.length:Int)-1).toNat 0)<b.length/\True)<|lt (b.set (Int.toNat (a.2.2.getD ((a.2.2.length:Int)-1).toNat 0)) (b.getD (Int.toNat (a.2.2.getD ((a.2.2.length:Int)-1).toNat 0)) 0+1)) fun g =>
   gd (b9 (d+1)/\True) <|
   f (d+1,g)
 else
  Pz c b
def Mw(b:List l6)(a:p9):Option Bool :=
 gd ((Mu b).isSome/\((!vl (Mu b))=false/\True->(Pk a).isSome)/\True) <|
 if(!vl (Mu b)||!vl (Pk a)) then
  some false
 else
  gd ((0<=(a.2.1.length:Int)/\(a.2.1.length:Int)=(a.2.1.length:Int)/\(a.2.1.length:Int).toNat*8<=281474976710656/\(a.2.1.length:Int)<=9223372036854775807)/\True) <|
  lp (A0n a b) ((0,List.replicate (a.2.1.length:Int).toNat 0))
def S0o:Ct:=c7 147 [.agg y153.sl,.agg y53] (fun x=>Mw x.1 x.2.1) (fun r:Bool=>B r) (fun _=>())
theorem P0t:Ok prog S0o:=by
 refine c8 [.tmp 4] func147 ?_;intro y ⟨i,a,_⟩ r H Q hn hr;have:=hz (tc SZ (tc x0D (tc L0R (tc O0Z (tc P0a (tc P0b tn))))));refine iA [2,3]<|vQ<|iB [2,3,17] H fun H=>cD H (fun H=>iA [4]<|a8<|fR<|hr H) fun H=>vK<|fQ<|iB [2,3,5] H fun H=>jN r (fun(h:List Int)=>Z [p 3 (R 3),p 5 (O 21)] [(21,A 3 i64 h 0),(3,K 53 y53 a)]) (Pz a) (fun h H=>?_) (fun _ n G s=>?_)
 ·refine jN r (fun(f:List Int)=>Z [p 5 (O 21)] [(21,A 3 i64 f 0)]) (Mv) (fun f H=>?_) (fun _ w P v=>?_)
  ·refine iB [4] H fun H=>a8<|hr H
  refine iA [3,5,49,50,51]<|vB<|lX (fun((d,b):Int×List Int)=>Z [p 3 (R 3),p 5 (O 21),p 49 (L y231 a.2.2),p 50 (I (a.2.2.length:Int)),p 51 (I d)] [(21,A 3 i64 b 0),(3,K 53 y53 a)]) (0,h) H fun _ q t E x ⟨d,b⟩ H=>iA [3,5,49,50,51,52]<|vQ<|cD H (fun H=>?_) (fun H=>?_)
  ·refine vK<|fQ<|jN r (fun(c:List Int)=>Z [p 3 (R 3),p 5 (O 21),p 49 (L y231 a.2.2),p 50 (I (a.2.2.length:Int)),p 51 (I d)] [(21,A 3 i64 c 0),(3,K 53 y53 a)]) (Py d q) (fun c H=>?_) (fun _ l V u=>?_)
   ·refine jB [3,5,49,50,51] H fun H=>t H
   refine vB<|qD (fun e=>Z [p 3 (R 3),p 5 (O 21),p 9 (R 9),p 49 (L y231 a.2.2),p 50 (I (a.2.2.length:Int)),p 51 (I d)] [(9,K 231 y231 e),(21,A 3 i64 b 0),(3,K 53 y53 a)]) H fun e H=>vQ<|iB [3,5,9,49,50,51,69] H fun H=>cD H (fun H=>iA [4]<|a8<|fR<|j0<|u<|x<|j0<|v<|hr H) fun H=>vK<|fQ<|iA [3,5,9,49,50,51,72]<|cD H (fun H=>jB [3,5,49,50,51] H fun H=>fK<|l H) fun H=>vK<|fK<|l H
  exact vE<|fE<|E<|fX rfl<|w H
 refine iA [2,3,5,23,24,25]<|vB<|lX (fun((g,k):Int×List Int)=>Z (AW [p 5 (O 21),p 23 (L y155 a.1),p 24 (I (a.1.length:Int)),p 25 (I g)]) ((21,A 3 i64 k 0)::Gp a i)) ((0,List.replicate (a.2.1.length:Int).toNat 0)) H fun _ T F z o ⟨g,k⟩ H=>iA [2,3,5,23,24,25,26]<|vQ<|cD H (fun H=>?_) (fun H=>?_)
 ·refine vK<|fQ<|vQ<|vB<|qD (fun j=>Z (AW [p 5 (O 21),p 7 (R 7),p 23 (L y155 a.1),p 24 (I (a.1.length:Int)),p 25 (I g)]) ((7,K 155 y155 j)::(21,A 3 i64 k 0)::Gp a i)) H fun j H=>vQ<|iB [2,3,5,7,23,24,25,33] H fun H=>cD H (fun H=>iA [4]<|a8<|fR<|j0<|fR<|o<|j0<|s<|hr H) fun H=>vK<|fQ<|zD (fun m=>Z (AW [p 5 (O 21),p 23 (L y155 a.1),p 24 (I (a.1.length:Int)),p 25 (I g)]) ((21,A 3 i64 m 0)::(7,K 155 y155 j)::Gp a i)) H fun m H=>fK<|fQ<|jB [2,3,5,23,24,25] H fun H=>F H
 exact vE<|fE<|z<|fX rfl<|n H
def A0V:Unit->Option Bool
 | _ =>
 some true
def A0T(c:List Int)(d:j1)(e:Int->Option Bool):Int->Option Bool
 | a =>
 if(decide (a < (d.2.2.length:Int))) then
  gd (ix a d.2.2.length/\True)<|lt (d.2.2.getD a.toNat (a7 y172)) fun b =>
  gd (ix a c.length/\a.toNat<c.length/\(Mf b (c.getD a.toNat 0)).isSome/\True) <|
  if(!vl (Mf b (c.getD a.toNat 0))) then
   some false
  else
   gd (b9 (a+1)/\True) <|
   e (a+1)
 else
  A0V ()
def PA(b:j1):List Int->Option Bool
 | a =>
 lp (A0T a b) 0
def PB(a:Int)(b:Int×List Int->Option Bool):List Int->Option Bool
 | c =>
 gd (b9 (a+1)/\True) <|
 b (a+1,c)
def A0U(d:List B6)(f:j1)(e:Int×List Int->Option Bool):Int×List Int->Option Bool
 | (c,a) =>
 if(decide (c < (d.length:Int))) then
  gd (ix c d.length/\c.toNat<d.length/\True)<|lt (d.getD c.toNat (a7 y235)) fun b =>
  if(!b.2.2.2) then
   gd (ix b.2.2.1 a.length/\b.2.2.1.toNat<a.length/\b9 (a.getD b.2.2.1.toNat 0+1)/\ix b.2.2.1 a.length/\b.2.2.1.toNat<a.length/\True)<|lt (a.set b.2.2.1.toNat (a.getD b.2.2.1.toNat 0+1)) fun g =>
   PB c e g
  else
   PB c e a
 else
  PA f a
def II(a:j1):Option Bool :=
 gd ((Mw a.1 a.2.1).isSome/\True) <|
 if(!vl (Mw a.1 a.2.1)||(a.2.2.length:Int) != (a.2.1.2.1.length:Int)) then
  some false
 else
  gd ((0<=(a.2.2.length:Int)/\(a.2.2.length:Int)=(a.2.2.length:Int)/\(a.2.2.length:Int).toNat*8<=281474976710656/\(a.2.2.length:Int)<=9223372036854775807)/\True) <|
  gd ((BW a.2.1).isSome/\True)<|lt (vl (BW a.2.1)) fun b =>
  lp (A0U b a) ((0,List.replicate (a.2.2.length:Int).toNat 0))
def T0a:Ct:=c7 100 [.agg j6] (fun x=>II x.1) (fun r:Bool=>B r) (fun _=>())
theorem P0K:Ok prog T0a:=by
 refine c8 [.tmp 2] func100 ?_;intro y ⟨a,_⟩ r H Q hn hr;have:=hz (tc P0s (tc Fx (tc P0t tn)));refine iA [1]<|vQ<|iB [1,23] H fun H=>cD H (fun H=>iA [2]<|a8<|fR<|hr H) fun H=>vK<|fQ<|iB [1,3] H fun H=>jN r (fun(f:List Int)=>Z [p 1 (R 1),p 3 (O 27)] [(27,A 2 i64 f 0),(1,K 56 j6 a)]) (PA a) (fun f H=>?_) (fun _ l w z=>?_)
 ·refine jN r (fun(_:Unit)=>Z [] []) (A0V) (fun _ H=>?_) (fun _ n3 G o=>?_)
  ·refine iA [2]<|a8<|hr H
  refine iA [3,48,49,50]<|vB<|lX (fun(b:Int)=>Z [p 3 (O 27),p 48 (L y172 a.2.2),p 49 (I (a.2.2.length:Int)),p 50 (I b)] [(27,A 2 i64 f 0)]) 0 H fun _ F u s m b H=>iA [3,48,49,50,51]<|vQ<|cD H (fun H=>?_) (fun H=>?_)
  ·refine vK<|fQ<|vQ<|vB<|qD (fun e=>Z [p 3 (O 27),p 6 (I b),p 7 (R 7),p 48 (L y172 a.2.2),p 49 (I (a.2.2.length:Int)),p 50 (I b)] [(7,K 172 y172 e),(27,A 2 i64 f 0)]) H fun e H=>iB [3,48,49,50,61] H fun H=>cD H (fun H=>iA [2]<|a8<|j0<|fR<|m<|j0<|o<|hr H) fun H=>vK<|fK<|fQ<|jB [3,48,49,50] H fun H=>u H
  exact vE<|fE<|s<|fX rfl<|n3 H
 refine iD Fx [1,3,30,31,32] H fun c H=>vB<|lX (fun((d,h):Int×List Int)=>Z [p 1 (R 1),p 3 (O 27),p 30 (O 30),p 31 (I (c.length:Int)),p 32 (I d)] [(30,A 235 y235 c 0),(27,A 2 i64 h 0),(1,K 56 j6 a)]) ((0,List.replicate (a.2.2.length:Int).toNat 0)) H fun _ n t q v ⟨d,h⟩ H=>iA [1,3,30,31,32,33]<|vQ<|cD H (fun H=>?_) (fun H=>?_)
 ·refine vK<|fQ<|jN r (fun(k:List Int)=>Z [p 1 (R 1),p 3 (O 27),p 30 (O 30),p 31 (I (c.length:Int)),p 32 (I d)] [(27,A 2 i64 k 0),(30,A 235 y235 c 0),(1,K 56 j6 a)]) (PB d n) (fun k H=>?_) (fun _ j x E=>?_)
  ·refine jB [1,3,30,31,32] H fun H=>t H
  refine vB<|qD (fun g=>Z [p 1 (R 1),p 3 (O 27),p 5 (R 5),p 30 (O 30),p 31 (I (c.length:Int)),p 32 (I d)] [(5,bx 235 (F2 true y235 g)),(30,A 235 y235 c 0),(27,A 2 i64 h 0),(1,K 56 j6 a)]) H fun g H=>iA [1,3,5,30,31,32,38]<|cD H (fun H=>zD (fun i=>Z [p 1 (R 1),p 3 (O 27),p 30 (O 30),p 31 (I (c.length:Int)),p 32 (I d)] [(27,A 2 i64 i 0),(5,bx 235 (F2 true y235 g)),(30,A 235 y235 c 0),(1,K 56 j6 a)]) H fun i H=>fK<|j H) fun H=>vK<|fK<|j H
 exact vE<|fE<|q<|fX rfl<|l H
def GP(b:Int)(a:Int):Option Bool :=
 some (decide (100<=b)&&decide (b<=a)&&decide (a<=5000))
def S0k:Ct:=c7 151 [.dat i64,.dat i64] (fun x=>GP x.1 x.2.1) (fun r:Bool=>B r) (fun _=>())
theorem P0r:Ok prog S0k:=by
 refine c8 [.tmp 4] func151 ?_;intro y ⟨_,_,_⟩ r H Q hn hr;refine iA [0,1]<|iA [4]<|a8<|hr H
def Mx(a:r5):Option Bool :=
 gd ((Q9 a.1).isSome/\(vl (Q9 a.1)=true/\True->(GP a.2.1 a.2.2.1).isSome)/\((vl (Q9 a.1)&&vl (GP a.2.1 a.2.2.1))=true/\True->(GP a.2.2.2.1 a.2.2.2.2).isSome)/\True) <|
 some (vl (Q9 a.1)&&vl (GP a.2.1 a.2.2.1)&&vl (GP a.2.2.2.1 a.2.2.2.2))
def S0Z:Ct:=c7 101 [.agg A0] (fun x=>Mx x.1) (fun r:Bool=>B r) (fun _=>())
theorem P0J:Ok prog S0Z:=by
 refine c8 [.tmp 2] func101 ?_;intro y ⟨_,_⟩ r H Q hn hr;have:=hz (tc P0r (tc Tb tn));refine iA [1]<|iB [2] H fun H=>a8<|hr H
def GQ(b:p9)(c:List l6)(a:B6):Option Int :=
 if(decide (a.1<0)) then
  some 0
 else
  gd (ix a.1 b.1.length/\ix (b.1.getD a.1.toNat (a7 y155)).2.1 c.length/\ix a.2.1 (c.getD (b.1.getD a.1.toNat (a7 y155)).2.1.toNat (a7 y153)).2.2.1.length/\True)<|lt ((c.getD (b.1.getD a.1.toNat (a7 y155)).2.1.toNat (a7 y153)).2.2.1.getD a.2.1.toNat (a7 y293)) fun d =>
  some d.2.2.1
def R0o:Ct:=c7 208 [.agg y53,.agg y153.sl,.agg y235] (fun x=>GQ x.1 x.2.1 x.2.2.1) (fun r:Int=>I r) (fun _=>())
theorem O0V:Ok prog R0o:=by
 refine c8 [.tmp 6] func208 ?_;intro y ⟨d,b,c,_⟩ r H Q hn hr;refine iA [3,4,5]<|vQ<|iA [3,4,5,9]<|cD H (fun H=>iA [6]<|a8<|fR<|hr H) fun H=>vK<|fQ<|qD (fun a=>Z [p 6 (J a.2.2.1)] [(5,K 235 y235 c),(4,bx 49 [L y153 b]),(3,K 53 y53 d)]) H fun a H=>a8<|hr H
def z0u:List Int->Option (List Int)
 | a =>
 some a
def PC(a:Int)(b:List Int×Int->Option (List Int)):List Int->Option (List Int)
 | c =>
 gd (b9 (a+1)/\True) <|
 b (c,a+1)
def z0t(f:Int)(c:List B6)(d:List Int×Int->Option (List Int)):List Int×Int->Option (List Int)
 | (b,a) =>
 if(decide (a < (c.length:Int))) then
  gd (ix a c.length/\a.toNat<c.length/\True)<|lt (c.getD a.toNat (a7 y235)) fun e =>
  if(e.2.2.1==f&&!e.2.2.2) then
   gd ((b.length+[a].length<=9223372036854775807/\(b.length+[a].length)*8<=140737488355328)/\True) <|
   PC a d (b++[a])
  else
   PC a d b
 else
  z0u b
def My(a:p9)(c:Int):Option (List Int) :=
 gd ((BW a).isSome/\True)<|lt (vl (BW a)) fun b =>
 lp (z0t c b) ([],0)
def R0p:Ct:=c7 207 [.agg y53,.dat i64] (fun x=>My x.1 x.2.1) (fun r:List Int=>AV.ow 2 true i64 r) (fun _=>())
theorem L0O:Ok prog R0p:=by
 refine c8 [.tmp 4] func207 ?_;intro y ⟨_,d,_⟩ r H Q hn hr;have:=hz (tc Fx tn);refine iA [1,2]<|iA [1,2,5]<|jN r (fun(h:List Int)=>Z [p 5 (O 28)] [(28,A 2 i64 h 0)]) (z0u) (fun h H=>?_) (fun _ k o m=>?_)
 ·refine iA [4]<|a8<|hr H
 refine iD Fx [1,5,9,10,11] H fun a H=>vB<|lX (fun((c,b):List Int×Int)=>Z [p 1 (J d),p 5 (O 28),p 9 (O 9),p 10 (I (a.length:Int)),p 11 (I b)] [(9,A 235 y235 a 0),(28,A 2 i64 c 0)]) ([],0) H fun _ i l j n ⟨c,b⟩ H=>iA [1,5,9,10,11,12]<|vQ<|cD H (fun H=>?_) (fun H=>?_)
 ·refine vK<|fQ<|jN r (fun(g:List Int)=>Z [p 1 (J d),p 5 (O 28),p 9 (O 9),p 10 (I (a.length:Int)),p 11 (I b)] [(28,A 2 i64 g 0),(9,A 235 y235 a 0)]) (PC b i) (fun g H=>?_) (fun _ f s q=>?_)
  ·refine jB [1,5,9,10,11] H fun H=>l H
  refine vB<|qD (fun e=>Z [p 1 (J d),p 5 (O 28),p 6 (I b),p 7 (R 7),p 9 (O 9),p 10 (I (a.length:Int)),p 11 (I b)] [(7,bx 235 (F2 true y235 e)),(9,A 235 y235 a 0),(28,A 2 i64 c 0)]) H fun e H=>iA [1,5,6,9,10,11,24]<|cD H (fun H=>jB [1,5,9,10,11] H fun H=>fK<|f H) fun H=>vK<|fK<|f H
 exact vE<|fE<|j<|fX rfl<|k H
def To:List Int->Option (List Int)
 | a =>
 some a
def IJ(c:C3)(e:Int×List Int->Option (List Int)):Int×List Int->Option (List Int)
 | (a,b) =>
 if(decide (0<a)) then
  gd (ix a c.1.length/\ix (c.1.getD a.toNat 0) b.length/\Int.toNat (c.1.getD a.toNat 0)<b.length/\ix a b.length/\a.toNat<b.length/\b9 (b.getD (Int.toNat (c.1.getD a.toNat 0)) 0+b.getD a.toNat 0)/\ix (c.1.getD a.toNat 0) b.length/\Int.toNat (c.1.getD a.toNat 0)<b.length/\True)<|lt (b.set (Int.toNat (c.1.getD a.toNat 0)) (b.getD (Int.toNat (c.1.getD a.toNat 0)) 0+b.getD a.toNat 0)) fun d =>
  gd (b9 (a-1)/\True) <|
  e (a-1,d)
 else
  To b
def PD(b:C3):List Int->Option (List Int)
 | a =>
 gd (b9 ((a.length:Int)-1)/\True) <|
 lp (IJ b) (((a.length:Int)-1,a))
def A0f(d:j1)(f:List B6)(b:List Int)(c:C3)(g:Int×List Int->Option (List Int)):Int×List Int->Option (List Int)
 | (a,e) =>
 if(decide (a < (b.length:Int))) then
  gd (ix a b.length/\a.toNat<b.length/\True) <|
  gd (ix a c.2.2.2.length/\ix (c.2.2.2.getD a.toNat 0) e.length/\Int.toNat (c.2.2.2.getD a.toNat 0)<e.length/\ix (b.getD a.toNat 0) f.length/\Int.toNat (b.getD a.toNat 0)<f.length/\(GQ d.2.1 d.1 (f.getD (Int.toNat (b.getD a.toNat 0)) (a7 y235))).isSome/\b9 (e.getD (Int.toNat (c.2.2.2.getD a.toNat 0)) 0+vl (GQ d.2.1 d.1 (f.getD (Int.toNat (b.getD a.toNat 0)) (a7 y235))))/\ix (c.2.2.2.getD a.toNat 0) e.length/\Int.toNat (c.2.2.2.getD a.toNat 0)<e.length/\True)<|lt ((vl (GQ d.2.1 d.1 (f.getD (Int.toNat (b.getD a.toNat 0)) (a7 y235))),e.set (Int.toNat (c.2.2.2.getD a.toNat 0)) (e.getD (Int.toNat (c.2.2.2.getD a.toNat 0)) 0+vl (GQ d.2.1 d.1 (f.getD (Int.toNat (b.getD a.toNat 0)) (a7 y235)))))) fun(_,h) =>
  gd (b9 (a+1)/\True) <|
  g (a+1,h)
 else
  PD c e
def BX(a:j1)(b:Int):Option (List Int) :=
 gd (ix b a.2.2.length/\True)<|lt (a.2.2.getD b.toNat (a7 y172)) fun c =>
 gd ((PE c.2.2.1).isSome/\True)<|lt (vl (PE c.2.2.1)) fun e =>
 gd ((BW a.2.1).isSome/\True)<|lt (vl (BW a.2.1)) fun f =>
 gd ((My a.2.1 b).isSome/\True)<|lt (vl (My a.2.1 b)) fun d =>
 lp (A0f a f d c) (0,e)
def S0h:Ct:=c7 154 [.agg j6,.dat i64] (fun x=>BX x.1 x.2.1) (fun r:List Int=>AV.ow 2 true i64 r) (fun _=>())
theorem Tp:Ok prog S0h:=by
 refine c8 [.tmp 4] func154 ?_;intro y ⟨h,v,_⟩ r H Q hn hr;have:=hz (tc O0V (tc L0O (tc Fx (tc L0P tn))));refine iA [1,2]<|qD (fun b=>Z [p 1 (J v),p 2 (R 2),p 5 (R 5)] [(5,K 172 y172 b),(2,K 56 j6 h)]) H fun b H=>iD L0P [1,2,5,6] H fun n H=>iD Fx [1,2,5,6,7] H fun l H=>jN r (fun(a:List Int)=>Z [p 5 (R 5),p 6 (O 18)] [(18,A 2 i64 a 0),(5,K 172 y172 b)]) (PD b) (fun a H=>?_) (fun _ m z G=>?_)
 ·refine jN r (fun(e:List Int)=>Z [p 6 (O 18)] [(18,A 2 i64 e 0)]) (To) (fun e H=>?_) (fun _ q F P=>?_)
  ·refine iA [4]<|a8<|hr H
  refine iB [5,6,10] H fun H=>vB<|lX (fun((c,f):Int×List Int)=>Z [p 5 (R 5),p 6 (O 18),p 10 (I c)] [(18,A 2 i64 f 0),(5,K 172 y172 b)]) (((a.length:Int)-1,a)) H fun _ E o t V ⟨c,f⟩ H=>vQ<|iA [5,6,10,56]<|cD H (fun H=>vK<|fQ<|vQ<|vB<|zD (fun d=>Z [p 5 (R 5),p 6 (O 18),p 10 (I c)] [(18,A 2 i64 d 0),(5,K 172 y172 b)]) H fun d H=>fK<|fQ<|jB [5,6,10] H fun H=>o H) fun H=>vE<|fE<|t<|fX rfl<|q H
 refine iD L0O [2,5,6,7,25,26,27] H fun g H=>vB<|lX (fun((i,j):Int×List Int)=>Z [p 2 (R 2),p 5 (R 5),p 6 (O 18),p 7 (O 21),p 25 (O 25),p 26 (I (g.length:Int)),p 27 (I i)] [(25,A 2 i64 g 0),(21,A 235 y235 l 0),(18,A 2 i64 j 0),(5,K 172 y172 b),(2,K 56 j6 h)]) (0,n) H fun _ T w s x ⟨i,j⟩ H=>iA [2,5,6,7,25,26,27,28]<|vQ<|cD H (fun H=>?_) (fun H=>?_)
 ·refine vK<|fQ<|vQ<|vB<|iB [2,5,6,7,8,9,25,26,27] H fun H=>zD (fun(u,k)=>Z [p 2 (R 2),p 5 (R 5),p 6 (O 18),p 7 (O 21),p 25 (O 25),p 26 (I (g.length:Int)),p 27 (I i)] [(18,A 2 i64 k 0),(25,A 2 i64 g 0),(21,A 235 y235 l 0),(5,K 172 y172 b),(2,K 56 j6 h)]) H fun⟨u,k⟩ H =>
   fK<|fQ <|
   jB [2,5,6,7,25,26,27] H fun H =>
   w H
 exact vE<|fE<|s<|fX rfl<|m H
def z0s:List Int->Option (List Int)
 | a =>
 some a
def Mz(c:C3)(d:List Int)(e:Int×List Int->Option (List Int)):Int×List Int->Option (List Int)
 | (a,b) =>
 if(decide (a < (b.length:Int))) then
  gd (ix a c.1.length/\ix (c.1.getD a.toNat 0) b.length/\Int.toNat (c.1.getD a.toNat 0)<b.length/\ix a c.2.1.length/\ix a d.length/\a.toNat<d.length/\b9 (c.2.1.getD a.toNat 0*d.getD a.toNat 0)/\b9 (b.getD (Int.toNat (c.1.getD a.toNat 0)) 0+c.2.1.getD a.toNat 0*d.getD a.toNat 0)/\ix a b.length/\a.toNat<b.length/\True)<|lt (b.set a.toNat (b.getD (Int.toNat (c.1.getD a.toNat 0)) 0+c.2.1.getD a.toNat 0*d.getD a.toNat 0)) fun f =>
  gd (b9 (a+1)/\True) <|
  e (a+1,f)
 else
  z0s b
def MA(c:j1)(b:Int):Option (List Int) :=
 gd (ix b c.2.2.length/\(BX c b).isSome/\True)<|lt ((vl (BX c b),c.2.2.getD b.toNat (a7 y172))) fun(a,d) =>
 gd ((0<=(a.length:Int)/\(a.length:Int)=(a.length:Int)/\(a.length:Int).toNat*8<=281474976710656/\(a.length:Int)<=9223372036854775807)/\True) <|
 lp (Mz d a) ((1,List.replicate (a.length:Int).toNat 0))
def R0n:Ct:=c7 209 [.agg j6,.dat i64] (fun x=>MA x.1 x.2.1) (fun r:List Int=>AV.ow 2 true i64 r) (fun _=>())
theorem L0N:Ok prog R0n:=by
 refine c8 [.tmp 4] func209 ?_;intro y ⟨i,_,_⟩ r H Q hn hr;have:=hz (tc Tp tn);refine iA [1,2]<|qD (fun(a,b)=>Z [p 5 (R 5),p 6 (O 16)] [(5,K 172 y172 b),(16,A 2 i64 a 0),(2,K 56 j6 i)]) H fun w H=>?_
 obtain⟨a,b⟩:=w;refine iB [5,6,7] H fun H=>jN r (fun(e:List Int)=>Z [p 7 (O 19)] [(19,A 2 i64 e 0)]) (z0s) (fun e H=>?_) (fun _ h n l=>?_)
 ·refine iA [4]<|a8<|hr H
 refine iA [5,6,7,8]<|vB<|lX (fun((c,f):Int×List Int)=>Z [p 5 (R 5),p 6 (O 16),p 7 (O 19),p 8 (I c)] [(19,A 2 i64 f 0),(5,K 172 y172 b),(16,A 2 i64 a 0)]) ((1,List.replicate (a.length:Int).toNat 0)) H fun _ k j g m ⟨c,f⟩ H=>vQ<|iA [5,6,7,8,23]<|cD H (fun H=>vK<|fQ<|vQ<|vB<|zD (fun d=>Z [p 5 (R 5),p 6 (O 16),p 7 (O 19),p 8 (I c)] [(19,A 2 i64 d 0),(5,K 172 y172 b),(16,A 2 i64 a 0)]) H fun d H=>fK<|fQ<|jB [5,6,7,8] H fun H=>j H) fun H=>vE<|fE<|g<|fX rfl<|h H
def A0d:List Int->Option (List Int)
 | a =>
 some a
def A0c(c:List Int)(b:C3)(e:List Int×Int->Option (List Int)):List Int×Int->Option (List Int)
 | (d,a) =>
 if(decide (a < (b.2.2.2.length:Int))) then
  gd (ix a b.2.2.2.length/\True) <|
  gd (ix (b.2.2.2.getD a.toNat 0) c.length/\Int.toNat (b.2.2.2.getD a.toNat 0)<c.length/\(d.length+[c.getD (Int.toNat (b.2.2.2.getD a.toNat 0)) 0].length<=9223372036854775807/\(d.length+[c.getD (Int.toNat (b.2.2.2.getD a.toNat 0)) 0].length)*8<=140737488355328)/\True)<|lt (d++[c.getD (Int.toNat (b.2.2.2.getD a.toNat 0)) 0]) fun f =>
  gd (b9 (a+1)/\True) <|
  e (f,a+1)
 else
  A0d d
def FB(b:j1)(a:Int):Option (List Int) :=
 gd ((MA b a).isSome/\True)<|lt (vl (MA b a)) fun c =>
 gd (ix a b.2.2.length/\True)<|lt (b.2.2.getD a.toNat (a7 y172)) fun d =>
 lp (A0c c d) ([],0)
def S0g:Ct:=c7 155 [.agg j6,.dat i64] (fun x=>FB x.1 x.2.1) (fun r:List Int=>AV.ow 2 true i64 r) (fun _=>())
theorem P0q:Ok prog S0g:=by
 refine c8 [.tmp 4] func155 ?_;intro y ⟨i,_,_⟩ r H Q hn hr;have:=hz (tc L0N tn);refine iA [1,2]<|iD L0N [1,2,5] H fun b H=>iA [1,2,5,6]<|jN r (fun(e:List Int)=>Z [p 6 (O 29)] [(29,A 2 i64 e 0)]) (A0d) (fun e H=>?_) (fun _ h n l=>?_)
 ·refine iA [4]<|a8<|hr H
 refine qD (fun a=>Z [p 5 (O 11),p 6 (nil),p 17 (L i64 a.2.2.2),p 18 (I (a.2.2.2.length:Int)),p 19 (I 0)] [(11,A 2 i64 b 0),(2,K 56 j6 i)]) H fun a H=>vB<|lX (fun((f,c):List Int×Int)=>Z [p 5 (O 11),p 6 (O 29),p 17 (L i64 a.2.2.2),p 18 (I (a.2.2.2.length:Int)),p 19 (I c)] [(11,A 2 i64 b 0),(29,A 2 i64 f 0)]) ([],0) H fun _ k j g m ⟨f,c⟩ H=>iA [5,6,17,18,19,20]<|vQ<|cD H (fun H=>vK<|fQ<|vQ<|vB<|iB [5,6,8,17,18,19] H fun H=>zD (fun d=>Z [p 5 (O 11),p 6 (AV.os 29 1),p 17 (L i64 a.2.2.2),p 18 (I (a.2.2.2.length:Int)),p 19 (I c)] [(29,A 2 i64 d 1),(28,A 2 i64 [b.getD (Int.toNat (a.2.2.2.getD c.toNat 0)) 0] 0),(11,A 2 i64 b 0)]) H fun d H=>fK<|fQ<|jB [5,6,17,18,19] H fun H=>j H) fun H=>vE<|fE<|g<|fX rfl<|h H
def K0F:Ct:=c7 155 [.agg j6,.dat i64] (fun x=>FB x.1 x.2.1) (fun r=>frz ((fun r:List Int=>AV.ow 2 true i64 r) r)) (fun _=>())
theorem K0q:Ok prog K0F:=Is P0q
def MB(a:A6):Option (List (Int×Int)) :=
 if(a.1==2) then
  some ([((0:Int),(0:Int)),((0:Int),(1:Int))])
 else
  if(a.1==3) then
   some ([((1:Int),(0:Int)),((1:Int),(1:Int))])
  else
   if(a.1 != 1) then
    some []
   else
    if(a.2.2.2.1==1) then
     some ([((0:Int),(0:Int)),((1:Int),(1:Int))])
    else
     if(a.2.2.2.1==2) then
      some ([((0:Int),(1:Int)),((1:Int),(0:Int))])
     else
      lt ([((0:Int),(0:Int)),((0:Int),(1:Int)),((1:Int),(0:Int)),((1:Int),(1:Int))]) fun b =>
      some b
def R0r:Ct:=c7 205 [.agg y158] (fun x=>MB x.1) (fun r:List (Int×Int)=>AV.ow 284 true (i64.pr i64) r) (fun _=>())
theorem L0Q:Ok prog R0r:=by
 refine c8 [.tmp 2] func205 ?_;intro y ⟨b,_⟩ r H Q hn hr;refine iA [1]<|iA [1,3]<|iA [1,3,4]<|vQ<|vB<|iA [1,3,4,11]<|cD H (fun H=>iA [2]<|a8<|j0<|fR<|hr H) fun H=>iA [1,3,4,18]<|cD H (fun H=>iA [2]<|a8<|j0<|fR<|hr H) fun H=>iA [1,3,4,25]<|cD H (fun H=>iA [2]<|a8<|j0<|fR<|hr H) fun H=>iA [1,3,4,29]<|cD H (fun H=>iA [2]<|a8<|j0<|fR<|hr H) fun H=>iA [4,34]<|cD H (fun H=>iA [2]<|a8<|j0<|fR<|hr H) fun H=>vK<|fK<|fQ<|qC (fun a=>Z [p 2 (O 43)] [(43,A 284 (i64.pr i64) a 0),(10,A 284 (i64.pr i64) [((0:Int),(1:Int)),((1:Int),(0:Int))] 0),(7,A 284 (i64.pr i64) [((0:Int),(0:Int)),((1:Int),(1:Int))] 0),(1,K 158 y158 b)]) H fun a H=>a8<|hr H
def A0g:List j5->Option (List j5)
 | a =>
 some a
def Tq(a:Int)(c:List j5×Int->Option (List j5)):List j5->Option (List j5)
 | b =>
 gd (b9 (a+1)/\True) <|
 c (b,a+1)
def Tr(c:Int)(a:A6)(e:Int)(g:List (Int×Int))(i:List j5×Int->Option (List j5))(j:Int×List j5->Option (List j5)):Int×List j5->Option (List j5)
 | (d,f) =>
 if(decide (d < (g.length:Int))) then
  gd (ix d g.length/\d.toNat<g.length/\True)<|lt (g.getD d.toNat (a7 (i64.pr i64))) fun b =>
  gd (b9 (c+a.2.1)/\b9 ((2:Int)*(c+a.2.1))/\ix (0:Int) 2/\b9 ((2:Int)*(c+a.2.1)+b.1)/\b9 (c+a.2.2.1)/\b9 ((2:Int)*(c+a.2.2.1))/\ix (1:Int) 2/\b9 ((2:Int)*(c+a.2.2.1)+b.2)/\(f.length+[((2:Int)*(c+a.2.1)+b.1,(2:Int)*(c+a.2.2.1)+b.2,(1:Int),e)].length<=9223372036854775807/\(f.length+[((2:Int)*(c+a.2.1)+b.1,(2:Int)*(c+a.2.2.1)+b.2,(1:Int),e)].length)*32<=140737488355328)/\True)<|lt ((f++[((2:Int)*(c+a.2.1)+b.1,(2:Int)*(c+a.2.2.1)+b.2,(1:Int),e)],[((2:Int)*(c+a.2.1)+b.1,(2:Int)*(c+a.2.2.1)+b.2,(1:Int),e)])) fun(h,_) =>
  gd (b9 (d+1)/\True) <|
  j (d+1,h)
 else
  Tq e i f
def Tt(g:Int)(d:l6)(f:List j5×Int->Option (List j5)):List j5×Int->Option (List j5)
 | (c,a) =>
 if(decide (a < (d.2.2.2.1.length:Int))) then
  gd (ix a d.2.2.2.1.length/\True)<|lt (d.2.2.2.1.getD a.toNat (a7 y158)) fun b =>
  gd ((MB b).isSome/\True)<|lt (vl (MB b)) fun e =>
  lp (Tr g b a e f) (0,c)
 else
  A0g c
def FC(b:j1)(a:F7)(d:Int):Option (List j5) :=
 gd (ix a.2.1 b.1.length/\True)<|lt (b.1.getD a.2.1.toNat (a7 y153)) fun c =>
 lp (Tt d c) ([],0)
def S0j:Ct:=c7 152 [.agg j6,.agg y155,.dat i64] (fun x=>FC x.1 x.2.1 x.2.2.1) (fun r:List j5=>AV.ow 138 true y138 r) (fun _=>())
theorem M0h:Ok prog S0j:=by
 refine c8 [.tmp 6] func152 ?_;intro y ⟨o,w,i,_⟩ r H Q hn hr;have:=hz (tc L0Q tn);refine iA [2,3,4]<|iA [2,3,4,7]<|jN r (fun(l:List j5)=>Z [p 7 (O 53)] [(53,A 138 y138 l 0)]) (A0g) (fun l H=>?_) (fun _ n E P=>?_)
 ·refine iA [6]<|a8<|hr H
 refine qD (fun b=>Z [p 2 (J i),p 7 (nil),p 19 (L y158 b.2.2.2.1),p 20 (I (b.2.2.2.1.length:Int)),p 21 (I 0)] [(4,K 155 y155 w),(3,K 56 j6 o)]) H fun b H=>vB<|lX (fun((f,a):List j5×Int)=>Z [p 2 (J i),p 7 (O 53),p 19 (L y158 b.2.2.2.1),p 20 (I (b.2.2.2.1.length:Int)),p 21 (I a)] [(53,A 138 y138 f 0)]) ([],0) H fun _ s x u z ⟨f,a⟩ H=>iA [2,7,19,20,21,22]<|vQ<|cD H (fun H=>?_) (fun H=>?_)
 ·refine vK<|fQ<|jN r (fun(k:List j5)=>Z [p 2 (J i),p 7 (O 53),p 19 (L y158 b.2.2.2.1),p 20 (I (b.2.2.2.1.length:Int)),p 21 (I a)] [(53,A 138 y138 k 0)]) (Tq a s) (fun k H=>?_) (fun _ t G T=>?_)
  ·refine jB [2,7,19,20,21] H fun H=>x H
  refine vB<|qD (fun d=>Z [p 2 (J i),p 7 (O 53),p 8 (I a),p 9 (R 9),p 19 (L y158 b.2.2.2.1),p 20 (I (b.2.2.2.1.length:Int)),p 21 (I a)] [(9,K 158 y158 d),(53,A 138 y138 f 0)]) H fun d H=>iD L0Q [2,7,8,9,19,20,21,27,28,29] H fun c H=>vB<|lX (fun((e,g):Int×List j5)=>Z [p 2 (J i),p 7 (O 53),p 8 (I a),p 9 (R 9),p 19 (L y158 b.2.2.2.1),p 20 (I (b.2.2.2.1.length:Int)),p 21 (I a),p 27 (O 27),p 28 (I (c.length:Int)),p 29 (I e)] [(27,A 284 (i64.pr i64) c 0),(9,K 158 y158 d),(53,A 138 y138 g 0)]) (0,f) H fun _ F q v V ⟨e,g⟩ H=>iA [2,7,8,9,19,20,21,27,28,29,30]<|vQ<|cD H (fun H=>?_) (fun H=>?_)
  ·refine vK<|fQ<|vQ<|vB<|qD (fun h=>Z [p 2 (J i),p 7 (O 53),p 8 (I a),p 9 (R 9),p 11 (R 11),p 19 (L y158 b.2.2.2.1),p 20 (I (b.2.2.2.1.length:Int)),p 21 (I a),p 27 (O 27),p 28 (I (c.length:Int)),p 29 (I e)] [(11,bx 284 (F2 true (i64.pr i64) h)),(27,A 284 (i64.pr i64) c 0),(9,K 158 y158 d),(53,A 138 y138 g 0)]) H fun h H=>zD (fun(j,m)=>Z [p 2 (J i),p 7 (AV.os 53 1),p 8 (I a),p 9 (R 9),p 19 (L y158 b.2.2.2.1),p 20 (I (b.2.2.2.1.length:Int)),p 21 (I a),p 27 (O 27),p 28 (I (c.length:Int)),p 29 (I e)] [(53,A 138 y138 j 1),(52,A 138 y138 m 0),(11,bx 284 (F2 true (i64.pr i64) h)),(27,A 284 (i64.pr i64) c 0),(9,K 158 y158 d)]) H fun⟨j,m⟩ H =>
    fK<|fQ <|
    jB [2,7,8,9,19,20,21,27,28,29] H fun H =>
    q H
  exact vE<|fE<|v<|fX rfl<|fK<|t H
 exact vE<|fE<|u<|fX rfl<|n H
def A0S(d:j1)(e:List B6):List j5×List Int×List (List Int)->Option C6
 | (b,c,a) =>
 some (d,e,b,c,a,[])
def Tu(a:Int)(e:Int×List Int×List (List Int)×List j5->Option C6):List (List Int)×List Int×List j5->Option C6
 | (b,d,c) =>
 gd (b9 (a+1)/\True) <|
 e (a+1,d,b,c)
def Tv(a:Int)(c:Int×List j5->Option C6):List j5->Option C6
 | b =>
 gd (b9 (a+1)/\True) <|
 c (a+1,b)
def MC(d:List Int)(a:Int)(e:List (List Int))(c:Int)(i:Int×List j5->Option C6)(g:Int×List j5->Option C6):Int×List j5->Option C6
 | (b,f) =>
 if(decide (b<2)) then
  gd (ix a d.length/\a.toNat<d.length/\b9 ((2:Int)*d.getD a.toNat (0:Int))/\b9 ((2:Int)*d.getD a.toNat (0:Int)+b)/\b9 ((2:Int)*List.getD (e.getD a.toNat []) c.toNat (0:Int))/\b9 ((2:Int)*List.getD (e.getD a.toNat []) c.toNat (0:Int)+b)/\(f.length+[((2:Int)*d.getD a.toNat (0:Int)+b,(2:Int)*List.getD (e.getD a.toNat []) c.toNat (0:Int)+b,(2:Int),c)].length<=9223372036854775807/\(f.length+[((2:Int)*d.getD a.toNat (0:Int)+b,(2:Int)*List.getD (e.getD a.toNat []) c.toNat (0:Int)+b,(2:Int),c)].length)*32<=140737488355328)/\True)<|lt ((f++[((2:Int)*d.getD a.toNat (0:Int)+b,(2:Int)*List.getD (e.getD a.toNat []) c.toNat (0:Int)+b,(2:Int),c)],[((2:Int)*d.getD a.toNat (0:Int)+b,(2:Int)*List.getD (e.getD a.toNat []) c.toNat (0:Int)+b,(2:Int),c)])) fun(h,_) =>
  gd (b9 (b+1)/\True) <|
  g (b+1,h)
 else
  Tv c i f
def GR(f:List Int)(a:Int)(b:List (List Int))(i:List (List Int))(e:List Int)(g:List Int)(h:List Int)(j:Int×List Int×List (List Int)×List j5->Option C6)(k:Int×List j5->Option C6):Int×List j5->Option C6
 | (c,d) =>
 if(decide (c < (↑(List.length (b.getD a.toNat [])):Int))) then
  gd (ix c (List.length (b.getD a.toNat []))/\True) <|
  lp (MC f a b c k) (0,d)
 else
  Tu a j ((i++[e],g++[h.getD (Int.toNat (0:Int)) (0:Int)],d))
def Tw(h:List Int)(f:List (List Int))(b:j1)(k:List B6)(j:Int×List Int×List (List Int)×List j5->Option C6):Int×List Int×List (List Int)×List j5->Option C6
 | (a,c,d,e) =>
 if(decide (a < (b.2.2.length:Int))) then
  gd ((BX b a).isSome/\ix (0:Int) (vl (BX b a)).length/\Int.toNat (0:Int) < (vl (BX b a)).length/\(c.length+[(vl (BX b a)).getD (Int.toNat (0:Int)) (0:Int)].length<=9223372036854775807/\(c.length+[(vl (BX b a)).getD (Int.toNat (0:Int)) (0:Int)].length)*8<=140737488355328)/\True)<|lt (vl (BX b a)) fun i =>
  gd ((FB b a).isSome/\(d.length+[vl (FB b a)].length<=9223372036854775807/\(d.length+[vl (FB b a)].length)*24<=140737488355328)/\True)<|lt (vl (FB b a)) fun g =>
  gd (ix a f.length/\True) <|
  lp (GR h a f d g c i j) (0,e)
 else
  A0S b k (e,c,d)
def Tx(d:j1)(e:List B6)(a:List j5):List (List Int)×List Int->Option C6
 | (b,c) =>
 lp (Tw c b d e) (0,[],[],a)
def PF(a:Int)(d:Int×List (List Int)×List Int->Option C6):List Int×List (List Int)->Option C6
 | (b,c) =>
 gd (b9 (a+1)/\True) <|
 d (a+1,c,b)
def Tz(e:List B6)(i:j1)(f:List j5)(h:Int×List (List Int)×List Int->Option C6):Int×List (List Int)×List Int->Option C6
 | (c,b,d) =>
 if(decide (c < (e.length:Int))) then
  gd (ix c e.length/\c.toNat<e.length/\True)<|lt (e.getD c.toNat (a7 y235)) fun a =>
  if a.2.2.2 then
   gd (ix a.2.2.1 d.length/\a.2.2.1.toNat<d.length/\True) <|
   PF c h (d.set a.2.2.1.toNat c,b)
  else
   gd (ix a.2.2.1 b.length/\a.2.2.1.toNat<b.length/\((b.getD a.2.2.1.toNat []).length+[c].length<=9223372036854775807/\((b.getD a.2.2.1.toNat []).length+[c].length)*8<=140737488355328)/\ix a.2.2.1 b.length/\(a.2.2.1.toNat<b.length/\a.2.2.1.toNat=a.2.2.1.toNat)/\True)<|lt (b.set a.2.2.1.toNat (b.getD a.2.2.1.toNat []++[c])) fun g =>
   PF c h (d,g)
 else
  Tx i e f (b,d)
def MD(c:List B6)(a:j1):List j5->Option C6
 | b =>
 gd ((0<=(a.2.2.length:Int)/\(a.2.2.length:Int)=(a.2.2.length:Int)/\(a.2.2.length:Int).toNat*8<=281474976710656/\(a.2.2.length:Int)<=9223372036854775807)/\True) <|
 gd ((0<=(a.2.2.length:Int)/\(a.2.2.length:Int)=(a.2.2.length:Int)/\(a.2.2.length:Int).toNat*24<=281474976710656/\(a.2.2.length:Int)<=9223372036854775807)/\True) <|
 lp (Tz c a b) ((0,List.replicate (a.2.2.length:Int).toNat [],List.replicate (a.2.2.length:Int).toNat 0))
def A0R(a:j1)(h:List B6)(f:Int×Int×List j5->Option C6):Int×Int×List j5->Option C6
 | (c,d,e) =>
 if(decide (d < (a.2.1.1.length:Int))) then
  gd (ix d a.2.1.1.length/\True)<|lt (a.2.1.1.getD d.toNat (a7 y155)) fun b =>
  gd ((FC a b c).isSome/\(e.length+(vl (FC a b c)).length<=9223372036854775807/\(e.length+(vl (FC a b c)).length)*32<=140737488355328)/\True)<|lt (vl (FC a b c)) fun i =>
  gd ((D9 b.2.2).isSome/\b9 (c+vl (D9 b.2.2))/\True)<|lt (vl (D9 b.2.2)) fun g =>
  gd (b9 (d+1)/\True) <|
  f (c+g,d+1,e++i)
 else
  MD h a e
def ME(a:j1):Option C6 :=
 gd ((BW a.2.1).isSome/\True)<|lt (vl (BW a.2.1)) fun b =>
 lp (A0R a b) (0,0,[])
def S0Y:Ct:=c7 102 [.agg j6] (fun x=>ME x.1) (fun r:C6=>D y189.pt r) (fun _=>())
theorem M0t:Ok prog S0Y:=by
 refine c8 [.tmp 2] func102 ?_;intro y ⟨a,_⟩ r H Q hn hr;have:=hz (tc K0q (tc Tp (tc Me (tc M0h (tc Fx tn)))));refine iA [1]<|iD Fx [1,3] H fun d H=>iA [1,3,4]<|jN r (fun(f:List j5)=>Z [p 1 (R 1),p 3 (R 20)] ((20,bx 189 (Q0 a))::W0 d a f)) (MD d a) (fun f H=>?_) (fun _ n0 e0 t0=>?_)
 ·refine iB [1,3,7] H fun H=>iB [1,3,7,8] H fun H=>jN r (fun((c,g):List (List Int)×List Int)=>Z (G2 [p 8 (AV.og 54)]) ((54,Ob.grd 35 2 true i64 c none)::(50,A 2 i64 g 0)::(20,bx 189 (Q0 a))::W0 d a f)) (Tx a d f) (fun w H=>?_) (fun _ n2 e2 t2=>?_)
  ·obtain⟨c,g⟩:=w;refine jN r (fun((F,G,u):List j5×List Int×List (List Int))=>Z [p 3 (R 20)] [(20,bx 189 (Q1 a)),(18,A 235 y235 d 0),(38,A 138 y138 F 0),(102,A 2 i64 G 0),(114,A 35 i64.sl u 0)]) (A0S a d) (fun⟨F,G,u⟩ H=>?_) (fun _ n5 e5 t5=>?_)
   ·refine iA [2]<|a8<|hr H
   refine iA [1,3,7,8,87,88]<|vB<|fZ 54 (Z (G2 [p 8 (M i64.sl c),p 87 (I (a.2.2.length:Int)),p 88 (I 0)]) ((50,A 2 i64 g 0)::(20,bx 189 (Q0 a))::W0 d a f))<|lX (fun((b,i,l,m):Int×List Int×List (List Int)×List j5)=>Z (G2 [p 8 (M i64.sl c),p 87 (I (a.2.2.length:Int)),p 88 (I b)]) [(50,A 2 i64 g 0),(20,bx 189 (Q1 a)),(18,A 235 y235 d 0),(1,K 56 j6 a),(38,A 138 y138 m 0),(102,A 2 i64 i 0),(114,A 35 i64.sl l 0)]) (0,[],[],f) H fun _ g6 b6 e6 t6 ⟨b,i,l,m⟩ H=>iA [1,3,7,8,87,88,89]<|vQ<|cD H (fun H=>?_) (fun H=>?_)
   ·refine vK<|fQ<|jN r (fun((x,P,z):List (List Int)×List Int×List j5)=>Z (G2 [p 8 (M i64.sl c),p 87 (I (a.2.2.length:Int)),p 88 (I b)]) ((20,bx 189 (Q1 a))::(114,A 35 i64.sl x 0)::(102,A 2 i64 P 0)::(50,A 2 i64 g 0)::W0 d a z)) (Tu b g6) (fun⟨x,P,z⟩ H=>?_) (fun _ n7 e7 t7=>?_)
    ·refine jB [1,3,7,8,87,88] H fun H=>b6 H
    refine vB<|iA [1,3,7,8,11,87,88]<|iD Tp [1,3,7,8,11,87,88] H fun k H=>qD (fun j=>Z (G2 [p 8 (M i64.sl c),p 11 (I b),p 87 (I (a.2.2.length:Int)),p 88 (I b)]) ((20,bx 189 [L y153 a.1,L y155 a.2.1.1,L Ty.str a.2.1.2.1,L y231 a.2.1.2.2,L y172 a.2.2,AV.os 18 0,AV.os 38 0,AV.os 102 1,AV.os 114 1,nil])::(114,A 35 i64.sl (l++[j]) 1)::(113,A 35 i64.sl [j] 0)::(102,A 2 i64 (i++[k.getD (Int.toNat (0:Int)) (0:Int)]) 1)::(101,A 2 i64 [k.getD (Int.toNat (0:Int)) (0:Int)] 0)::(98,A 2 i64 k 0)::(50,A 2 i64 g 0)::W0 d a m)) H fun j H=>iB [1,3,7,8,11,87,88,120,121,122] H fun H=>vB<|lX (fun((e,s):Int×List j5)=>Z (G2 [p 8 (M i64.sl c),p 11 (I b),p 87 (I (a.2.2.length:Int)),p 88 (I b),p 120 (M i64 (c.getD b.toNat [])),p 121 (I (↑(List.length (c.getD b.toNat [])):Int)),p 122 (I e)]) ((20,bx 189 (Q1 a))::(114,A 35 i64.sl (l++[j]) 0)::(102,A 2 i64 (i++[k.getD (Int.toNat (0:Int)) (0:Int)]) 0)::(50,A 2 i64 g 0)::W0 d a s)) (0,m) H fun _ g8 b8 e8 t8 ⟨e,s⟩ H=>iA [1,3,7,8,11,87,88,120,121,122,123]<|vQ<|cD H (fun H=>?_) (fun H=>?_)
    ·refine vK<|fQ<|jN r (fun(T:List j5)=>Z (G2 [p 8 (M i64.sl c),p 11 (I b),p 87 (I (a.2.2.length:Int)),p 88 (I b),p 120 (M i64 (c.getD b.toNat [])),p 121 (I (↑(List.length (c.getD b.toNat [])):Int)),p 122 (I e)]) ((20,bx 189 (Q1 a))::(114,A 35 i64.sl (l++[j]) 0)::(102,A 2 i64 (i++[k.getD (Int.toNat (0:Int)) (0:Int)]) 0)::(50,A 2 i64 g 0)::W0 d a T)) (Tv e g8) (fun T H=>?_) (fun _ n9 e9 t9=>?_)
     ·refine jB [1,3,7,8,11,87,88,120,121,122] H fun H=>b8 H
     refine vB<|iB [1,3,7,8,11,12,13,87,88,120,121,122] H fun H=>iA [1,3,7,8,11,12,13,87,88,120,121,122,127]<|vB<|lX (fun((o,W):Int×List j5)=>Z (G2 [p 8 (M i64.sl c),p 11 (I b),p 12 (I e),p 13 (I (List.getD (c.getD b.toNat []) e.toNat (0:Int))),p 87 (I (a.2.2.length:Int)),p 88 (I b),p 120 (M i64 (c.getD b.toNat [])),p 121 (I (↑(List.length (c.getD b.toNat [])):Int)),p 122 (I e),p 127 (I o)]) ((20,bx 189 (Q1 a))::(114,A 35 i64.sl (l++[j]) 0)::(102,A 2 i64 (i++[k.getD (Int.toNat (0:Int)) (0:Int)]) 0)::(50,A 2 i64 g 0)::W0 d a W)) (0,s) H fun _ aD aB aA aC ⟨o,W⟩ H=>iA [1,3,7,8,11,12,13,87,88,120,121,122,127,128]<|vQ<|cD H (fun H=>?_) (fun H=>?_)
     ·refine vK<|fQ<|vQ<|vB<|iA [1,3,7,8,11,12,13,14,87,88,120,121,122,127]<|zD (fun(E,Y)=>Z (G2 [p 8 (M i64.sl c),p 11 (I b),p 12 (I e),p 13 (I (List.getD (c.getD b.toNat []) e.toNat (0:Int))),p 87 (I (a.2.2.length:Int)),p 88 (I b),p 120 (M i64 (c.getD b.toNat [])),p 121 (I (↑(List.length (c.getD b.toNat [])):Int)),p 122 (I e),p 127 (I o)]) [(20,bx 189 [L y153 a.1,L y155 a.2.1.1,L Ty.str a.2.1.2.1,L y231 a.2.1.2.2,L y172 a.2.2,AV.os 18 0,AV.os 38 1,AV.os 102 0,AV.os 114 0,nil]),(38,A 138 y138 E 1),(148,A 138 y138 Y 0),(114,A 35 i64.sl (l++[j]) 0),(102,A 2 i64 (i++[k.getD (Int.toNat (0:Int)) (0:Int)]) 0),(50,A 2 i64 g 0),(18,A 235 y235 d 0),(1,K 56 j6 a)]) H fun⟨E,Y⟩ H =>
       fK<|fQ <|
       jB [1,3,7,8,11,12,13,87,88,120,121,122,127] H fun H =>
       aB H
     exact vE<|fE<|aA<|fX rfl<|fK<|n9 H
    exact vE<|fE<|e8<|fX rfl<|fK<|n7 H
   exact vE<|fE<|e6<|fX rfl<|n5 H
  refine iA [1,3,7,8,58,59,60]<|vB<|lX (fun((h,q,n):Int×List (List Int)×List Int)=>Z (G2 [p 8 (AV.og 54),p 58 (O 18),p 59 (I (d.length:Int)),p 60 (I h)]) ((54,Ob.grd 35 2 true i64 q none)::(50,A 2 i64 n 0)::(20,bx 189 (Q0 a))::W0 d a f)) ((0,List.replicate (a.2.2.length:Int).toNat [],List.replicate (a.2.2.length:Int).toNat 0)) H fun _ g3 b3 e3 t3 ⟨h,q,n⟩ H=>iA [1,3,7,8,58,59,60,61]<|vQ<|cD H (fun H=>?_) (fun H=>?_)
  ·refine vK<|fQ<|jN r (fun((v,V):List Int×List (List Int))=>Z (G2 [p 8 (AV.og 54),p 58 (O 18),p 59 (I (d.length:Int)),p 60 (I h)]) ((50,A 2 i64 v 0)::(54,Ob.grd 35 2 true i64 V none)::(20,bx 189 (Q0 a))::W0 d a f)) (PF h g3) (fun⟨v,V⟩ H=>?_) (fun _ n4 e4 t4=>?_)
   ·refine jB [1,3,7,8,58,59,60] H fun H=>b3 H
   refine vB<|qD (fun t=>Z (G2 [p 8 (AV.og 54),p 9 (I h),p 10 (R 10),p 58 (O 18),p 59 (I (d.length:Int)),p 60 (I h)]) ((10,bx 235 (F2 true y235 t))::(54,Ob.grd 35 2 true i64 q none)::(50,A 2 i64 n 0)::(20,bx 189 (Q0 a))::W0 d a f)) H fun t H=>iA [1,3,7,8,9,10,58,59,60,66]<|cD H (fun H=>jB [1,3,7,8,58,59,60] H fun H=>fK<|n4 H) fun H=>zD (fun X=>Z (G2 [p 8 (AV.og 54),p 58 (O 18),p 59 (I (d.length:Int)),p 60 (I h)]) ((54,Ob.grd 35 2 true i64 X none)::(79,A 2 i64 [] 2)::(81,A 2 i64 [h] 0)::(10,bx 235 (F2 true y235 t))::(50,A 2 i64 n 0)::(20,bx 189 (Q0 a))::W0 d a f)) H fun X H=>fK<|n4 H
  exact vE<|fE<|e3<|fX rfl<|n2 H
 refine iA [1,3,4,23,24,25]<|vB<|lX (fun((v4,v5,v6):Int×Int×List j5)=>Z [p 1 (R 1),p 3 (R 20),p 4 (I v4),p 23 (L y155 a.2.1.1),p 24 (I (a.2.1.1.length:Int)),p 25 (I v5)] ((20,bx 189 (Q0 a))::W0 d a v6)) (0,0,[]) H fun _ g1 b1 e1 t1 ⟨v4,v5,v6⟩ H=>iA [1,3,4,23,24,25,26]<|vQ<|cD H (fun H=>vK<|fQ<|vQ<|vB<|qD (fun v7=>Z [p 1 (R 1),p 3 (R 20),p 4 (I v4),p 6 (R 6),p 23 (L y155 a.2.1.1),p 24 (I (a.2.1.1.length:Int)),p 25 (I v5)] ((6,K 155 y155 v7)::(20,bx 189 (Q0 a))::W0 d a v6)) H fun v7 H=>iD M0h [1,3,4,6,23,24,25] H fun _ H=>jD Me [1,3,4,23,24,25] H fun _ H=>fK<|fQ<|jB [1,3,4,23,24,25] H fun H=>b1 H) fun H=>vE<|fE<|e1<|fX rfl<|n0 H
def FD(a:Int):Option Bool :=
 gd ((A8 a 0 1000000).isSome/\True) <|
 some (vl (A8 a 0 1000000))
def R0m:Ct:=c7 210 [.dat i64] (fun x=>FD x.1) (fun r:Bool=>B r) (fun _=>())
theorem O0U:Ok prog R0m:=by
 refine c8 [.tmp 2] func210 ?_;intro y ⟨_,_⟩ r H Q hn hr;have:=hz (tc Ab tn);refine iA [0]<|iB [2] H fun H=>a8<|hr H
def Bh(a:B0):Option Bool :=
 gd ((P3 a).isSome/\(vl (P3 a)=true/\True->(FD a.1).isSome)/\((vl (P3 a)&&vl (FD a.1))=true/\True->(FD a.2).isSome)/\True) <|
 some (vl (P3 a)&&vl (FD a.1)&&vl (FD a.2))
def S0d:Ct:=c7 158 [.agg y73] (fun x=>Bh x.1) (fun r:Bool=>B r) (fun _=>())
theorem M0g:Ok prog S0d:=by
 refine c8 [.tmp 2] func158 ?_;intro y ⟨_,_⟩ r H Q hn hr;have:=hz (tc O0U (tc SU tn));refine iA [1]<|iB [2] H fun H=>a8<|hr H
def GS(a:List B0):Option Int :=
 some (a.length:Int)
def S0e:Ct:=c7 157 [.dat y73.sl] (fun x=>GS x.1) (fun r:Int=>I r) (fun _=>())
theorem P0o:Ok prog S0e:=by
 refine c8 [.tmp 2] func157 ?_;intro y ⟨_,_⟩ r H Q hn hr;refine iA [0]<|iA [2]<|a8<|hr H
def IK(a:List Bool):Option Int :=
 some (a.length:Int)
def S0f:Ct:=c7 156 [.dat Ty.bool.sl] (fun x=>IK x.1) (fun r:Int=>I r) (fun _=>())
theorem P0p:Ok prog S0f:=by
 refine c8 [.tmp 2] func156 ?_;intro y ⟨_,_⟩ r H Q hn hr;refine iA [0]<|iA [2]<|a8<|hr H
def A0Q:Unit->Option Bool
 | _ =>
 some true
def A0P(b:C0)(c:Int->Option Bool):Int->Option Bool
 | a =>
 if(decide (a < (b.1.length:Int))) then
  gd (ix a b.1.length/\True) <|
  gd (ix a b.2.1.length/\(P3 (b.2.1.getD a.toNat (a7 y73))).isSome/\((!vl (P3 (b.2.1.getD a.toNat (a7 y73))))=false/\True->ix a b.2.2.length)/\((!vl (P3 (b.2.1.getD a.toNat (a7 y73))))=false/\True->(Bh (b.2.2.getD a.toNat (a7 y73))).isSome)/\((!b.1.getD a.toNat false)=true/\(!vl (P3 (b.2.1.getD a.toNat (a7 y73)))||!vl (Bh (b.2.2.getD a.toNat (a7 y73))))=false/\True->ix a b.2.1.length)/\((!((b.2.1.getD a.toNat (a7 y73)).1==0&&((b.2.1.getD a.toNat (a7 y73)).2==0&&true)))=false/\(!b.1.getD a.toNat false)=true/\(!vl (P3 (b.2.1.getD a.toNat (a7 y73)))||!vl (Bh (b.2.2.getD a.toNat (a7 y73))))=false/\True->ix a b.2.2.length)/\True)<|lt (!vl (P3 (b.2.1.getD a.toNat (a7 y73)))||!vl (Bh (b.2.2.getD a.toNat (a7 y73)))||!b.1.getD a.toNat false&&(!((b.2.1.getD a.toNat (a7 y73)).1==0&&((b.2.1.getD a.toNat (a7 y73)).2==0&&true))||!((b.2.2.getD a.toNat (a7 y73)).1==0&&((b.2.2.getD a.toNat (a7 y73)).2==0&&true)))) fun d =>
  if d then
   some false
  else
   gd (b9 (a+1)/\True) <|
   c (a+1)
 else
  A0Q ()
def MF(c:C6)(a:C0):Option Bool :=
 gd ((Q8 c).isSome/\True)<|lt (vl (Q8 c)) fun b =>
 gd ((IK a.1).isSome/\((vl (IK a.1) != b)=false/\True->(GS a.2.1).isSome)/\((vl (IK a.1) != b||vl (GS a.2.1) != b)=false/\True->(GS a.2.2).isSome)/\True)<|lt ((vl (IK a.1),vl (GS a.2.1),vl (GS a.2.2))) fun(e,f,d) =>
 if(e != b||f != b||d != b) then
  some false
 else
  lp (A0P a) 0
def S0X:Ct:=c7 103 [.dat y189.pt,.agg y65] (fun x=>MF x.1 x.2.1) (fun r:Bool=>B r) (fun _=>())
theorem P0I:Ok prog S0X:=by
 refine c8 [.tmp 4] func103 ?_;intro y ⟨_,a,_⟩ r H Q hn hr;have:=hz (tc M0g (tc SU (tc P0o (tc P0p (tc Ma tn)))));refine iA [0,3]<|iD Ma [3,5] H fun c H=>vQ<|qD (fun(f,g,e)=>Z [p 3 (R 3),p 28 (B (f != c||g != c||e != c))] [(3,K 65 y65 a)]) H fun⟨f,g,e⟩ H =>
  cD H (fun H=>iA [4]<|a8<|fR<|hr H) fun H=>vK<|fQ<|jN r (fun(_:Unit)=>Z [] []) (A0Q) (fun _ H=>?_) (fun _ j n i=>?_)
 ·refine iA [4]<|a8<|hr H
 refine iA [3,30,31,32]<|vB<|lX (fun(b:Int)=>Z [p 3 (R 3),p 30 (L Ty.bool a.1),p 31 (I (a.1.length:Int)),p 32 (I b)] [(3,K 65 y65 a)]) 0 H fun _ m k h l b H=>iA [3,30,31,32,33]<|vQ<|cD H (fun H=>?_) (fun H=>?_)
 ·refine vK<|fQ<|vQ<|vB<|iB [3,6,7,30,31,32] H fun H=>qD (fun d=>Z [p 3 (R 3),p 30 (L Ty.bool a.1),p 31 (I (a.1.length:Int)),p 32 (I b),p 74 (B d)] [(3,K 65 y65 a)]) H fun d H=>cD H (fun H=>iA [4]<|a8<|j0<|fR<|l<|j0<|i<|hr H) fun H=>vK<|fK<|fQ<|jB [3,30,31,32] H fun H=>k H
 exact vE<|fE<|h<|fX rfl<|j H
def GU(a:List j5):Option Int :=
 some (a.length:Int)
def S0b:Ct:=c7 160 [.dat y138.sl] (fun x=>GU x.1) (fun r:Int=>I r) (fun _=>())
theorem P0n:Ok prog S0b:=by
 refine c8 [.tmp 2] func160 ?_;intro y ⟨_,_⟩ r H Q hn hr;refine iA [0]<|iA [2]<|a8<|hr H
def IL(b:C6)(a:List Int):Option Bool :=
 gd ((GU b.2.2.1).isSome/\b9 (vl (GU b.2.2.1)-1)/\(I7 a 0 (vl (GU b.2.2.1)-1)).isSome/\(vl (I7 a 0 (vl (GU b.2.2.1)-1))=true/\True->(CJ a).isSome)/\True) <|
 some (vl (I7 a 0 (vl (GU b.2.2.1)-1))&&vl (CJ a))
def S0W:Ct:=c7 104 [.dat y189.pt,.dat i64.sl] (fun x=>IL x.1 x.2.1) (fun r:Bool=>B r) (fun _=>())
theorem P0H:Ok prog S0W:=by
 refine c8 [.tmp 4] func104 ?_;intro y ⟨_,_,_⟩ r H Q hn hr;have:=hz (tc M0f (tc Md (tc P0n tn)));refine iA [0,1]<|iB [4] H fun H=>a8<|hr H
def A0O:Unit->Option Bool
 | _ =>
 some true
def A0N(c:C6)(d:List r8)(e:Int->Option Bool):Int->Option Bool
 | b =>
 if(decide (b < (d.length:Int))) then
  gd (ix b d.length/\True)<|lt (d.getD b.toNat (a7 y75)) fun a =>
  gd ((T4 c a.1).isSome/\((!vl (T4 c a.1))=false/\True->(P3 a.2.1).isSome)/\((!vl (T4 c a.1)||!vl (P3 a.2.1))=false/\True->(Bh a.2.2).isSome)/\(decide (0<b)=true/\(!vl (T4 c a.1)||!vl (P3 a.2.1)||!vl (Bh a.2.2))=false/\True->b9 (b-1))/\(decide (0<b)=true/\(!vl (T4 c a.1)||!vl (P3 a.2.1)||!vl (Bh a.2.2))=false/\True->ix (b-1) d.length)/\True) <|
  if(!vl (T4 c a.1)||!vl (P3 a.2.1)||!vl (Bh a.2.2)||decide (0<b)&&decide (a.1<=(d.getD (b-1).toNat (a7 y75)).1)) then
   some false
  else
   gd (b9 (b+1)/\True) <|
   e (b+1)
 else
  A0O ()
def MG(b:C6)(a:List r8):Option Bool :=
 lp (A0N b a) 0
def S0V:Ct:=c7 105 [.dat y189.pt,.dat y75.sl] (fun x=>MG x.1 x.2.1) (fun r:Bool=>B r) (fun _=>())
theorem P0G:Ok prog S0V:=by
 refine c8 [.tmp 4] func105 ?_;intro y ⟨c,a,_⟩ r H Q hn hr;have:=hz (tc M0g (tc SU (tc o63 tn)));refine iA [0,1]<|jN r (fun(_:Unit)=>Z [] []) (A0O) (fun _ H=>?_) (fun _ g k f=>?_)
 ·refine iA [4]<|a8<|hr H
 refine iA [0,1,7,8,9]<|vB<|lX (fun(b:Int)=>Z [p 0 (D y189.pt c),p 1 (L y75 a),p 7 (L y75 a),p 8 (I (a.length:Int)),p 9 (I b)] []) 0 H fun _ j h e i b H=>iA [0,1,7,8,9,10]<|vQ<|cD H (fun H=>?_) (fun H=>?_)
 ·refine vK<|fQ<|vQ<|vB<|qD (fun d=>Z [p 0 (D y189.pt c),p 1 (L y75 a),p 5 (I b),p 6 (R 6),p 7 (L y75 a),p 8 (I (a.length:Int)),p 9 (I b)] [(6,K 75 y75 d)]) H fun d H=>iB [0,1,7,8,9,45] H fun H=>cD H (fun H=>iA [4]<|a8<|j0<|fR<|i<|j0<|f<|hr H) fun H=>vK<|fK<|fQ<|jB [0,1,7,8,9] H fun H=>h H
 exact vE<|fE<|e<|fX rfl<|g H
def A0M(b:C6):List Bool->Option I6
 | a =>
 some (b,a)
def A0K(b:List Int)(d:C6)(e:Int×List Bool->Option I6):Int×List Bool->Option I6
 | (a,c) =>
 if(decide (a < (b.length:Int))) then
  gd (ix a b.length/\True) <|
  gd (ix (b.getD a.toNat 0) c.length/\Int.toNat (b.getD a.toNat 0)<c.length/\True) <|
  gd (b9 (a+1)/\True) <|
  e ((a+1,c.set (Int.toNat (b.getD a.toNat 0)) false))
 else
  A0M d c
def MH(b:List Int)(c:C6):List Bool->Option I6
 | a =>
 lp (A0K b c) (0,a)
def A0L(f:List Int)(d:C6)(e:Int)(c:Int×List Bool->Option I6):Int×List Bool->Option I6
 | (a,b) =>
 if(decide (a<e)) then
  gd (ix a b.length/\a.toNat<b.length/\True) <|
  gd (b9 (a+1)/\True) <|
  c (a+1,b.set a.toNat true)
 else
  MH f d b
def MI(a:C6)(c:List Int):Option I6 :=
 gd ((0<=(a.2.2.1.length:Int)/\(a.2.2.1.length:Int)=(a.2.2.1.length:Int)/\(a.2.2.1.length:Int).toNat*1<=281474976710656/\(a.2.2.1.length:Int)<=9223372036854775807)/\True) <|
 lt ((↑(List.replicate (a.2.2.1.length:Int).toNat false).length:Int)) fun b =>
 lp (A0L c a b) ((0,List.replicate (a.2.2.1.length:Int).toNat false))
def S0U:Ct:=c7 106 [.dat y189.pt,.dat i64.sl] (fun x=>MI x.1 x.2.1) (fun r:I6=>D y126.pt r) (fun _=>())
theorem M0s:Ok prog S0U:=by
 refine c8 [.tmp 4] func106 ?_;intro y ⟨a,b,_⟩ r H Q hn hr;refine iA [0,1]<|iB [1,5] H fun H=>jN r (fun(c:List Bool)=>Z [p 1 (L i64 b),p 5 (R 17)] (W7 a c)) (MH b a) (fun c H=>?_) (fun _ j s v=>?_)
 ·refine jN r (fun(h:List Bool)=>Z [p 5 (R 17)] (W7 a h)) (A0M a) (fun h H=>?_) (fun _ l u w=>?_)
  ·refine iA [4]<|a8<|hr H
  refine iA [5,33,34,35]<|vB<|lX (fun((f,e):Int×List Bool)=>Z [p 5 (R 17),p 33 (L i64 b),p 34 (I (b.length:Int)),p 35 (I f)] (W7 a e)) (0,c) H fun _ t k n z ⟨f,e⟩ H=>iA [5,33,34,35,36]<|vQ<|cD H (fun H=>vK<|fQ<|vQ<|vB<|iB [5,8,33,34,35] H fun H=>jB [5,33,34,35] H fun H=>fK<|fQ<|jB [5,33,34,35] H fun H=>k H) fun H=>vE<|fE<|n<|fX rfl<|l H
 refine qC (fun d=>Z [p 1 (L i64 b),p 5 (R 17),p 22 (I d),p 23 (I 0)] (W7 a (List.replicate (a.2.2.1.length:Int).toNat false))) H fun d H=>vB<|lX (fun((i,g):Int×List Bool)=>Z [p 1 (L i64 b),p 5 (R 17),p 22 (I d),p 23 (I i)] (W7 a g)) ((0,List.replicate (a.2.2.1.length:Int).toNat false)) H fun _ x o m q ⟨i,g⟩ H=>iA [1,5,22,23,24]<|vQ<|cD H (fun H=>vK<|fQ<|vQ<|vB<|iA [1,5,6,22,23]<|jB [1,5,22,23] H fun H=>fK<|fQ<|jB [1,5,22,23] H fun H=>o H) fun H=>vE<|fE<|m<|fX rfl<|j H
def TA(b:j5)(a:Int):Option Bool :=
 some (b.1==a)
def R0k:Ct:=c7 213 [.agg y138,.dat (.pt i64)] (fun x=>TA x.1 x.2.1) (fun r:Bool=>B r) (fun _=>())
theorem L0M:Ok prog R0k:=by
 refine c8 [.tmp 3] func213 ?_;intro y ⟨_,_,_⟩ r H Q hn hr;refine iA [1,2]<|iA [3]<|a8<|hr H
def k0l:List Int->Option (List Int)
 | a =>
 some a
def TB(a:Int)(b:List Int×Int->Option (List Int)):List Int->Option (List Int)
 | c =>
 gd (b9 (a+1)/\True) <|
 b (c,a+1)
def k0k(b:I6)(f:Int)(d:List Int×Int->Option (List Int)):List Int×Int->Option (List Int)
 | (c,a) =>
 if(decide (a < (b.1.2.2.1.length:Int))) then
  gd (ix a b.1.2.2.1.length/\True)<|lt (b.1.2.2.1.getD a.toNat (a7 y138)) fun e =>
  gd (ix a b.2.length/\(b.2.getD a.toNat false=true/\True->(TA e f).isSome)/\True) <|
  if(b.2.getD a.toNat false&&vl (TA e f)) then
   gd ((c.length+[a].length<=9223372036854775807/\(c.length+[a].length)*8<=140737488355328)/\True) <|
   TB a d (c++[a])
  else
   TB a d c
 else
  k0l c
def PG(b:I6)(a:Int):Option (List Int) :=
 lp (k0k b a) ([],0)
def y0c:Ct:=c7 162 [.dat y126.pt,.fn 213 (.pt i64)] (fun x=>PG x.1 x.2.1) (fun r:List Int=>AV.ow 2 true i64 r) (fun _=>())
theorem TC:Ok prog y0c:=by
 refine c8 [.tmp 4] func162 ?_;intro y ⟨a,c,_⟩ r H Q hn hr;have:=hz (tc L0M tn);refine iA [0,1]<|iA [0,1,5]<|jN r (fun(g:List Int)=>Z [p 5 (O 36)] [(36,A 2 i64 g 0)]) (k0l) (fun g H=>?_) (fun _ k o m=>?_)
 ·refine iA [4]<|a8<|hr H
 refine iA [0,1,5,14,15,16]<|vB<|lX (fun((d,b):List Int×Int)=>Z [p 0 (D y126.pt a),p 1 (AV.fn 213 [D i64.pt c]),p 5 (O 36),p 14 (L y138 a.1.2.2.1),p 15 (I (a.1.2.2.1.length:Int)),p 16 (I b)] [(36,A 2 i64 d 0)]) ([],0) H fun _ i l j n ⟨d,b⟩ H=>iA [0,1,5,14,15,16,17]<|vQ<|cD H (fun H=>?_) (fun H=>?_)
 ·refine vK<|fQ<|jN r (fun(e:List Int)=>Z [p 0 (D y126.pt a),p 1 (AV.fn 213 [D i64.pt c]),p 5 (O 36),p 14 (L y138 a.1.2.2.1),p 15 (I (a.1.2.2.1.length:Int)),p 16 (I b)] [(36,A 2 i64 e 0)]) (TB b i) (fun e H=>?_) (fun _ f s q=>?_)
  ·refine jB [0,1,5,14,15,16] H fun H=>l H
  refine vB<|qD (fun h=>Z [p 0 (D y126.pt a),p 1 (AV.fn 213 [D i64.pt c]),p 5 (O 36),p 6 (I b),p 7 (R 7),p 14 (L y138 a.1.2.2.1),p 15 (I (a.1.2.2.1.length:Int)),p 16 (I b)] [(7,K 138 y138 h),(36,A 2 i64 d 0)]) H fun h H=>iB [0,1,5,6,14,15,16,32] H fun H=>cD H (fun H=>jB [0,1,5,14,15,16] H fun H=>fK<|f H) fun H=>vK<|fK<|f H
 exact vE<|fE<|j<|fX rfl<|k H
def GV(b:I6)(a:Int):Option (List Int) :=
 gd ((PG b a).isSome/\True)<|lt (vl (PG b a)) fun c =>
 some c
def R0X:Ct:=c7 165 [.dat y126.pt,.dat i64] (fun x=>GV x.1 x.2.1) (fun r:List Int=>AV.ow 2 true i64 r) (fun _=>())
theorem M0c:Ok prog R0X:=by
 refine c8 [.tmp 4] func165 ?_;intro y ⟨_,_,_⟩ r H Q hn hr;have:=hz (tc OZ (tc TC (tc L0M tn)));refine iA [0,3]<|iD TC [4] H fun _ H=>a8<|hr H
def z0Z:Unit->Option Int
 | _ =>
 some (-1)
def z0Y(d:Int)(b:List Int)(c:Int->Option Int):Int->Option Int
 | a =>
 if(decide (a < (b.length:Int))) then
  gd (ix a b.length/\True) <|
  if(d==b.getD a.toNat 0) then
   some a
  else
   gd (b9 (a+1)/\True) <|
   c (a+1)
 else
  z0Z ()
def PH(b:List Int)(a:Int):Option Int :=
 lp (z0Y a b) 0
def R0Y:Ct:=c7 164 [.dat i64.sl,.dat i64] (fun x=>PH x.1 x.2.1) (fun r:Int=>I r) (fun _=>())
theorem M0d:Ok prog R0Y:=by
 refine c8 [.tmp 4] func164 ?_;intro y ⟨a,f,_⟩ r H Q hn hr;refine iA [0,1]<|jN r (fun(_:Unit)=>Z [] []) (z0Z) (fun _ H=>?_) (fun _ e j d=>?_)
 ·refine iA [4]<|a8<|hr H
 refine iA [0,1,7,8]<|vB<|lX (fun(b:Int)=>Z [p 0 (L i64 a),p 1 (J f),p 7 (I (a.length:Int)),p 8 (I b)] []) 0 H fun _ i g c h b H=>iA [0,1,7,8,9]<|vQ<|cD H (fun H=>?_) (fun H=>?_)
 ·refine vK<|fQ<|vQ<|vB<|iA [0,1,5,7,8]<|iB [0,1,5,7,8,16] H fun H=>cD H (fun H=>iA [4]<|a8<|j0<|fR<|h<|j0<|d<|hr H) fun H=>vK<|fK<|fQ<|jB [0,1,7,8] H fun H=>g H
 exact vE<|fE<|c<|fX rfl<|e H
def TD(_:j5):Option Bool :=
 some true
def R0Z:Ct:=c7 163 [.agg y138] (fun x=>TD x.1) (fun r:Bool=>B r) (fun _=>())
theorem M0e:Ok prog R0Z:=by
 refine c8 [.tmp 2] func163 ?_;intro y ⟨_,_⟩ r H Q hn hr;refine iA []<|iA [2]<|a8<|hr H
def k0p:List Int->Option (List Int)
 | a =>
 some a
def TE(a:Int)(b:List Int×Int->Option (List Int)):List Int->Option (List Int)
 | c =>
 gd (b9 (a+1)/\True) <|
 b (c,a+1)
def k0o(b:I6)(d:List Int×Int->Option (List Int)):List Int×Int->Option (List Int)
 | (c,a) =>
 if(decide (a < (b.1.2.2.1.length:Int))) then
  gd (ix a b.1.2.2.1.length/\True)<|lt (b.1.2.2.1.getD a.toNat (a7 y138)) fun e =>
  gd (ix a b.2.length/\(b.2.getD a.toNat false=true/\True->(TD e).isSome)/\True) <|
  if(b.2.getD a.toNat false&&vl (TD e)) then
   gd ((c.length+[a].length<=9223372036854775807/\(c.length+[a].length)*8<=140737488355328)/\True) <|
   TE a d (c++[a])
  else
   TE a d c
 else
  k0p c
def PJ(a:I6):Option (List Int) :=
 lp (k0o a) ([],0)
def y0e:Ct:=c7 162 [.dat y126.pt,.nof 163] (fun x=>PJ x.1) (fun r:List Int=>AV.ow 2 true i64 r) (fun _=>())
theorem q0y:Ok prog y0e:=by
 refine c8 [.tmp 4] func162 ?_;intro y ⟨a,_,_⟩ r H Q hn hr;have:=hz (tc M0e tn);refine iA [0,1]<|iA [0,1,5]<|jN r (fun(f:List Int)=>Z [p 5 (O 36)] [(36,A 2 i64 f 0)]) (k0p) (fun f H=>?_) (fun _ j n l=>?_)
 ·refine iA [4]<|a8<|hr H
 refine iA [0,1,5,14,15,16]<|vB<|lX (fun((c,b):List Int×Int)=>Z [p 0 (D y126.pt a),p 1 (AV.fn 163 []),p 5 (O 36),p 14 (L y138 a.1.2.2.1),p 15 (I (a.1.2.2.1.length:Int)),p 16 (I b)] [(36,A 2 i64 c 0)]) ([],0) H fun _ h k i m ⟨c,b⟩ H=>iA [0,1,5,14,15,16,17]<|vQ<|cD H (fun H=>?_) (fun H=>?_)
 ·refine vK<|fQ<|jN r (fun(d:List Int)=>Z [p 0 (D y126.pt a),p 1 (AV.fn 163 []),p 5 (O 36),p 14 (L y138 a.1.2.2.1),p 15 (I (a.1.2.2.1.length:Int)),p 16 (I b)] [(36,A 2 i64 d 0)]) (TE b h) (fun d H=>?_) (fun _ e q o=>?_)
  ·refine jB [0,1,5,14,15,16] H fun H=>k H
  refine vB<|qD (fun g=>Z [p 0 (D y126.pt a),p 1 (AV.fn 163 []),p 5 (O 36),p 6 (I b),p 7 (R 7),p 14 (L y138 a.1.2.2.1),p 15 (I (a.1.2.2.1.length:Int)),p 16 (I b)] [(7,K 138 y138 g),(36,A 2 i64 c 0)]) H fun g H=>iB [0,1,5,6,14,15,16,32] H fun H=>cD H (fun H=>jB [0,1,5,14,15,16] H fun H=>fK<|e H) fun H=>vK<|fK<|e H
 exact vE<|fE<|i<|fX rfl<|j H
def A0J:List Int->Option (List Int×Bool)
 | a =>
 some (a,true)
def PK(a:Int)(d:List Int×Int×List Int->Option (List Int×Bool)):List Int×List Int->Option (List Int×Bool)
 | (c,b) =>
 gd (b9 (a+1)/\True) <|
 d (c,a+1,b)
def PL(d:I6)(b:List Int)(g:Int)(f:List Int)(h:Int)(i:List Int×Int×List Int->Option (List Int×Bool))(j:Int×List Int->Option (List Int×Bool)):Int×List Int->Option (List Int×Bool)
 | (a,c) =>
 if(decide (a < (b.length:Int))) then
  gd (ix a b.length/\a.toNat<b.length/\True) <|
  gd (ix (b.getD a.toNat 0) d.1.2.2.1.length/\ix (d.1.2.2.1.getD (Int.toNat (b.getD a.toNat 0)) (a7 y138)).2.1 c.length/\(d.1.2.2.1.getD (Int.toNat (b.getD a.toNat 0)) (a7 y138)).2.1.toNat<c.length/\b9 (c.getD (d.1.2.2.1.getD (Int.toNat (b.getD a.toNat 0)) (a7 y138)).2.1.toNat 0-1)/\ix (d.1.2.2.1.getD (Int.toNat (b.getD a.toNat 0)) (a7 y138)).2.1 c.length/\(d.1.2.2.1.getD (Int.toNat (b.getD a.toNat 0)) (a7 y138)).2.1.toNat<c.length/\True)<|lt (c.set (d.1.2.2.1.getD (Int.toNat (b.getD a.toNat 0)) (a7 y138)).2.1.toNat (c.getD (d.1.2.2.1.getD (Int.toNat (b.getD a.toNat 0)) (a7 y138)).2.1.toNat 0-1)) fun e =>
  gd (b9 (a+1)/\True) <|
  j (a+1,e)
 else
  PK g i (f++[h],c)
def A0I(e:I6)(g:List Int)(h:List Int×Int×List Int->Option (List Int×Bool)):List Int×Int×List Int->Option (List Int×Bool)
 | (c,d,b) =>
 if(decide (d < (g.length:Int))) then
  gd ((PH b 0).isSome/\True)<|lt (vl (PH b 0)) fun a =>
  if(decide (a<0)) then
   some ([],false)
  else
   gd (ix a b.length/\a.toNat<b.length/\True) <|
   gd ((c.length+[a].length<=9223372036854775807/\(c.length+[a].length)*8<=140737488355328)/\True) <|
   gd ((GV e a).isSome/\True)<|lt (vl (GV e a)) fun f =>
   lp (PL e f d c a h) ((0,b.set a.toNat (-1)))
 else
  A0J c
def MJ(b:I6):List Int->Option (List Int×Bool)
 | a =>
 lp (A0I b a) ([],0,a)
def TF(c:I6)(b:List Int)(e:Int×List Int->Option (List Int×Bool)):Int×List Int->Option (List Int×Bool)
 | (a,d) =>
 if(decide (a < (b.length:Int))) then
  gd (ix a b.length/\a.toNat<b.length/\True) <|
  gd (ix (b.getD a.toNat 0) c.1.2.2.1.length/\ix (c.1.2.2.1.getD (Int.toNat (b.getD a.toNat 0)) (a7 y138)).2.1 d.length/\(c.1.2.2.1.getD (Int.toNat (b.getD a.toNat 0)) (a7 y138)).2.1.toNat<d.length/\b9 (d.getD (c.1.2.2.1.getD (Int.toNat (b.getD a.toNat 0)) (a7 y138)).2.1.toNat 0+1)/\ix (c.1.2.2.1.getD (Int.toNat (b.getD a.toNat 0)) (a7 y138)).2.1 d.length/\(c.1.2.2.1.getD (Int.toNat (b.getD a.toNat 0)) (a7 y138)).2.1.toNat<d.length/\True)<|lt (d.set (c.1.2.2.1.getD (Int.toNat (b.getD a.toNat 0)) (a7 y138)).2.1.toNat (d.getD (c.1.2.2.1.getD (Int.toNat (b.getD a.toNat 0)) (a7 y138)).2.1.toNat 0+1)) fun f =>
  gd (b9 (a+1)/\True) <|
  e (a+1,f)
 else
  MJ c d
def MK(a:I6):Option (List Int×Bool) :=
 gd ((Q8 a.1).isSome/\(0<=vl (Q8 a.1)/\vl (Q8 a.1)=vl (Q8 a.1)/\(vl (Q8 a.1)).toNat*8<=281474976710656/\vl (Q8 a.1)<=9223372036854775807)/\True)<|lt (vl (Q8 a.1)) fun b =>
 gd ((PJ a).isSome/\True)<|lt (vl (PJ a)) fun c =>
 lp (TF a c) (0,List.replicate b.toNat 0)
def S0T:Ct:=c7 107 [.dat y126.pt] (fun x=>MK x.1) (fun r:List Int×Bool=>AV.tup [AV.ow 2 true i64 r.1,B r.2]) (fun _=>())
theorem M0r:Ok prog S0T:=by
 refine c8 [.tmp 2,.tmp 3] func107 ?_;intro y ⟨d,_⟩ r H Q hn hr;have:=hz (tc M0c (tc M0d (tc M0e (tc OZ (tc TC (tc q0y (tc Ma tn)))))));refine iA [0]<|iD Ma [0,4] H fun x H=>jN r (fun(g:List Int)=>Z [p 0 (D y126.pt d),p 4 (O 16)] [(16,A 3 i64 g 0)]) (MJ d) (fun g H=>?_) (fun _ t e0 t0=>?_)
 ·refine iA [0,4,7]<|jN r (fun(m:List Int)=>Z [p 7 (O 55)] [(55,A 2 i64 m 0)]) (A0J) (fun m H=>?_) (fun _ P e2 F=>?_)
  ·refine iA [2,3]<|a8<|hr H
  refine iA [0,4,7,42,43]<|vB<|lX (fun((c,a,f):List Int×Int×List Int)=>Z [p 0 (D y126.pt d),p 4 (O 16),p 7 (O 55),p 42 (I (g.length:Int)),p 43 (I a)] [(16,A 3 i64 f 0),(55,A 2 i64 c 0)]) ([],0,g) H fun _ v E W T ⟨c,a,f⟩ H=>iA [0,4,7,42,43,44]<|vQ<|cD H (fun H=>?_) (fun H=>?_)
  ·refine vK<|fQ<|jN r (fun((k,i):List Int×List Int)=>Z [p 0 (D y126.pt d),p 4 (O 16),p 7 (O 55),p 42 (I (g.length:Int)),p 43 (I a)] [(55,A 2 i64 k 0),(16,A 3 i64 i 0)]) (PK a v) (fun⟨k,i⟩ H=>?_) (fun _ u e4 G=>?_)
   ·refine jB [0,4,7,42,43] H fun H=>E H
   refine vB<|iD M0d [0,4,7,8,42,43] H fun h H=>vQ<|iA [0,4,7,8,42,43,48]<|cD H (fun H=>iA [2,3]<|a8<|fR<|j0<|G<|T<|j0<|F<|hr H) fun H=>vK<|fQ<|iB [0,4,7,8,42,43] H fun H=>iB [0,4,7,8,42,43] H fun H=>iD M0c [0,4,7,42,43,58,59,60] H fun b H=>vB<|lX (fun((e,l):Int×List Int)=>Z [p 0 (D y126.pt d),p 4 (O 16),p 7 (O 55),p 42 (I (g.length:Int)),p 43 (I a),p 58 (O 58),p 59 (I (b.length:Int)),p 60 (I e)] [(58,A 2 i64 b 0),(55,A 2 i64 (c++[h]) 0),(16,A 3 i64 l 0)]) ((0,f.set h.toNat (-1))) H fun _ g5 w z Y ⟨e,l⟩ H=>iA [0,4,7,42,43,58,59,60,61]<|vQ<|cD H (fun H=>vK<|fQ<|vQ<|vB<|iB [0,4,7,10,42,43,58,59,60] H fun H=>zD (fun j=>Z [p 0 (D y126.pt d),p 4 (O 16),p 7 (O 55),p 42 (I (g.length:Int)),p 43 (I a),p 58 (O 58),p 59 (I (b.length:Int)),p 60 (I e)] [(16,A 3 i64 j 0),(58,A 2 i64 b 0),(55,A 2 i64 (c++[h]) 0)]) H fun j H=>fK<|fQ<|jB [0,4,7,42,43,58,59,60] H fun H=>w H) fun H=>vE<|fE<|z<|fX rfl<|fK<|u H
  exact vE<|fE<|W<|fX rfl<|P H
 refine iD q0y [0,4,18,19,20] H fun n H=>vB<|lX (fun((o,q):Int×List Int)=>Z [p 0 (D y126.pt d),p 4 (O 16),p 18 (O 18),p 19 (I (n.length:Int)),p 20 (I o)] [(18,A 2 i64 n 0),(16,A 3 i64 q 0)]) (0,List.replicate x.toNat 0) H fun _ g1 X V t1 ⟨o,q⟩ H=>iA [0,4,18,19,20,21]<|vQ<|cD H (fun H=>vK<|fQ<|vQ<|vB<|iB [0,4,6,18,19,20] H fun H=>zD (fun s=>Z [p 0 (D y126.pt d),p 4 (O 16),p 18 (O 18),p 19 (I (n.length:Int)),p 20 (I o)] [(16,A 3 i64 s 0),(18,A 2 i64 n 0)]) H fun s H=>fK<|fQ<|jB [0,4,18,19,20] H fun H=>X H) fun H=>vE<|fE<|V<|fX rfl<|t H
def T5(b:j1)(f:r5)(c:List Int)(h:List r8)(e:C0):Option (Int ⊕ I6×List Int×Int) :=
 gd ((II b).isSome/\((!vl (II b))=false/\True->(Mx f).isSome)/\True) <|
 if(!vl (II b)||!vl (Mx f)) then
  some (Sum.inl 1)
 else
  gd ((ME b).isSome/\True)<|lt (vl (ME b)) fun a =>
  gd ((true=true/\True->(MF a e).isSome)/\True) <|
  if(true&&!vl (MF a e)) then
   some (Sum.inl 1)
  else
   gd ((IL a c).isSome/\((!vl (IL a c))=false/\True->(MG a h).isSome)/\True) <|
   if(!vl (IL a c)||!vl (MG a h)) then
    some (Sum.inl 2)
   else
    gd ((MI a c).isSome/\True)<|lt (vl (MI a c)) fun d =>
    gd ((MK d).isSome/\True)<|lt (vl (MK d)) fun g =>
    if(!g.2) then
     some (Sum.inl 7)
    else
     some (Sum.inr (d,g.1,(0:Int)))
def k51:Ct:=c7 51 [.agg j6,.agg A0,.dat i64.sl,.dat y75.sl,.dat y65.pt] (fun x=>T5 x.1 x.2.1 x.2.2.1 x.2.2.2.1 x.2.2.2.2.1) (two (fun r:Int=>AV.tup [AV.v (Value.pointer none),AV.v (Value.slice none 0 0),I r]) (fun r:I6×List Int×Int=>AV.tup [D y126.pt r.1,AV.ow 2 true i64 r.2.1,I r.2.2])) (fun _=>())
def P0W:Ct:=PM 51 [.agg j6,.agg A0,.dat i64.sl,.dat y75.sl,.dat y65.pt] (fun x=>T5 x.1 x.2.1 x.2.2.1 x.2.2.2.1 x.2.2.2.2.1) (fun r:Int=>AV.tup [AV.v (Value.pointer none),AV.v (Value.slice none 0 0),I r]) ()
def P0V:Ct:=PN 51 [.agg j6,.agg A0,.dat i64.sl,.dat y75.sl,.dat y65.pt] (fun x=>T5 x.1 x.2.1 x.2.2.1 x.2.2.2.1 x.2.2.2.2.1) (fun r:I6×List Int×Int=>AV.tup [D y126.pt r.1,AV.ow 2 true i64 r.2.1,I r.2.2]) ()
theorem o51:Ok prog k51:=by
 refine c8 [.tmp 10,.tmp 11,.tmp 12] func51 ?_;intro y ⟨_,_,_,_,_,_⟩ r H Q hn hr;have:=hz (tc M0r (tc M0s (tc P0G (tc P0H (tc P0I (tc M0t (tc P0J (tc P0K tn))))))));refine iA [2,3,4,5,6]<|vQ<|iB [2,3,4,5,24] H fun H=>cD H (fun H=>iA [10,11,12]<|a8<|fR<|hr H) fun H=>vK<|fQ<|iD M0t [2,3,4,13] H fun _ H=>vQ<|vB<|iB [2,3,13,27] H fun H=>cD H (fun H=>iA [10,11,12]<|a8<|j0<|fR<|hr H) fun H=>iB [2,13,38] H fun H=>cD H (fun H=>iA [10,11,12]<|a8<|j0<|fR<|hr H) fun H=>vK<|fK<|fQ<|iD M0s [14] H fun _ H=>iD M0r [14,15,16] H fun _ H=>vQ<|iA [14,15,58]<|cD H (fun H=>iA [10,11,12]<|a8<|fR<|hr H) fun H=>vK<|fQ<|iA [10,11,12]<|a8<|hr H
theorem O0m:Ok prog P0W:=L0u o51
theorem O0l:Ok prog P0V:=L0t o51
def u17(d:j1)(b:r5)(f:List Int)(c:List r8)(a:C0)(h:Int)(e:Int):Option (Int×Int) :=
 if(BY (T5 d b f c a)) then
  gd (BY (T5 d b f c a)=true/\True) <|
  if(vL (T5 d b f c a) != 0) then
   some (((0:Int),vL (T5 d b f c a)))
  else
   gd ((BS e).isSome/\True) <|
   if(!vl (BS e)) then
    some (((0:Int),(2:Int)))
   else
    none
 else
  gd (IM (T5 d b f c a)=true/\True)<|lt (vR (T5 d b f c a)) fun g =>
  if(g.2.2 != 0) then
   some (((0:Int),g.2.2))
  else
   gd ((BS e).isSome/\True) <|
   if(!vl (BS e)) then
    some (((0:Int),(2:Int)))
   else
    gd ((DA g.1 b c a h e).isSome/\True)<|lt (vl (DA g.1 b c a h e)) fun i =>
    some i
def ML(c:I6)(d:r5)(f:List r8)(h:C0)(e:Int)(k:Int×List Int->Option (Int ⊕ List Int×Int)):Int×List Int->Option (Int ⊕ List Int×Int)
 | (g,b) =>
 gd ((DA c d f h g e).isSome/\True)<|lt (vl (DA c d f h g e)) fun a =>
 if(a.2 != 0) then
  some (Sum.inl a.2)
 else
  if(decide (a.1<0)) then
   gd ((IN b).isSome/\True)<|lt (vl (IN b)) fun i =>
   some (Sum.inr (i,(0:Int)))
  else
   gd ((b.length+[a.1].length<=9223372036854775807/\(b.length+[a.1].length)*8<=140737488355328)/\True) <|
   gd (ix a.1 c.1.2.2.1.length/\True)<|lt (c.1.2.2.1.getD a.1.toNat (a7 y138)) fun j =>
   k (j.1,b++[a.1])
def T6(b:I6)(c:r5)(e:List r8)(f:C0)(a:Int)(d:Int):Option (Int ⊕ List Int×Int) :=
 lp (ML b c e f d) (a,[])
def k77:Ct:=c7 77 [.dat y126.pt,.agg A0,.dat y75.sl,.agg y65,.dat i64,.dat i64] (fun x=>T6 x.1 x.2.1 x.2.2.1 x.2.2.2.1 x.2.2.2.2.1 x.2.2.2.2.2.1) (two (fun r:Int=>AV.tup [AV.v (Value.slice none 0 0),I r]) (fun r:List Int×Int=>AV.tup [AV.ow 2 true i64 r.1,I r.2])) (fun _=>())
def P0U:Ct:=PM 77 [.dat y126.pt,.agg A0,.dat y75.sl,.agg y65,.dat i64,.dat i64] (fun x=>T6 x.1 x.2.1 x.2.2.1 x.2.2.2.1 x.2.2.2.2.1 x.2.2.2.2.2.1) (fun r:Int=>AV.tup [AV.v (Value.slice none 0 0),I r]) ()
def P0T:Ct:=PN 77 [.dat y126.pt,.agg A0,.dat y75.sl,.agg y65,.dat i64,.dat i64] (fun x=>T6 x.1 x.2.1 x.2.2.1 x.2.2.2.1 x.2.2.2.2.1 x.2.2.2.2.2.1) (fun r:List Int×Int=>AV.tup [AV.ow 2 true i64 r.1,I r.2]) ()
theorem o77:Ok prog k77:=by
 refine c8 [.tmp 12,.tmp 13] func77 ?_;intro y ⟨b,d,f,g,i,e,_⟩ r H Q hn hr;have:=hz (tc o53 tn);refine vQ<|zX Fo (HT.h) 1 [0,2,4,5,7,9] (y65) (Z [p 0 (D y126.pt b),p 2 (L y75 f),p 4 (J i),p 5 (J e),p 7 (R 7),p 9 (D y65.pt g)] [(7,K 58 A0 d)]) (V:=True) (W:=True) (by kernel_rfl) ⟨trivial,trivial⟩<|fQ<|iA [0,2,4,5,7,9,14]<|vB<|lX (fun((l,c):Int×List Int)=>Z [p 0 (D y126.pt b),p 2 (L y75 f),p 4 (J l),p 5 (J e),p 7 (R 7),p 9 (D y65.pt g),p 14 (O 38)] [(7,K 58 A0 d),(38,A 2 i64 c 0)]) (i,[]) H fun _ o m n j ⟨l,c⟩ H=>vB<|qD (fun a=>Z [p 0 (D y126.pt b),p 2 (L y75 f),p 5 (J e),p 7 (R 7),p 9 (D y65.pt g),p 14 (O 38),p 15 (I a.1),p 16 (I a.2)] [(7,K 58 A0 d),(38,A 2 i64 c 0)]) H fun a H=>vQ<|iA [0,2,5,7,9,14,15,16,28]<|cD H (fun H=>iA [12,13]<|a8<|fR<|j0<|j<|j0<|hr H) fun H=>vK<|fQ<|vQ<|iA [0,2,5,7,9,14,15,31]<|cD H (fun H=>vQ<|B0G O0h rfl rfl rfl rfl rfl H fun _ H=>fQ<|iA [12,13]<|a8<|fR<|j0<|j<|j0<|hr H) fun H=>vK<|fQ<|iB [0,2,5,7,9,14,15] H fun H=>zD (fun k=>Z [p 0 (D y126.pt b),p 2 (L y75 f),p 4 (J k.1),p 5 (J e),p 7 (R 7),p 9 (D y65.pt g),p 14 (AV.os 38 1)] [(38,A 2 i64 (c++[a.1]) 1),(37,A 2 i64 [a.1] 0),(7,K 58 A0 d)]) H fun k H=>fK<|m H
theorem O0k:Ok prog P0U:=L0u o77
theorem O0j:Ok prog P0T:=L0t o77
def PO(f:j1)(b:r5)(g:List Int)(c:List r8)(a:C0)(h:Int)(d:Int):Option (List Int×Int) :=
 if(BY (T5 f b g c a)) then
  gd (BY (T5 f b g c a)=true/\True) <|
  if(vL (T5 f b g c a) != 0) then
   some (([],vL (T5 f b g c a)))
  else
   gd ((BS d).isSome/\True) <|
   if(!vl (BS d)) then
    some (([],(2:Int)))
   else
    none
 else
  gd (IM (T5 f b g c a)=true/\True)<|lt (vR (T5 f b g c a)) fun e =>
  if(e.2.2 != 0) then
   some ([],e.2.2)
  else
   gd ((BS d).isSome/\True) <|
   if(!vl (BS d)) then
    some (([],(2:Int)))
   else
    if(BY (T6 e.1 b c a h d)) then
     gd (BY (T6 e.1 b c a h d)=true/\True) <|
     some (([],vL (T6 e.1 b c a h d)))
    else
     gd (IM (T6 e.1 b c a h d)=true/\True)<|lt (vR (T6 e.1 b c a h d)) fun i =>
     some i
def k33:Ct:=c7 33 [.agg j6,.agg A0,.dat i64.sl,.dat y75.sl,.agg y65,.dat i64,.dat i64] (fun x=>PO x.1 x.2.1 x.2.2.1 x.2.2.2.1 x.2.2.2.2.1 x.2.2.2.2.2.1 x.2.2.2.2.2.2.1) (fun r:List Int×Int=>AV.tup [AV.ow 2 true i64 r.1,I r.2]) (fun _=>())
theorem o33:Ok prog k33:=by
 refine c8 [.tmp 14,.tmp 15] func33 ?_;intro y ⟨b,c,j,i,e,f,g,_⟩ r H Q hn hr;have:=hz (tc o52 tn);refine vQ<|zX Fo (HT.h) 2 [2,3,5,6,7,8,11] (y65) (Z [p 2 (L i64 j),p 3 (L y75 i),p 5 (J f),p 6 (J g),p 7 (R 7),p 8 (R 8),p 11 (D y65.pt e)] [(8,K 58 A0 c),(7,K 56 j6 b)]) (V:=True) (W:=True) (by kernel_rfl) ⟨trivial,trivial⟩<|fQ<|sp H (fun H=>?_) (fun H=>?_)
 ·have:=hz (tc O0m (HT.h));refine iB [3,5,6,8,11,16,18] H fun H=>vQ<|vB<|iA [3,5,6,8,11,16,18,28]<|cD H (fun H=>iA [14,15]<|a8<|j0<|fR<|hr H) fun H=>iB [3,5,6,8,11,16,32] H fun H=>cD H (fun H=>iA [14,15]<|a8<|j0<|fR<|hr H) fun H=>vK<|fK<|fQ<|M0F H
 have:=hz (tc O0l (HT.h));refine qD (fun a=>Z [p 3 (L y75 i),p 5 (J f),p 6 (J g),p 8 (R 8),p 11 (D y65.pt e),p 16 (D y126.pt a.1),p 18 (I a.2.2)] [(24,A 2 i64 a.2.1 0),(8,K 58 A0 c),(7,K 56 j6 b)]) H fun a H=>vQ<|vB<|iA [3,5,6,8,11,16,18,28]<|cD H (fun H=>iA [14,15]<|a8<|j0<|fR<|hr H) fun H=>iB [3,5,6,8,11,16,32] H fun H=>cD H (fun H=>iA [14,15]<|a8<|j0<|fR<|hr H) fun H=>vK<|fK<|fQ<|sp H (fun H=>?_) (fun H=>?_)
 ·have:=hz (tc O0k (HT.h));refine iB [14,15] H fun H=>a8<|hr H
 have:=hz (tc O0j (HT.h));refine qD (fun d=>Z [p 14 (O 42),p 15 (I d.2)] [(42,A 2 i64 d.1 0),(24,A 2 i64 a.2.1 0),(8,K 58 A0 c),(7,K 56 j6 b)]) H fun d H=>a8<|hr H
def TH:Int->Option Int
 | a =>
 some a
def F0s(c:List Int)(d:Int×Int->Option Int):Int×Int->Option Int
 | (b,a) =>
 if(decide (a < (c.length:Int))) then
  gd (ix a c.length/\True) <|
  if(c.getD a.toNat 0 != b) then
   some (-1)
  else
   gd (b9 (b+1)/\True) <|
   gd (b9 (a+1)/\True) <|
   d (b+1,a+1)
 else
  TH b
def TJ(b:List Int)(a:Int):Option Int :=
 lp (F0s b) (a,0)
def k34:Ct:=c7 34 [.dat i64.sl,.dat i64] (fun x=>TJ x.1 x.2.1) (fun r:Int=>I r) (fun _=>())
theorem o34:Ok prog k34:=by
 refine c8 [.tmp 4] func34 ?_;intro y ⟨g,h,_⟩ r H Q hn hr;refine iA [0,1]<|jN r (fun(c:Int)=>Z [p 1 (J c)] []) (TH) (fun c H=>?_) (fun _ f l e=>?_)
 ·refine iA [4]<|a8<|hr H
 refine iA [0,1,5]<|vB<|lX (fun((a,b):Int×Int)=>Z [p 0 (L i64 g),p 1 (J a),p 5 (I b)] []) (h,0) H fun _ k i d j ⟨a,b⟩ H=>vQ<|iA [0,1,5,9]<|cD H (fun H=>?_) (fun H=>?_)
 ·refine vK<|fQ<|vQ<|vB<|vQ<|iB [0,1,5,17] H fun H=>cD H (fun H=>iA [4]<|a8<|fR<|j0<|fR<|j<|j0<|e<|hr H) fun H=>vK<|fQ<|jB [0,1,5] H fun H=>fK<|fQ<|jB [0,1,5] H fun H=>i H
 exact vE<|fE<|d<|fX rfl<|f H
end Go.Proofs.YtechodbafnmddaaGreatDoor
end
