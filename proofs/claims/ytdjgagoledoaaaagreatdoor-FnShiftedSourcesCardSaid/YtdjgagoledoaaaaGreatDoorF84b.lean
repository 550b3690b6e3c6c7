/- Functions of this program as plain functions of data, and that they are so: printed by program. -/
import Derived.Test.YtdjgagoledoaaaaGreatDoorF84a
section
namespace Go.Proofs.YtdjgagoledoaaaaGreatDoor
open Go Go.Proofs Go.Proofs.Sv Go.Proofs.Xv Go.Proofs.Xl Go.RowKit
open Tryz
def ID(a:w8):Option Bool :=
 gd ((Bi a.1).isSome/\(vl (Bi a.1)=true/\True->(Bi a.2.1).isSome)/\((vl (Bi a.1)&&vl (Bi a.2.1))=true/\True->j0 ((a.1.length:Int)*(a.2.1.length:Int)))/\((vl (Bi a.1)&&vl (Bi a.2.1)&&(a.2.2.length:Int)==(a.1.length:Int)*(a.2.1.length:Int))=true/\True->(I9 a.2.2 (-1000000) 1000000).isSome)/\True) <|
 some (vl (Bi a.1)&&vl (Bi a.2.1)&&(a.2.2.length:Int)==(a.1.length:Int)*(a.2.1.length:Int)&&vl (I9 a.2.2 (-1000000) 1000000))
def P0s:Ct:=k6 248 [.agg y70] (fun x=>ID x.1) (fun r:Bool=>B r) (fun _=>())
theorem O0m:Ok prog P0s:=by
 refine l5 [.tmp 2] func248 ?_;intro y ⟨_,_⟩ r H Q hn hr;have:=hz (tc Lp (tc O0l tn));refine iA [1]<|iB [2] H fun H=>j5<|hr H
def Lw(a:w8)(b:Bool):Option Bool :=
 gd ((ID a).isSome/\(b=true/\(!vl (ID a))=false/\True->(IC a.2.2).isSome)/\True)<|lt (vl (IC a.2.2)) fun c =>
 some (!vl (ID a)||b&&decide (c<0))
def P0t:Ct:=k6 247 [.agg y70,.dat (.pt Ty.bool)] (fun x=>Lw x.1 x.2.1) (fun r:Bool=>B r) (fun _=>())
theorem Ui:Ok prog P0t:=by
 refine l5 [.tmp 3] func247 ?_;intro y ⟨_,_,_⟩ r H Q hn hr;have:=hz (tc M0q (tc O0m tn));refine iA [1,2]<|iD M0q [3] H fun _ H=>j5<|hr H
def j0z:Unit->Option Int
 | _ =>
 some (-1)
def r0G(b:List w8)(c:Bool)(d:Int->Option Int):Int->Option Int
 | a =>
 if(decide (a < (b.length:Int))) then
  gd (ix a b.length/\(Lw (b.getD a.toNat (a6 y70)) c).isSome/\True) <|
  if(vl (Lw (b.getD a.toNat (a6 y70)) c)) then
   some a
  else
   gd (j0 (a+1)/\True) <|
   d (a+1)
 else
  j0z ()
def Pw(b:List w8)(a:Bool):Option Int :=
 lp (r0G b a) 0
def y0W:Ct:=k6 252 [.dat y70.sl,.fn 247 Ty.bool.pt] (fun x=>Pw x.1 x.2.1) (fun r:Int=>I r) (fun _=>())
theorem q0p:Ok prog y0W:=by
 refine l5 [.tmp 4] func252 ?_;intro y ⟨b,c,_⟩ r H Q hn hr;have:=hz (tc Ui tn);refine iA [0,1]<|jN r (fun(_:Unit)=>Z [] []) (j0z) (fun _ H=>?_) (fun _ d i g=>?_)
 ·refine iA [4]<|j5<|hr H
 refine iA [0,1,7,8]<|vB<|lX (fun(a:Int)=>Z [p 0 (L y70 b),p 1 (AV.fn 247 [D Ty.bool.pt c]),p 7 (I (b.length:Int)),p 8 (I a)] []) 0 H fun _ j h f e a H=>iA [0,1,7,8,9]<|vQ<|cD H (fun H=>?_) (fun H=>?_)
 ·refine vK<|fQ<|vQ<|vB<|iA [0,1,5,7,8]<|iB [0,1,5,7,8,16] H fun H=>cD H (fun H=>iA [4]<|j5<|m4<|fR<|e<|m4<|g<|hr H) fun H=>vK<|fK<|fQ<|jB [0,1,7,8] H fun H=>h H
 exact vE<|fE<|f<|fX rfl<|d H
def Px(a:List w8)(b:Bool):Option Bool :=
 gd ((Pw a b).isSome/\True)<|lt (vl (Pw a b)) fun c =>
 some (decide (0<=c))
def y0Y:Ct:=k6 246 [.dat y70.sl,.fn 247 (.pt Ty.bool)] (fun x=>Px x.1 x.2.1) (fun r:Bool=>B r) (fun _=>())
theorem y0B:Ok prog y0Y:=by
 refine l5 [.tmp 4] func246 ?_;intro y ⟨_,_,_⟩ r H Q hn hr;have:=hz (tc q0p (tc Ui tn));refine iA [0,1]<|iD q0p [4] H fun _ H=>j5<|hr H
def W9(a:List w8)(b:Bool):Option Bool :=
 gd ((((a.length:Int)==2)=true/\True->(Px a b).isSome)/\True) <|
 some ((a.length:Int)==2&&!vl (Px a b))
def P0A:Ct:=k6 235 [.dat y70.sl,.dat Ty.bool] (fun x=>W9 x.1 x.2.1) (fun r:Bool=>B r) (fun _=>())
theorem O0p:Ok prog P0A:=by
 refine l5 [.tmp 4] func235 ?_;intro y ⟨_,_,_⟩ r H Q hn hr;have:=hz (tc y0B (tc Ui tn));refine iA [0,3]<|iB [4] H fun H=>j5<|hr H
def Uj(a:I8):Option Bool :=
 some a.2.2.2
def P0q:Ct:=k6 251 [.agg y233] (fun x=>Uj x.1) (fun r:Bool=>B r) (fun _=>())
theorem M0p:Ok prog P0q:=by
 refine l5 [.tmp 2] func251 ?_;intro y ⟨_,_⟩ r H Q hn hr;refine iA [1]<|iA [2]<|j5<|hr H
def j0A:Unit->Option Int
 | _ =>
 some (-1)
def r0H(b:List I8)(c:Int->Option Int):Int->Option Int
 | a =>
 if(decide (a < (b.length:Int))) then
  gd (ix a b.length/\(Uj (b.getD a.toNat (a6 y233))).isSome/\True) <|
  if(vl (Uj (b.getD a.toNat (a6 y233)))) then
   some a
  else
   gd (j0 (a+1)/\True) <|
   c (a+1)
 else
  j0A ()
def Py(a:List I8):Option Int :=
 lp (r0H a) 0
def y0X:Ct:=k6 250 [.dat y233.sl,.nof 251] (fun x=>Py x.1) (fun r:Int=>I r) (fun _=>())
theorem q0q:Ok prog y0X:=by
 refine l5 [.tmp 4] func250 ?_;intro y ⟨b,_,_⟩ r H Q hn hr;have:=hz (tc M0p tn);refine iA [0,1]<|jN r (fun(_:Unit)=>Z [] []) (j0A) (fun _ H=>?_) (fun _ c h f=>?_)
 ·refine iA [4]<|j5<|hr H
 refine iA [0,1,7,8]<|vB<|lX (fun(a:Int)=>Z [p 0 (L y233 b),p 1 (AV.fn 251 []),p 7 (I (b.length:Int)),p 8 (I a)] []) 0 H fun _ i g e d a H=>iA [0,1,7,8,9]<|vQ<|cD H (fun H=>?_) (fun H=>?_)
 ·refine vK<|fQ<|vQ<|vB<|iA [0,1,5,7,8]<|iB [0,1,5,7,8,16] H fun H=>cD H (fun H=>iA [4]<|j5<|m4<|fR<|d<|m4<|f<|hr H) fun H=>vK<|fK<|fQ<|jB [0,1,7,8] H fun H=>g H
 exact vE<|fE<|e<|fX rfl<|c H
def IE(a:m5):Option Int :=
 gd ((Py a.2.2.1).isSome/\True)<|lt (vl (Py a.2.2.1)) fun b =>
 some b
def P0z:Ct:=k6 236 [.agg y64] (fun x=>IE x.1) (fun r:Int=>I r) (fun _=>())
theorem M0s:Ok prog P0z:=by
 refine l5 [.tmp 2] func236 ?_;intro y ⟨_,_⟩ r H Q hn hr;have:=hz (tc M0p (tc q0q tn));refine iA [1]<|iD q0q [2] H fun _ H=>j5<|hr H
def Pz(a:Int):Option Bool :=
 some (a==4||a==5)
def P0B:Ct:=k6 234 [.dat i64] (fun x=>Pz x.1) (fun r:Bool=>B r) (fun _=>())
theorem O0q:Ok prog P0B:=by
 refine l5 [.tmp 2] func234 ?_;intro y ⟨_,_⟩ r H Q hn hr;refine iA [0]<|iA [2]<|j5<|hr H
def Lx(b:m5)(a:B3):Bool->Option Bool
 | c =>
 if c then
  gd (ix a.2.1 b.2.2.1.length/\True) <|
  some ((b.2.2.1.getD a.2.1.toNat (a6 y233)).2.2.2&&a.2.2.2.1==0)
 else
  some false
def GK(b:m5)(a:B3):Option Bool :=
 gd ((Pz a.1).isSome/\True) <|
 if(vl (Pz a.1)) then
  gd (((a.2.2.2.1==0&&(a.2.2.2.2.2.length:Int)==0)=true/\True->(W9 a.2.2.2.2.1 false).isSome)/\((a.2.2.2.1==0&&(a.2.2.2.2.2.length:Int)==0&&vl (W9 a.2.2.2.2.1 false))=true/\True->(IE b).isSome)/\((a.2.2.2.1==0&&(a.2.2.2.2.2.length:Int)==0&&vl (W9 a.2.2.2.2.1 false)&&a.2.1==vl (IE b)&&decide (0<=a.2.1))=true/\True->(GJ b a.2.2.1).isSome)/\True)<|lt (vl (IE b)) fun d =>
  some (a.2.2.2.1==0&&(a.2.2.2.2.2.length:Int)==0&&vl (W9 a.2.2.2.2.1 false)&&a.2.1==d&&decide (0<=a.2.1)&&vl (GJ b a.2.2.1)&&a.2.2.1 != a.2.1)
 else
  gd ((W9 a.2.2.2.2.1 true).isSome/\((!vl (W9 a.2.2.2.2.1 true))=false/\True->(W9 a.2.2.2.2.2 true).isSome)/\((!vl (W9 a.2.2.2.2.1 true)||!vl (W9 a.2.2.2.2.2 true))=false/\True->(W7 b).isSome)/\((!vl (W9 a.2.2.2.2.1 true)||!vl (W9 a.2.2.2.2.2 true)||a.2.2.1 != vl (W7 b))=false/\True->(GJ b a.2.1).isSome)/\True)<|lt (vl (W7 b)) fun c =>
  if(!vl (W9 a.2.2.2.2.1 true)||!vl (W9 a.2.2.2.2.2 true)||a.2.2.1 != c||!vl (GJ b a.2.1)) then
   some false
  else
   if(a.1==1) then
    gd (ix a.2.1 b.2.2.1.length/\((!(b.2.2.1.getD a.2.1.toNat (a6 y233)).2.2.2)=true/\True->(B4 a.2.2.2.1 1 3).isSome)/\True) <|
    some (!(b.2.2.1.getD a.2.1.toNat (a6 y233)).2.2.2&&vl (B4 a.2.2.2.1 1 3))
   else
    if(a.1==2) then
     Lx b a (a.1==2)
    else
     Lx b a (a.1==3)
def P0L:Ct:=k6 220 [.agg y64,.agg y67] (fun x=>GK x.1 x.2.1) (fun r:Bool=>B r) (fun _=>())
theorem O0x:Ok prog P0L:=by
 refine l5 [.tmp 4] func220 ?_;intro y ⟨b,a,_⟩ r H Q hn hr;have:=hz (tc Ai (tc O0o (tc Lv (tc O0p (tc M0s (tc O0q tn))))));refine iA [2,3]<|vQ<|iB [2,3,7] H fun H=>cD H (fun H=>iD M0s [4] H fun _ H=>j5<|fR<|hr H) fun H=>vK<|fQ<|vQ<|iD Lv [2,3,70] H fun _ H=>cD H (fun H=>iA [4]<|j5<|fR<|hr H) fun H=>vK<|fQ<|vQ<|iA [2,3,72]<|vB<|iA [2,3,72,73]<|cD H (fun H=>iB [4] H fun H=>j5<|m4<|fR<|hr H) fun H=>jN r (fun(d:Bool)=>Z (G7 [p 88 (B d)]) [(3,K 67 y67 a),(2,K 64 y64 b)]) (Lx b a) (fun d H=>?_) (fun _ c e f=>?_)
 ·refine cD H (fun H=>iB [4] H fun H=>j5<|m4<|fR<|hr H) fun H=>vK<|fK<|fQ<|iA [4]<|j5<|hr H
 refine iA [2,3,72,88]<|cD H (fun H=>vK<|c H) fun H=>jA [2,3,88]<|c H
def Uk(b:B3)(a:B3):Option Bool :=
 some (b.1==a.1&&b.2.1==a.2.1&&b.2.2.1==a.2.2.1)
def P0K:Ct:=k6 222 [.agg y67,.dat (.pt y67)] (fun x=>Uk x.1 x.2.1) (fun r:Bool=>B r) (fun _=>())
theorem Um:Ok prog P0K:=by
 refine l5 [.tmp 3] func222 ?_;intro y ⟨_,_,_⟩ r H Q hn hr;refine iA [1,2]<|iA [3]<|j5<|hr H
def j0C:Unit->Option Int
 | _ =>
 some (-1)
def r0J(b:List B3)(c:B3)(d:Int->Option Int):Int->Option Int
 | a =>
 if(decide (a < (b.length:Int))) then
  gd (ix a b.length/\(Uk (b.getD a.toNat (a6 y67)) c).isSome/\True) <|
  if(vl (Uk (b.getD a.toNat (a6 y67)) c)) then
   some a
  else
   gd (j0 (a+1)/\True) <|
   d (a+1)
 else
  j0C ()
def PA(b:List B3)(a:B3):Option Int :=
 lp (r0J b a) 0
def z0a:Ct:=k6 238 [.dat y67.sl,.fn 222 y67.pt] (fun x=>PA x.1 x.2.1) (fun r:Int=>I r) (fun _=>())
theorem q0r:Ok prog z0a:=by
 refine l5 [.tmp 4] func238 ?_;intro y ⟨b,c,_⟩ r H Q hn hr;have:=hz (tc Um tn);refine iA [0,1]<|jN r (fun(_:Unit)=>Z [] []) (j0C) (fun _ H=>?_) (fun _ d i g=>?_)
 ·refine iA [4]<|j5<|hr H
 refine iA [0,1,7,8]<|vB<|lX (fun(a:Int)=>Z [p 0 (L y67 b),p 1 (AV.fn 222 [D y67.pt c]),p 7 (I (b.length:Int)),p 8 (I a)] []) 0 H fun _ j h f e a H=>iA [0,1,7,8,9]<|vQ<|cD H (fun H=>?_) (fun H=>?_)
 ·refine vK<|fQ<|vQ<|vB<|iA [0,1,5,7,8]<|iB [0,1,5,7,8,16] H fun H=>cD H (fun H=>iA [4]<|j5<|m4<|fR<|e<|m4<|g<|hr H) fun H=>vK<|fK<|fQ<|jB [0,1,7,8] H fun H=>h H
 exact vE<|fE<|f<|fX rfl<|d H
def Ly(a:List B3)(b:B3):Option Bool :=
 gd ((PA a b).isSome/\True)<|lt (vl (PA a b)) fun c =>
 some (decide (0<=c))
def z0c:Ct:=k6 221 [.dat y67.sl,.fn 222 (.pt y67)] (fun x=>Ly x.1 x.2.1) (fun r:Bool=>B r) (fun _=>())
theorem y0C:Ok prog z0c:=by
 refine l5 [.tmp 4] func221 ?_;intro y ⟨_,_,_⟩ r H Q hn hr;have:=hz (tc Ue (tc q0r (tc Um tn)));refine iA [0,1]<|iD q0r [4] H fun _ H=>j5<|hr H
def PB(a:m5):Unit->Option Bool
 | _ =>
 some (decide ((a.2.2.2.1.length:Int)<=8))
def A0u(a:m5)(d:Int->Option Bool):Int->Option Bool
 | b =>
 if(decide (b < (a.2.2.2.1.length:Int))) then
  gd (ix b a.2.2.2.1.length/\True)<|lt (a.2.2.2.1.getD b.toNat (a6 y67)) fun c =>
  gd ((GK a c).isSome/\((!vl (GK a c))=false/\True->(0:Int)<=(0:Int)/\(0:Int)<=b/\b<=(a.2.2.2.1.length:Int))/\((!vl (GK a c))=false/\True->(Ly (List.take b.toNat a.2.2.2.1) c).isSome)/\True) <|
  if(!vl (GK a c)||vl (Ly (List.take b.toNat a.2.2.2.1) c)) then
   some false
  else
   gd (j0 (b+1)/\True) <|
   d (b+1)
 else
  PB a ()
def GL(a:m5):Option Bool :=
 lp (A0u a) 0
def P0Y:Ct:=k6 202 [.agg y64] (fun x=>GL x.1) (fun r:Bool=>B r) (fun _=>())
theorem O0C:Ok prog P0Y:=by
 refine l5 [.tmp 2] func202 ?_;intro y ⟨a,_⟩ r H Q hn hr;have:=hz (tc q0s (tc y0C (tc Um (tc O0x tn))));refine iA [1]<|jN r (fun(_:Unit)=>Z [p 1 (R 1)] [(1,K 64 y64 a)]) (PB a) (fun _ H=>?_) (fun _ d i g=>?_)
 ·refine iA [2]<|j5<|hr H
 refine iA [1,6,7,8]<|vB<|lX (fun(b:Int)=>Z [p 1 (R 1),p 6 (L y67 a.2.2.2.1),p 7 (I (a.2.2.2.1.length:Int)),p 8 (I b)] [(1,K 64 y64 a)]) 0 H fun _ j h f e b H=>iA [1,6,7,8,9]<|vQ<|cD H (fun H=>?_) (fun H=>?_)
 ·refine vK<|fQ<|vQ<|vB<|qD (fun c=>Z (U5 b [p 4 (R 4),p 6 (L y67 a.2.2.2.1),p 7 (I (a.2.2.2.1.length:Int)),p 8 (I b)]) [(4,K 67 y67 c),(1,K 64 y64 a)]) H fun c H=>iB [1,6,7,8,24] H fun H=>cD H (fun H=>iA [2]<|j5<|m4<|fR<|e<|m4<|g<|hr H) fun H=>vK<|fK<|fQ<|jB [1,6,7,8] H fun H=>h H
 exact vE<|fE<|f<|fX rfl<|d H
def Lz(a:List I8):List ByteArray->Option Bool
 | b =>
 gd ((Cy a).isSome/\(B4 (vl (Cy a)) 2 5).isSome/\(vl (B4 (vl (Cy a)) 2 5)=true/\True->(Y9 b).isSome)/\True) <|
 some (vl (B4 (vl (Cy a)) 2 5)&&vl (Y9 b))
def PC(a:Int)(b:List ByteArray×Int->Option Bool):List ByteArray->Option Bool
 | c =>
 gd (j0 (a+1)/\True) <|
 b (c,a+1)
def A0v(c:List I8)(e:List ByteArray×Int->Option Bool):List ByteArray×Int->Option Bool
 | (d,b) =>
 if(decide (b < (c.length:Int))) then
  gd (ix b c.length/\True)<|lt (c.getD b.toNat (a6 y233)) fun a =>
  gd ((d.length+[a.1].length<=9223372036854775807/\(d.length+[a.1].length)*16<=140737488355328)/\True) <|
  gd (j0 ((c.length:Int)-1)/\True) <|
  if(b==(c.length:Int)-1) then
   if(a.2.1 != 2||a.2.2.1 != 0||a.2.2.2) then
    some false
   else
    PC b e (d++[a.1])
  else
   gd (((a.2.1 != 1)=false/\True->(B4 a.2.2.1 0 500).isSome)/\True) <|
   if(a.2.1 != 1||!vl (B4 a.2.2.1 0 500)) then
    some false
   else
    PC b e (d++[a.1])
 else
  Lz c d
def Fq(a:List I8):Option Bool :=
 lp (A0v a) ([],0)
def P0Z:Ct:=k6 201 [.dat y233.sl] (fun x=>Fq x.1) (fun r:Bool=>B r) (fun _=>())
theorem O0D:Ok prog P0Z:=by
 refine l5 [.tmp 2] func201 ?_;intro y ⟨a,_⟩ r H Q hn hr;have:=hz (tc Ub (tc Ai (tc Uf tn)));refine iA [0]<|iA [0,3]<|jN r (fun(d:List ByteArray)=>Z [p 0 (L y233 a),p 3 (O 17)] [(17,A 9 Ty.str d 0)]) (Lz a) (fun d H=>?_) (fun _ k o h=>?_)
 ·refine iB [2] H fun H=>j5<|hr H
 refine iA [0,3,6,7,8]<|vB<|lX (fun((c,b):List ByteArray×Int)=>Z [p 0 (L y233 a),p 3 (O 17),p 6 (L y233 a),p 7 (I (a.length:Int)),p 8 (I b)] [(17,A 9 Ty.str c 0)]) ([],0) H fun _ l n m g ⟨c,b⟩ H=>iA [0,3,6,7,8,9]<|vQ<|cD H (fun H=>?_) (fun H=>?_)
 ·refine vK<|fQ<|jN r (fun(j:List ByteArray)=>Z [p 0 (L y233 a),p 3 (O 17),p 6 (L y233 a),p 7 (I (a.length:Int)),p 8 (I b)] [(17,A 9 Ty.str j 0)]) (PC b l) (fun j H=>?_) (fun _ i q f=>?_)
  ·refine jB [0,3,6,7,8] H fun H=>n H
  refine vB<|qD (fun e=>Z [p 0 (L y233 a),p 3 (O 17),p 4 (I b),p 5 (R 5),p 6 (L y233 a),p 7 (I (a.length:Int)),p 8 (I b)] [(5,K 233 y233 e),(17,A 9 Ty.str c 0)]) H fun e H=>iB [0,3,4,5,6,7,8] H fun H=>iB [0,3,5,6,7,8,22] H fun H=>cD H (fun H=>?_) (fun H=>?_)
  ·refine iA [0,3,6,7,8,34]<|cD H (fun H=>iA [2]<|j5<|m4<|f<|g<|m4<|h<|hr H) fun H=>vK<|fK<|i H
  refine iB [0,3,6,7,8,43] H fun H=>cD H (fun H=>iA [2]<|j5<|m4<|f<|g<|m4<|h<|hr H) fun H=>vK<|fK<|i H
 exact vE<|fE<|m<|fX rfl<|k H
def LA(a:m5):Option Bool :=
 gd ((R7 a.1).isSome/\(vl (R7 a.1)=true/\True->(Fq a.2.2.1).isSome)/\((vl (R7 a.1)&&vl (Fq a.2.2.1))=true/\True->(GL a).isSome)/\((vl (R7 a.1)&&vl (Fq a.2.2.1)&&vl (GL a))=true/\True->(B4 a.2.2.2.2.2.1 0 100000).isSome)/\((vl (R7 a.1)&&vl (Fq a.2.2.1)&&vl (GL a)&&vl (B4 a.2.2.2.2.2.1 0 100000))=true/\True->(B4 a.2.2.2.2.2.2 0 100000).isSome)/\((vl (R7 a.1)&&vl (Fq a.2.2.1)&&vl (GL a)&&vl (B4 a.2.2.2.2.2.1 0 100000)&&vl (B4 a.2.2.2.2.2.2 0 100000))=true/\True->(Pv a).isSome)/\True) <|
 some (vl (R7 a.1)&&vl (Fq a.2.2.1)&&vl (GL a)&&vl (B4 a.2.2.2.2.2.1 0 100000)&&vl (B4 a.2.2.2.2.2.2 0 100000)&&vl (Pv a))
def Q0q:Ct:=k6 174 [.agg y64] (fun x=>LA x.1) (fun r:Bool=>B r) (fun _=>())
theorem O0J:Ok prog Q0q:=by
 refine l5 [.tmp 2] func174 ?_;intro y ⟨_,_⟩ r H Q hn hr;have:=hz (tc O0B (tc Ai (tc O0C (tc O0D (tc Ua tn)))));refine iA [1]<|iB [2] H fun H=>j5<|hr H
def LB(b:List m5):List ByteArray->Option Bool
 | a =>
 gd ((decide ((b.length:Int)<=8)=true/\True->(Y9 a).isSome)/\True) <|
 some (decide ((b.length:Int)<=8)&&vl (Y9 a))
def B0h(c:List m5)(e:List ByteArray×Int->Option Bool):List ByteArray×Int->Option Bool
 | (d,b) =>
 if(decide (b < (c.length:Int))) then
  gd (ix b c.length/\True)<|lt (c.getD b.toNat (a6 y64)) fun a =>
  gd ((LA a).isSome/\True) <|
  if(!vl (LA a)) then
   some false
  else
   gd ((d.length+[a.1].length<=9223372036854775807/\(d.length+[a.1].length)*16<=140737488355328)/\True) <|
   gd (j0 (b+1)/\True) <|
   e (d++[a.1],b+1)
 else
  LB c d
def LC(a:List m5):Option Bool :=
 lp (B0h a) ([],0)
def Q0Z:Ct:=k6 133 [.agg y64.sl] (fun x=>LC x.1) (fun r:Bool=>B r) (fun _=>())
theorem O0Z:Ok prog Q0Z:=by
 refine l5 [.tmp 2] func133 ?_;intro y ⟨a,_⟩ r H Q hn hr;have:=hz (tc Ub (tc O0J tn));refine iA [1]<|iA [1,3]<|jN r (fun(d:List ByteArray)=>Z (Dh []) [(1,bx 26 [L y64 a]),(20,A 9 Ty.str d 0)]) (LB a) (fun d H=>?_) (fun _ f k i=>?_)
 ·refine iB [2] H fun H=>j5<|hr H
 refine iA [1,3,7,8,9]<|vB<|lX (fun((b,c):List ByteArray×Int)=>Z (Dh [p 7 (L y64 a),p 8 (I (a.length:Int)),p 9 (I c)]) [(1,bx 26 [L y64 a]),(20,A 9 Ty.str b 0)]) ([],0) H fun _ l j h g ⟨b,c⟩ H=>iA [1,3,7,8,9,10]<|vQ<|cD H (fun H=>?_) (fun H=>?_)
 ·refine vK<|fQ<|vQ<|vB<|qD (fun e=>Z (Dh [p 5 (R 5),p 7 (L y64 a),p 8 (I (a.length:Int)),p 9 (I c)]) [(5,K 64 y64 e),(1,bx 26 [L y64 a]),(20,A 9 Ty.str b 0)]) H fun e H=>vQ<|iB [1,3,5,7,8,9,15] H fun H=>cD H (fun H=>iA [2]<|j5<|fR<|m4<|fR<|g<|m4<|i<|hr H) fun H=>vK<|fQ<|jB [1,3,7,8,9] H fun H=>fK<|fQ<|jB [1,3,7,8,9] H fun H=>j H
 exact vE<|fE<|h<|fX rfl<|f H
def j0L:Unit->Option Int
 | _ =>
 some (-1)
def r0N(b:List Int)(c:Int->Option Int):Int->Option Int
 | a =>
 if(decide (a < (b.length:Int))) then
  gd (ix a b.length/\(TX (b.getD a.toNat 0)).isSome/\True) <|
  if(vl (TX (b.getD a.toNat 0))) then
   some a
  else
   gd (j0 (a+1)/\True) <|
   c (a+1)
 else
  j0L ()
def PD(a:List Int):Option Int :=
 lp (r0N a) 0
def z0f:Ct:=k6 179 [.dat i64.sl,.nof 138] (fun x=>PD x.1) (fun r:Int=>I r) (fun _=>())
theorem q0u:Ok prog z0f:=by
 refine l5 [.tmp 4] func179 ?_;intro y ⟨b,_,_⟩ r H Q hn hr;have:=hz (tc TY tn);refine iA [0,1]<|jN r (fun(_:Unit)=>Z [] []) (j0L) (fun _ H=>?_) (fun _ c h f=>?_)
 ·refine iA [4]<|j5<|hr H
 refine iA [0,1,7,8]<|vB<|lX (fun(a:Int)=>Z [p 0 (L i64 b),p 1 (AV.fn 138 []),p 7 (I (b.length:Int)),p 8 (I a)] []) 0 H fun _ i g e d a H=>iA [0,1,7,8,9]<|vQ<|cD H (fun H=>?_) (fun H=>?_)
 ·refine vK<|fQ<|vQ<|vB<|iA [0,1,5,7,8]<|iB [0,1,5,7,8,16] H fun H=>cD H (fun H=>iA [4]<|j5<|m4<|fR<|d<|m4<|f<|hr H) fun H=>vK<|fK<|fQ<|jB [0,1,7,8] H fun H=>g H
 exact vE<|fE<|e<|fX rfl<|c H
def PE(a:List Int):Option Bool :=
 gd ((PD a).isSome/\True)<|lt (vl (PD a)) fun b =>
 some (decide (0<=b))
def z0j:Ct:=k6 137 [.dat i64.sl,.nof 138] (fun x=>PE x.1) (fun r:Bool=>B r) (fun _=>())
theorem y0E:Ok prog z0j:=by
 refine l5 [.tmp 4] func137 ?_;intro y ⟨_,_,_⟩ r H Q hn hr;have:=hz (tc q0u (tc TY tn));refine iA [0,1]<|iD q0u [4] H fun _ H=>j5<|hr H
def LD:List Int->Option Bool
 | a =>
 gd ((PE a).isSome/\True) <|
 some (!vl (PE a))
def PF(b:Int)(c:Int×List Int->Option Bool):List Int->Option Bool
 | a =>
 gd (j0 (b+1)/\True) <|
 c (b+1,a)
def F0U(c:r9)(e:Int×List Int->Option Bool):Int×List Int->Option Bool
 | (d,b) =>
 if(decide (d < (c.2.2.length:Int))) then
  gd (ix d c.2.2.length/\True)<|lt (c.2.2.getD d.toNat (a6 y202)) fun a =>
  gd (((a.2.1 != 1&&a.2.1 != 2)=false/\True->(GI c a.2.2).isSome)/\True) <|
  if(a.2.1 != 1&&a.2.1 != 2||!vl (GI c a.2.2)) then
   some false
  else
   if(a.2.1==1) then
    gd (ix a.2.2 b.length/\a.2.2.toNat<b.length/\j0 (b.getD a.2.2.toNat 0+1)/\ix a.2.2 b.length/\a.2.2.toNat<b.length/\True) <|
    PF d e (b.set a.2.2.toNat (b.getD a.2.2.toNat 0+1))
   else
    PF d e b
 else
  LD b
def PG(b:r9):List Int->Option Bool
 | a =>
 lp (F0U b) (0,a)
def F0V(c:r9)(e:List m5)(f:Int×List Int->Option Bool):Int×List Int->Option Bool
 | (d,b) =>
 if(decide (d < (c.1.length:Int))) then
  gd (ix d c.1.length/\True)<|lt (c.1.getD d.toNat (a6 y139)) fun a =>
  gd ((Ls c e a).isSome/\True) <|
  if(!vl (Ls c e a)) then
   some false
  else
   gd (j0 ((a.2.2.length:Int)-1)/\ix ((a.2.2.length:Int)-1) a.2.2.length/\ix (a.2.2.getD ((a.2.2.length:Int)-1).toNat 0) b.length/\Int.toNat (a.2.2.getD ((a.2.2.length:Int)-1).toNat 0)<b.length/\j0 (b.getD (Int.toNat (a.2.2.getD ((a.2.2.length:Int)-1).toNat 0)) 0+1)/\ix (a.2.2.getD ((a.2.2.length:Int)-1).toNat 0) b.length/\Int.toNat (a.2.2.getD ((a.2.2.length:Int)-1).toNat 0)<b.length/\True)<|lt (b.set (Int.toNat (a.2.2.getD ((a.2.2.length:Int)-1).toNat 0)) (b.getD (Int.toNat (a.2.2.getD ((a.2.2.length:Int)-1).toNat 0)) 0+1)) fun g =>
   gd (j0 (d+1)/\True) <|
   f (d+1,g)
 else
  PG c b
def LF(b:List m5)(a:r9):Option Bool :=
 gd ((LC b).isSome/\((!vl (LC b))=false/\True->(Pr a).isSome)/\True) <|
 if(!vl (LC b)||!vl (Pr a)) then
  some false
 else
  gd ((0<=(a.2.1.length:Int)/\(a.2.1.length:Int)=(a.2.1.length:Int)/\(a.2.1.length:Int).toNat*8<=281474976710656/\(a.2.1.length:Int)<=9223372036854775807)/\True) <|
  lp (F0V a b) ((0,List.replicate (a.2.1.length:Int).toNat 0))
def k82:Ct:=k6 82 [.agg y64.sl,.agg y31] (fun x=>LF x.1 x.2.1) (fun r:Bool=>B r) (fun _=>())
theorem o82:Ok prog k82:=by
 refine l5 [.tmp 4] func82 ?_;intro y ⟨j,a,_⟩ r H Q hn hr;have:=hz (tc TY (tc y0E (tc M0N (tc O0X (tc O0Y (tc O0Z tn))))));refine iA [2,3]<|vQ<|iB [2,3,17] H fun H=>cD H (fun H=>iA [4]<|j5<|fR<|hr H) fun H=>vK<|fQ<|iB [2,3,5] H fun H=>jN r (fun(i:List Int)=>Z [p 3 (R 3),p 5 (O 21)] [(21,A 3 i64 i 0),(3,K 31 y31 a)]) (PG a) (fun i H=>?_) (fun _ x P q=>?_)
 ·refine jN r (fun(e:List Int)=>Z [p 5 (O 21)] [(21,A 3 i64 e 0)]) (LD) (fun e H=>?_) (fun _ s T n=>?_)
  ·refine iB [4] H fun H=>j5<|hr H
  refine iA [3,5,49,50,51]<|vB<|lX (fun((f,b):Int×List Int)=>Z [p 3 (R 3),p 5 (O 21),p 49 (L y202 a.2.2),p 50 (I (a.2.2.length:Int)),p 51 (I f)] [(21,A 3 i64 b 0),(3,K 31 y31 a)]) (0,i) H fun _ t v E w ⟨f,b⟩ H=>iA [3,5,49,50,51,52]<|vQ<|cD H (fun H=>?_) (fun H=>?_)
  ·refine vK<|fQ<|jN r (fun(d:List Int)=>Z [p 3 (R 3),p 5 (O 21),p 49 (L y202 a.2.2),p 50 (I (a.2.2.length:Int)),p 51 (I f)] [(21,A 3 i64 d 0),(3,K 31 y31 a)]) (PF f t) (fun d H=>?_) (fun _ l G o=>?_)
   ·refine jB [3,5,49,50,51] H fun H=>v H
   refine vB<|qD (fun c=>Z [p 3 (R 3),p 5 (O 21),p 9 (R 9),p 49 (L y202 a.2.2),p 50 (I (a.2.2.length:Int)),p 51 (I f)] [(9,K 202 y202 c),(21,A 3 i64 b 0),(3,K 31 y31 a)]) H fun c H=>vQ<|iB [3,5,9,49,50,51,69] H fun H=>cD H (fun H=>iA [4]<|j5<|fR<|m4<|o<|w<|m4<|n<|hr H) fun H=>vK<|fQ<|iA [3,5,9,49,50,51,72]<|cD H (fun H=>jB [3,5,49,50,51] H fun H=>fK<|l H) fun H=>vK<|fK<|l H
  exact vE<|fE<|E<|fX rfl<|s H
 refine iA [2,3,5,23,24,25]<|vB<|lX (fun((g,k):Int×List Int)=>Z (G7 [p 5 (O 21),p 23 (L y139 a.1),p 24 (I (a.1.length:Int)),p 25 (I g)]) ((21,A 3 i64 k 0)::Gt a j)) ((0,List.replicate (a.2.1.length:Int).toNat 0)) H fun _ V F u z ⟨g,k⟩ H=>iA [2,3,5,23,24,25,26]<|vQ<|cD H (fun H=>?_) (fun H=>?_)
 ·refine vK<|fQ<|vQ<|vB<|qD (fun h=>Z (G7 [p 5 (O 21),p 7 (R 7),p 23 (L y139 a.1),p 24 (I (a.1.length:Int)),p 25 (I g)]) ((7,K 139 y139 h)::(21,A 3 i64 k 0)::Gt a j)) H fun h H=>vQ<|iB [2,3,5,7,23,24,25,33] H fun H=>cD H (fun H=>iA [4]<|j5<|fR<|m4<|fR<|z<|m4<|q<|hr H) fun H=>vK<|fQ<|zD (fun m=>Z (G7 [p 5 (O 21),p 23 (L y139 a.1),p 24 (I (a.1.length:Int)),p 25 (I g)]) ((21,A 3 i64 m 0)::(7,K 139 y139 h)::Gt a j)) H fun m H=>fK<|fQ<|jB [2,3,5,23,24,25] H fun H=>F H
 exact vE<|fE<|u<|fX rfl<|x H
def G0K:Unit->Option Bool
 | _ =>
 some true
def G0I(c:List Int)(d:j9)(e:Int->Option Bool):Int->Option Bool
 | a =>
 if(decide (a < (d.2.2.length:Int))) then
  gd (ix a d.2.2.length/\True)<|lt (d.2.2.getD a.toNat (a6 l7)) fun b =>
  gd (ix a c.length/\a.toNat<c.length/\(Lq b (c.getD a.toNat 0)).isSome/\True) <|
  if(!vl (Lq b (c.getD a.toNat 0))) then
   some false
  else
   gd (j0 (a+1)/\True) <|
   e (a+1)
 else
  G0K ()
def PH(b:j9):List Int->Option Bool
 | a =>
 lp (G0I a b) 0
def PI(a:Int)(b:Int×List Int->Option Bool):List Int->Option Bool
 | c =>
 gd (j0 (a+1)/\True) <|
 b (a+1,c)
def G0J(d:List C0)(g:j9)(e:Int×List Int->Option Bool):Int×List Int->Option Bool
 | (c,a) =>
 if(decide (c < (d.length:Int))) then
  gd (ix c d.length/\c.toNat<d.length/\True)<|lt (d.getD c.toNat (a6 y151)) fun b =>
  if(!b.2.2.2) then
   gd (ix b.2.2.1 a.length/\b.2.2.1.toNat<a.length/\j0 (a.getD b.2.2.1.toNat 0+1)/\ix b.2.2.1 a.length/\b.2.2.1.toNat<a.length/\True)<|lt (a.set b.2.2.1.toNat (a.getD b.2.2.1.toNat 0+1)) fun f =>
   PI c e f
  else
   PI c e a
 else
  PH g a
def IF(a:j9):Option Bool :=
 gd ((LF a.1 a.2.1).isSome/\True) <|
 if(!vl (LF a.1 a.2.1)||(a.2.2.length:Int) != (a.2.1.2.1.length:Int)) then
  some false
 else
  gd ((0<=(a.2.2.length:Int)/\(a.2.2.length:Int)=(a.2.2.length:Int)/\(a.2.2.length:Int).toNat*8<=281474976710656/\(a.2.2.length:Int)<=9223372036854775807)/\True) <|
  gd ((BK a.2.1).isSome/\True)<|lt (vl (BK a.2.1)) fun b =>
  lp (G0J b a) ((0,List.replicate (a.2.2.length:Int).toNat 0))
def k36:Ct:=k6 36 [.agg l9] (fun x=>IF x.1) (fun r:Bool=>B r) (fun _=>())
theorem o36:Ok prog k36:=by
 refine l5 [.tmp 2] func36 ?_;intro y ⟨a,_⟩ r H Q hn hr;have:=hz (tc o84 (tc Fk (tc o82 tn)));refine iA [1]<|vQ<|iB [1,23] H fun H=>cD H (fun H=>iA [2]<|j5<|fR<|hr H) fun H=>vK<|fQ<|iB [1,3] H fun H=>jN r (fun(f:List Int)=>Z [p 1 (R 1),p 3 (O 27)] [(27,A 2 i64 f 0),(1,K 34 l9 a)]) (PH a) (fun f H=>?_) (fun _ q x w=>?_)
 ·refine jN r (fun(_:Unit)=>Z [] []) (G0K) (fun _ H=>?_) (fun _ n3 G o=>?_)
  ·refine iA [2]<|j5<|hr H
  refine iA [3,48,49,50]<|vB<|lX (fun(b:Int)=>Z [p 3 (O 27),p 48 (L l7 a.2.2),p 49 (I (a.2.2.length:Int)),p 50 (I b)] [(27,A 2 i64 f 0)]) 0 H fun _ z u l m b H=>iA [3,48,49,50,51]<|vQ<|cD H (fun H=>?_) (fun H=>?_)
  ·refine vK<|fQ<|vQ<|vB<|qD (fun e=>Z [p 3 (O 27),p 6 (I b),p 7 (R 7),p 48 (L l7 a.2.2),p 49 (I (a.2.2.length:Int)),p 50 (I b)] [(7,K 153 l7 e),(27,A 2 i64 f 0)]) H fun e H=>iB [3,48,49,50,61] H fun H=>cD H (fun H=>iA [2]<|j5<|m4<|fR<|m<|m4<|o<|hr H) fun H=>vK<|fK<|fQ<|jB [3,48,49,50] H fun H=>u H
  exact vE<|fE<|l<|fX rfl<|n3 H
 refine iD Fk [1,3,30,31,32] H fun c H=>vB<|lX (fun((d,h):Int×List Int)=>Z [p 1 (R 1),p 3 (O 27),p 30 (O 30),p 31 (I (c.length:Int)),p 32 (I d)] [(30,A 151 y151 c 0),(27,A 2 i64 h 0),(1,K 34 l9 a)]) ((0,List.replicate (a.2.2.length:Int).toNat 0)) H fun _ s t n F ⟨d,h⟩ H=>iA [1,3,30,31,32,33]<|vQ<|cD H (fun H=>?_) (fun H=>?_)
 ·refine vK<|fQ<|jN r (fun(k:List Int)=>Z [p 1 (R 1),p 3 (O 27),p 30 (O 30),p 31 (I (c.length:Int)),p 32 (I d)] [(27,A 2 i64 k 0),(30,A 151 y151 c 0),(1,K 34 l9 a)]) (PI d s) (fun k H=>?_) (fun _ j E v=>?_)
  ·refine jB [1,3,30,31,32] H fun H=>t H
  refine vB<|qD (fun g=>Z [p 1 (R 1),p 3 (O 27),p 5 (R 5),p 30 (O 30),p 31 (I (c.length:Int)),p 32 (I d)] [(5,bx 151 (r5 true y151 g)),(30,A 151 y151 c 0),(27,A 2 i64 h 0),(1,K 34 l9 a)]) H fun g H=>iA [1,3,5,30,31,32,38]<|cD H (fun H=>zD (fun i=>Z [p 1 (R 1),p 3 (O 27),p 30 (O 30),p 31 (I (c.length:Int)),p 32 (I d)] [(27,A 2 i64 i 0),(5,bx 151 (r5 true y151 g)),(30,A 151 y151 c 0),(1,K 34 l9 a)]) H fun i H=>fK<|j H) fun H=>vK<|fK<|j H
 exact vE<|fE<|n<|fX rfl<|q H
def H0s(b:List Int):Int->Option (List Int×Int×Int)
 | a =>
 some ((b,(0:Int),a))
def H0r(b:List Int)(e:Int×Int->Option (List Int×Int×Int)):Int×Int->Option (List Int×Int×Int)
 | (a,c) =>
 if(decide (a < (b.length:Int))) then
  gd (True/\ix a b.length/\(0<=b.getD a.toNat 0/\b.getD a.toNat 0<=18446744073709551615)/\True/\True/\True)<|lt (((c*1099511628211 % 18446744073709551616+b.getD a.toNat 0) % 18446744073709551616+3) % 18446744073709551616) fun d =>
  gd (j0 (a+1)/\True) <|
  e (a+1,d)
 else
  H0s b c
def LG(a:List Int)(c:Int):Option (List Int×Int×Int) :=
 gd (True/\(0<=(a.length:Int)/\(a.length:Int)<=18446744073709551615)/\True/\True)<|lt ((c*7919 % 18446744073709551616+(a.length:Int)) % 18446744073709551616) fun b =>
 lp (H0r a) (0,b)
def k15:Ct:=k6 15 [.dat (b8.sl),.dat (Ty.int IntKind.u64)] (fun x=>LG x.1 x.2.1) (fun r:List Int×Int×Int=>AV.ob 109 [L b8 r.1,I r.2.1,N (Ty.int IntKind.u64) r.2.2]) (fun _=>())
theorem o15:Ok prog k15:=by
 refine l5 [.tmp 4] func15 ?_;intro y ⟨a,_,_⟩ r H Q hn hr;refine iA [0,1]<|qD (fun b=>Z [p 0 (L b8 a),p 5 (R 15)] [(15,bx 109 [L b8 a,I 0,N (Ty.int IntKind.u64) b])]) H fun b H=>jN r (fun(f:Int)=>Z [p 5 (R 15)] [(15,bx 109 [L b8 a,I 0,N (Ty.int IntKind.u64) f])]) (H0s a) (fun f H=>?_) (fun _ g j m=>?_)
 ·refine iA [4]<|j5<|hr H
 refine iA [0,5,6]<|vB<|lX (fun((c,e):Int×Int)=>Z [p 0 (L b8 a),p 5 (R 15),p 6 (I c)] [(15,bx 109 [L b8 a,I 0,N (Ty.int IntKind.u64) e])]) (0,b) H fun _ k i h l ⟨c,e⟩ H=>vQ<|iA [0,5,6,19]<|cD H (fun H=>vK<|fQ<|vQ<|vB<|zD (fun d=>Z [p 0 (L b8 a),p 5 (R 15),p 6 (I c)] [(15,bx 109 [L b8 a,I 0,N (Ty.int IntKind.u64) d])]) H fun d H=>fK<|fQ<|jB [0,5,6] H fun H=>i H) fun H=>vE<|fE<|h<|fX rfl<|g H
def LH(a:Int)(d:AB)(b:Int):Int×Int->Option (Int×AB)
 | (e,c) =>
 gd (0<a/\True) <|
 some (e.tmod a,d.1,c,b)
def u16(a:AB)(d:Int):Option (Int×AB) :=
 gd (True/\True/\True)<|lt ((a.2.2*6364136223846793005 % 18446744073709551616+1442695040888963407) % 18446744073709551616) fun b =>
 gd ((((0:Int)<=(33:Int)/\(33:Int)<=(62:Int))/\(0:Int)<=b.fdiv ((2:Int) ^ Int.toNat (33:Int))/\b.fdiv ((2:Int) ^ Int.toNat (33:Int))<=(18446744073709551615:Int))/\((0:Int)<=b.fdiv ((2:Int) ^ Int.toNat (33:Int))/\(0:Int)<=(16777215:Int))/\j0 (↑((b.fdiv ((2:Int) ^ Int.toNat (33:Int))).toNat &&& Int.toNat (16777215:Int)):Int)/\True)<|lt ((↑((b.fdiv ((2:Int) ^ Int.toNat (33:Int))).toNat &&& Int.toNat (16777215:Int)):Int)) fun c =>
 if(decide (a.2.1 < (a.1.length:Int))) then
  gd (ix a.2.1 a.1.length/\True/\j0 (c+a.1.getD a.2.1.toNat 0)/\True) <|
  gd (j0 (a.2.1+1)/\True) <|
  LH d a b (c+a.1.getD a.2.1.toNat 0,a.2.1+1)
 else
  LH d a b (c,a.2.1)
def k16:Ct:=k6 16 [.io 109 Un,.dat i64] (fun x=>u16 x.1 x.2.1) (fun r:Int×AB=>I r.1) (fun r=>r.2)
theorem o16:Ok prog k16:=by
 refine l5 [.tmp 4] func16 ?_;intro y ⟨a,c,_⟩ r H Q hn hr;refine iA [0,1]<|qD (fun b=>Z [p 0 (R 500000),p 1 (J c)] [(500000,bx 109 [L b8 a.1,J a.2.1,N (Ty.int IntKind.u64) b])]) H fun b H=>qD (fun f=>Z [p 0 (R 500000),p 1 (J c),p 5 (I f)] [(500000,bx 109 [L b8 a.1,J a.2.1,N (Ty.int IntKind.u64) b])]) H fun f H=>jN r (fun((g,d):Int×Int)=>Z [p 1 (J c),p 5 (I g)] [(500000,bx 109 [L b8 a.1,J d,N (Ty.int IntKind.u64) b])]) (LH c a b) (fun⟨g,d⟩ H=>?_) (fun _ e h i=>?_)
 ·refine iB [4] H fun H=>j5<|hr H
 refine iA [0,1,5,31]<|cD H (fun H=>iB [0,1,5] H fun H=>jB [1,5] H fun H=>e H) fun H=>vK<|e H
def LJ(a:j9)(b:List m6):Option Bool :=
 gd ((R5 a).isSome/\(vl (R5 a)=true/\True->(GD a b).isSome)/\True) <|
 some (vl (R5 a)&&vl (GD a b))
def k17:Ct:=k6 17 [.agg l9,.dat y53.sl] (fun x=>LJ x.1 x.2.1) (fun r:Bool=>B r) (fun _=>())
theorem o17:Ok prog k17:=by
 refine l5 [.tmp 4] func17 ?_;intro y ⟨_,_,_⟩ r H Q hn hr;have:=hz (tc o44 (tc Ix tn));refine iA [1,2]<|iB [4] H fun H=>j5<|hr H
def BM(b:Int)(a:Int)(c:Int):Option Int :=
 gd (0<a/\0<a/\True) <|
 if(c==0&&decide (b.tmod a<0)) then
  gd (j0 (b.tdiv a-1)/\True) <|
  some (b.tdiv a-1)
 else
  if(c==1&&decide (0<b.tmod a)) then
   gd (j0 (b.tdiv a+1)/\True) <|
   some (b.tdiv a+1)
  else
   some (b.tdiv a)
def Q0D:Ct:=k6 160 [.dat i64,.dat i64,.dat i64] (fun x=>BM x.1 x.2.1 x.2.2.1) (fun r:Int=>I r) (fun _=>())
theorem Fs:Ok prog Q0D:=by
 refine l5 [.tmp 6] func160 ?_;intro y ⟨_,_,_,_⟩ r H Q hn hr;refine iA [0,1,2]<|iB [2,7,8] H fun H=>vQ<|vB<|iA [2,7,8,15]<|cD H (fun H=>iB [6] H fun H=>j5<|m4<|fR<|hr H) fun H=>iA [7,24]<|cD H (fun H=>iB [6] H fun H=>j5<|m4<|fR<|hr H) fun H=>vK<|fK<|fQ<|iA [6]<|j5<|hr H
def A0y:Int->Option Int
 | a =>
 some a
def Uo(d:Int)(c:Int×Int->Option Int):Int×Int->Option Int
 | (a,b) =>
 if(decide (a<b)) then
  gd (j0 (a+b)/\j0 (a+b+(1:Int))/\(0:Int) < (2:Int)/\True) <|
  gd (j0 ((a+b+1).tdiv 2*(a+b+1).tdiv 2)/\True) <|
  if(decide ((a+b+1).tdiv 2*(a+b+1).tdiv 2<=d)) then
   c (((a+b+1).tdiv 2,b))
  else
   gd (j0 ((a+b+1).tdiv 2-1)/\True) <|
   c ((a,(a+b+1).tdiv 2-1))
 else
  A0y a
def LK(a:Int):Option Int :=
 lp (Uo a) (0,3000000000)
def Q0c:Ct:=k6 197 [.dat i64] (fun x=>LK x.1) (fun r:Int=>I r) (fun _=>())
theorem M0y:Ok prog Q0c:=by
 refine l5 [.tmp 2] func197 ?_;intro y ⟨e,_⟩ r H Q hn hr;refine iA [0]<|iA [0,3,4]<|jN r (fun(c:Int)=>Z [p 3 (I c)] []) (A0y) (fun c H=>?_) (fun _ f h k=>?_)
 ·refine iA [2]<|j5<|hr H
 refine vB<|lX (fun((a,b):Int×Int)=>Z [p 0 (J e),p 3 (I a),p 4 (I b)] []) (0,3000000000) H fun _ i d g j ⟨a,b⟩ H=>vQ<|iA [0,3,4,8]<|cD H (fun H=>?_) (fun H=>?_)
 ·refine vK<|fQ<|vB<|iB [0,3,4,5] H fun H=>iB [0,3,4,5,18] H fun H=>cD H (fun H=>jA [0,3,4]<|fK<|d H) fun H=>jB [0,3,4] H fun H=>fK<|d H
 exact vE<|fE<|g<|fX rfl<|f H
def X0(a:Int)(b:Int)(d:Int):Option Int :=
 gd (j0 (500*a)/\j0 (500*a*500)/\j0 (500*a*500*a)/\j0 (b*b)/\j0 (500*a*500*a+b*b)/\True) <|
 gd ((LK (500*a*500*a+b*b)).isSome/\True)<|lt (vl (LK (500*a*500*a+b*b))) fun c =>
 gd (((d==1)=true/\True->j0 (c*c))/\True) <|
 if(d==1&&decide (c*c<500*a*500*a+b*b)) then
  gd ((0:Int) < (500:Int)/\j0 (c.tdiv (500:Int)+(1:Int))/\True) <|
  some (c.tdiv 500+1)
 else
  gd ((BM c 500 d).isSome/\True)<|lt (vl (BM c 500 d)) fun e =>
  some e
def Q0A:Ct:=k6 163 [.dat i64,.dat i64,.dat i64] (fun x=>X0 x.1 x.2.1 x.2.2.1) (fun r:Int=>I r) (fun _=>())
theorem M0D:Ok prog Q0A:=by
 refine l5 [.tmp 6] func163 ?_;intro y ⟨_,_,_,_⟩ r H Q hn hr;have:=hz (tc Fs (tc M0y tn));refine iA [0,1,2]<|iB [2,7] H fun H=>iD M0y [2,7,8] H fun _ H=>vQ<|iB [2,8,28] H fun H=>cD H (fun H=>iB [6] H fun H=>j5<|fR<|hr H) fun H=>vK<|fQ<|iD Fs [6] H fun _ H=>j5<|hr H
def GM(a:Int):Option Bool :=
 some (a != a)
def P0D:Ct:=k6 232 [.dat i64] (fun x=>GM x.1) (fun r:Bool=>B r) (fun _=>())
theorem O0s:Ok prog P0D:=by
 refine l5 [.tmp 2] func232 ?_;intro y ⟨_,_⟩ r H Q hn hr;refine iA [0]<|iA [2]<|j5<|hr H
def GN(a:Int):Option Bool :=
 some (a != a)
def P0v:Ct:=k6 244 [.dat i64] (fun x=>GN x.1) (fun r:Bool=>B r) (fun _=>())
theorem O0n:Ok prog P0v:=by
 refine l5 [.tmp 2] func244 ?_;intro y ⟨_,_⟩ r H Q hn hr;refine iA [0]<|iA [2]<|j5<|hr H
def LL(a:Int)(b:Int):Option Bool :=
 gd ((GN a).isSome/\(vl (GN a)=true/\True->(GN b).isSome)/\True) <|
 some (vl (GN a)&&!vl (GN b)||decide (a<b))
def P0E:Ct:=k6 231 [.dat i64,.dat i64] (fun x=>LL x.1 x.2.1) (fun r:Bool=>B r) (fun _=>())
theorem O0t:Ok prog P0E:=by
 refine l5 [.tmp 4] func231 ?_;intro y ⟨_,_,_⟩ r H Q hn hr;have:=hz (tc O0n tn);refine iA [0,1]<|iB [4] H fun H=>j5<|hr H
def Up(b:List Int)(c:Int):Int->Option (Int×Bool)
 | a =>
 gd ((decide (a < (b.length:Int))=true/\True->ix a b.length)/\((b.getD a.toNat 0==c)=false/\decide (a < (b.length:Int))=true/\True->ix a b.length)/\((b.getD a.toNat 0==c)=false/\decide (a < (b.length:Int))=true/\True->(GM (b.getD a.toNat 0)).isSome)/\(vl (GM (b.getD a.toNat 0))=true/\(b.getD a.toNat 0==c)=false/\decide (a < (b.length:Int))=true/\True->(GM c).isSome)/\True) <|
 some ((a,decide (a < (b.length:Int))&&(b.getD a.toNat 0==c||vl (GM (b.getD a.toNat 0))&&vl (GM c))))
def LM(c:List Int)(d:Int)(e:Int×Int->Option (Int×Bool)):Int×Int->Option (Int×Bool)
 | (a,b) =>
 if(decide (a<b)) then
  gd (j0 (a+b)/\((0:Int)<=a+b/\a+b<=(18446744073709551615:Int))/\(((0:Int)<=(1:Int)/\(1:Int)<=(62:Int))/\(0:Int)<=(a+b).fdiv ((2:Int) ^ Int.toNat (1:Int))/\(a+b).fdiv ((2:Int) ^ Int.toNat (1:Int))<=(18446744073709551615:Int))/\j0 ((a+b).fdiv ((2:Int) ^ Int.toNat (1:Int)))/\True) <|
  gd (ix ((a+b).fdiv ((2:Int) ^ Int.toNat (1:Int))) c.length/\(LL (c.getD ((a+b).fdiv ((2:Int) ^ Int.toNat (1:Int))).toNat (0:Int)) d).isSome/\True) <|
  if(vl (LL (c.getD ((a+b).fdiv ((2:Int) ^ Int.toNat (1:Int))).toNat (0:Int)) d)) then
   gd (j0 ((a+b).fdiv ((2:Int) ^ Int.toNat (1:Int))+(1:Int))/\True) <|
   e (((a+b).fdiv ((2:Int) ^ Int.toNat (1:Int))+(1:Int),b))
  else
   e ((a,(a+b).fdiv ((2:Int) ^ Int.toNat (1:Int))))
 else
  Up c d a
def LN(a:List Int)(b:Int):Option (Int×Bool) :=
 lp (LM a b) ((0,(a.length:Int)))
def P0O:Ct:=k6 217 [.dat i64.sl,.dat i64] (fun x=>LN x.1 x.2.1) (fun r:Int×Bool=>AV.tup [I r.1,B r.2]) (fun _=>())
theorem M0u:Ok prog P0O:=by
 refine l5 [.tmp 4,.tmp 5] func217 ?_;intro y ⟨a,b,_⟩ r H Q hn hr;have:=hz (tc O0s (tc O0t tn));refine iA [0,1]<|iA [0,1,6]<|iA [0,1,6,7,8]<|jN r (fun(c:Int)=>Z [p 0 (L i64 a),p 1 (J b),p 6 (I (a.length:Int)),p 7 (I c)] []) (Up a b) (fun c H=>?_) (fun _ g i l=>?_)
 ·refine iB [4,5] H fun H=>j5<|hr H
 refine vB<|lX (fun((d,e):Int×Int)=>Z [p 0 (L i64 a),p 1 (J b),p 6 (I (a.length:Int)),p 7 (I d),p 8 (I e)] []) ((0,(a.length:Int))) H fun _ j f h k ⟨d,e⟩ H=>vQ<|iA [0,1,6,7,8,15]<|cD H (fun H=>?_) (fun H=>?_)
 ·refine vK<|fQ<|vB<|iB [0,1,6,7,8,9] H fun H=>iB [0,1,6,7,8,9,27] H fun H=>cD H (fun H=>jB [0,1,6,7,8] H fun H=>fK<|f H) fun H=>jA [0,1,6,7,8]<|fK<|f H
 exact vE<|fE<|h<|fX rfl<|g H
def P2(a:List Int)(d:Int):Option (List BN×Int) :=
 gd (ix 0 a.length/\j0 ((a.length:Int)-1)/\ix ((a.length:Int)-1) a.length/\True)<|lt (min (max d (a.getD (Int.toNat (0:Int)) (0:Int))) (a.getD ((a.length:Int)-(1:Int)).toNat (0:Int))) fun c =>
 gd ((LN a c).isSome/\True)<|lt (vl (LN a c)) fun b =>
 if b.2 then
  some (([(b.1,(1:Int))],(1:Int)))
 else
  gd (j0 (b.1-1)/\ix b.1 a.length/\j0 (a.getD b.1.toNat 0-c)/\j0 (b.1-1)/\ix (b.1-1) a.length/\j0 (c-a.getD (b.1-1).toNat 0)/\ix b.1 a.length/\j0 (b.1-1)/\ix (b.1-1) a.length/\j0 (a.getD b.1.toNat 0-a.getD (b.1-1).toNat 0)/\True)<|lt ([(b.1-1,a.getD b.1.toNat 0-c),(b.1,c-a.getD (b.1-1).toNat 0)]) fun e =>
  some ((e,a.getD b.1.toNat 0-a.getD (b.1-1).toNat 0))
def Q0d:Ct:=k6 196 [.dat i64.sl,.dat i64] (fun x=>P2 x.1 x.2.1) (fun r:List BN×Int=>AV.tup [AV.ow 252 true U6 r.1,I r.2]) (fun _=>())
theorem Uq:Ok prog Q0d:=by
 refine l5 [.tmp 4,.tmp 5] func196 ?_;intro y ⟨a,_,_⟩ r H Q hn hr;have:=hz (tc M0u tn);refine iA [0,1]<|qD (fun c=>Z [p 0 (L i64 a),p 1 (I c)] []) H fun c H=>iD M0u [0,1,6,7] H fun d H=>vQ<|iA [0,1,6,26]<|cD H (fun H=>iA [4,5]<|j5<|fR<|hr H) fun H=>vK<|fQ<|qD (fun b=>Z [p 4 (O 48),p 5 (I (a.getD d.1.toNat 0-a.getD (d.1-1).toNat 0))] [(48,A 252 U6 b 0)]) H fun b H=>j5<|hr H
def IG(b:List BN×Int)(d:List BN×Int)(e:Int):Int->Option Int
 | a =>
 gd (j0 (b.2*d.2)/\(BM a (b.2*d.2) e).isSome/\True)<|lt (vl (BM a (b.2*d.2) e)) fun c =>
 some c
def Ur(a:Int)(c:Int×Int->Option Int):Int->Option Int
 | b =>
 gd (j0 (a+1)/\True) <|
 c (b,a+1)
def IH(d:w8)(a:BN)(f:List BN×Int)(g:Int)(i:Int×Int->Option Int)(j:Int×Int->Option Int):Int×Int->Option Int
 | (e,c) =>
 if(decide (c < (f.1.length:Int))) then
  gd (ix c f.1.length/\c.toNat<f.1.length/\True)<|lt (f.1.getD c.toNat (a6 U6)) fun b =>
  gd (j0 (a.1*(d.2.1.length:Int))/\j0 (a.1*(d.2.1.length:Int)+b.1)/\ix (a.1*(d.2.1.length:Int)+b.1) d.2.2.length/\j0 (d.2.2.getD (a.1*(d.2.1.length:Int)+b.1).toNat 0*a.2)/\j0 (d.2.2.getD (a.1*(d.2.1.length:Int)+b.1).toNat 0*a.2*b.2)/\j0 (e+d.2.2.getD (a.1*(d.2.1.length:Int)+b.1).toNat 0*a.2*b.2)/\True)<|lt (e+d.2.2.getD (a.1*(d.2.1.length:Int)+b.1).toNat 0*a.2*b.2) fun h =>
  gd (j0 (c+1)/\True) <|
  j (h,c+1)
 else
  Ur g i e
def GO(f:w8)(e:List BN×Int)(b:List BN×Int)(h:Int)(g:Int×Int->Option Int):Int×Int->Option Int
 | (c,a) =>
 if(decide (a < (b.1.length:Int))) then
  gd (ix a b.1.length/\a.toNat<b.1.length/\True)<|lt (b.1.getD a.toNat (a6 U6)) fun d =>
  lp (IH f d e a g) (c,0)
 else
  IG b e h c
def K6(a:w8)(b:Int)(c:Int)(e:Int):Option Int :=
 gd ((P2 a.1 b).isSome/\True)<|lt (vl (P2 a.1 b)) fun d =>
 gd ((P2 a.2.1 c).isSome/\True)<|lt (vl (P2 a.2.1 c)) fun f =>
 lp (GO a f d e) (0,0)
def Q0E:Ct:=k6 159 [.agg y70,.dat i64,.dat i64,.dat i64] (fun x=>K6 x.1 x.2.1 x.2.2.1 x.2.2.2.1) (fun r:Int=>I r) (fun _=>())
theorem PJ:Ok prog Q0E:=by
 refine l5 [.tmp 8] func159 ?_;intro y ⟨j,_,_,g,_⟩ r H Q hn hr;have:=hz (tc Fs (tc Uq tn));refine iA [1,2,3,4]<|iD Uq [2,3,4,9,10] H fun a H=>iD Uq [3,4,9,10,11,12] H fun c H=>iA [3,4,9,10,11,12,13]<|jN r (fun(k:Int)=>Z [p 3 (J g),p 10 (I a.2),p 12 (I c.2),p 13 (I k)] []) (IG a c g) (fun k H=>?_) (fun _ s E x=>?_)
 ·refine iD Fs [8] H fun _ H=>j5<|hr H
 refine iA [3,4,10,11,12,13,32,33,34]<|vB<|lX (fun((e,b):Int×Int)=>Z (Ik g a.2 c.2 e [p 32 (O 22),p 33 (I (a.1.length:Int)),p 34 (I b)]) (Il c.1 a.1 j)) (0,0) H fun _ u v o P ⟨e,b⟩ H=>iA [3,4,10,11,12,13,32,33,34,35]<|vQ<|cD H (fun H=>?_) (fun H=>?_)
 ·refine vK<|fQ<|jN r (fun(l:Int)=>Z (Ik g a.2 c.2 l [p 32 (O 22),p 33 (I (a.1.length:Int)),p 34 (I b)]) (Il c.1 a.1 j)) (Ur b u) (fun l H=>?_) (fun _ n F w=>?_)
  ·refine jB [3,4,10,11,12,13,32,33,34] H fun H=>v H
  refine vB<|qD (fun d=>Z (Ik g a.2 c.2 e [p 15 (R 15),p 32 (O 22),p 33 (I (a.1.length:Int)),p 34 (I b)]) ((15,bx 252 (r5 true U6 d))::Il c.1 a.1 j)) H fun d H=>iA [3,4,10,11,12,13,15,32,33,34,38,39,40]<|vB<|lX (fun((h,f):Int×Int)=>Z (Ik g a.2 c.2 h [p 15 (R 15),p 32 (O 22),p 33 (I (a.1.length:Int)),p 34 (I b),p 38 (O 29),p 39 (I (c.1.length:Int)),p 40 (I f)]) ((15,bx 252 (r5 true U6 d))::Il c.1 a.1 j)) (e,0) H fun _ z q t G ⟨h,f⟩ H=>iA [3,4,10,11,12,13,15,32,33,34,38,39,40,41]<|vQ<|cD H (fun H=>vK<|fQ<|vQ<|vB<|qD (fun i=>Z (Ik g a.2 c.2 h [p 15 (R 15),p 17 (R 17),p 32 (O 22),p 33 (I (a.1.length:Int)),p 34 (I b),p 38 (O 29),p 39 (I (c.1.length:Int)),p 40 (I f)]) ((17,bx 252 (r5 true U6 i))::(15,bx 252 (r5 true U6 d))::Il c.1 a.1 j)) H fun i H=>zD (fun m=>Z (Ik g a.2 c.2 m [p 15 (R 15),p 32 (O 22),p 33 (I (a.1.length:Int)),p 34 (I b),p 38 (O 29),p 39 (I (c.1.length:Int)),p 40 (I f)]) ((17,bx 252 (r5 true U6 i))::(15,bx 252 (r5 true U6 d))::Il c.1 a.1 j)) H fun m H=>fK<|fQ<|jB [3,4,10,11,12,13,15,32,33,34,38,39,40] H fun H=>q H) fun H=>vE<|fE<|t<|fX rfl<|fK<|n H
 exact vE<|fE<|o<|fX rfl<|s H
def BO(a:C6)(b:l8):Option B3 :=
 gd ((0:Int) < (2:Int)/\ix (b.2.1.tdiv (2:Int)) a.2.1.length/\ix (a.2.1.getD (b.2.1.tdiv (2:Int)).toNat (a6 y151)).1 a.1.2.1.1.length/\True)<|lt (a.1.2.1.1.getD (a.2.1.getD (b.2.1.tdiv 2).toNat (a6 y151)).1.toNat (a6 y139)) fun c =>
 gd (ix c.2.1 a.1.1.length/\ix b.2.2.2 (a.1.1.getD c.2.1.toNat (a6 y64)).2.2.2.1.length/\True)<|lt ((a.1.1.getD c.2.1.toNat (a6 y64)).2.2.2.1.getD b.2.2.2.toNat (a6 y67)) fun d =>
 some d
def Q0F:Ct:=k6 158 [.dat y157.pt,.agg y80] (fun x=>BO x.1 x.2.1) (fun r:B3=>AV.agg [I r.1,I r.2.1,I r.2.2.1,I r.2.2.2.1,L y70 r.2.2.2.2.1,L y70 r.2.2.2.2.2]) (fun _=>())
theorem M0F:Ok prog Q0F:=by
 refine l5 [.cell 4 67] func158 ?_;intro y ⟨d,c,_⟩ r H Q hn hr;refine iA [0,3,4]<|qD (fun a=>Z [p 0 (D y157.pt d),p 3 (R 3),p 4 (R 4),p 5 (R 5)] [(5,K 139 y139 a),(4,bx 67 [I 0,I 0,I 0,I 0,nil,nil]),(3,K 80 y80 c)]) H fun a H=>qD (fun b=>Z [p 4 (R 4)] [(4,K 67 y67 b),(5,K 139 y139 a),(3,K 80 y80 c)]) H fun b H=>j5<|hr H
def CA(a:C6)(b:l8):Option Int :=
 gd ((0:Int) < (2:Int)/\ix (b.2.1.tdiv (2:Int)) a.2.1.length/\True)<|lt (a.2.1.getD (b.2.1.tdiv 2).toNat (a6 y151)) fun c =>
 some c.2.2.1
def R0m:Ct:=k6 116 [.dat y157.pt,.agg y80] (fun x=>CA x.1 x.2.1) (fun r:Int=>I r) (fun _=>())
theorem II:Ok prog R0m:=by
 refine l5 [.tmp 4] func116 ?_;intro y ⟨_,b,_⟩ r H Q hn hr;refine iA [0,3]<|qD (fun a=>Z [p 4 (J a.2.2.1)] [(3,K 80 y80 b)]) H fun a H=>j5<|hr H
def F9(a:C6)(f:Int)(e:Int)(d:Int):Option Int :=
 gd (ix f a.2.2.1.length/\True)<|lt (a.2.2.1.getD f.toNat (a6 y80)) fun b =>
 gd ((CA a b).isSome/\True)<|lt (vl (CA a b)) fun c =>
 if(b.2.2.1==1) then
  gd ((BO a b).isSome/\(0:Int) < (2:Int)/\ix (b.2.1.tmod (2:Int)) (vl (BO a b)).2.2.2.2.2.length/\ix c a.2.2.2.1.length/\(K6 ((vl (BO a b)).2.2.2.2.2.getD (b.2.1.tmod (2:Int)).toNat (a6 y70)) e (a.2.2.2.1.getD c.toNat (0:Int)) d).isSome/\True)<|lt (vl (K6 ((vl (BO a b)).2.2.2.2.2.getD (b.2.1.tmod 2).toNat (a6 y70)) e (a.2.2.2.1.getD c.toNat 0) d)) fun h =>
  some (min h 1000000)
 else
  gd (ix c a.2.2.2.2.1.length/\ix b.2.2.2 (List.length (a.2.2.2.2.1.getD c.toNat []))/\(X0 e (List.getD (a.2.2.2.2.1.getD c.toNat []) b.2.2.2.toNat 0) d).isSome/\True)<|lt (vl (X0 e (List.getD (a.2.2.2.2.1.getD c.toNat []) b.2.2.2.toNat 0) d)) fun g =>
  some (min g 1000000)
def R0l:Ct:=k6 117 [.dat y157.pt,.dat i64,.dat i64,.dat i64] (fun x=>F9 x.1 x.2.1 x.2.2.1 x.2.2.2.1) (fun r:Int=>I r) (fun _=>())
theorem P0d:Ok prog R0l:=by
 refine l5 [.tmp 8] func117 ?_;intro y ⟨c,_,d,b,_⟩ r H Q hn hr;have:=hz (tc M0D (tc PJ (tc M0F (tc II tn))));refine iA [0,1,2,3]<|qD (fun a=>Z [p 0 (D y157.pt c),p 2 (J d),p 3 (J b),p 9 (R 9)] [(9,K 80 y80 a)]) H fun a H=>iD II [0,2,3,9,10] H fun _ H=>vQ<|iA [0,2,3,9,10,23]<|cD H (fun H=>iD PJ [8] H fun _ H=>j5<|fR<|hr H) fun H=>vK<|fQ<|iD M0D [8] H fun _ H=>j5<|hr H
def AD(a:Int)(b:Int)(c:Int):Option Int :=
 gd (j0 (a*b)/\(BM (a*b) 1000 c).isSome/\True)<|lt (vl (BM (a*b) 1000 c)) fun d =>
 some d
def Q0C:Ct:=k6 161 [.dat i64,.dat i64,.dat i64] (fun x=>AD x.1 x.2.1 x.2.2.1) (fun r:Int=>I r) (fun _=>())
theorem M0E:Ok prog Q0C:=by
 refine l5 [.tmp 6] func161 ?_;intro y ⟨_,_,_,_⟩ r H Q hn hr;have:=hz (tc Fs tn);refine iA [0,1,2]<|iD Fs [6] H fun _ H=>j5<|hr H
def IJ(a:p8)(b:Int)(c:Int):Option Int :=
 if(b==1&&c==0) then
  some a.2.1
 else
  if(b==1) then
   some a.2.2.1
  else
   if(c==0) then
    some a.2.2.2.1
   else
    some a.2.2.2.2
def Q0B:Ct:=k6 162 [.agg r7,.dat i64,.dat i64] (fun x=>IJ x.1 x.2.1 x.2.2.1) (fun r:Int=>I r) (fun _=>())
theorem O0O:Ok prog Q0B:=by
 refine l5 [.tmp 6] func162 ?_;intro y ⟨_,_,_,_⟩ r H Q hn hr;refine iA [1,2,3]<|vQ<|vB<|iA [1,2,3,7]<|cD H (fun H=>iA [6]<|j5<|m4<|fR<|hr H) fun H=>iA [2,3,16]<|cD H (fun H=>iA [6]<|j5<|m4<|fR<|hr H) fun H=>iA [3,21]<|cD H (fun H=>iA [6]<|j5<|m4<|fR<|hr H) fun H=>vK<|fK<|fQ<|iA [6]<|j5<|hr H
def AE(c:p8)(b:l8)(a:Int):Int->Option Int
 | d =>
 gd ((IJ c b.2.2.1 a).isSome/\(AD d (vl (IJ c b.2.2.1 a)) a).isSome/\True)<|lt (vl (AD d (vl (IJ c b.2.2.1 a)) a)) fun e =>
 some e
def M3(b:C6)(e:p8)(g:Int)(f:Int)(d:Int):Option Int :=
 gd (ix g b.2.2.1.length/\True)<|lt (b.2.2.1.getD g.toNat (a6 y80)) fun a =>
 gd ((CA b a).isSome/\True)<|lt (vl (CA b a)) fun c =>
 if(a.2.2.1==1) then
  gd ((BO b a).isSome/\(0:Int) < (2:Int)/\ix (a.2.1.tmod (2:Int)) (vl (BO b a)).2.2.2.2.1.length/\ix c b.2.2.2.1.length/\(K6 ((vl (BO b a)).2.2.2.2.1.getD (a.2.1.tmod (2:Int)).toNat (a6 y70)) f (b.2.2.2.1.getD c.toNat (0:Int)) d).isSome/\True)<|lt (vl (K6 ((vl (BO b a)).2.2.2.2.1.getD (a.2.1.tmod 2).toNat (a6 y70)) f (b.2.2.2.1.getD c.toNat 0) d)) fun i =>
  AE e a d i
 else
  gd (ix c b.2.2.2.2.1.length/\ix a.2.2.2 (List.length (b.2.2.2.2.1.getD c.toNat []))/\(BM (List.getD (b.2.2.2.2.1.getD c.toNat []) a.2.2.2.toNat 0) 1000 d).isSome/\True)<|lt (vl (BM (List.getD (b.2.2.2.2.1.getD c.toNat []) a.2.2.2.toNat 0) 1000 d)) fun h =>
  AE e a d h
def R0n:Ct:=k6 115 [.dat y157.pt,.agg r7,.dat i64,.dat i64,.dat i64] (fun x=>M3 x.1 x.2.1 x.2.2.1 x.2.2.2.1 x.2.2.2.2.1) (fun r:Int=>I r) (fun _=>())
theorem P0e:Ok prog R0n:=by
 refine l5 [.tmp 10] func115 ?_;intro y ⟨f,c,_,g,b,_⟩ r H Q hn hr;have:=hz (tc M0E (tc O0O (tc Fs (tc PJ (tc M0F (tc II tn))))));refine iA [0,2,3,4,6]<|qD (fun a=>Z [p 0 (D y157.pt f),p 3 (J g),p 4 (J b),p 6 (R 6),p 11 (R 11)] [(11,K 80 y80 a),(6,K 36 r7 c)]) H fun a H=>iD II [0,3,4,6,11,12] H fun _ H=>iA [0,3,4,6,11,12]<|jN r (fun(d:Int)=>Z [p 4 (J b),p 6 (R 6),p 11 (R 11),p 13 (I d)] [(11,K 80 y80 a),(6,K 36 r7 c)]) (AE c a b) (fun d H=>?_) (fun _ e h i=>?_)
 ·refine iD M0E [10] H fun _ H=>j5<|hr H
 refine iA [0,3,4,6,11,12,26]<|cD H (fun H=>jD PJ [4,6,11,13] H fun _ H=>e H) fun H=>jD Fs [4,6,11,13] H fun _ H=>e H
def GP(a:C6)(c:Int)(b:r8):Int×Int->Option (r8×r8)
 | (f,g) =>
 gd ((F9 a c b.1 0).isSome/\(F9 a c b.2 0).isSome/\(F9 a c b.1 1).isSome/\(F9 a c b.2 1).isSome/\True)<|lt ((vl (F9 a c b.1 0),vl (F9 a c b.2 0),vl (F9 a c b.1 1),vl (F9 a c b.2 1))) fun(i,h,e,d) =>
 some (((f,g),min i h,max e d))
def Dp(a:C6)(d:p8)(b:Int)(c:r8):Option (r8×r8) :=
 gd ((M3 a d b c.1 0).isSome/\(M3 a d b c.2 0).isSome/\(M3 a d b c.1 1).isSome/\(M3 a d b c.2 1).isSome/\True)<|lt ((vl (M3 a d b c.1 0),vl (M3 a d b c.2 0),vl (M3 a d b c.1 1),vl (M3 a d b c.2 1))) fun(g,i,j,h) =>
 gd (ix b a.2.2.1.length/\True)<|lt (a.2.2.1.getD b.toNat (a6 y80)) fun e =>
 if(decide (0 < (a.2.2.2.2.2.length:Int))&&e.2.2.1==2) then
  gd ((CA a e).isSome/\ix (vl (CA a e)) a.2.2.2.2.2.length/\True)<|lt (vl (CA a e)) fun f =>
  gd (j0 (min g i-a.2.2.2.2.2.getD f.toNat 0)/\j0 (max j h+a.2.2.2.2.2.getD f.toNat 0)/\True) <|
  GP a b c (min g i-a.2.2.2.2.2.getD f.toNat 0,max j h+a.2.2.2.2.2.getD f.toNat 0)
 else
  GP a b c (min g i,max j h)
def k57:Ct:=k6 57 [.dat y157.pt,.agg r7,.dat i64,.agg y51] (fun x=>Dp x.1 x.2.1 x.2.2.1 x.2.2.2.1) (fun r:r8×r8=>AV.tup [AV.agg [I r.1.1,I r.1.2],AV.agg [I r.2.1,I r.2.2]]) (fun _=>())
theorem o57:Ok prog k57:=by
 refine l5 [.cell 8 51,.cell 9 51] func57 ?_;intro y ⟨d,m,e,a,_⟩ r H Q hn hr;have:=hz (tc P0d (tc II (tc P0e tn)));refine iA [0,2,5,7,8,9]<|iA [0,2,5,8,9,10,11]<|qD (fun(g,j,k,i)=>Z [p 0 (D y157.pt d),p 2 (J e),p 8 (R 8),p 9 (R 9),p 10 (J a.1),p 11 (J a.2),p 12 (R 12)] [(12,bx 51 [I (min g j),I (max k i)]),(9,bx 51 [I 0,I 0]),(8,bx 51 [I 0,I 0]),(7,K 51 y51 a),(5,K 36 r7 m)]) H fun⟨g,j,k,i⟩ H =>
  jN r (fun((f,h):Int×Int)=>Z [p 0 (D y157.pt d),p 2 (J e),p 8 (R 8),p 9 (R 9),p 10 (J a.1),p 11 (J a.2),p 12 (R 12)] [(12,bx 51 [I f,I h]),(9,bx 51 [I 0,I 0]),(8,bx 51 [I 0,I 0])]) (GP d e a) (fun⟨f,h⟩ H=>?_) (fun _ o s t=>?_)
 ·refine qD (fun(q,n,c,b)=>Z [p 8 (R 8),p 9 (R 9),p 12 (R 12),p 15 (R 15)] [(15,bx 51 [I (min q n),I (max c b)]),(12,bx 51 [I f,I h]),(9,bx 51 [I 0,I 0]),(8,bx 51 [I 0,I 0])]) H fun⟨q,n,c,b⟩ H =>
   iA [8,9] <|
   j5<|hr H
 refine qD (fun l=>Z [p 0 (D y157.pt d),p 2 (J e),p 8 (R 8),p 9 (R 9),p 10 (J a.1),p 11 (J a.2),p 12 (R 12),p 13 (R 13)] [(13,K 80 y80 l),(12,bx 51 [I (min g j),I (max k i)]),(9,bx 51 [I 0,I 0]),(8,bx 51 [I 0,I 0]),(7,K 51 y51 a),(5,K 36 r7 m)]) H fun l H=>iA [0,2,8,9,10,11,12,13,60]<|cD H (fun H=>iD II [0,2,8,9,10,11,12,14] H fun _ H=>jB [0,2,8,9,10,11,12] H fun H=>o H) fun H=>vK<|o H
def GQ(a:List l8):Option Int :=
 some (a.length:Int)
def R0p:Ct:=k6 113 [.dat y80.sl] (fun x=>GQ x.1) (fun r:Int=>I r) (fun _=>())
theorem P0g:Ok prog R0p:=by
 refine l5 [.tmp 2] func113 ?_;intro y ⟨_,_⟩ r H Q hn hr;refine iA [0]<|iA [2]<|j5<|hr H
def GR(b:Int)(a:Int):Option Bool :=
 some (decide (100<=b)&&decide (b<=a)&&decide (a<=5000))
def R0q:Ct:=k6 112 [.dat i64,.dat i64] (fun x=>GR x.1 x.2.1) (fun r:Bool=>B r) (fun _=>())
theorem P0h:Ok prog R0q:=by
 refine l5 [.tmp 4] func112 ?_;intro y ⟨_,_,_⟩ r H Q hn hr;refine iA [0,1]<|iA [4]<|j5<|hr H
def LO(a:p8):Option Bool :=
 gd ((R7 a.1).isSome/\(vl (R7 a.1)=true/\True->(GR a.2.1 a.2.2.1).isSome)/\((vl (R7 a.1)&&vl (GR a.2.1 a.2.2.1))=true/\True->(GR a.2.2.2.1 a.2.2.2.2).isSome)/\True) <|
 some (vl (R7 a.1)&&vl (GR a.2.1 a.2.2.1)&&vl (GR a.2.2.2.1 a.2.2.2.2))
def k54:Ct:=k6 54 [.agg r7] (fun x=>LO x.1) (fun r:Bool=>B r) (fun _=>())
theorem o54:Ok prog k54:=by
 refine l5 [.tmp 2] func54 ?_;intro y ⟨_,_⟩ r H Q hn hr;have:=hz (tc P0h (tc Ua tn));refine iA [1]<|iB [2] H fun H=>j5<|hr H
def G0Z(b:List Int):Int->Option (List Int×Int×Int)
 | a =>
 some ((b,(0:Int),a))
def G0Y(b:List Int)(d:Int×Int->Option (List Int×Int×Int)):Int×Int->Option (List Int×Int×Int)
 | (a,c) =>
 if(decide (a < (b.length:Int))&&decide (a<64)) then
  gd (j0 (c*(31:Int))/\ix a b.length/\True/\j0 (c*(31:Int)+b.getD a.toNat (0:Int))/\(0:Int) < (2147483647:Int)/\True) <|
  gd (j0 (a+1)/\True) <|
  d ((a+1,(c*31+b.getD a.toNat 0).tmod 2147483647))
 else
  G0Z b c
def LP(a:List Int):Option (List Int×Int×Int) :=
 lp (G0Y a) (0,12345)
def k27:Ct:=k6 27 [.dat (b8.sl)] (fun x=>LP x.1) (fun r:List Int×Int×Int=>AV.ob 122 [L b8 r.1,I r.2.1,I r.2.2]) (fun _=>())
theorem o27:Ok prog k27:=by
 refine l5 [.tmp 2] func27 ?_;intro y ⟨a,_⟩ r H Q hn hr;refine iA [0]<|iA [0,3]<|jN r (fun(b:Int)=>Z [p 3 (R 7)] [(7,bx 122 [L b8 a,I 0,I b])]) (G0Z a) (fun b H=>?_) (fun _ e h k=>?_)
 ·refine iA [2]<|j5<|hr H
 refine iA [0,3,4]<|vB<|lX (fun((c,d):Int×Int)=>Z [p 0 (L b8 a),p 3 (R 7),p 4 (I c)] [(7,bx 122 [L b8 a,I 0,I d])]) (0,12345) H fun _ i g f j ⟨c,d⟩ H=>vQ<|iA [0,3,4,15]<|cD H (fun H=>vK<|fQ<|vQ<|vB<|jB [0,3,4] H fun H=>fK<|fQ<|jB [0,3,4] H fun H=>g H) fun H=>vE<|fE<|f<|fX rfl<|e H
def CB(a:C6)(b:Int):Option Bool :=
 gd ((R6 a).isSome/\j0 (vl (R6 a)-1)/\(B4 b 0 (vl (R6 a)-1)).isSome/\True) <|
 some (vl (B4 b 0 (vl (R6 a)-1)))
def k41:Ct:=k6 41 [.dat y157.pt,.dat i64] (fun x=>CB x.1 x.2.1) (fun r:Bool=>B r) (fun _=>())
theorem o41:Ok prog k41:=by
 refine l5 [.tmp 4] func41 ?_;intro y ⟨_,_,_⟩ r H Q hn hr;have:=hz (tc Ai (tc GF tn));refine iA [0,1]<|iB [4] H fun H=>j5<|hr H
def c9(a:l6)(b:Int):Option (Int×l6) :=
 if(decide (b<=1)) then
  some (((0:Int),a))
 else
  if(decide (a.2.1 < (a.1.length:Int))) then
   gd (ix a.2.1 a.1.length/\True/\True) <|
   gd (j0 (a.2.1+1)/\True) <|
   if(decide (b<=256)) then
    gd (0<b/\True) <|
    some ((Int.tmod (a.1.getD a.2.1.toNat 0) b,a.1,a.2.1+1,a.2.2))
   else
    gd (j0 (a.2.2*(48271:Int))/\j0 (a.2.2*(48271:Int)+a.1.getD a.2.1.toNat (0:Int))/\j0 (a.2.2*(48271:Int)+a.1.getD a.2.1.toNat (0:Int)+(1:Int))/\(0:Int) < (2147483647:Int)/\True)<|lt ((a.2.2*48271+a.1.getD a.2.1.toNat 0+1).tmod 2147483647) fun c =>
    gd (0<b/\True) <|
    some (c.tmod b,a.1,a.2.1+1,c)
  else
   gd (j0 (a.2.2*(48271:Int))/\j0 (a.2.2*(48271:Int)+(11:Int))/\(0:Int) < (2147483647:Int)/\True) <|
   gd ((0:Int) < (7:Int)/\(0:Int)<b/\True) <|
   some (((((a.2.2*48271+11).tmod 2147483647).tdiv 7).tmod b,a.1,a.2.1,(a.2.2*48271+11).tmod 2147483647))
def k60:Ct:=k6 60 [.io 122 m8,.dat i64] (fun x=>c9 x.1 x.2.1) (fun r:Int×l6=>I r.1) (fun r=>r.2)
theorem F6:Ok prog k60:=by
 refine l5 [.tmp 4] func60 ?_;intro y ⟨b,c,_⟩ r H Q hn hr;refine iA [0,1]<|vQ<|iA [0,1,7]<|cD H (fun H=>iA [4]<|j5<|fR<|hr H) fun H=>vK<|fQ<|vQ<|iA [0,1,17]<|cD H (fun H=>?_) (fun H=>?_)
 ·refine iB [0,1,5] H fun H=>iB [0,1,5] H fun H=>vQ<|iA [0,1,5,37]<|cD H (fun H=>iB [4] H fun H=>j5<|fR<|fR<|hr H) fun H=>vK<|fQ<|qD (fun a=>Z [p 0 (R 500000),p 1 (J c)] [(500000,bx 122 [L b8 b.1,I (b.2.1+1),I a])]) H fun a H=>iB [4] H fun H=>j5<|fR<|hr H
 refine vK<|fQ<|iB [0,1] H fun H=>iB [4] H fun H=>j5<|hr H
def IK(h:Int×l6):List Int×Int×Int×Int×Int×Int×ByteArray->Option (p8×l6)
 | (c,a,g,f,e,d,b) =>
 some (((b,800+10*h.1,f,e,d),c,a,g))
def LQ(b:l6):Option (p8×l6) :=
 gd ((c9 b 3).isSome/\ix (vl (c9 b 3)).1 [ByteArray.mk #[115,108,111,119],ByteArray.mk #[102,97,115,116],ByteArray.mk #[116,121,112]].length/\(vl (c9 b 3)).1.toNat<[ByteArray.mk #[115,108,111,119],ByteArray.mk #[102,97,115,116],ByteArray.mk #[116,121,112]].length/\(c9 (vl (c9 b 3)).2 20).isSome/\j0 (10*(vl (c9 (vl (c9 b 3)).2 20)).1)/\j0 (800+10*(vl (c9 (vl (c9 b 3)).2 20)).1)/\(c9 (vl (c9 (vl (c9 b 3)).2 20)).2 20).isSome/\j0 (10*(vl (c9 (vl (c9 (vl (c9 b 3)).2 20)).2 20)).1)/\j0 (900+10*(vl (c9 (vl (c9 (vl (c9 b 3)).2 20)).2 20)).1)/\True)<|lt ((vl (c9 b 3),vl (c9 (vl (c9 b 3)).2 20),vl (c9 (vl (c9 (vl (c9 b 3)).2 20)).2 20),[ByteArray.mk #[115,108,111,119],ByteArray.mk #[102,97,115,116],ByteArray.mk #[116,121,112]].getD (vl (c9 b 3)).1.toNat (a6 Ty.str),[ByteArray.mk #[115,108,111,119],ByteArray.mk #[102,97,115,116],ByteArray.mk #[116,121,112]])) fun(_,d,c,h,_) =>
 gd ((c9 c.2 60).isSome/\j0 (7*(vl (c9 c.2 60)).1)/\j0 (800+10*d.1+7*(vl (c9 c.2 60)).1)/\True)<|lt (vl (c9 c.2 60)) fun f =>
 gd ((c9 f.2 40).isSome/\j0 (9*(vl (c9 f.2 40)).1)/\j0 (900+10*c.1+9*(vl (c9 f.2 40)).1)/\True)<|lt (vl (c9 f.2 40)) fun g =>
 gd ((c9 g.2 30).isSome/\True)<|lt (vl (c9 g.2 30)) fun a =>
 if(a.1==0) then
  gd (j0 (800+10*d.1-1)/\True) <|
  IK d (a.2.1,a.2.2.1,a.2.2.2,800+10*d.1-1,900+10*c.1,900+10*c.1+9*g.1,h)
 else
  if(a.1==1) then
   gd ((c9 a.2 3).isSome/\ix (vl (c9 a.2 3)).1 [99,100,-1].length/\(vl (c9 a.2 3)).1.toNat<[99,100,-1].length/\True)<|lt ((vl (c9 a.2 3),[(99:Int),(100:Int),(-1:Int)].getD (vl (c9 a.2 (3:Int))).1.toNat (0:Int))) fun(i,j) =>
   IK d (i.2.1,i.2.2.1,i.2.2.2,800+10*d.1+7*f.1,j,900+10*c.1+9*g.1,h)
  else
   if(a.1==2) then
    gd ((c9 a.2 2).isSome/\j0 (5000+(vl (c9 a.2 2)).1)/\True)<|lt (vl (c9 a.2 2)) fun e =>
    IK d (e.2.1,e.2.2.1,e.2.2.2,800+10*d.1+7*f.1,900+10*c.1,5000+e.1,h)
   else
    if(a.1==3) then
     IK d (a.2.1,a.2.2.1,a.2.2.2,800+10*d.1+7*f.1,900+10*c.1,900+10*c.1+9*g.1,ByteArray.mk #[])
    else
     IK d (a.2.1,a.2.2.1,a.2.2.2,800+10*d.1+7*f.1,900+10*c.1,900+10*c.1+9*g.1,h)
def k59:Ct:=k6 59 [.io 122 m8] (fun x=>LQ x.1) (fun r:p8×l6=>AV.agg (Cp r.1.1 r.1.2.1 r.1.2.2.1 r.1.2.2.2.1 r.1.2.2.2.2)) (fun r=>r.2)
theorem o59:Ok prog k59:=by
 refine l5 [.cell 2 36] func59 ?_;intro y ⟨_,_⟩ r H Q hn hr;have:=hz (tc F6 tn);refine iA [0,2]<|qD (fun(q,a,j,l,k)=>Z [p 0 (R 500000),p 2 (R 2),p 3 (R 3)] [(3,bx 36 (Cp l (800+10*a.1) 0 (900+10*j.1) 0)),(500000,K 122 m8 j.2),(4,A 9 Ty.str k 0),(2,bx 36 (Cp (ByteArray.mk #[]) 0 0 0 0))]) H fun⟨q,a,j,l,k⟩ H =>
  iD F6 [0,2,3] H fun s H =>
  iD F6 [0,2,3] H fun o H =>
  jN r (fun((b,e,i,d,c,h,f):List Int×Int×Int×Int×Int×Int×ByteArray)=>Z (G7 []) [(3,bx 36 (Cp f (800+10*a.1) d c h)),(500000,bx 122 (A8 b e i)),(2,bx 36 (Cp (ByteArray.mk #[]) 0 0 0 0))]) (IK a) (fun⟨b,e,i,d,c,h,f⟩ H=>?_) (fun _ g u t=>?_)
 ·refine iA [2]<|j5<|hr H
 refine iD F6 [0,2,3,33] H fun _ H=>vB<|iA [0,2,3,33,34]<|cD H (fun H=>jB [2,3] H fun H=>fK<|g H) fun H=>iA [0,2,3,33,40]<|cD H (fun H=>?_) (fun H=>?_)
 ·refine zD (fun(n,m)=>Z (G7 []) [(3,bx 36 (Cp l (800+10*a.1) (800+10*a.1+7*s.1) m (900+10*j.1+9*o.1))),(500000,K 122 m8 n.2),(42,A 2 i64 [99,100,-1] 0),(4,A 9 Ty.str k 0),(2,bx 36 (Cp (ByteArray.mk #[]) 0 0 0 0))]) H fun⟨n,m⟩ H =>
   fK<|g H
 refine iA [0,2,3,33,48]<|cD H (fun H=>jD F6 [2,3] H fun _ H=>fK<|g H) fun H=>iA [2,3,54]<|cD H (fun H=>jA [2,3]<|fK<|g H) fun H=>vK<|fK<|g H
def Ut:List Int×List Int×Int×Int->Option (List Int×l6)
 | (b,a,c,d) =>
 some (b,a,c,d)
def PK(g:List l8):List Int×Int×Int×List Int->Option (List Int×l6)
 | (f,e,d,c) =>
 gd ((c9 (f,e,d) 12).isSome/\True)<|lt (vl (c9 (f,e,d) 12)) fun a =>
 if(a.1==0) then
  gd ((c9 a.2 2).isSome/\j0 ((g.length:Int)*(vl (c9 a.2 2)).1)/\(c.length+[(g.length:Int)*(vl (c9 a.2 2)).1].length<=9223372036854775807/\(c.length+[(g.length:Int)*(vl (c9 a.2 2)).1].length)*8<=140737488355328)/\True)<|lt (vl (c9 a.2 2)) fun b =>
  Ut ((c++[(g.length:Int)*b.1],b.2.1,b.2.2.1,b.2.2.2))
 else
  Ut (c,a.2.1,a.2.2.1,a.2.2.2)
def K0k(f:Int×l6)(h:List l8)(i:Int×List Int×Int×Int×List Int->Option (List Int×l6)):Int×List Int×Int×Int×List Int->Option (List Int×l6)
 | (a,d,b,c,g) =>
 if(decide (a < (h.length:Int))) then
  gd ((g.length+[a].length<=9223372036854775807/\(g.length+[a].length)*8<=140737488355328)/\True) <|
  gd ((c9 (d,b,c) (1+f.1)).isSome/\j0 (1+(vl (c9 (d,b,c) (1+f.1))).1)/\j0 (a+(1+(vl (c9 (d,b,c) (1+f.1))).1))/\True)<|lt (vl (c9 (d,b,c) (1+f.1))) fun e =>
  i ((a+(1+e.1),e.2.1,e.2.2.1,e.2.2.2,g++[a]))
 else
  PK h (d,b,c,g)
def Uu:List Int×List Int×Int×Int->Option (List Int×l6)
 | (d,a,c,b) =>
 some (d,a,c,b)
def PL(b:List l8):List Int×Int×Int×List Int->Option (List Int×l6)
 | (f,e,g,c) =>
 gd ((c9 (f,e,g) 12).isSome/\True)<|lt (vl (c9 (f,e,g) 12)) fun a =>
 if(a.1==0) then
  gd ((c9 a.2 2).isSome/\j0 ((b.length:Int)*(vl (c9 a.2 2)).1)/\(c.length+[(b.length:Int)*(vl (c9 a.2 2)).1].length<=9223372036854775807/\(c.length+[(b.length:Int)*(vl (c9 a.2 2)).1].length)*8<=140737488355328)/\True)<|lt (vl (c9 a.2 2)) fun d =>
  Uu ((c++[(b.length:Int)*d.1],d.2.1,d.2.2.1,d.2.2.2))
 else
  Uu (c,a.2.1,a.2.2.1,a.2.2.2)
def G0u(f:Int×l6)(h:List l8)(i:Int×List Int×Int×Int×List Int->Option (List Int×l6)):Int×List Int×Int×Int×List Int->Option (List Int×l6)
 | (a,c,b,d,g) =>
 if(decide (a < (h.length:Int))) then
  gd ((g.length+[a].length<=9223372036854775807/\(g.length+[a].length)*8<=140737488355328)/\True) <|
  gd ((c9 (c,b,d) (1+f.1)).isSome/\j0 (1+(vl (c9 (c,b,d) (1+f.1))).1)/\j0 (a+(1+(vl (c9 (c,b,d) (1+f.1))).1))/\True)<|lt (vl (c9 (c,b,d) (1+f.1))) fun e =>
  i ((a+(1+e.1),e.2.1,e.2.2.1,e.2.2.2,g++[a]))
 else
  PL h (c,b,d,g)
def IL(c:l6)(e:j9):Option (List Int×l6) :=
 gd ((R5 e).isSome/\True)<|if(!vl (R5 e)) then
  gd (True)<|if(true||false) then
   some ([],c)
  else
   gd ((u32 e).isSome/\True)<|lt (vl (u32 e)) fun j =>
   gd ((c9 c 8).isSome/\j0 (1+(vl (c9 c 8)).1)/\True)<|lt (vl (c9 c 8)) fun f =>
   gd ((c9 f.2 (1+f.1)).isSome/\True)<|lt (vl (c9 f.2 (1+f.1))) fun g =>
   lp (K0k f j) (g.1,g.2.1,g.2.2.1,g.2.2.2,[])
 else
  gd (((c9 c 3).isSome/\True)/\True)<|if(false||decide (0 < (vl (c9 c 3)).1)) then
   lt (vl (c9 c 3)) fun i =>
   some ([],i.2)
  else
   gd ((u32 e).isSome/\True)<|lt ((vl (u32 e),vl (c9 c 3))) fun(h,d) =>
   gd ((c9 d.2 8).isSome/\j0 (1+(vl (c9 d.2 8)).1)/\True)<|lt (vl (c9 d.2 8)) fun a =>
   gd ((c9 a.2 (1+a.1)).isSome/\True)<|lt (vl (c9 a.2 (1+a.1))) fun b =>
   lp (G0u a h) (b.1,b.2.1,b.2.2.1,b.2.2.2,[])
def k62:Ct:=k6 62 [.io 122 m8,.agg l9] (fun x=>IL x.1 x.2.1) (fun r:List Int×l6=>AV.ow 2 true i64 r.1) (fun r=>r.2)
theorem o62:Ok prog k62:=by
 refine l5 [.tmp 4] func62 ?_;intro y ⟨_,a1,_⟩ r H Q hn hr;have:=hz (tc F6 (tc Cu (tc Ix tn)));refine iA [0,3]<|iA [0,3,5]<|vQ<|vQ<|iG 4 3 [0,3,5,17] [(14,AV.ptr 500000 0),(15,I 0),(16,B false)] H (fun H=>K3 H fun H=>fQ ?_) (fun H=>K3 H fun H=>fQ ?_)
 ·refine cD H (fun H=>iA [4]<|j5<|fR<|hr H) fun H=>vK<|fQ<|iD Cu [0,5,6] H fun V H=>iD F6 [0,5,6,7] H fun v1 H=>jN r (fun((i,e,o,u):List Int×Int×Int×List Int)=>Z [p 0 (R 500000),p 5 (O 9),p 6 (I (V.length:Int))] [(500000,bx 122 (A8 i e o)),(9,A 2 i64 u 0)]) (PK V) (fun⟨i,e,o,u⟩ H=>?_) (fun _ n0 e0 t0=>?_)
  ·refine jN r (fun((s,q,j,k):List Int×List Int×Int×Int)=>Z [p 5 (O 9)] [(9,A 2 i64 s 0),(500000,bx 122 (A8 q j k))]) (Ut) (fun⟨s,q,j,k⟩ H=>?_) (fun _ X e2 t2=>?_)
   ·refine iA [4]<|j5<|hr H
   refine iD F6 [0,5,6,43] H fun _ H=>cD H (fun H=>jD F6 [5] H fun _ H=>X H) fun H=>vK<|X H
  refine iD F6 [0,5,6,7,8] H fun P H=>vB<|lX (fun((v4,v5,v6,W,v8):Int×List Int×Int×Int×List Int)=>Z [p 0 (R 500000),p 5 (O 9),p 6 (I (V.length:Int)),p 7 (I (1+v1.1)),p 8 (I v4)] [(500000,bx 122 [L b8 v5,J v6,J W]),(9,A 2 i64 v8 0)]) (P.1,P.2.1,P.2.2.1,P.2.2.2,[]) H fun _ g1 b1 e1 t1 ⟨v4,v5,v6,W,v8⟩ H=>vQ<|iA [0,5,6,7,8,30]<|cD H (fun H=>vK<|fQ<|vQ<|vB<|jB [0,5,6,7,8] H fun H=>fK<|fQ<|jD F6 [0,5,6,7,8] H fun _ H=>b1 H) fun H=>vE<|fE<|e1<|fX rfl<|n0 H
 refine cD H (fun H=>qC (fun c=>Z [p 4 (O 9)] [(500000,K 122 m8 c.2),(9,A 2 i64 [] 0),(3,K 34 l9 a1)]) H fun c H=>j5<|fR<|hr H) fun H=>vK<|fQ<|qD (fun(a,l)=>Z [p 0 (R 500000),p 5 (O 9),p 6 (I (a.length:Int))] [(20,A 80 y80 a 0),(500000,K 122 m8 l.2),(9,A 2 i64 [] 0),(3,K 34 l9 a1)]) H fun w H=>?_
 obtain⟨a,l⟩:=w;refine iD F6 [0,5,6,7] H fun T H=>jN r (fun((m,h,g,n):List Int×Int×Int×List Int)=>Z [p 0 (R 500000),p 5 (O 9),p 6 (I (a.length:Int))] [(500000,bx 122 (A8 m h g)),(9,A 2 i64 n 0)]) (PL a) (fun⟨m,h,g,n⟩ H=>?_) (fun _ n3 e3 t3=>?_)
 ·refine jN r (fun((f,z,t,E):List Int×List Int×Int×Int)=>Z [p 5 (O 9)] [(9,A 2 i64 f 0),(500000,bx 122 (A8 z t E))]) (Uu) (fun⟨f,z,t,E⟩ H=>?_) (fun _ Y e5 t5=>?_)
  ·refine iA [4]<|j5<|hr H
  refine iD F6 [0,5,6,43] H fun _ H=>cD H (fun H=>jD F6 [5] H fun _ H=>Y H) fun H=>vK<|Y H
 refine iD F6 [0,5,6,7,8] H fun b H=>vB<|lX (fun((F,v,d,x,G):Int×List Int×Int×Int×List Int)=>Z [p 0 (R 500000),p 5 (O 9),p 6 (I (a.length:Int)),p 7 (I (1+T.1)),p 8 (I F)] [(500000,bx 122 (A8 v d x)),(9,A 2 i64 G 0)]) (b.1,b.2.1,b.2.2.1,b.2.2.2,[]) H fun _ g4 b4 e4 t4 ⟨F,v,d,x,G⟩ H=>vQ<|iA [0,5,6,7,8,30]<|cD H (fun H=>vK<|fQ<|vQ<|vB<|jB [0,5,6,7,8] H fun H=>fK<|fQ<|jD F6 [0,5,6,7,8] H fun _ H=>b4 H) fun H=>vE<|fE<|e4<|fX rfl<|n3 H
def A0K:Unit->Option Bool
 | _ =>
 some false
def A0J(c:List Bool)(b:List l8)(d:Int)(e:Int->Option Bool):Int->Option Bool
 | a =>
 if(decide (a < (b.length:Int))) then
  gd (ix a c.length/\(c.getD a.toNat false=true/\True->ix a b.length)/\((c.getD a.toNat false&&(b.getD a.toNat (a6 y80)).1==d)=true/\True->ix a b.length)/\True) <|
  if(c.getD a.toNat false&&(b.getD a.toNat (a6 y80)).1==d&&(b.getD a.toNat (a6 y80)).2.1==d) then
   some true
  else
   gd (j0 (a+1)/\True) <|
   e (a+1)
 else
  A0K ()
def LR(b:List l8)(a:List Bool)(c:Int):Option Bool :=
 lp (A0J a b c) 0
def Q0t:Ct:=k6 170 [.dat y80.sl,.dat Ty.bool.sl,.dat i64] (fun x=>LR x.1 x.2.1 x.2.2.1) (fun r:Bool=>B r) (fun _=>())
theorem O0K:Ok prog Q0t:=by
 refine l5 [.tmp 6] func170 ?_;intro y ⟨c,b,h,_⟩ r H Q hn hr;refine iA [0,1,2]<|jN r (fun(_:Unit)=>Z [] []) (A0K) (fun _ H=>?_) (fun _ d j g=>?_)
 ·refine iA [6]<|j5<|hr H
 refine iA [0,1,2,7]<|vB<|lX (fun(a:Int)=>Z [p 0 (L y80 c),p 1 (L Ty.bool b),p 2 (J h),p 7 (I a)] []) 0 H fun _ k i f e a H=>vQ<|iA [0,1,2,7,11]<|cD H (fun H=>?_) (fun H=>?_)
 ·refine vK<|fQ<|vQ<|vB<|iB [0,1,2,7,35] H fun H=>cD H (fun H=>iA [6]<|j5<|m4<|fR<|e<|m4<|g<|hr H) fun H=>vK<|fK<|fQ<|jB [0,1,2,7] H fun H=>i H
 exact vE<|fE<|f<|fX rfl<|d H
def Uv:List Bool->Option (List Bool)
 | a =>
 some a
def Uw(a:Int)(d:Bool×Int×List Bool->Option (List Bool)):List Bool×Bool->Option (List Bool)
 | (b,c) =>
 gd (j0 (a+1)/\True) <|
 d (c,a+1,b)
def PM(b:Int)(a:List Bool)(f:Bool)(e:List Bool)(g:Bool×Int×List Bool->Option (List Bool)):Int×Int->Option (List Bool)
 | (d,c) =>
 gd (ix b e.length/\(e.getD b.toNat false=true/\True->ix d a.length)/\(e.getD b.toNat false=true/\True->d.toNat<a.length)/\((e.getD b.toNat false&&a.getD d.toNat false)=true/\True->ix c a.length)/\((e.getD b.toNat false&&a.getD d.toNat false)=true/\True->c.toNat<a.length)/\True) <|
 if(e.getD b.toNat false&&a.getD d.toNat false&&!a.getD c.toNat false) then
  gd (ix c a.length/\c.toNat<a.length/\True) <|
  Uw b g (a.set c.toNat true,true)
 else
  Uw b g (a,f)
def Ux(f:List Bool)(h:Bool)(e:List l8)(i:Bool×List Bool->Option (List Bool))(g:Bool×Int×List Bool->Option (List Bool)):Bool×Int×List Bool->Option (List Bool)
 | (c,a,d) =>
 if(decide (a < (e.length:Int))) then
  gd (ix a e.length/\ix a e.length/\True)<|lt (e.getD a.toNat (a6 y80)) fun b =>
  if(!h) then
   PM a d c f g (b.2.1,b.1)
  else
   PM a d c f g (b.1,b.2.1)
 else
  i (c,d)
def A0L(f:List Bool)(c:Bool)(d:List l8)(e:Bool×List Bool->Option (List Bool)):Bool×List Bool->Option (List Bool)
 | (b,a) =>
 if b then
  lp (Ux f c d e) (false,0,a)
 else
  Uv a
def Dq(a:Int)(d:List l8)(e:List Bool)(b:Int)(c:Bool):Option (List Bool) :=
 gd ((0<=a/\a=a/\a.toNat*1<=281474976710656/\a<=9223372036854775807)/\True) <|
 gd (ix b (List.replicate a.toNat false).length/\b.toNat < (List.replicate a.toNat false).length/\True) <|
 lp (A0L e c d) ((true,(List.replicate a.toNat false).set b.toNat true))
def Q0u:Ct:=k6 169 [.dat i64,.dat y80.sl,.dat Ty.bool.sl,.dat i64,.dat Ty.bool] (fun x=>Dq x.1 x.2.1 x.2.2.1 x.2.2.2.1 x.2.2.2.2.1) (fun r:List Bool=>AV.ow 4 true Ty.bool r) (fun _=>())
theorem O0L:Ok prog Q0u:=by
 refine l5 [.tmp 10] func169 ?_;intro y ⟨w,m,f,t,g,_⟩ r H Q hn hr;refine iA [0,1,2,3,4]<|iB [1,2,3,4,11] H fun H=>iB [1,2,4,11] H fun H=>jN r (fun(k:List Bool)=>Z [p 11 (O 17)] [(17,A 4 Ty.bool k 0)]) (Uv) (fun k H=>?_) (fun _ x T P=>?_)
 ·refine iA [10]<|j5<|hr H
 refine iA [1,2,4,11,12]<|vB<|lX (fun((j,d):Bool×List Bool)=>Z (Kx m f g j []) [(17,A 4 Ty.bool d 0)]) ((true,(List.replicate w.toNat false).set t.toNat true)) H fun _ Y z u W ⟨j,d⟩ H=>vQ<|iA [1,2,4,11,21]<|cD H (fun H=>?_) (fun H=>?_)
 ·refine vK<|fQ<|vB<|iA [1,2,4,11,12]<|iA [1,2,4,11,12,13]<|vB<|lX (fun((c,a,b):Bool×Int×List Bool)=>Z (Kx m f g c [p 13 (I a)]) [(17,A 4 Ty.bool b 0)]) (false,0,d) H fun _ q s v F ⟨c,a,b⟩ H=>vQ<|iA [1,2,4,11,12,13,25]<|cD H (fun H=>?_) (fun H=>?_)
  ·refine vK<|fQ<|jN r (fun((l,h):List Bool×Bool)=>Z (Kx m f g h [p 13 (I a)]) [(17,A 4 Ty.bool l 0)]) (Uw a q) (fun⟨l,h⟩ H=>?_) (fun _ n3 X V=>?_)
   ·refine jB [1,2,4,11,12,13] H fun H=>s H
   refine vB<|qD (fun e=>Z (Kx m f g c [p 13 (I a),p 14 (J e.1),p 15 (J e.2.1)]) [(17,A 4 Ty.bool b 0)]) H fun e H=>jN r (fun((i,n):Int×Int)=>Z (Kx m f g c [p 13 (I a),p 14 (J i),p 15 (J n)]) [(17,A 4 Ty.bool b 0)]) (PM a b c f q) (fun⟨i,n⟩ H=>?_) (fun _ o E G=>?_)
   ·refine iB [1,2,4,11,12,13,15,58] H fun H=>cD H (fun H=>iB [1,2,4,11,13] H fun H=>jA [1,2,4,11,12,13]<|fK<|n3 H) fun H=>vK<|fK<|n3 H
   refine iA [1,2,4,11,12,13,14,15,39]<|cD H (fun H=>jA [1,2,4,11,12,13,14,15]<|o H) fun H=>vK<|o H
  exact vE<|fE<|v<|fX rfl<|fK<|z H
 exact vE<|fE<|u<|fX rfl<|x H
def B0t:List (List Int)->Option (List (List Int))
 | a =>
 some a
def IM(a:Int)(d:Int×List Bool×List (List Int)->Option (List (List Int))):List Bool×List (List Int)->Option (List (List Int))
 | (c,b) =>
 gd (j0 (a+1)/\True) <|
 d (a+1,c,b)
def LS(c:Int)(b:List (List Int))(e:List l8)(g:List Bool)(f:Int×List Bool×List (List Int)->Option (List (List Int))):List Int×List Bool->Option (List (List Int))
 | (a,d) =>
 gd ((decide (1 < (a.length:Int))=false/\True->(LR e g c).isSome)/\True) <|
 if(decide (1 < (a.length:Int))||vl (LR e g c)) then
  gd ((b.length+[a].length<=9223372036854775807/\(b.length+[a].length)*24<=140737488355328)/\True) <|
  IM c f (d,b++[a])
 else
  IM c f (d,b)
def Uy(a:Int)(d:Int×List Int×List Bool->Option (List (List Int))):List Bool×List Int->Option (List (List Int))
 | (c,b) =>
 gd (j0 (a+1)/\True) <|
 d (a+1,b,c)
def Uz(b:List Bool)(e:List Bool)(g:Int)(f:List (List Int))(i:List l8)(l:List Bool)(j:Int)(k:Int×List Bool×List (List Int)->Option (List (List Int)))(h:Int×List Int×List Bool->Option (List (List Int))):Int×List Int×List Bool->Option (List (List Int))
 | (a,c,d) =>
 if(decide (a<j)) then
  gd (ix a b.length/\a.toNat<b.length/\(b.getD a.toNat false=true/\True->ix a e.length)/\(b.getD a.toNat false=true/\True->a.toNat<e.length)/\True) <|
  if(b.getD a.toNat false&&e.getD a.toNat false) then
   gd ((c.length+[a].length<=9223372036854775807/\(c.length+[a].length)*8<=140737488355328)/\True) <|
   gd (ix a d.length/\a.toNat<d.length/\True) <|
   Uy a h (d.set a.toNat true,c++[a])
  else
   Uy a h (d,c)
 else
  LS g f i l k (c,d)
def UA(e:List l8)(f:List Bool)(d:Int)(i:Int×List Bool×List (List Int)->Option (List (List Int))):Int×List Bool×List (List Int)->Option (List (List Int))
 | (a,b,c) =>
 if(decide (a<d)) then
  gd (ix a b.length/\a.toNat<b.length/\True) <|
  if(b.getD a.toNat false) then
   IM a i (b,c)
  else
   gd ((Dq d e f a true).isSome/\(Dq d e f a false).isSome/\True)<|lt ((vl (Dq d e f a false),vl (Dq d e f a true))) fun(g,h) =>
   lp (Uz h g a c e f d i) (0,[],b)
 else
  B0t c
def GS(a:Int)(b:List l8)(c:List Bool):Option (List (List Int)) :=
 gd ((0<=a/\a=a/\a.toNat*1<=281474976710656/\a<=9223372036854775807)/\True) <|
 lp (UA b c a) (0,List.replicate a.toNat false,[])
def R0j:Ct:=k6 122 [.dat i64,.dat y80.sl,.dat Ty.bool.sl] (fun x=>GS x.1 x.2.1 x.2.2.1) (fun r:List (List Int)=>AV.ow 37 true i64.sl r) (fun _=>())
theorem M0S:Ok prog R0j:=by
 refine l5 [.tmp 6] func122 ?_;intro y ⟨j,h,d,_⟩ r H Q hn hr;have:=hz (tc O0K (tc O0L tn));refine iA [0,1,2]<|iA [0,1,2,7]<|iB [0,1,2,7,8] H fun H=>jN r (fun(t:List (List Int))=>Z [p 7 (O 14)] [(14,A 37 i64.sl t 0)]) (B0t) (fun t H=>?_) (fun _ G Y X=>?_)
 ·refine iA [6]<|j5<|hr H
 refine iA [0,1,2,7,8,9]<|vB<|lX (fun((a,c,b):Int×List Bool×List (List Int))=>Z (Az j h d [p 7 (O 14),p 8 (O 16),p 9 (I a)]) (Im c b)) (0,List.replicate j.toNat false,[]) H fun _ x P F t1 ⟨a,c,b⟩ H=>vQ<|iA [0,1,2,7,8,9,19]<|cD H (fun H=>?_) (fun H=>?_)
 ·refine vK<|fQ<|jN r (fun((l,q):List Bool×List (List Int))=>Z (Az j h d [p 7 (O 14),p 8 (O 16),p 9 (I a)]) (Im l q)) (IM a x) (fun⟨l,q⟩ H=>?_) (fun _ u e2 V=>?_)
  ·refine jB [0,1,2,7,8,9] H fun H=>P H
  refine vB<|vQ<|iB [0,1,2,7,8,9,25] H fun H=>cD H (fun H=>vE<|fE<|fX rfl<|u H) fun H=>vK<|fQ<|qD (fun(g,e)=>Z (Az j h d [p 7 (O 14),p 8 (O 16),p 9 (I a),p 10 (O 30),p 11 (O 35)]) ((35,A 4 Ty.bool g 0)::(30,A 4 Ty.bool e 0)::Im c b)) H fun w H=>?_
  obtain⟨g,e⟩:=w;refine iA [0,1,2,7,8,9,10,11,12]<|jN r (fun((i,k):List Int×List Bool)=>Z (Az j h d [p 7 (O 14),p 8 (O 16),p 9 (I a),p 12 (O 36)]) ((36,A 2 i64 i 0)::Im k b)) (LS a b h d x) (fun⟨i,k⟩ H=>?_) (fun _ n3 e3 t3=>?_)
  ·refine iB [0,1,2,7,8,9,12,67] H fun H=>cD H (fun H=>fZ 36 (Z (Az j h d [p 7 (O 14),p 8 (O 16),p 9 (I a),p 12 (M i64 i),p 67 (B (decide (1 < (i.length:Int))||vl (LR h d a)))]) (Im k b))<|jB [0,1,2,7,8,9] H fun H=>fK<|u H) fun H=>vK<|fK<|u H
  refine iA [0,1,2,7,8,9,10,11,12,13]<|vB<|lX (fun((f,o,m):Int×List Int×List Bool)=>Z (Az j h d [p 7 (O 14),p 8 (O 16),p 9 (I a),p 10 (O 30),p 11 (O 35),p 12 (O 36),p 13 (I f)]) ((36,A 2 i64 o 0)::(35,A 4 Ty.bool g 0)::(30,A 4 Ty.bool e 0)::Im m b)) (0,[],c) H fun _ E T z W ⟨f,o,m⟩ H=>vQ<|iA [0,1,2,7,8,9,10,11,12,13,39]<|cD H (fun H=>?_) (fun H=>?_)
  ·refine vK<|fQ<|jN r (fun((s,n):List Bool×List Int)=>Z (Az j h d [p 7 (O 14),p 8 (O 16),p 9 (I a),p 10 (O 30),p 11 (O 35),p 12 (O 36),p 13 (I f)]) [(16,A 4 Ty.bool s 0),(36,A 2 i64 n 0),(35,A 4 Ty.bool g 0),(30,A 4 Ty.bool e 0),(14,A 37 i64.sl b 0)]) (Uy f E) (fun⟨s,n⟩ H=>?_) (fun _ v e5 t5=>?_)
   ·refine jB [0,1,2,7,8,9,10,11,12,13] H fun H=>T H
   refine vB<|iB [0,1,2,7,8,9,10,11,12,13,51] H fun H=>cD H (fun H=>iB [0,1,2,7,8,9,10,11,12,13] H fun H=>jB [0,1,2,7,8,9,10,11,12,13] H fun H=>fK<|v H) fun H=>vK<|fK<|v H
  exact vE<|fE<|z<|fX rfl<|n3 H
 exact vE<|fE<|F<|fX rfl<|G H
def G0t:List Int->Option (List Int)
 | a =>
 some a
def UB(a:Int)(c:Int×List Int->Option (List Int)):List Int->Option (List Int)
 | b =>
 gd (j0 (a+1)/\True) <|
 c (a+1,b)
def G0q(c:List Bool)(d:Int×List Int->Option (List Int)):Int×List Int->Option (List Int)
 | (a,b) =>
 if(decide (a < (c.length:Int))) then
  gd (ix a c.length/\a.toNat<c.length/\True) <|
  if(!c.getD a.toNat false) then
   gd ((b.length+[a].length<=9223372036854775807/\(b.length+[a].length)*8<=140737488355328)/\True) <|
   UB a d (b++[a])
  else
   UB a d b
 else
  G0t b
def LU:List Bool->Option (List Int)
 | a =>
 lp (G0q a) (0,[])
def LV(b:List Bool)(c:List Bool->Option (List Int)):Int->Option (List Int)
 | a =>
 gd (ix a b.length/\a.toNat<b.length/\True) <|
 c (b.set a.toNat false)
def PN(a:Int)(c:Int×Int->Option (List Int)):Int->Option (List Int)
 | b =>
 gd (j0 (a+1)/\True) <|
 c (b,a+1)
def G0r(d:List Bool)(b:List l8)(c:List (List Int))(g:List Bool->Option (List Int))(f:Int×Int->Option (List Int)):Int×Int->Option (List Int)
 | (e,a) =>
 if(decide (a < (b.length:Int))) then
  gd (ix a d.length/\a.toNat<d.length/\(d.getD a.toNat false=true/\True->ix a b.length)/\(d.getD a.toNat false=true/\True->a.toNat<b.length)/\((d.getD a.toNat false&&(b.getD a.toNat (a6 y80)).2.2.1==(1:Int))=true/\True->ix (0:Int) c.length)/\((d.getD a.toNat false&&(b.getD a.toNat (a6 y80)).2.2.1==(1:Int))=true/\True->Int.toNat (0:Int)<c.length)/\((d.getD a.toNat false&&(b.getD a.toNat (a6 y80)).2.2.1==(1:Int))=true/\True->ix a b.length)/\((d.getD a.toNat false&&(b.getD a.toNat (a6 y80)).2.2.1==(1:Int))=true/\True->a.toNat<b.length)/\((d.getD a.toNat false&&(b.getD a.toNat (a6 y80)).2.2.1==(1:Int))=true/\True->(U8 (c.getD (Int.toNat (0:Int)) []) (b.getD a.toNat (a6 y80)).1).isSome)/\((d.getD a.toNat false&&(b.getD a.toNat (a6 y80)).2.2.1==(1:Int)&&vl (U8 (c.getD (Int.toNat (0:Int)) []) (b.getD a.toNat (a6 y80)).1))=true/\True->ix (0:Int) c.length)/\((d.getD a.toNat false&&(b.getD a.toNat (a6 y80)).2.2.1==(1:Int)&&vl (U8 (c.getD (Int.toNat (0:Int)) []) (b.getD a.toNat (a6 y80)).1))=true/\True->Int.toNat (0:Int)<c.length)/\((d.getD a.toNat false&&(b.getD a.toNat (a6 y80)).2.2.1==(1:Int)&&vl (U8 (c.getD (Int.toNat (0:Int)) []) (b.getD a.toNat (a6 y80)).1))=true/\True->ix a b.length)/\((d.getD a.toNat false&&(b.getD a.toNat (a6 y80)).2.2.1==(1:Int)&&vl (U8 (c.getD (Int.toNat (0:Int)) []) (b.getD a.toNat (a6 y80)).1))=true/\True->a.toNat<b.length)/\((d.getD a.toNat false&&(b.getD a.toNat (a6 y80)).2.2.1==(1:Int)&&vl (U8 (c.getD (Int.toNat (0:Int)) []) (b.getD a.toNat (a6 y80)).1))=true/\True->(U8 (c.getD (Int.toNat (0:Int)) []) (b.getD a.toNat (a6 y80)).2.1).isSome)/\True) <|
  if(d.getD a.toNat false&&(b.getD a.toNat (a6 y80)).2.2.1==(1:Int)&&vl (U8 (c.getD (Int.toNat (0:Int)) []) (b.getD a.toNat (a6 y80)).1)&&vl (U8 (c.getD (Int.toNat (0:Int)) []) (b.getD a.toNat (a6 y80)).2.1)) then
   PN a f a
  else
   PN a f e
 else
  LV d g e
def G0s(c:List l8)(d:Int)(e:List Bool->Option (List Int)):List Bool->Option (List Int)
 | b =>
 gd ((GS d c b).isSome/\True)<|lt (vl (GS d c b)) fun a =>
 if((a.length:Int)==0) then
  LU b
 else
  lp (G0r b c a e) (-1,0)
def Ft(a:j9):Option (List Int) :=
 gd ((u32 a).isSome/\True)<|lt (vl (u32 a)) fun b =>
 gd ((Bg b []).isSome/\True)<|lt (vl (Bg b [])) fun d =>
 gd ((Y6 a).isSome/\True)<|lt (vl (Y6 a)) fun c =>
 lp (G0s b c) d
def k63:Ct:=k6 63 [.agg l9] (fun x=>Ft x.1) (fun r:List Int=>AV.ow 2 true i64 r) (fun _=>())
theorem o63:Ok prog k63:=by
 refine l5 [.tmp 2] func63 ?_;intro y ⟨_,_⟩ r H Q hn hr;have:=hz (tc Zv (tc M0S (tc Iv (tc OK (tc Cu tn)))));refine iA [1]<|iD Cu [1,3] H fun m H=>iD OK [1,3,4] H fun P H=>iD Iv [3,4,5] H fun l H=>jN r (fun(b:List Bool)=>Z [p 4 (O 15)] [(15,A 4 Ty.bool b 0)]) (LU) (fun b H=>?_) (fun _ w e0 Y=>?_)
 ·refine iA [4,9]<|jN r (fun(j:List Int)=>Z [p 9 (O 69)] [(69,A 2 i64 j 0)]) (G0t) (fun j H=>?_) (fun _ s e5 t5=>?_)
  ·refine iA [2]<|j5<|hr H
  refine iA [4,9,10]<|vB<|lX (fun((a,g):Int×List Int)=>Z [p 4 (O 15),p 9 (O 69),p 10 (I a)] [(69,A 2 i64 g 0),(15,A 4 Ty.bool b 0)]) (0,[]) H fun _ x E z t6 ⟨a,g⟩ H=>vQ<|iA [4,9,10,73]<|cD H (fun H=>?_) (fun H=>?_)
  ·refine vK<|fQ<|jN r (fun(e:List Int)=>Z [p 4 (O 15),p 9 (O 69),p 10 (I a)] [(69,A 2 i64 e 0),(15,A 4 Ty.bool b 0)]) (UB a x) (fun e H=>?_) (fun _ o e7 t7=>?_)
   ·refine jB [4,9,10] H fun H=>E H
   refine vB<|iB [4,9,10,80] H fun H=>cD H (fun H=>jB [4,9,10] H fun H=>fK<|o H) fun H=>vK<|fK<|o H
  exact vE<|fE<|z<|fX rfl<|s H
 refine vB<|lX (fun(d:List Bool)=>Z [p 3 (O 12),p 4 (O 15),p 5 (I l)] [(15,A 4 Ty.bool d 0),(12,A 80 y80 m 0)]) P H fun _ G T u t1 d H=>vB<|iD M0S [3,4,5,6] H fun h H=>vQ<|iA [3,4,5,6,24]<|cD H (fun H=>vE<|fE<|n0q rfl<|u<|fX rfl<|w H) fun H=>vK<|fQ<|iA [3,4,5,6,7]<|jN r (fun(f:Int)=>Z [p 3 (O 12),p 4 (O 15),p 5 (I l),p 7 (I f)] [(15,A 4 Ty.bool d 0),(12,A 80 y80 m 0)]) (LV d G) (fun f H=>?_) (fun _ q e2 W=>?_)
 ·refine jB [3,4,5] H fun H=>fK<|T H
 refine iA [3,4,5,6,7,8]<|vB<|lX (fun((k,c):Int×Int)=>Z [p 3 (O 12),p 4 (O 15),p 5 (I l),p 6 (O 21),p 7 (I k),p 8 (I c)] [(21,A 37 i64.sl h 0),(15,A 4 Ty.bool d 0),(12,A 80 y80 m 0)]) (-1,0) H fun _ t v F t3 ⟨k,c⟩ H=>vQ<|iA [3,4,5,6,7,8,28]<|cD H (fun H=>?_) (fun H=>?_)
 ·refine vK<|fQ<|jN r (fun(i:Int)=>Z [p 3 (O 12),p 4 (O 15),p 5 (I l),p 6 (O 21),p 7 (I i),p 8 (I c)] [(21,A 37 i64.sl h 0),(15,A 4 Ty.bool d 0),(12,A 80 y80 m 0)]) (PN c t) (fun i H=>?_) (fun _ n V X=>?_)
  ·refine jB [3,4,5,6,7,8] H fun H=>v H
  refine vB<|iB [3,4,5,6,7,8,64] H fun H=>cD H (fun H=>jA [3,4,5,6,7,8]<|fK<|n H) fun H=>vK<|fK<|n H
 exact vE<|fE<|F<|fX rfl<|q H
def IN(b:C6)(a:List Int):Option Bool :=
 gd ((GQ b.2.2.1).isSome/\j0 (vl (GQ b.2.2.1)-1)/\(I9 a 0 (vl (GQ b.2.2.1)-1)).isSome/\(vl (I9 a 0 (vl (GQ b.2.2.1)-1))=true/\True->(Cz a).isSome)/\True) <|
 some (vl (I9 a 0 (vl (GQ b.2.2.1)-1))&&vl (Cz a))
def k65:Ct:=k6 65 [.dat y157.pt,.dat i64.sl] (fun x=>IN x.1 x.2.1) (fun r:Bool=>B r) (fun _=>())
theorem o65:Ok prog k65:=by
 refine l5 [.tmp 4] func65 ?_;intro y ⟨_,_,_⟩ r H Q hn hr;have:=hz (tc M0R (tc Lp (tc P0g tn)));refine iA [0,1]<|iB [4] H fun H=>j5<|hr H
def G0n:Unit->Option Bool
 | _ =>
 some true
def G0m(c:C6)(d:List m6)(e:Int->Option Bool):Int->Option Bool
 | b =>
 if(decide (b < (d.length:Int))) then
  gd (ix b d.length/\True)<|lt (d.getD b.toNat (a6 y53)) fun a =>
  gd ((CB c a.1).isSome/\((!vl (CB c a.1))=false/\True->(M8 a.2.1).isSome)/\((!vl (CB c a.1)||!vl (M8 a.2.1))=false/\True->(Bh a.2.2).isSome)/\(decide (0<b)=true/\(!vl (CB c a.1)||!vl (M8 a.2.1)||!vl (Bh a.2.2))=false/\True->j0 (b-1))/\(decide (0<b)=true/\(!vl (CB c a.1)||!vl (M8 a.2.1)||!vl (Bh a.2.2))=false/\True->ix (b-1) d.length)/\True) <|
  if(!vl (CB c a.1)||!vl (M8 a.2.1)||!vl (Bh a.2.2)||decide (0<b)&&decide (a.1<=(d.getD (b-1).toNat (a6 y53)).1)) then
   some false
  else
   gd (j0 (b+1)/\True) <|
   e (b+1)
 else
  G0n ()
def LW(b:C6)(a:List m6):Option Bool :=
 lp (G0m b a) 0
def k66:Ct:=k6 66 [.dat y157.pt,.dat y53.sl] (fun x=>LW x.1 x.2.1) (fun r:Bool=>B r) (fun _=>())
theorem o66:Ok prog k66:=by
 refine l5 [.tmp 4] func66 ?_;intro y ⟨c,a,_⟩ r H Q hn hr;have:=hz (tc o56 (tc Pe (tc o41 tn)));refine iA [0,1]<|jN r (fun(_:Unit)=>Z [] []) (G0n) (fun _ H=>?_) (fun _ e j h=>?_)
 ·refine iA [4]<|j5<|hr H
 refine iA [0,1,7,8,9]<|vB<|lX (fun(b:Int)=>Z [p 0 (D y157.pt c),p 1 (L y53 a),p 7 (L y53 a),p 8 (I (a.length:Int)),p 9 (I b)] []) 0 H fun _ k i g f b H=>iA [0,1,7,8,9,10]<|vQ<|cD H (fun H=>?_) (fun H=>?_)
 ·refine vK<|fQ<|vQ<|vB<|qD (fun d=>Z [p 0 (D y157.pt c),p 1 (L y53 a),p 5 (I b),p 6 (R 6),p 7 (L y53 a),p 8 (I (a.length:Int)),p 9 (I b)] [(6,K 53 y53 d)]) H fun d H=>iB [0,1,7,8,9,45] H fun H=>cD H (fun H=>iA [4]<|j5<|m4<|fR<|f<|m4<|h<|hr H) fun H=>vK<|fK<|fQ<|jB [0,1,7,8,9] H fun H=>i H
 exact vE<|fE<|g<|fX rfl<|e H
def G0l(a:C6):List Bool->Option I4
 | b =>
 some (a,b)
def G0j(b:List Int)(d:C6)(e:Int×List Bool->Option I4):Int×List Bool->Option I4
 | (a,c) =>
 if(decide (a < (b.length:Int))) then
  gd (ix a b.length/\True) <|
  gd (ix (b.getD a.toNat 0) c.length/\Int.toNat (b.getD a.toNat 0)<c.length/\True) <|
  gd (j0 (a+1)/\True) <|
  e ((a+1,c.set (Int.toNat (b.getD a.toNat 0)) false))
 else
  G0l d c
def LX(a:List Int)(b:C6):List Bool->Option I4
 | c =>
 lp (G0j a b) (0,c)
def G0k(d:List Int)(e:C6)(c:Int)(f:Int×List Bool->Option I4):Int×List Bool->Option I4
 | (a,b) =>
 if(decide (a<c)) then
  gd (ix a b.length/\a.toNat<b.length/\True) <|
  gd (j0 (a+1)/\True) <|
  f (a+1,b.set a.toNat true)
 else
  LX d e b
def LY(a:C6)(c:List Int):Option I4 :=
 gd ((0<=(a.2.2.1.length:Int)/\(a.2.2.1.length:Int)=(a.2.2.1.length:Int)/\(a.2.2.1.length:Int).toNat*1<=281474976710656/\(a.2.2.1.length:Int)<=9223372036854775807)/\True) <|
 lt ((↑(List.replicate (a.2.2.1.length:Int).toNat false).length:Int)) fun b =>
 lp (G0k c a b) ((0,List.replicate (a.2.2.1.length:Int).toNat false))
def k67:Ct:=k6 67 [.dat y157.pt,.dat i64.sl] (fun x=>LY x.1 x.2.1) (fun r:I4=>D y104.pt r) (fun _=>())
theorem o67:Ok prog k67:=by
 refine l5 [.tmp 4] func67 ?_;intro y ⟨a,b,_⟩ r H Q hn hr;refine iA [0,1]<|iB [1,5] H fun H=>jN r (fun(c:List Bool)=>Z [p 1 (L i64 b),p 5 (R 17)] (Kt a c)) (LX b a) (fun c H=>?_) (fun _ m u s=>?_)
 ·refine jN r (fun(i:List Bool)=>Z [p 5 (R 17)] (Kt a i)) (G0l a) (fun i H=>?_) (fun _ j v q=>?_)
  ·refine iA [4]<|j5<|hr H
  refine iA [5,33,34,35]<|vB<|lX (fun((g,e):Int×List Bool)=>Z [p 5 (R 17),p 33 (L i64 b),p 34 (I (b.length:Int)),p 35 (I g)] (Kt a e)) (0,c) H fun _ t l n w ⟨g,e⟩ H=>iA [5,33,34,35,36]<|vQ<|cD H (fun H=>vK<|fQ<|vQ<|vB<|iB [5,8,33,34,35] H fun H=>jB [5,33,34,35] H fun H=>fK<|fQ<|jB [5,33,34,35] H fun H=>l H) fun H=>vE<|fE<|n<|fX rfl<|j H
 refine qC (fun d=>Z [p 1 (L i64 b),p 5 (R 17),p 22 (I d),p 23 (I 0)] (Kt a (List.replicate (a.2.2.1.length:Int).toNat false))) H fun d H=>vB<|lX (fun((f,h):Int×List Bool)=>Z [p 1 (L i64 b),p 5 (R 17),p 22 (I d),p 23 (I f)] (Kt a h)) ((0,List.replicate (a.2.2.1.length:Int).toNat false)) H fun _ z o k x ⟨f,h⟩ H=>iA [1,5,22,23,24]<|vQ<|cD H (fun H=>vK<|fQ<|vQ<|vB<|iA [1,5,6,22,23]<|jB [1,5,22,23] H fun H=>fK<|fQ<|jB [1,5,22,23] H fun H=>o H) fun H=>vE<|fE<|k<|fX rfl<|m H
def UC(b:l8)(a:Int):Option Bool :=
 some (b.1==a)
def Q0r:Ct:=k6 173 [.agg y80,.dat (.pt i64)] (fun x=>UC x.1 x.2.1) (fun r:Bool=>B r) (fun _=>())
theorem M0C:Ok prog Q0r:=by
 refine l5 [.tmp 3] func173 ?_;intro y ⟨_,_,_⟩ r H Q hn hr;refine iA [1,2]<|iA [3]<|j5<|hr H
def j0T:List Int->Option (List Int)
 | a =>
 some a
def UD(a:Int)(b:List Int×Int->Option (List Int)):List Int->Option (List Int)
 | c =>
 gd (j0 (a+1)/\True) <|
 b (c,a+1)
def j0S(b:I4)(e:Int)(f:List Int×Int->Option (List Int)):List Int×Int->Option (List Int)
 | (c,a) =>
 if(decide (a < (b.1.2.2.1.length:Int))) then
  gd (ix a b.1.2.2.1.length/\True)<|lt (b.1.2.2.1.getD a.toNat (a6 y80)) fun d =>
  gd (ix a b.2.length/\(b.2.getD a.toNat false=true/\True->(UC d e).isSome)/\True) <|
  if(b.2.getD a.toNat false&&vl (UC d e)) then
   gd ((c.length+[a].length<=9223372036854775807/\(c.length+[a].length)*8<=140737488355328)/\True) <|
   UD a f (c++[a])
  else
   UD a f c
 else
  j0T c
def PO(b:I4)(a:Int):Option (List Int) :=
 lp (j0S b a) ([],0)
def z0k:Ct:=k6 125 [.dat y104.pt,.fn 173 (.pt i64)] (fun x=>PO x.1 x.2.1) (fun r:List Int=>AV.ow 2 true i64 r) (fun _=>())
theorem PQ:Ok prog z0k:=by
 refine l5 [.tmp 4] func125 ?_;intro y ⟨a,c,_⟩ r H Q hn hr;have:=hz (tc M0C tn);refine iA [0,1]<|iA [0,1,5]<|jN r (fun(e:List Int)=>Z [p 5 (O 36)] [(36,A 2 i64 e 0)]) (j0T) (fun e H=>?_) (fun _ i m s=>?_)
 ·refine iA [4]<|j5<|hr H
 refine iA [0,1,5,14,15,16]<|vB<|lX (fun((d,b):List Int×Int)=>Z [p 0 (D y104.pt a),p 1 (AV.fn 173 [D i64.pt c]),p 5 (O 36),p 14 (L y80 a.1.2.2.1),p 15 (I (a.1.2.2.1.length:Int)),p 16 (I b)] [(36,A 2 i64 d 0)]) ([],0) H fun _ j l k q ⟨d,b⟩ H=>iA [0,1,5,14,15,16,17]<|vQ<|cD H (fun H=>?_) (fun H=>?_)
 ·refine vK<|fQ<|jN r (fun(h:List Int)=>Z [p 0 (D y104.pt a),p 1 (AV.fn 173 [D i64.pt c]),p 5 (O 36),p 14 (L y80 a.1.2.2.1),p 15 (I (a.1.2.2.1.length:Int)),p 16 (I b)] [(36,A 2 i64 h 0)]) (UD b j) (fun h H=>?_) (fun _ g n o=>?_)
  ·refine jB [0,1,5,14,15,16] H fun H=>l H
  refine vB<|qD (fun f=>Z [p 0 (D y104.pt a),p 1 (AV.fn 173 [D i64.pt c]),p 5 (O 36),p 6 (I b),p 7 (R 7),p 14 (L y80 a.1.2.2.1),p 15 (I (a.1.2.2.1.length:Int)),p 16 (I b)] [(7,K 80 y80 f),(36,A 2 i64 d 0)]) H fun f H=>iB [0,1,5,6,14,15,16,32] H fun H=>cD H (fun H=>jB [0,1,5,14,15,16] H fun H=>fK<|g H) fun H=>vK<|fK<|g H
 exact vE<|fE<|k<|fX rfl<|i H
def GU(a:I4)(b:Int):Option (List Int) :=
 gd ((PO a b).isSome/\True)<|lt (vl (PO a b)) fun c =>
 some c
def R0e:Ct:=k6 128 [.dat y104.pt,.dat i64] (fun x=>GU x.1 x.2.1) (fun r:List Int=>AV.ow 2 true i64 r) (fun _=>())
theorem M0O:Ok prog R0e:=by
 refine l5 [.tmp 4] func128 ?_;intro y ⟨_,_,_⟩ r H Q hn hr;have:=hz (tc PQ (tc M0C tn));refine iA [0,3]<|iD PQ [4] H fun _ H=>j5<|hr H
def B0q:Unit->Option Int
 | _ =>
 some (-1)
def B0p(d:Int)(b:List Int)(c:Int->Option Int):Int->Option Int
 | a =>
 if(decide (a < (b.length:Int))) then
  gd (ix a b.length/\True) <|
  if(d==b.getD a.toNat 0) then
   some a
  else
   gd (j0 (a+1)/\True) <|
   c (a+1)
 else
  B0q ()
def PR(b:List Int)(a:Int):Option Int :=
 lp (B0p a b) 0
def R0f:Ct:=k6 127 [.dat i64.sl,.dat i64] (fun x=>PR x.1 x.2.1) (fun r:Int=>I r) (fun _=>())
theorem M0P:Ok prog R0f:=by
 refine l5 [.tmp 4] func127 ?_;intro y ⟨b,c,_⟩ r H Q hn hr;refine iA [0,1]<|jN r (fun(_:Unit)=>Z [] []) (B0q) (fun _ H=>?_) (fun _ d i g=>?_)
 ·refine iA [4]<|j5<|hr H
 refine iA [0,1,7,8]<|vB<|lX (fun(a:Int)=>Z [p 0 (L i64 b),p 1 (J c),p 7 (I (b.length:Int)),p 8 (I a)] []) 0 H fun _ j h f e a H=>iA [0,1,7,8,9]<|vQ<|cD H (fun H=>?_) (fun H=>?_)
 ·refine vK<|fQ<|vQ<|vB<|iA [0,1,5,7,8]<|iB [0,1,5,7,8,16] H fun H=>cD H (fun H=>iA [4]<|j5<|m4<|fR<|e<|m4<|g<|hr H) fun H=>vK<|fK<|fQ<|jB [0,1,7,8] H fun H=>h H
 exact vE<|fE<|f<|fX rfl<|d H
def UE(a:l8):Option Bool :=
 some true
def R0g:Ct:=k6 126 [.agg y80] (fun x=>UE x.1) (fun r:Bool=>B r) (fun _=>())
theorem M0Q:Ok prog R0g:=by
 refine l5 [.tmp 2] func126 ?_;intro y ⟨_,_⟩ r H Q hn hr;refine iA []<|iA [2]<|j5<|hr H
def j0X:List Int->Option (List Int)
 | a =>
 some a
def UG(a:Int)(b:List Int×Int->Option (List Int)):List Int->Option (List Int)
 | c =>
 gd (j0 (a+1)/\True) <|
 b (c,a+1)
def j0W(b:I4)(e:List Int×Int->Option (List Int)):List Int×Int->Option (List Int)
 | (c,a) =>
 if(decide (a < (b.1.2.2.1.length:Int))) then
  gd (ix a b.1.2.2.1.length/\True)<|lt (b.1.2.2.1.getD a.toNat (a6 y80)) fun d =>
  gd (ix a b.2.length/\(b.2.getD a.toNat false=true/\True->(UE d).isSome)/\True) <|
  if(b.2.getD a.toNat false&&vl (UE d)) then
   gd ((c.length+[a].length<=9223372036854775807/\(c.length+[a].length)*8<=140737488355328)/\True) <|
   UG a e (c++[a])
  else
   UG a e c
 else
  j0X c
def PS(a:I4):Option (List Int) :=
 lp (j0W a) ([],0)
def z0m:Ct:=k6 125 [.dat y104.pt,.nof 126] (fun x=>PS x.1) (fun r:List Int=>AV.ow 2 true i64 r) (fun _=>())
theorem UH:Ok prog z0m:=by
 refine l5 [.tmp 4] func125 ?_;intro y ⟨a,_,_⟩ r H Q hn hr;have:=hz (tc M0Q tn);refine iA [0,1]<|iA [0,1,5]<|jN r (fun(d:List Int)=>Z [p 5 (O 36)] [(36,A 2 i64 d 0)]) (j0X) (fun d H=>?_) (fun _ h l q=>?_)
 ·refine iA [4]<|j5<|hr H
 refine iA [0,1,5,14,15,16]<|vB<|lX (fun((c,b):List Int×Int)=>Z [p 0 (D y104.pt a),p 1 (AV.fn 126 []),p 5 (O 36),p 14 (L y80 a.1.2.2.1),p 15 (I (a.1.2.2.1.length:Int)),p 16 (I b)] [(36,A 2 i64 c 0)]) ([],0) H fun _ i k j o ⟨c,b⟩ H=>iA [0,1,5,14,15,16,17]<|vQ<|cD H (fun H=>?_) (fun H=>?_)
 ·refine vK<|fQ<|jN r (fun(g:List Int)=>Z [p 0 (D y104.pt a),p 1 (AV.fn 126 []),p 5 (O 36),p 14 (L y80 a.1.2.2.1),p 15 (I (a.1.2.2.1.length:Int)),p 16 (I b)] [(36,A 2 i64 g 0)]) (UG b i) (fun g H=>?_) (fun _ f m n=>?_)
  ·refine jB [0,1,5,14,15,16] H fun H=>k H
  refine vB<|qD (fun e=>Z [p 0 (D y104.pt a),p 1 (AV.fn 126 []),p 5 (O 36),p 6 (I b),p 7 (R 7),p 14 (L y80 a.1.2.2.1),p 15 (I (a.1.2.2.1.length:Int)),p 16 (I b)] [(7,K 80 y80 e),(36,A 2 i64 c 0)]) H fun e H=>iB [0,1,5,6,14,15,16,32] H fun H=>cD H (fun H=>jB [0,1,5,14,15,16] H fun H=>fK<|f H) fun H=>vK<|fK<|f H
 exact vE<|fE<|j<|fX rfl<|h H
def G0i:List Int->Option (List Int×Bool)
 | a =>
 some (a,true)
def PT(a:Int)(d:List Int×Int×List Int->Option (List Int×Bool)):List Int×List Int->Option (List Int×Bool)
 | (c,b) =>
 gd (j0 (a+1)/\True) <|
 d (c,a+1,b)
def PU(d:I4)(b:List Int)(e:Int)(g:List Int)(f:Int)(j:List Int×Int×List Int->Option (List Int×Bool))(i:Int×List Int->Option (List Int×Bool)):Int×List Int->Option (List Int×Bool)
 | (a,c) =>
 if(decide (a < (b.length:Int))) then
  gd (ix a b.length/\a.toNat<b.length/\True) <|
  gd (ix (b.getD a.toNat 0) d.1.2.2.1.length/\ix (d.1.2.2.1.getD (Int.toNat (b.getD a.toNat 0)) (a6 y80)).2.1 c.length/\(d.1.2.2.1.getD (Int.toNat (b.getD a.toNat 0)) (a6 y80)).2.1.toNat<c.length/\j0 (c.getD (d.1.2.2.1.getD (Int.toNat (b.getD a.toNat 0)) (a6 y80)).2.1.toNat 0-1)/\ix (d.1.2.2.1.getD (Int.toNat (b.getD a.toNat 0)) (a6 y80)).2.1 c.length/\(d.1.2.2.1.getD (Int.toNat (b.getD a.toNat 0)) (a6 y80)).2.1.toNat<c.length/\True)<|lt (c.set (d.1.2.2.1.getD (Int.toNat (b.getD a.toNat 0)) (a6 y80)).2.1.toNat (c.getD (d.1.2.2.1.getD (Int.toNat (b.getD a.toNat 0)) (a6 y80)).2.1.toNat 0-1)) fun h =>
  gd (j0 (a+1)/\True) <|
  i (a+1,h)
 else
  PT e j (g++[f],c)
def G0h(e:I4)(g:List Int)(h:List Int×Int×List Int->Option (List Int×Bool)):List Int×Int×List Int->Option (List Int×Bool)
 | (c,d,b) =>
 if(decide (d < (g.length:Int))) then
  gd ((PR b 0).isSome/\True)<|lt (vl (PR b 0)) fun a =>
  if(decide (a<0)) then
   some ([],false)
  else
   gd (ix a b.length/\a.toNat<b.length/\True) <|
   gd ((c.length+[a].length<=9223372036854775807/\(c.length+[a].length)*8<=140737488355328)/\True) <|
   gd ((GU e a).isSome/\True)<|lt (vl (GU e a)) fun f =>
   lp (PU e f d c a h) ((0,b.set a.toNat (-1)))
 else
  G0i c
def LZ(b:I4):List Int->Option (List Int×Bool)
 | a =>
 lp (G0h b a) ([],0,a)
def UI(c:I4)(b:List Int)(e:Int×List Int->Option (List Int×Bool)):Int×List Int->Option (List Int×Bool)
 | (a,d) =>
 if(decide (a < (b.length:Int))) then
  gd (ix a b.length/\a.toNat<b.length/\True) <|
  gd (ix (b.getD a.toNat 0) c.1.2.2.1.length/\ix (c.1.2.2.1.getD (Int.toNat (b.getD a.toNat 0)) (a6 y80)).2.1 d.length/\(c.1.2.2.1.getD (Int.toNat (b.getD a.toNat 0)) (a6 y80)).2.1.toNat<d.length/\j0 (d.getD (c.1.2.2.1.getD (Int.toNat (b.getD a.toNat 0)) (a6 y80)).2.1.toNat 0+1)/\ix (c.1.2.2.1.getD (Int.toNat (b.getD a.toNat 0)) (a6 y80)).2.1 d.length/\(c.1.2.2.1.getD (Int.toNat (b.getD a.toNat 0)) (a6 y80)).2.1.toNat<d.length/\True)<|lt (d.set (c.1.2.2.1.getD (Int.toNat (b.getD a.toNat 0)) (a6 y80)).2.1.toNat (d.getD (c.1.2.2.1.getD (Int.toNat (b.getD a.toNat 0)) (a6 y80)).2.1.toNat 0+1)) fun f =>
  gd (j0 (a+1)/\True) <|
  e (a+1,f)
 else
  LZ c d
def Ma(a:I4):Option (List Int×Bool) :=
 gd ((R6 a.1).isSome/\(0<=vl (R6 a.1)/\vl (R6 a.1)=vl (R6 a.1)/\(vl (R6 a.1)).toNat*8<=281474976710656/\vl (R6 a.1)<=9223372036854775807)/\True)<|lt (vl (R6 a.1)) fun b =>
 gd ((PS a).isSome/\True)<|lt (vl (PS a)) fun c =>
 lp (UI a c) (0,List.replicate b.toNat 0)
def k68:Ct:=k6 68 [.dat y104.pt] (fun x=>Ma x.1) (fun r:List Int×Bool=>AV.tup [AV.ow 2 true i64 r.1,B r.2]) (fun _=>())
theorem o68:Ok prog k68:=by
 refine l5 [.tmp 2,.tmp 3] func68 ?_;intro y ⟨d,_⟩ r H Q hn hr;have:=hz (tc M0O (tc M0P (tc M0Q (tc PQ (tc UH (tc GF tn))))));refine iA [0]<|iD GF [0,4] H fun E H=>jN r (fun(f:List Int)=>Z [p 0 (D y104.pt d),p 4 (O 16)] [(16,A 3 i64 f 0)]) (LZ d) (fun f H=>?_) (fun _ T e0 t0=>?_)
 ·refine iA [0,4,7]<|jN r (fun(m:List Int)=>Z [p 7 (O 55)] [(55,A 2 i64 m 0)]) (G0i) (fun m H=>?_) (fun _ w e2 u=>?_)
  ·refine iA [2,3]<|j5<|hr H
  refine iA [0,4,7,42,43]<|vB<|lX (fun((b,a,h):List Int×Int×List Int)=>Z [p 0 (D y104.pt d),p 4 (O 16),p 7 (O 55),p 42 (I (f.length:Int)),p 43 (I a)] [(16,A 3 i64 h 0),(55,A 2 i64 b 0)]) ([],0,f) H fun _ x F W P ⟨b,a,h⟩ H=>iA [0,4,7,42,43,44]<|vQ<|cD H (fun H=>?_) (fun H=>?_)
  ·refine vK<|fQ<|jN r (fun((l,j):List Int×List Int)=>Z [p 0 (D y104.pt d),p 4 (O 16),p 7 (O 55),p 42 (I (f.length:Int)),p 43 (I a)] [(55,A 2 i64 l 0),(16,A 3 i64 j 0)]) (PT a x) (fun⟨l,j⟩ H=>?_) (fun _ t Y v=>?_)
   ·refine jB [0,4,7,42,43] H fun H=>F H
   refine vB<|iD M0P [0,4,7,8,42,43] H fun e H=>vQ<|iA [0,4,7,8,42,43,48]<|cD H (fun H=>iA [2,3]<|j5<|fR<|m4<|v<|P<|m4<|u<|hr H) fun H=>vK<|fQ<|iB [0,4,7,8,42,43] H fun H=>iB [0,4,7,8,42,43] H fun H=>iD M0O [0,4,7,42,43,58,59,60] H fun c H=>vB<|lX (fun((g,k):Int×List Int)=>Z [p 0 (D y104.pt d),p 4 (O 16),p 7 (O 55),p 42 (I (f.length:Int)),p 43 (I a),p 58 (O 58),p 59 (I (c.length:Int)),p 60 (I g)] [(58,A 2 i64 c 0),(55,A 2 i64 (b++[e]) 0),(16,A 3 i64 k 0)]) ((0,h.set e.toNat (-1))) H fun _ g5 G V t5 ⟨g,k⟩ H=>iA [0,4,7,42,43,58,59,60,61]<|vQ<|cD H (fun H=>vK<|fQ<|vQ<|vB<|iB [0,4,7,10,42,43,58,59,60] H fun H=>zD (fun i=>Z [p 0 (D y104.pt d),p 4 (O 16),p 7 (O 55),p 42 (I (f.length:Int)),p 43 (I a),p 58 (O 58),p 59 (I (c.length:Int)),p 60 (I g)] [(16,A 3 i64 i 0),(58,A 2 i64 c 0),(55,A 2 i64 (b++[e]) 0)]) H fun i H=>fK<|fQ<|jB [0,4,7,42,43,58,59,60] H fun H=>G H) fun H=>vE<|fE<|V<|fX rfl<|fK<|t H
  exact vE<|fE<|W<|fX rfl<|w H
 refine iD UH [0,4,18,19,20] H fun n H=>vB<|lX (fun((o,q):Int×List Int)=>Z [p 0 (D y104.pt d),p 4 (O 16),p 18 (O 18),p 19 (I (n.length:Int)),p 20 (I o)] [(18,A 2 i64 n 0),(16,A 3 i64 q 0)]) (0,List.replicate E.toNat 0) H fun _ g1 X z t1 ⟨o,q⟩ H=>iA [0,4,18,19,20,21]<|vQ<|cD H (fun H=>vK<|fQ<|vQ<|vB<|iB [0,4,6,18,19,20] H fun H=>zD (fun s=>Z [p 0 (D y104.pt d),p 4 (O 16),p 18 (O 18),p 19 (I (n.length:Int)),p 20 (I o)] [(16,A 3 i64 s 0),(18,A 2 i64 n 0)]) H fun s H=>fK<|fQ<|jB [0,4,18,19,20] H fun H=>X H) fun H=>vE<|fE<|z<|fX rfl<|T H
def Mb(b:C6):Option C3 :=
 gd ((R6 b).isSome/\True)<|lt (vl (R6 b)) fun a =>
 gd ((0<=a/\a=a/\a.toNat*1<=281474976710656/\a<=9223372036854775807)/\(0<=a/\a=a/\a.toNat*16<=281474976710656/\a<=9223372036854775807)/\(0<=a/\a=a/\a.toNat*16<=281474976710656/\a<=9223372036854775807)/\True) <|
 some ((List.replicate a.toNat false,List.replicate a.toNat ((0:Int),(0:Int)),List.replicate a.toNat ((0:Int),(0:Int))))
def k69:Ct:=k6 69 [.dat y157.pt] (fun x=>Mb x.1) (fun r:C3=>AV.agg [AV.ow 4 true Ty.bool r.1,AV.ow 51 true y51 r.2.1,AV.ow 51 true y51 r.2.2]) (fun _=>())
theorem o69:Ok prog k69:=by
 refine l5 [.cell 2 44] func69 ?_;intro y ⟨_,_⟩ r H Q hn hr;have:=hz (tc GF tn);refine iA [0,2]<|iD GF [2,3] H fun _ H=>iB [2] H fun H=>j5<|hr H
def UJ(b:m6)(a:Int):Option Bool :=
 some (b.1==a)
def Q0K:Ct:=k6 150 [.agg y53,.dat (.pt i64)] (fun x=>UJ x.1 x.2.1) (fun r:Bool=>B r) (fun _=>())
theorem M0H:Ok prog Q0K:=by
 refine l5 [.tmp 3] func150 ?_;intro y ⟨_,_,_⟩ r H Q hn hr;refine iA [1,2]<|iA [3]<|j5<|hr H
def j0Q:Unit->Option Int
 | _ =>
 some (-1)
def j0P(b:List m6)(c:Int)(d:Int->Option Int):Int->Option Int
 | a =>
 if(decide (a < (b.length:Int))) then
  gd (ix a b.length/\(UJ (b.getD a.toNat (a6 y53)) c).isSome/\True) <|
  if(vl (UJ (b.getD a.toNat (a6 y53)) c)) then
   some a
  else
   gd (j0 (a+1)/\True) <|
   d (a+1)
 else
  j0Q ()
def PV(b:List m6)(a:Int):Option Int :=
 lp (j0P b a) 0
def z0i:Ct:=k6 149 [.dat y53.sl,.fn 150 (.pt i64)] (fun x=>PV x.1 x.2.1) (fun r:Int=>I r) (fun _=>())
theorem q0w:Ok prog z0i:=by
 refine l5 [.tmp 4] func149 ?_;intro y ⟨b,c,_⟩ r H Q hn hr;have:=hz (tc M0H tn);refine iA [0,1]<|jN r (fun(_:Unit)=>Z [] []) (j0Q) (fun _ H=>?_) (fun _ d i g=>?_)
 ·refine iA [4]<|j5<|hr H
 refine iA [0,1,7,8]<|vB<|lX (fun(a:Int)=>Z [p 0 (L y53 b),p 1 (AV.fn 150 [D i64.pt c]),p 7 (I (b.length:Int)),p 8 (I a)] []) 0 H fun _ j h f e a H=>iA [0,1,7,8,9]<|vQ<|cD H (fun H=>?_) (fun H=>?_)
 ·refine vK<|fQ<|vQ<|vB<|iA [0,1,5,7,8]<|iB [0,1,5,7,8,16] H fun H=>cD H (fun H=>iA [4]<|j5<|m4<|fR<|e<|m4<|g<|hr H) fun H=>vK<|fK<|fQ<|jB [0,1,7,8] H fun H=>h H
 exact vE<|fE<|f<|fX rfl<|d H
def Mc(a:List m6)(c:Int):Option (m6×Bool) :=
 gd ((PV a c).isSome/\True)<|lt (vl (PV a c)) fun b =>
 if(decide (0<=b)) then
  gd (ix b a.length/\True)<|lt (a.getD b.toNat (a6 y53)) fun d =>
  some (d,true)
 else
  some ((((0:Int),((0:Int),(0:Int)),(0:Int),(0:Int)),false))
def k96:Ct:=k6 96 [.dat y53.sl,.dat i64] (fun x=>Mc x.1 x.2.1) (fun r:m6×Bool=>AV.tup [AV.agg [I r.1.1,I r.1.2.1.1,I r.1.2.1.2,I r.1.2.2.1,I r.1.2.2.2],B r.2]) (fun _=>())
theorem o96:Ok prog k96:=by
 refine l5 [.cell 4 53,.tmp 5] func96 ?_;intro y ⟨_,b,_⟩ r H Q hn hr;have:=hz (tc q0w (tc M0H tn));refine iA [0,3,4]<|vQ<|iD q0w [0,4,6] H fun _ H=>iA [0,4,6,11]<|cD H (fun H=>qD (fun a=>Z [p 4 (R 4),p 5 (B true)] [(4,K 53 y53 a),(3,bx 2 [J b])]) H fun a H=>j5<|fR<|hr H) fun H=>vK<|fQ<|iA [4,5]<|j5<|hr H
def UK(b:l8)(a:Int):Option Bool :=
 some (b.2.1==a)
def Q0I:Ct:=k6 152 [.agg y80,.dat (.pt i64)] (fun x=>UK x.1 x.2.1) (fun r:Bool=>B r) (fun _=>())
theorem M0G:Ok prog Q0I:=by
 refine l5 [.tmp 3] func152 ?_;intro y ⟨_,_,_⟩ r H Q hn hr;refine iA [1,2]<|iA [3]<|j5<|hr H
def j0V:List Int->Option (List Int)
 | a =>
 some a
def UL(a:Int)(b:List Int×Int->Option (List Int)):List Int->Option (List Int)
 | c =>
 gd (j0 (a+1)/\True) <|
 b (c,a+1)
def j0U(b:I4)(e:Int)(f:List Int×Int->Option (List Int)):List Int×Int->Option (List Int)
 | (c,a) =>
 if(decide (a < (b.1.2.2.1.length:Int))) then
  gd (ix a b.1.2.2.1.length/\True)<|lt (b.1.2.2.1.getD a.toNat (a6 y80)) fun d =>
  gd (ix a b.2.length/\(b.2.getD a.toNat false=true/\True->(UK d e).isSome)/\True) <|
  if(b.2.getD a.toNat false&&vl (UK d e)) then
   gd ((c.length+[a].length<=9223372036854775807/\(c.length+[a].length)*8<=140737488355328)/\True) <|
   UL a f (c++[a])
  else
   UL a f c
 else
  j0V c
def PW(b:I4)(a:Int):Option (List Int) :=
 lp (j0U b a) ([],0)
def z0l:Ct:=k6 125 [.dat y104.pt,.fn 152 (.pt i64)] (fun x=>PW x.1 x.2.1) (fun r:List Int=>AV.ow 2 true i64 r) (fun _=>())
theorem q0x:Ok prog z0l:=by
 refine l5 [.tmp 4] func125 ?_;intro y ⟨a,c,_⟩ r H Q hn hr;have:=hz (tc M0G tn);refine iA [0,1]<|iA [0,1,5]<|jN r (fun(e:List Int)=>Z [p 5 (O 36)] [(36,A 2 i64 e 0)]) (j0V) (fun e H=>?_) (fun _ i m s=>?_)
 ·refine iA [4]<|j5<|hr H
 refine iA [0,1,5,14,15,16]<|vB<|lX (fun((d,b):List Int×Int)=>Z [p 0 (D y104.pt a),p 1 (AV.fn 152 [D i64.pt c]),p 5 (O 36),p 14 (L y80 a.1.2.2.1),p 15 (I (a.1.2.2.1.length:Int)),p 16 (I b)] [(36,A 2 i64 d 0)]) ([],0) H fun _ j l k q ⟨d,b⟩ H=>iA [0,1,5,14,15,16,17]<|vQ<|cD H (fun H=>?_) (fun H=>?_)
 ·refine vK<|fQ<|jN r (fun(h:List Int)=>Z [p 0 (D y104.pt a),p 1 (AV.fn 152 [D i64.pt c]),p 5 (O 36),p 14 (L y80 a.1.2.2.1),p 15 (I (a.1.2.2.1.length:Int)),p 16 (I b)] [(36,A 2 i64 h 0)]) (UL b j) (fun h H=>?_) (fun _ g n o=>?_)
  ·refine jB [0,1,5,14,15,16] H fun H=>l H
  refine vB<|qD (fun f=>Z [p 0 (D y104.pt a),p 1 (AV.fn 152 [D i64.pt c]),p 5 (O 36),p 6 (I b),p 7 (R 7),p 14 (L y80 a.1.2.2.1),p 15 (I (a.1.2.2.1.length:Int)),p 16 (I b)] [(7,K 80 y80 f),(36,A 2 i64 d 0)]) H fun f H=>iB [0,1,5,6,14,15,16,32] H fun H=>cD H (fun H=>jB [0,1,5,14,15,16] H fun H=>fK<|g H) fun H=>vK<|fK<|g H
 exact vE<|fE<|k<|fX rfl<|i H
def Md(a:I4)(b:Int):Option (List Int) :=
 gd ((PW a b).isSome/\True)<|lt (vl (PW a b)) fun c =>
 some c
def k98:Ct:=k6 98 [.dat y104.pt,.dat i64] (fun x=>Md x.1 x.2.1) (fun r:List Int=>AV.ow 2 true i64 r) (fun _=>())
theorem o98:Ok prog k98:=by
 refine l5 [.tmp 4] func98 ?_;intro y ⟨_,_,_⟩ r H Q hn hr;have:=hz (tc PQ (tc UH (tc q0x (tc M0G tn))));refine iA [0,3]<|iD q0x [4] H fun _ H=>j5<|hr H
def Dr(b:r8)(a:r8):Option r8 :=
 gd (j0 (b.1+a.1)/\j0 (b.2+a.2)/\True) <|
 some (b.1+a.1,b.2+a.2)
def k99:Ct:=k6 99 [.agg y51,.agg y51] (fun x=>Dr x.1 x.2.1) (fun r:r8=>AV.agg [I r.1,I r.2]) (fun _=>())
theorem o99:Ok prog k99:=by
 refine l5 [.cell 4 51] func99 ?_;intro y ⟨_,_,_⟩ r H Q hn hr;refine iA [2,3,4]<|iB [4] H fun H=>j5<|hr H
def A0f:List Int×Int×Int×List Int->Option (List Int×l6)
 | (b,d,a,c) =>
 some (c,b,d,a)
def A0e(h:Int)(i:Int×Int×List Int×Int×Int×List Int->Option (List Int×l6)):Int×Int×List Int×Int×Int×List Int->Option (List Int×l6)
 | (a,g,f,b,c,e) =>
 if(decide (0<g)) then
  gd ((e.length+[a].length<=9223372036854775807/\(e.length+[a].length)*8<=140737488355328)/\True) <|
  gd (j0 (a+1)/\(c9 (f,b,c) h).isSome/\j0 (a+1+(vl (c9 (f,b,c) h)).1)/\True)<|lt (vl (c9 (f,b,c) h)) fun d =>
  gd (j0 (g-1)/\True) <|
  i (a+1+d.1,g-1,d.2.1,d.2.2.1,d.2.2.2,e++[a])
 else
  A0f (f,b,c,e)
def GV(d:l6)(c:Int):Option (List Int×l6) :=
 gd ((c9 d c).isSome/\True)<|lt (vl (c9 d c)) fun b =>
 gd ((c9 b.2 3).isSome/\j0 (1+(vl (c9 b.2 3)).1)/\True)<|lt (vl (c9 b.2 3)) fun a =>
 lp (A0e c) (b.1,1+a.1,a.2.1,a.2.2.1,a.2.2.2,[])
def P0u:Ct:=k6 245 [.io 122 m8,.dat i64] (fun x=>GV x.1 x.2.1) (fun r:List Int×l6=>AV.ow 2 true i64 r.1) (fun r=>r.2)
theorem UM:Ok prog P0u:=by
 refine l5 [.tmp 4] func245 ?_;intro y ⟨_,o,_⟩ r H Q hn hr;have:=hz (tc F6 tn);refine iA [0,1]<|iA [0,1,5]<|iD F6 [0,1,5,6] H fun m H=>jN r (fun((b,a,c,d):List Int×Int×Int×List Int)=>Z [p 5 (O 8)] [(500000,bx 122 (A8 b a c)),(8,A 2 i64 d 0)]) (A0f) (fun⟨b,a,c,d⟩ H=>?_) (fun _ n t s=>?_)
 ·refine iA [4]<|j5<|hr H
 refine iD F6 [0,1,5,6,7] H fun e H=>vB<|lX (fun((i,g,k,h,f,j):Int×Int×List Int×Int×Int×List Int)=>Z [p 0 (R 500000),p 1 (J o),p 5 (O 8),p 6 (I i),p 7 (I g)] [(500000,bx 122 [L b8 k,J h,J f]),(8,A 2 i64 j 0)]) (m.1,1+e.1,e.2.1,e.2.2.1,e.2.2.2,[]) H fun _ v q l u ⟨i,g,k,h,f,j⟩ H=>vQ<|iA [0,1,5,6,7,16]<|cD H (fun H=>vK<|fQ<|vQ<|vB<|iB [0,1,5,6,7] H fun H=>jD F6 [0,1,5,6,7] H fun _ H=>fK<|fQ<|jB [0,1,5,6,7] H fun H=>q H) fun H=>vE<|fE<|l<|fX rfl<|n H
def A0i(e:List Int×l6)(f:List Int×l6):List Int×List Int×Int×Int->Option (w8×l6)
 | (b,c,a,d) =>
 some (((e.1,f.1,b),c,a,d))
def Me(c:Int)(a:List Int)(g:Int×List Int×List Int×Int×Int->Option (w8×l6)):Int×List Int×Int×Int->Option (w8×l6)
 | (b,d,f,e) =>
 gd ((a.length+[b].length<=9223372036854775807/\(a.length+[b].length)*8<=140737488355328)/\True) <|
 gd (j0 (c+1)/\True) <|
 g (c+1,a++[b],d,f,e)
def Mf(a:Int)(b:List Int)(g:List Int×l6)(j:Int×List Int×List Int×Int×Int->Option (w8×l6)):Int×List Int×Int×Int->Option (w8×l6)
 | (h,d,e,c) =>
 if(decide ((g.1.length:Int)<=a)) then
  gd (j0 (a-(g.1.length:Int))/\ix (a-(g.1.length:Int)) b.length/\(a-(g.1.length:Int)).toNat<b.length/\(c9 (d,e,c) 20).isSome/\j0 (b.getD (a-(g.1.length:Int)).toNat 0+(vl (c9 (d,e,c) 20)).1)/\True)<|lt ((vl (c9 (d,e,c) 20),max h (b.getD (a-(g.1.length:Int)).toNat 0+(vl (c9 (d,e,c) 20)).1))) fun(f,i) =>
  Me a b j (i,f.2.1,f.2.2.1,f.2.2.2)
 else
  Me a b j (h,d,e,c)
def A0h(h:List Int×l6)(j:Int)(i:List Int×l6)(k:Int×List Int×List Int×Int×Int->Option (w8×l6)):Int×List Int×List Int×Int×Int->Option (w8×l6)
 | (a,c,f,e,g) =>
 gd (j0 ((i.1.length:Int)*(h.1.length:Int))/\True) <|
 if(decide (a < (i.1.length:Int)*(h.1.length:Int))) then
  gd ((c9 (f,e,g) 10).isSome/\j0 (j+(vl (c9 (f,e,g) 10)).1)/\True)<|lt (vl (c9 (f,e,g) 10)) fun b =>
  gd (0 < (h.1.length:Int)/\True) <|
  if(decide (0<a.tmod (h.1.length:Int))) then
   gd (j0 (a-1)/\ix (a-1) c.length/\(a-1).toNat<c.length/\(c9 b.2 20).isSome/\j0 (c.getD (a-1).toNat 0+(vl (c9 b.2 20)).1)/\True)<|lt (vl (c9 b.2 20)) fun d =>
   Mf a c h k ((max (j+b.1) (c.getD (a-1).toNat 0+d.1),d.2.1,d.2.2.1,d.2.2.2))
  else
   Mf a c h k (j+b.1,b.2.1,b.2.2.1,b.2.2.2)
 else
  A0i i h (c,f,e,g)
def Fu(c:l6)(d:Int):Option (w8×l6) :=
 gd ((GV c 60).isSome/\True)<|lt (vl (GV c 60)) fun b =>
 gd ((GV b.2 40).isSome/\True)<|lt (vl (GV b.2 40)) fun a =>
 lp (A0h a d b) (0,[],a.2.1,a.2.2.1,a.2.2.2)
def P0C:Ct:=k6 233 [.io 122 m8,.dat i64] (fun x=>Fu x.1 x.2.1) (fun r:w8×l6=>AV.agg [AV.ow 2 true i64 r.1.1,AV.ow 2 true i64 r.1.2.1,AV.ow 2 true i64 r.1.2.2]) (fun r=>r.2)
theorem O0r:Ok prog P0C:=by
 refine l5 [.cell 4 70] func233 ?_;intro y ⟨_,x,_⟩ r H Q hn hr;have:=hz (tc F6 (tc UM tn));refine iA [0,1,4]<|iD UM [0,1,4,5] H fun d H=>iD UM [0,1,4,5,6] H fun c H=>iA [0,1,4,5,6,7]<|iA [0,1,4,5,6,7,8]<|jN r (fun((j,m,i,g):List Int×List Int×Int×Int)=>Z [p 4 (R 4),p 5 (O 12),p 6 (O 14),p 7 (O 15)] ((15,A 2 i64 j 0)::(14,A 2 i64 c.1 0)::(500000,bx 122 (A8 m i g))::Kv d.1)) (A0i d c) (fun⟨j,m,i,g⟩ H=>?_) (fun _ G W V=>?_)
 ·refine iA [4]<|j5<|hr H
 refine iA [0,1,4,5,6,7,8,9]<|vB<|lX (fun((b,a,q,o,k):Int×List Int×List Int×Int×Int)=>Z (Oy x (c.1.length:Int) b []) ((15,A 2 i64 a 0)::(14,A 2 i64 c.1 0)::(500000,bx 122 (A8 q o k))::Kv d.1)) (0,[],c.2.1,c.2.2.1,c.2.2.2) H fun _ E P F t1 ⟨b,a,q,o,k⟩ H=>vQ<|iB [0,1,4,5,6,7,8,9,23] H fun H=>cD H (fun H=>?_) (fun H=>?_)
 ·refine vK<|fQ<|vQ<|vB<|iD F6 [0,1,4,5,6,7,8,9,10] H fun _ H=>jN r (fun((n,l,f,u):Int×List Int×Int×Int)=>Z (Oy x (c.1.length:Int) b [p 10 (I n)]) ((500000,bx 122 (A8 l f u))::(15,A 2 i64 a 0)::(14,A 2 i64 c.1 0)::Kv d.1)) (Mf b a c E) (fun⟨n,l,f,u⟩ H=>?_) (fun _ z X T=>?_)
  ·refine jN r (fun((s,e,t,w):Int×List Int×Int×Int)=>Z (Oy x (c.1.length:Int) b [p 10 (I s)]) ((500000,bx 122 (A8 e t w))::(15,A 2 i64 a 0)::(14,A 2 i64 c.1 0)::Kv d.1)) (Me b a E) (fun⟨s,e,t,w⟩ H=>?_) (fun _ n3 e3 Y=>?_)
   ·refine jB [0,1,4,5,6,7,8,9] H fun H=>fK<|fQ<|jB [0,1,4,5,6,7,8,9] H fun H=>P H
   refine iA [0,1,4,5,6,7,8,9,10,46]<|cD H (fun H=>?_) (fun H=>?_)
   ·refine zD (fun(h,v)=>Z (Oy x (c.1.length:Int) b [p 10 (I v)]) ((500000,K 122 m8 h.2)::(15,A 2 i64 a 0)::(14,A 2 i64 c.1 0)::Kv d.1)) H fun⟨h,v⟩ H =>
     n3 H
   exact vK<|n3 H
  refine iB [0,1,4,5,6,7,8,9,10,33] H fun H=>cD H (fun H=>jD F6 [0,1,4,5,6,7,8,9,10] H fun _ H=>z H) fun H=>vK<|z H
 exact vE<|fE<|F<|fX rfl<|G H
def L0D:Ct:=k6 233 [.io 122 m8,.dat i64] (fun x=>Fu x.1 x.2.1) (fun r=>frz ((fun r:w8×l6=>AV.agg [AV.ow 2 true i64 r.1.1,AV.ow 2 true i64 r.1.2.1,AV.ow 2 true i64 r.1.2.2]) r)) (fun r=>r.2)
theorem K0W:Ok prog L0D:=TM O0r
def Ds(d:l6)(a:Int):Option (List w8×l6) :=
 gd ((Fu d a).isSome/\True)<|lt (vl (Fu d a)) fun b =>
 gd ((Fu b.2 a).isSome/\True)<|lt (vl (Fu b.2 a)) fun c =>
 some ([b.1,c.1],c.2)
def P0N:Ct:=k6 218 [.io 122 m8,.dat i64] (fun x=>Ds x.1 x.2.1) (fun r:List w8×l6=>AV.ow 70 true y70 r.1) (fun r=>r.2)
theorem PX:Ok prog P0N:=by
 refine l5 [.tmp 4] func218 ?_;intro y ⟨_,c,_⟩ r H Q hn hr;have:=hz (tc K0W tn);refine iA [0,1]<|qD (fun a=>Z [p 0 (R 500000),p 1 (J c),p 5 (R 5)] [(5,bx 70 (r5 true y70 a.1)),(500000,K 122 m8 a.2)]) H fun a H=>qD (fun b=>Z [p 4 (O 13)] [(13,A 70 y70 [a.1,b.1] 0),(500000,K 122 m8 b.2),(5,bx 70 (r5 true y70 a.1))]) H fun b H=>j5<|hr H
def L6(a:l6)(b:Int)(f:Int)(e:Int)(h:Int):Option (B3×l6) :=
 if(decide (4<=b)) then
  gd ((c9 a 10).isSome/\j0 (5-(vl (c9 a 10)).1)/\(Ds (vl (c9 a 10)).2 (5-(vl (c9 a 10)).1)).isSome/\True)<|lt (vl (Ds (vl (c9 a 10)).2 (5-(vl (c9 a 10)).1))) fun d =>
  some (((b,f,e,(0:Int),d.1,[]),d.2))
 else
  gd ((c9 a 20).isSome/\j0 (5+(vl (c9 a 20)).1)/\(Ds (vl (c9 a 20)).2 (5+(vl (c9 a 20)).1)).isSome/\True)<|lt (vl (Ds (vl (c9 a 20)).2 (5+(vl (c9 a 20)).1))) fun c =>
  gd ((Ds c.2 10).isSome/\True)<|lt (vl (Ds c.2 10)) fun g =>
  some (((b,f,e,h,c.1,g.1),g.2))
def Q0a:Ct:=k6 199 [.io 122 m8,.dat i64,.dat i64,.dat i64,.dat i64] (fun x=>L6 x.1 x.2.1 x.2.2.1 x.2.2.2.1 x.2.2.2.2.1) (fun r:B3×l6=>AV.agg [I r.1.1,I r.1.2.1,I r.1.2.2.1,I r.1.2.2.2.1,AV.ow 70 true y70 r.1.2.2.2.2.1,AV.ow 70 true y70 r.1.2.2.2.2.2]) (fun r=>r.2)
theorem O0E:Ok prog Q0a:=by
 refine l5 [.cell 10 67] func199 ?_;intro y ⟨_,_,_,_,_,_⟩ r H Q hn hr;have:=hz (tc PX (tc F6 tn));refine iA [0,1,2,3,4,10]<|vQ<|iA [0,1,2,3,4,10,13]<|cD H (fun H=>iD PX [10] H fun _ H=>j5<|fR<|hr H) fun H=>vK<|fQ<|iD PX [0,1,2,3,4,10,11] H fun _ H=>iD PX [10] H fun _ H=>j5<|hr H
def L0E:Ct:=k6 199 [.io 122 m8,.dat i64,.dat i64,.dat i64,.dat i64] (fun x=>L6 x.1 x.2.1 x.2.2.1 x.2.2.2.1 x.2.2.2.2.1) (fun r=>frz ((fun r:B3×l6=>AV.agg [I r.1.1,I r.1.2.1,I r.1.2.2.1,I r.1.2.2.2.1,AV.ow 70 true y70 r.1.2.2.2.2.1,AV.ow 70 true y70 r.1.2.2.2.2.2]) r)) (fun r=>r.2)
theorem I0d:Ok prog L0E:=TM O0E
def Mg(f:ByteArray)(i:Int)(e:List I8)(d:Int×l6)(h:Int×l6):List B3×List Int×Int×Int->Option ((ByteArray×Int×List I8×List B3×Int×Int)×l6)
 | (g,c,b,a) =>
 some (((f,i,e,g,d.1,h.1),c,b,a))
def Dt(f:l6)(l:ByteArray)(i:Int)(d:Int):Option ((ByteArray×Int×List I8×List B3×Int×Int)×l6) :=
 gd ((c9 f 50).isSome/\(c9 (vl (c9 f 50)).2 80).isSome/\True)<|lt ((vl (c9 f 50),vl (c9 (vl (c9 f 50)).2 80))) fun(j,b) =>
 gd ((c9 b.2 9).isSome/\j0 (1+(vl (c9 b.2 9)).1)/\(c9 (vl (c9 b.2 9)).2 9).isSome/\j0 (1+(vl (c9 (vl (c9 b.2 9)).2 9)).1)/\True)<|lt ((vl (c9 b.2 9),vl (c9 (vl (c9 b.2 9)).2 9),[(ByteArray.mk #[(100:UInt8)],(1:Int),(1:Int)+(vl (c9 b.2 (9:Int))).1,false),(ByteArray.mk #[(99:UInt8),(107:UInt8)],(1:Int),(1:Int)+(vl (c9 (vl (c9 b.2 (9:Int))).2 (9:Int))).1,true),(ByteArray.mk #[(113:UInt8)],(2:Int),(0:Int),false)])) fun(_,c,k) =>
 gd ((L6 c.2 d 1 2 0).isSome/\(L6 (vl (L6 c.2 d 1 2 0)).2 4 1 0 0).isSome/\(L6 (vl (L6 (vl (L6 c.2 d 1 2 0)).2 4 1 0 0)).2 5 1 0 0).isSome/\True)<|lt ((vl (L6 c.2 d 1 2 0),vl (L6 (vl (L6 c.2 d 1 2 0)).2 4 1 0 0),vl (L6 (vl (L6 (vl (L6 c.2 d 1 2 0)).2 4 1 0 0)).2 5 1 0 0))) fun(h,e,a) =>
 if(i==3) then
  gd ((L6 a.2 1 0 2 1).isSome/\([h.1,e.1,a.1].length+[(vl (L6 a.2 1 0 2 1)).1].length<=9223372036854775807/\([h.1,e.1,a.1].length+[(vl (L6 a.2 1 0 2 1)).1].length)*80<=140737488355328)/\True)<|lt (vl (L6 a.2 1 0 2 1)) fun g =>
  Mg l i k j b ([h.1,e.1,a.1]++[g.1],g.2.1,g.2.2.1,g.2.2.2)
 else
  Mg l i k j b ([h.1,e.1,a.1],a.2.1,a.2.2.1,a.2.2.2)
def Q0x:Ct:=k6 166 [.io 122 m8,.dat Ty.str,.dat i64,.dat i64] (fun x=>Dt x.1 x.2.1 x.2.2.1 x.2.2.2.1) (fun r:(ByteArray×Int×List I8×List B3×Int×Int)×l6=>AV.agg [S r.1.1,I r.1.2.1,AV.ow 233 true y233 r.1.2.2.1,AV.ow 67 true y67 r.1.2.2.2.1,AV.v (Value.slice none 0 0),I r.1.2.2.2.2.1,I r.1.2.2.2.2.2]) (fun r=>r.2)
theorem UN:Ok prog Q0x:=by
 refine l5 [.cell 8 64] func166 ?_;intro y ⟨_,e,a,m,_⟩ r H Q hn hr;have:=hz (tc I0d (tc F6 tn));refine iA [0,1,2,3,8]<|qD (fun(c,b)=>Z [p 0 (R 500000),p 2 (J a),p 3 (J m),p 8 (R 8),p 9 (R 9)] [(9,bx 64 [U e,J a,nil,nil,nil,I c.1,I b.1]),(500000,K 122 m8 b.2),(8,bx 64 (Co (ByteArray.mk #[]) 0 0 0))]) H fun⟨c,b⟩ H =>
  qD (fun(s,o,d)=>Z [p 0 (R 500000),p 2 (J a),p 3 (J m),p 8 (R 8),p 9 (R 9)] [(9,bx 64 [U e,J a,AV.os 27 0,nil,nil,I c.1,I b.1]),(27,A 233 y233 d 0),(500000,K 122 m8 o.2),(8,bx 64 (Co (ByteArray.mk #[]) 0 0 0))]) H fun⟨s,o,d⟩ H =>
  qD (fun(l,k,i)=>Z [p 0 (R 500000),p 2 (J a),p 8 (R 8),p 9 (R 9),p 10 (O 36)] ((36,A 67 y67 [l.1,k.1,i.1] 0)::(500000,K 122 m8 i.2)::Tg e a c.1 b.1 d)) H fun⟨l,k,i⟩ H =>
  jN r (fun((q,g,f,h):List B3×List Int×Int×Int)=>Z [p 8 (R 8),p 9 (R 9),p 10 (O 36)] ((36,A 67 y67 q 0)::(500000,bx 122 (A8 g f h))::Tg e a c.1 b.1 d)) (Mg e a d c b) (fun⟨q,g,f,h⟩ H=>?_) (fun _ n u t=>?_)
 ·refine iA [8,9]<|iA [8]<|j5<|hr H
 refine iA [0,8,9,10,38]<|cD H (fun H=>zD (fun j=>Z [p 8 (R 8),p 9 (R 9),p 10 (AV.os 36 1)] ((36,A 67 y67 ([l.1,k.1,i.1]++[j.1]) 1)::(42,A 67 y67 [j.1] 0)::(500000,K 122 m8 j.2)::Tg e a c.1 b.1 d)) H fun j H=>n H) fun H=>vK<|n H
def UO:Bool×Bool->Option Int
 | (a,b) =>
 if(a&&b) then
  some 3
 else
  if a then
   some 1
  else
   if b then
    some 2
   else
    some 0
def Mh(a:Int)(b:Bool×Bool×Int->Option Int):Bool×Bool->Option Int
 | (c,d) =>
 gd (j0 (a+1)/\True) <|
 b (c,d,a+1)
def A0x(b:m5)(c:Int)(f:Bool×Bool×Int->Option Int):Bool×Bool×Int->Option Int
 | (e,d,a) =>
 if(decide (a < (b.2.2.2.2.1.length:Int))) then
  gd (((0:Int)<=a/\(0:Int)<=(1:Int)*(2:j6 i64) ^ c.toNat)/\True) <|
  if((↑(a.toNat &&& ((1:Int)*(2:j6 i64) ^ c.toNat).toNat):Int) != (0:Int)) then
   Mh a f (e,d)
  else
   gd ((e=false/\True->ix a b.2.2.2.2.1.length)/\(e=false/\True->j0 (a+(1:Int)*(2:j6 i64) ^ c.toNat))/\(e=false/\True->ix (a+(1:Int)*(2:j6 i64) ^ c.toNat) b.2.2.2.2.1.length)/\True) <|
   gd ((d=false/\True->ix a b.2.2.2.2.1.length)/\(d=false/\True->j0 (a+(1:Int)*(2:j6 i64) ^ c.toNat))/\(d=false/\True->ix (a+(1:Int)*(2:j6 i64) ^ c.toNat) b.2.2.2.2.1.length)/\True) <|
   Mh a f ((e||decide (b.2.2.2.2.1.getD a.toNat (0:Int)<b.2.2.2.2.1.getD (a+(1:Int)*(2:j6 i64) ^ c.toNat).toNat (0:Int)),d||decide (b.2.2.2.2.1.getD (a+(1:Int)*(2:j6 i64) ^ c.toNat).toNat (0:Int)<b.2.2.2.2.1.getD a.toNat (0:Int))))
 else
  UO (e,d)
def Mi(b:m5)(a:Int):Option Int :=
 gd (((0:Int)<=a/\a<=(18446744073709551615:Int))/\(((0:Int)<=a/\a<=(62:Int))/\j0 ((1:Int)*(2:Int) ^ a.toNat))/\True) <|
 lp (A0x b a) (false,false,0)
def Q0b:Ct:=k6 198 [.agg y64,.dat i64] (fun x=>Mi x.1 x.2.1) (fun r:Int=>I r) (fun _=>())
theorem M0x:Ok prog Q0b:=by
 refine l5 [.tmp 4] func198 ?_;intro y ⟨f,g,_⟩ r H Q hn hr;refine iA [1,2]<|iA [1,2,5,6]<|iB [2,5,6,7] H fun H=>jN r (fun((b,i):Bool×Bool)=>Z [p 5 (B b),p 6 (B i)] []) (UO) (fun⟨b,i⟩ H=>?_) (fun _ l s q=>?_)
 ·refine vQ<|vB<|iA [5,6,55]<|cD H (fun H=>iA [4]<|j5<|m4<|fR<|hr H) fun H=>iA [6,60]<|cD H (fun H=>iA [4]<|j5<|m4<|fR<|hr H) fun H=>iA [62]<|cD H (fun H=>iA [4]<|j5<|m4<|fR<|hr H) fun H=>vK<|fK<|fQ<|iA [4]<|j5<|hr H
 refine iA [2,5,6,7,8]<|vB<|lX (fun((d,h,a):Bool×Bool×Int)=>Z [p 2 (R 2),p 5 (B d),p 6 (B h),p 7 (I ((1:Int)*(2:j6 i64) ^ g.toNat)),p 8 (I a)] [(2,K 64 y64 f)]) (false,false,0) H fun _ m n k u ⟨d,h,a⟩ H=>vQ<|iA [2,5,6,7,8,16]<|cD H (fun H=>?_) (fun H=>?_)
 ·refine vK<|fQ<|jN r (fun((j,e):Bool×Bool)=>Z [p 2 (R 2),p 5 (B j),p 6 (B e),p 7 (I ((1:Int)*(2:j6 i64) ^ g.toNat)),p 8 (I a)] [(2,K 64 y64 f)]) (Mh a m) (fun⟨j,e⟩ H=>?_) (fun _ c t o=>?_)
  ·refine jB [2,5,6,7,8] H fun H=>n H
  refine vB<|vQ<|iB [2,5,6,7,8,22] H fun H=>cD H (fun H=>vE<|fE<|fX rfl<|c H) fun H=>vK<|fQ<|iB [2,5,6,7,8] H fun H=>jB [2,5,6,7,8] H fun H=>fK<|c H
 exact vE<|fE<|k<|fX rfl<|l H
def UP(f:ByteArray)(c:List I8)(h:List Int)(g:Int×l6)(i:Int×l6):List B3×List Int×Int×Int->Option (m5×l6)
 | (d,b,a,e) =>
 some (((f,(1:Int),c,d,h,g.1,i.1),b,a,e))
def Mj(a:Int)(f:Int×List B3×List Int×Int×Int->Option (m5×l6)):List B3×List Int×Int×Int->Option (m5×l6)
 | (b,e,d,c) =>
 gd (j0 (a+1)/\True) <|
 f (a+1,b,e,d,c)
def A0M(f:List I8)(k:ByteArray)(i:List I8)(m:List Int)(l:Int×l6)(j:Int×l6)(n:Int×List B3×List Int×Int×Int->Option (m5×l6)):Int×List B3×List Int×Int×Int->Option (m5×l6)
 | (a,g,b,c,d) =>
 if(decide (a < (f.length:Int))) then
  gd ((Mi (k,(1:Int),i,[],m,l.1,j.1) a).isSome/\True)<|lt (vl (Mi (k,(1:Int),i,[],m,l.1,j.1) a)) fun e =>
  if(e != 0) then
   gd ((L6 (b,c,d) 1 a (f.length:Int) e).isSome/\(g.length+[(vl (L6 (b,c,d) 1 a (f.length:Int) e)).1].length<=9223372036854775807/\(g.length+[(vl (L6 (b,c,d) 1 a (f.length:Int) e)).1].length)*80<=140737488355328)/\True)<|lt (vl (L6 (b,c,d) 1 a (f.length:Int) e)) fun h =>
   Mj a n (g++[h.1],h.2.1,h.2.2.1,h.2.2.2)
  else
   Mj a n (g,b,c,d)
 else
  UP k i m l j (g,b,c,d)
def PY(f:ByteArray)(h:List Int)(g:Int×l6)(i:Int×l6):List I8×List Int×Int×Int->Option (m5×l6)
 | (a,e,c,b) =>
 gd ((a.length+[(ByteArray.mk #[(121:UInt8)],(2:Int),(0:Int),false)].length<=9223372036854775807/\(a.length+[(ByteArray.mk #[(121:UInt8)],(2:Int),(0:Int),false)].length)*40<=140737488355328)/\True)<|lt ((a++[(ByteArray.mk #[(121:UInt8)],(2:Int),(0:Int),false)],[(ByteArray.mk #[(121:UInt8)],(2:Int),(0:Int),false)])) fun(d,_) =>
 lp (A0M a f d h g i) (0,[],e,c,b)
def A0N(f:List ByteArray)(j:ByteArray)(i:List Int)(l:Int×l6)(m:Int×l6)(k:Int×List I8×List Int×Int×Int->Option (m5×l6)):Int×List I8×List Int×Int×Int->Option (m5×l6)
 | (g,b,d,c,a) =>
 if(decide (g < (i.length:Int))) then
  gd (ix (b.length:Int) f.length/\(b.length:Int).toNat<f.length/\(c9 (d,c,a) (9:Int)).isSome/\j0 ((1:Int)+(vl (c9 (d,c,a) (9:Int))).1)/\(b.length+[(f.getD (b.length:Int).toNat (a6 Ty.str),(1:Int),(1:Int)+(vl (c9 (d,c,a) (9:Int))).1,false)].length<=9223372036854775807/\(b.length+[(f.getD (b.length:Int).toNat (a6 Ty.str),(1:Int),(1:Int)+(vl (c9 (d,c,a) (9:Int))).1,false)].length)*40<=140737488355328)/\True)<|lt ((vl (c9 (d,c,a) 9),b++[(f.getD (b.length:Int).toNat (a6 Ty.str),(1:Int),(1:Int)+(vl (c9 (d,c,a) (9:Int))).1,false)],[(f.getD (b.length:Int).toNat (a6 Ty.str),(1:Int),(1:Int)+(vl (c9 (d,c,a) (9:Int))).1,false)])) fun(e,h,_) =>
  gd (j0 (2*g)/\True) <|
  k (2*g,h,e.2.1,e.2.2.1,e.2.2.2)
 else
  PY j i l m (b,d,c,a)
def C7(a:l6)(d:ByteArray)(f:List Int):Option (m5×l6) :=
 lt ([ByteArray.mk #[97],ByteArray.mk #[98],ByteArray.mk #[99],ByteArray.mk #[100]]) fun c =>
 gd ((c9 a 50).isSome/\(c9 (vl (c9 a 50)).2 80).isSome/\True)<|lt ((vl (c9 a 50),vl (c9 (vl (c9 a 50)).2 80))) fun(e,b) =>
 lp (A0N c d f e b) (1,[],b.2.1,b.2.2.1,b.2.2.2)
def Q0y:Ct:=k6 165 [.io 122 m8,.dat Ty.str,.dat i64.sl] (fun x=>C7 x.1 x.2.1 x.2.2.1) (fun r:m5×l6=>AV.agg [S r.1.1,I r.1.2.1,AV.ow 233 true y233 r.1.2.2.1,AV.ow 67 true y67 r.1.2.2.2.1,L i64 r.1.2.2.2.2.1,I r.1.2.2.2.2.2.1,I r.1.2.2.2.2.2.2]) (fun r=>r.2)
theorem O0N:Ok prog Q0y:=by
 refine l5 [.cell 6 64] func165 ?_;intro y ⟨a0,e,b,_⟩ r H Q hn hr;have:=hz (tc I0d (tc M0x (tc F6 tn)));refine iA [0,1,2,6]<|qC (fun x=>Z [p 0 (R 500000),p 1 (U e),p 2 (L i64 b),p 6 (R 6),p 7 (O 15)] [(15,A 9 Ty.str x 0),(6,bx 64 (Co (ByteArray.mk #[]) 0 0 0)),(500000,K 122 m8 a0)]) H fun x H=>qD (fun(f,a)=>Z [p 0 (R 500000),p 2 (L i64 b),p 6 (R 6),p 7 (O 15),p 8 (R 8)] [(8,bx 64 [U e,I 1,nil,nil,L i64 b,I f.1,I a.1]),(500000,K 122 m8 a.2),(15,A 9 Ty.str x 0),(6,bx 64 (Co (ByteArray.mk #[]) 0 0 0))]) H fun w H=>?_
 obtain⟨f,a⟩:=w;refine iA [0,2,6,7,8,9]<|jN r (fun((d,h,k,j):List I8×List Int×Int×Int)=>Z (Cq [p 8 (R 8),p 9 (O 23)]) ((23,A 233 y233 d 0)::(8,bx 64 [U e,I 1,nil,nil,L i64 b,I f.1,I a.1])::OA h k j)) (PY e b f a) (fun⟨d,h,k,j⟩ H=>?_) (fun _ n0 e0 t0=>?_)
 ·refine iA [0,6,8,9,11]<|qD (fun(c,t)=>Z (Cq [p 8 (R 8),p 11 (I (d.length:Int))]) ((8,bx 64 [U e,I 1,AV.os 23 1,nil,L i64 b,I f.1,I a.1])::(23,A 233 y233 c 1)::(46,A 233 y233 t 0)::OA h k j)) H fun w H=>?_
  obtain⟨c,t⟩:=w;refine iA [0,6,8,11,12]<|jN r (fun((V,o,T,F):List B3×List Int×Int×Int)=>Z [p 6 (R 6),p 8 (R 8),p 12 (O 49)] ((49,A 67 y67 V 0)::(8,bx 64 [U e,I 1,AV.os 23 0,nil,L i64 b,I f.1,I a.1])::(23,A 233 y233 c 0)::OA o T F)) (UP e c b f a) (fun⟨V,o,T,F⟩ H=>?_) (fun _ n2 e2 t2=>?_)
  ·refine iA [6,8]<|iA [6]<|j5<|hr H
  refine iA [0,6,8,11,12,13]<|vB<|lX (fun((g,l,m,G,W):Int×List B3×List Int×Int×Int)=>Z (Cq [p 8 (R 8),p 11 (I (d.length:Int)),p 12 (O 49),p 13 (I g)]) ((49,A 67 y67 l 0)::(8,bx 64 [U e,I 1,AV.os 23 0,nil,L i64 b,I f.1,I a.1])::(23,A 233 y233 c 0)::OA m G W)) (0,[],h,k,j) H fun _ g3 b3 e3 t3 ⟨g,l,m,G,W⟩ H=>vQ<|iA [0,6,8,11,12,13,52]<|cD H (fun H=>?_) (fun H=>?_)
  ·refine vK<|fQ<|jN r (fun((s,q,u,E):List B3×List Int×Int×Int)=>Z (Cq [p 8 (R 8),p 11 (I (d.length:Int)),p 12 (O 49),p 13 (I g)]) [(49,A 67 y67 s 0),(500000,bx 122 (A8 q u E)),(8,bx 64 [U e,I 1,AV.os 23 0,nil,L i64 b,I f.1,I a.1]),(23,A 233 y233 c 0),(6,bx 64 (Co (ByteArray.mk #[]) 0 0 0))]) (Mj g g3) (fun⟨s,q,u,E⟩ H=>?_) (fun _ Y e4 t4=>?_)
   ·refine jB [0,6,8,11,12,13] H fun H=>b3 H
   refine vB<|iD M0x [0,6,8,11,12,13,14] H fun _ H=>iA [0,6,8,11,12,13,14,59]<|cD H (fun H=>zD (fun i=>Z (Cq [p 8 (R 8),p 11 (I (d.length:Int)),p 12 (AV.os 49 1),p 13 (I g)]) [(49,A 67 y67 (l++[i.1]) 1),(66,A 67 y67 [i.1] 0),(500000,K 122 m8 i.2),(8,bx 64 [U e,I 1,AV.os 23 0,nil,L i64 b,I f.1,I a.1]),(23,A 233 y233 c 0),(6,bx 64 (Co (ByteArray.mk #[]) 0 0 0))]) H fun i H=>fK<|Y H) fun H=>vK<|fK<|Y H
  exact vE<|fE<|e3<|fX rfl<|n2 H
 refine iA [0,2,6,7,8,9,10]<|vB<|lX (fun((X,v7,v8,v9,v):Int×List I8×List Int×Int×Int)=>Z [p 0 (R 500000),p 2 (L i64 b),p 6 (R 6),p 7 (O 15),p 8 (R 8),p 9 (O 23),p 10 (I X)] [(23,A 233 y233 v7 0),(8,bx 64 [U e,I 1,nil,nil,L i64 b,I f.1,I a.1]),(500000,bx 122 [L b8 v8,J v9,J v]),(15,A 9 Ty.str x 0),(6,bx 64 (Co (ByteArray.mk #[]) 0 0 0))]) (1,[],a.2.1,a.2.2.1,a.2.2.2) H fun _ g1 b1 e1 t1 ⟨X,v7,v8,v9,v⟩ H=>vQ<|iA [0,2,6,7,8,9,10,27]<|cD H (fun H=>?_) (fun H=>?_)
 ·refine vK<|fQ<|vQ<|vB<|zD (fun(n,z,P)=>Z [p 0 (R 500000),p 2 (L i64 b),p 6 (R 6),p 7 (O 15),p 8 (R 8),p 9 (AV.os 23 1),p 10 (I X)] [(23,A 233 y233 z 1),(40,A 233 y233 P 0),(500000,K 122 m8 n.2),(8,bx 64 [U e,I 1,nil,nil,L i64 b,I f.1,I a.1]),(15,A 9 Ty.str x 0),(6,bx 64 (Co (ByteArray.mk #[]) 0 0 0))]) H fun⟨n,z,P⟩ H =>
   fK<|fQ <|
   jB [0,2,6,7,8,9,10] H fun H =>
   b1 H
 exact vE<|fE<|e1<|fX rfl<|n0 H
def Mm(a:l6):Option (List m5×l6) :=
 gd (True/\(C7 a (ByteArray.mk #[105,110,118]) [1,0]).isSome/\True) <|
 gd (True/\(C7 (vl (C7 a (ByteArray.mk #[105,110,118]) [1,0])).2 (ByteArray.mk #[98,117,102]) [0,1]).isSome/\True) <|
 gd (True/\(C7 (vl (C7 (vl (C7 a (ByteArray.mk #[105,110,118]) [1,0])).2 (ByteArray.mk #[98,117,102]) [0,1])).2 (ByteArray.mk #[110,97,110,100]) [1,1,1,0]).isSome/\True) <|
 gd (True/\(C7 (vl (C7 (vl (C7 (vl (C7 a (ByteArray.mk #[105,110,118]) [1,0])).2 (ByteArray.mk #[98,117,102]) [0,1])).2 (ByteArray.mk #[110,97,110,100]) [1,1,1,0])).2 (ByteArray.mk #[120,111,114]) [0,1,1,0]).isSome/\True) <|
 gd (True/\(C7 (vl (C7 (vl (C7 (vl (C7 (vl (C7 a (ByteArray.mk #[105,110,118]) [1,0])).2 (ByteArray.mk #[98,117,102]) [0,1])).2 (ByteArray.mk #[110,97,110,100]) [1,1,1,0])).2 (ByteArray.mk #[120,111,114]) [0,1,1,0])).2 (ByteArray.mk #[109,117,120]) [0,1,0,1,0,0,1,1]).isSome/\True) <|
 gd ((Dt (vl (C7 (vl (C7 (vl (C7 (vl (C7 (vl (C7 a (ByteArray.mk #[105,110,118]) [1,0])).2 (ByteArray.mk #[98,117,102]) [0,1])).2 (ByteArray.mk #[110,97,110,100]) [1,1,1,0])).2 (ByteArray.mk #[120,111,114]) [0,1,1,0])).2 (ByteArray.mk #[109,117,120]) [0,1,0,1,0,0,1,1])).2 (ByteArray.mk #[102,108,111,112]) 2 2).isSome/\True)<|lt ((vl (Dt (vl (C7 (vl (C7 (vl (C7 (vl (C7 (vl (C7 a (ByteArray.mk #[105,110,118]) [1,0])).2 (ByteArray.mk #[98,117,102]) [0,1])).2 (ByteArray.mk #[110,97,110,100]) [1,1,1,0])).2 (ByteArray.mk #[120,111,114]) [0,1,1,0])).2 (ByteArray.mk #[109,117,120]) [0,1,0,1,0,0,1,1])).2 (ByteArray.mk #[102,108,111,112]) 2 2),vl (C7 (vl (C7 (vl (C7 (vl (C7 (vl (C7 a (ByteArray.mk #[105,110,118]) [1,0])).2 (ByteArray.mk #[98,117,102]) [0,1])).2 (ByteArray.mk #[110,97,110,100]) [1,1,1,0])).2 (ByteArray.mk #[120,111,114]) [0,1,1,0])).2 (ByteArray.mk #[109,117,120]) [0,1,0,1,0,0,1,1]),vl (C7 (vl (C7 (vl (C7 (vl (C7 a (ByteArray.mk #[105,110,118]) [1,0])).2 (ByteArray.mk #[98,117,102]) [0,1])).2 (ByteArray.mk #[110,97,110,100]) [1,1,1,0])).2 (ByteArray.mk #[120,111,114]) [0,1,1,0]),vl (C7 (vl (C7 (vl (C7 a (ByteArray.mk #[105,110,118]) [1,0])).2 (ByteArray.mk #[98,117,102]) [0,1])).2 (ByteArray.mk #[110,97,110,100]) [1,1,1,0]),vl (C7 (vl (C7 a (ByteArray.mk #[105,110,118]) [1,0])).2 (ByteArray.mk #[98,117,102]) [0,1]),vl (C7 a (ByteArray.mk #[105,110,118]) [1,0]))) fun(c,g,i,f,e,j) =>
 gd ((Dt c.2 (ByteArray.mk #[102,108,111,112,110]) 2 3).isSome/\True)<|lt (vl (Dt c.2 (ByteArray.mk #[102,108,111,112,110]) 2 3)) fun b =>
 gd ((Dt b.2 (ByteArray.mk #[108,97,116,99,104]) 3 2).isSome/\True)<|lt (vl (Dt b.2 (ByteArray.mk #[108,97,116,99,104]) 3 2)) fun d =>
 lt ([j.1,e.1,f.1,i.1,g.1,(c.1.1,c.1.2.1,c.1.2.2.1,c.1.2.2.2.1,[],c.1.2.2.2.2),(b.1.1,b.1.2.1,b.1.2.2.1,b.1.2.2.2.1,[],b.1.2.2.2.2),(d.1.1,d.1.2.1,d.1.2.2.1,d.1.2.2.2.1,[],d.1.2.2.2.2)]) fun h =>
 some (h,d.2)
def R0k:Ct:=k6 119 [.io 122 m8] (fun x=>Mm x.1) (fun r:List m5×l6=>AV.agg [AV.ow 64 false y64 r.1]) (fun r=>r.2)
theorem P0c:Ok prog R0k:=by
 refine l5 [.cell 2 26] func119 ?_;intro y ⟨_,_⟩ r H Q hn hr;have:=hz (tc UN (tc O0N tn));refine iA [0,2]<|iA [0,2,3]<|vQ<|iF 2 [14] [0,2,3,4] H fun H=>fQ<|vQ<|iF 2 [17] [0,2,3,4,5] H fun H=>fQ<|vQ<|iF 2 [20] [0,2,3,4,5,6] H fun H=>fQ<|vQ<|iF 2 [23] [0,2,3,4,5,6,7] H fun H=>fQ<|vQ<|iF 2 [26] [0,2,3,4,5,6,7,8] H fun H=>fQ<|qD (fun(a,d,e,c,b,f)=>Z [p 0 (R 500000),p 2 (R 2),p 3 (R 3),p 4 (R 4),p 5 (R 5),p 6 (R 6),p 7 (R 7),p 8 (R 8),p 9 (R 9)] [(9,bx 64 [S a.1.1,I a.1.2.1,AV.os 29 0,AV.os 1029 0,nil,I a.1.2.2.2.2.1,I a.1.2.2.2.2.2]),(1029,A 67 y67 a.1.2.2.2.1 0),(29,A 233 y233 a.1.2.2.1 0),(500000,K 122 m8 a.2),(8,bx 64 [S d.1.1,I d.1.2.1,AV.os 27 0,AV.os 1027 0,L i64 d.1.2.2.2.2.1,I d.1.2.2.2.2.2.1,I d.1.2.2.2.2.2.2]),(1027,A 67 y67 d.1.2.2.2.1 0),(27,A 233 y233 d.1.2.2.1 0),(7,bx 64 [S e.1.1,I e.1.2.1,AV.os 24 0,AV.os 1024 0,L i64 e.1.2.2.2.2.1,I e.1.2.2.2.2.2.1,I e.1.2.2.2.2.2.2]),(1024,A 67 y67 e.1.2.2.2.1 0),(24,A 233 y233 e.1.2.2.1 0),(6,bx 64 [S c.1.1,I c.1.2.1,AV.os 21 0,AV.os 1021 0,L i64 c.1.2.2.2.2.1,I c.1.2.2.2.2.2.1,I c.1.2.2.2.2.2.2]),(1021,A 67 y67 c.1.2.2.2.1 0),(21,A 233 y233 c.1.2.2.1 0),(5,bx 64 [S b.1.1,I b.1.2.1,AV.os 18 0,AV.os 1018 0,L i64 b.1.2.2.2.2.1,I b.1.2.2.2.2.2.1,I b.1.2.2.2.2.2.2]),(1018,A 67 y67 b.1.2.2.2.1 0),(18,A 233 y233 b.1.2.2.1 0),(4,bx 64 [S f.1.1,I f.1.2.1,AV.os 15 0,AV.os 1015 0,L i64 f.1.2.2.2.2.1,I f.1.2.2.2.2.2.1,I f.1.2.2.2.2.2.2]),(1015,A 67 y67 f.1.2.2.2.1 0),(15,A 233 y233 f.1.2.2.1 0),(3,bx 26 [nil]),(2,bx 26 [nil])]) H fun⟨a,d,e,c,b,f⟩ H =>
  iD UN [0,2,3,4,5,6,7,8,9,10] H fun h H =>
  iD UN [2,3,4,5,6,7,8,9,10,11] H fun g H=>?_
 refine fZs [33,1033,31,1031,29,1029,27,1027,24,1024,21,1021,18,1018,15,1015] (Z (G7 [p 4 (R 4),p 5 (R 5),p 6 (R 6),p 7 (R 7),p 8 (R 8),p 9 (R 9),p 10 (R 10),p 11 (R 11)]) [(11,bx 64 (Q4 g.1)),(500000,K 122 m8 g.2),(10,bx 64 (Q4 h.1)),(9,bx 64 (Q4 a.1)),(8,bx 64 (Q0 d.1)),(7,bx 64 (Q0 e.1)),(6,bx 64 (Q0 c.1)),(5,bx 64 (Q0 b.1)),(4,bx 64 (Q0 f.1)),(3,bx 26 [nil]),(2,bx 26 [nil])])<|qC (fun i=>Z (G7 []) [(3,bx 26 [AV.os 42 0]),(42,Ob.arr 64 false y64 i 0),(11,bx 64 (Q4 g.1)),(500000,K 122 m8 g.2),(10,bx 64 (Q4 h.1)),(9,bx 64 (Q4 a.1)),(8,bx 64 (Q0 d.1)),(7,bx 64 (Q0 e.1)),(6,bx 64 (Q0 c.1)),(5,bx 64 (Q0 b.1)),(4,bx 64 (Q0 f.1)),(2,bx 26 [nil])]) H fun i H=>iA [2]<|j5<|hr H
def Mn(a:Int)(b:Int):Option z6 :=
 gd ((0<=a/\a=a/\a.toNat*8<=281474976710656/\a<=9223372036854775807)/\True) <|
 some ([-1],[0],[b],List.replicate a.toNat 0)
def Q0v:Ct:=k6 168 [.dat i64,.dat i64] (fun x=>Mn x.1 x.2.1) (fun r:z6=>AV.agg [AV.ow 2 true i64 r.1,AV.ow 2 true i64 r.2.1,AV.ow 2 true i64 r.2.2.1,AV.ow 2 true i64 r.2.2.2]) (fun _=>())
theorem O0M:Ok prog Q0v:=by
 refine l5 [.cell 4 153] func168 ?_;intro y ⟨_,_,_⟩ r H Q hn hr;refine iA [0,1,4]<|iB [4] H fun H=>j5<|hr H
def Mo(b:r8)(a:r8):Option r8 :=
 some (min b.1 a.1,max b.2 a.2)
def Q0J:Ct:=k6 151 [.agg y51,.agg y51] (fun x=>Mo x.1 x.2.1) (fun r:r8=>AV.agg [I r.1,I r.2]) (fun _=>())
theorem O0R:Ok prog Q0J:=by
 refine l5 [.cell 4 51] func151 ?_;intro y ⟨_,_,_⟩ r H Q hn hr;refine iA [2,3,4]<|iA [4]<|j5<|hr H
def G0a:Bool×Int×Int×Int×Int×Int->Option (Bool×m6)
 | (d,c,b,e,f,a) =>
 some ((d,c,(b,e),f,a))
def IP(a:Int)(h:Bool×Int×Int×Int×Int×Int×Int->Option (Bool×m6)):Bool×Int×Int×Int×Int×Int->Option (Bool×m6)
 | (g,b,f,e,c,d) =>
 gd (j0 (a+1)/\True) <|
 h (g,a+1,b,f,e,c,d)
def UQ(a:Int)(f:Int)(g:Bool×Int×Int×Int×Int×Int×Int->Option (Bool×m6)):Int×Int×Int×Int->Option (Bool×m6)
 | (c,b,e,d) =>
 IP a g (true,f,e,d,c,b)
def F0Y(m:Int)(d:C3)(s:j9)(r:p8)(o:List Bool)(q:List l8)(n:Bool×Int×Int×Int×Int×Int×Int->Option (Bool×m6)):Bool×Int×Int×Int×Int×Int×Int->Option (Bool×m6)
 | (i,c,k,g,f,e,h) =>
 if(decide (c < (q.length:Int))) then
  gd (ix c q.length/\True)<|lt (q.getD c.toNat (a6 y80)) fun a =>
  gd (ix c o.length/\((!o.getD c.toNat false||a.2.1 != m)=false/\True->ix a.1 d.1.length)/\True) <|
  if(!o.getD c.toNat false||a.2.1 != m||!d.1.getD a.1.toNat false) then
   IP c n (i,k,g,f,e,h)
  else
   gd (ix a.1 d.2.2.length/\(Iu s r a (d.2.2.getD a.1.toNat (a6 y51))).isSome/\True)<|lt (vl (Iu s r a (d.2.2.getD a.1.toNat (a6 y51)))) fun b =>
   gd (ix a.1 d.2.1.length/\j0 ((d.2.1.getD a.1.toNat (a6 y51)).1+b.1.1)/\ix a.1 d.2.1.length/\j0 ((d.2.1.getD a.1.toNat (a6 y51)).2+b.1.2)/\True) <|
   if i then
    gd ((Ky ((d.2.1.getD a.1.toNat (a6 y51)).1+b.1.1,(d.2.1.getD a.1.toNat (a6 y51)).2+b.1.2) (g,f)).isSome/\True)<|lt (vl (Ky ((d.2.1.getD a.1.toNat (a6 y51)).1+b.1.1,(d.2.1.getD a.1.toNat (a6 y51)).2+b.1.2) (g,f))) fun j =>
    gd ((Ky b.2 (e,h)).isSome/\True)<|lt (vl (Ky b.2 (e,h))) fun l =>
    UQ c m n (l.1,l.2,j.1,j.2)
   else
    UQ c m n ((b.2.1,b.2.2,(d.2.1.getD a.1.toNat (a6 y51)).1+b.1.1,(d.2.1.getD a.1.toNat (a6 y51)).2+b.1.2))
 else
  G0a (i,k,g,f,e,h)
def IQ(g:Int)(k:C3)(i:j9)(h:p8)(j:List Bool)(l:List l8):Bool×Int×Int×Int×Int×Int->Option (Bool×m6)
 | (a,c,d,b,f,e) =>
 lp (F0Y g k i h j l) (a,0,c,d,b,f,e)
def UR(g:Int)(h:Bool×Int×Int×Int×Int×Int×Int->Option (Bool×m6)):Int×Int×Int×Int×Int×Bool->Option (Bool×m6)
 | (f,c,b,d,e,a) =>
 gd (j0 (g+1)/\True) <|
 h (a,g+1,f,c,b,d,e)
def F0Z(c:List m6)(h:Int)(o:C3)(m:j9)(l:p8)(n:List Bool)(q:List l8)(k:Bool×Int×Int×Int×Int×Int×Int->Option (Bool×m6)):Bool×Int×Int×Int×Int×Int×Int->Option (Bool×m6)
 | (i,b,j,f,e,d,g) =>
 if(decide (b < (c.length:Int))) then
  gd (ix b c.length/\True) <|
  if((c.getD b.toNat (a6 y53)).1==h) then
   gd (ix b c.length/\True)<|lt (c.getD b.toNat (a6 y53)) fun a =>
   UR b k (a.1,a.2.1.1,a.2.1.2,a.2.2.1,a.2.2.2,true)
  else
   UR b k (j,f,e,d,g,i)
 else
  IQ h o m l n q (i,j,f,e,d,g)
def IS(d:j9)(c:p8)(f:List l8)(e:List Bool)(b:List m6)(g:C3)(a:Int):Option (Bool×m6) :=
 lp (F0Z b a g d c e f) (false,0,0,0,0,0,0)
def k79:Ct:=k6 79 [.agg l9,.agg r7,.dat y80.sl,.dat Ty.bool.sl,.dat y53.sl,.agg P0,.dat i64] (fun x=>IS x.1 x.2.1 x.2.2.1 x.2.2.2.1 x.2.2.2.2.1 x.2.2.2.2.2.1 x.2.2.2.2.2.2.1) (fun r:Bool×m6=>AV.tup [B r.1,AV.agg [I r.2.1,I r.2.2.1.1,I r.2.2.1.2,I r.2.2.2.1,I r.2.2.2.2]]) (fun _=>())
theorem o79:Ok prog k79:=by
 refine l5 [.tmp 14,.cell 15 53] func79 ?_;intro y ⟨i,k,l,f,a4,g,b,_⟩ r H Q hn hr;have:=hz (tc Th (tc Zr tn));refine iA [2,3,4,6,7,8,12,15]<|iA [2,3,4,6,7,8,12,15,16]<|iA [2,3,4,6,7,8,12,15,16,17]<|jN r (fun((v,u,q,E,t,n):Bool×Int×Int×Int×Int×Int)=>Z (Ks l f b [p 16 (B v),p 17 (R 17)]) (W5 u q E t n g k i)) (IQ b g i k f l) (fun w H=>?_) (fun _ n0 e0 t0=>?_)
 ·obtain⟨v,u,q,E,t,n⟩:=w;refine jN r (fun((W,aM,T,X,aO,G):Bool×Int×Int×Int×Int×Int)=>Z [p 15 (R 15),p 16 (B W),p 17 (R 17)] [(17,bx 53 [J aM,J T,J X,J aO,J G]),(15,bx 53 [I 0,I 0,I 0,I 0,I 0])]) (G0a) (fun⟨W,aM,T,X,aO,G⟩ H=>?_) (fun _ n3 e3 t3=>?_)
  ·refine iA [14,15]<|j5<|hr H
  refine iA [2,3,6,7,8,12,15,16,17,19]<|vB<|lX (fun((F,a,h,d,c,e,j):Bool×Int×Int×Int×Int×Int×Int)=>Z (Ks l f b [p 16 (B F),p 17 (R 17),p 19 (I a)]) (W5 h d c e j g k i)) (v,0,u,q,E,t,n) H fun _ g4 b4 e4 t4 ⟨F,a,h,d,c,e,j⟩ H=>vQ<|iA [2,3,6,7,8,12,15,16,17,19,45]<|cD H (fun H=>?_) (fun H=>?_)
  ·refine vK<|fQ<|jN r (fun((aQ,aB,aR,aH,aC,aI):Bool×Int×Int×Int×Int×Int)=>Z (Ks l f b [p 16 (B aQ),p 17 (R 17),p 19 (I a)]) (W5 aB aR aH aC aI g k i)) (IP a g4) (fun⟨aQ,aB,aR,aH,aC,aI⟩ H=>?_) (fun _ n5 e5 t5=>?_)
   ·refine jB [2,3,6,7,8,12,15,16,17,19] H fun H=>b4 H
   refine vB<|qD (fun aA=>Z (Ks l f b [p 16 (B F),p 17 (R 17),p 19 (I a),p 20 (R 20)]) ((20,K 80 y80 aA)::W5 h d c e j g k i)) H fun aA H=>vQ<|iB [2,3,6,7,8,12,15,16,17,19,20,71] H fun H=>cD H (fun H=>vE<|fE<|fX rfl<|n5 H) fun H=>vK<|fQ<|iD Zr [2,3,6,7,8,12,15,16,17,19,20,21,22] H fun _ H=>iB [2,3,6,7,8,12,15,16,17,19,22,23] H fun H=>jN r (fun((x,m,z,o):Int×Int×Int×Int)=>Z (Ks l f b [p 17 (R 17),p 19 (I a),p 22 (R 22),p 23 (R 23)]) ((22,bx 51 [I x,I m])::(23,bx 51 [I z,I o])::W5 h d c e j g k i)) (UQ a b g4) (fun⟨x,m,z,o⟩ H=>?_) (fun _ n6 e6 t6=>?_)
   ·refine iA [2,3,6,7,8,12,15,16,17,19,22,23]<|jA [2,3,6,7,8,12,15,16,17,19]<|fK<|n5 (s:=(true,b,z,o,x,m)) H (by kernel_rfl)
   refine iA [2,3,6,7,8,12,15,17,19,22,23,106]<|cD H (fun H=>iD Th [2,3,6,7,8,12,15,17,19,22,23] H fun _ H=>jD Th [2,3,6,7,8,12,15,17,19,22,23] H fun _ H=>n6 H) fun H=>vK<|n6 H
  exact vE<|fE<|e4<|fX rfl<|n3 H
 refine iA [2,3,4,6,7,8,12,15,16,17,18]<|vB<|lX (fun((v7,v8,v9,aD,V,aK,aP):Bool×Int×Int×Int×Int×Int×Int)=>Z [p 2 (L y80 l),p 3 (L Ty.bool f),p 4 (L y53 a4),p 6 (J b),p 7 (R 7),p 8 (R 8),p 12 (R 12),p 15 (R 15),p 16 (B v7),p 17 (R 17),p 18 (I v8)] (W5 v9 aD V aK aP g k i)) (false,0,0,0,0,0,0) H fun _ g1 b1 e1 t1 ⟨v7,v8,v9,aD,V,aK,aP⟩ H=>vQ<|iA [2,3,4,6,7,8,12,15,16,17,18,28]<|cD H (fun H=>?_) (fun H=>?_)
 ·refine vK<|fQ<|jN r (fun((Y,aN,aL,aF,aG,P):Int×Int×Int×Int×Int×Bool)=>Z [p 2 (L y80 l),p 3 (L Ty.bool f),p 4 (L y53 a4),p 6 (J b),p 7 (R 7),p 8 (R 8),p 12 (R 12),p 15 (R 15),p 16 (B P),p 17 (R 17),p 18 (I v8)] (W5 Y aN aL aF aG g k i)) (UR v8 g1) (fun⟨Y,aN,aL,aF,aG,P⟩ H=>?_) (fun _ n2 e2 t2=>?_)
  ·refine jB [2,3,4,6,7,8,12,15,16,17,18] H fun H=>b1 H
  refine vB<|iB [2,3,4,6,7,8,12,15,16,17,18,37] H fun H=>cD H (fun H=>iA [2,3,4,6,7,8,12,15,16,17,18]<|zD (fun aJ=>Z [p 2 (L y80 l),p 3 (L Ty.bool f),p 4 (L y53 a4),p 6 (J b),p 7 (R 7),p 8 (R 8),p 12 (R 12),p 15 (R 15),p 16 (B true),p 17 (R 17),p 18 (I v8)] [(17,K 53 y53 aJ),(15,bx 53 [I 0,I 0,I 0,I 0,I 0]),(12,K 44 P0 g),(8,K 36 r7 k),(7,K 34 l9 i)]) H fun aJ H=>fK<|n2 H) fun H=>vK<|fK<|n2 H
 exact vE<|fE<|e1<|fX rfl<|n0 H
def G0Q:List r8×List r8×List Bool->Option (C3×Bool)
 | (b,a,c) =>
 some (((c,a,b),true))
def US(d:Int)(e:Int×List r8×List r8×List Bool->Option (C3×Bool)):List r8×List r8×List Bool->Option (C3×Bool)
 | (c,b,a) =>
 gd (j0 (d+1)/\True) <|
 e (d+1,c,b,a)
def G0P(d:List Int)(i:j9)(h:p8)(l:List l8)(k:List Bool)(g:List m6)(j:Int×List r8×List r8×List Bool->Option (C3×Bool)):Int×List r8×List r8×List Bool->Option (C3×Bool)
 | (c,f,b,a) =>
 if(decide (c < (d.length:Int))) then
  gd (ix c d.length/\True) <|
  gd ((IS i h l k g (a,b,f) (d.getD c.toNat 0)).isSome/\True)<|lt (vl (IS i h l k g (a,b,f) (d.getD c.toNat 0))) fun e =>
  if(!e.1) then
   US c j (f,b,a)
  else
   gd ((Di e.2.2.1).isSome/\True) <|
   if(!vl (Di e.2.2.1)) then
    some ((([],[],[]),false))
   else
    gd (ix (d.getD c.toNat 0) a.length/\Int.toNat (d.getD c.toNat 0)<a.length/\True) <|
    gd (ix (d.getD c.toNat 0) b.length/\Int.toNat (d.getD c.toNat 0)<b.length/\True) <|
    gd (ix (d.getD c.toNat 0) f.length/\Int.toNat (d.getD c.toNat 0)<f.length/\True) <|
    US c j ((f.set (Int.toNat (d.getD c.toNat 0)) e.2.2.2,b.set (Int.toNat (d.getD c.toNat 0)) e.2.2.1,a.set (Int.toNat (d.getD c.toNat 0)) true))
 else
  G0Q (f,b,a)
def IT(a:j9)(d:p8)(f:List l8)(e:List Bool)(c:List m6)(g:List Int):Option (C3×Bool) :=
 gd ((Y6 a).isSome/\(KC (vl (Y6 a))).isSome/\True)<|lt (vl (KC (vl (Y6 a)))) fun b =>
 lp (G0P g a d f e c) (0,b.2.2,b.2.1,b.1)
def k33:Ct:=k6 33 [.agg l9,.agg r7,.dat y80.sl,.dat Ty.bool.sl,.dat y53.sl,.dat i64.sl] (fun x=>IT x.1 x.2.1 x.2.2.1 x.2.2.2.1 x.2.2.2.2.1 x.2.2.2.2.2.1) (fun r:C3×Bool=>AV.tup [AV.agg [AV.ow 4 true Ty.bool r.1.1,AV.ow 51 true y51 r.1.2.1,AV.ow 51 true y51 r.1.2.2],B r.2]) (fun _=>())
theorem o33:Ok prog k33:=by
 refine l5 [.cell 12 44,.tmp 13] func33 ?_;intro y ⟨o,q,t,m,k,n,_⟩ r H Q hn hr;have:=hz (tc Zg (tc o79 (tc Zs (tc Iv tn))));refine iA [2,3,4,5,6,7,12]<|iD Zs [2,3,4,5,6,7,12,14] H fun j H=>jN r (fun((g,f,c):List r8×List r8×List Bool)=>Z [p 12 (R 12),p 14 (R 14)] [(14,bx 44 [AV.os 21 0,AV.os 1021 0,AV.os 2021 0]),(2021,A 51 y51 g 0),(1021,A 51 y51 f 0),(21,A 4 Ty.bool c 0),(12,bx 44 [nil,nil,nil])]) (G0Q) (fun⟨g,f,c⟩ H=>?_) (fun _ x G v=>?_)
 ·refine iA [12,13]<|j5<|hr H
 refine iA [2,3,4,5,6,7,12,14,15]<|vB<|lX (fun((i,s,d,a):Int×List r8×List r8×List Bool)=>Z [p 2 (L y80 t),p 3 (L Ty.bool m),p 4 (L y53 k),p 5 (L i64 n),p 6 (R 6),p 7 (R 7),p 12 (R 12),p 14 (R 14),p 15 (I i)] [(14,bx 44 [AV.os 21 0,AV.os 1021 0,AV.os 2021 0]),(2021,A 51 y51 s 0),(1021,A 51 y51 d 0),(21,A 4 Ty.bool a 0),(12,bx 44 [nil,nil,nil]),(7,K 36 r7 q),(6,K 34 l9 o)]) (0,j.2.2,j.2.1,j.1) H fun _ E F w z ⟨i,s,d,a⟩ H=>vQ<|iA [2,3,4,5,6,7,12,14,15,25]<|cD H (fun H=>?_) (fun H=>?_)
 ·refine vK<|fQ<|jN r (fun((h,e,b):List r8×List r8×List Bool)=>Z [p 2 (L y80 t),p 3 (L Ty.bool m),p 4 (L y53 k),p 5 (L i64 n),p 6 (R 6),p 7 (R 7),p 12 (R 12),p 14 (R 14),p 15 (I i)] [(14,bx 44 [AV.os 21 0,AV.os 1021 0,AV.os 2021 0]),(2021,A 51 y51 h 0),(1021,A 51 y51 e 0),(21,A 4 Ty.bool b 0),(12,bx 44 [nil,nil,nil]),(7,K 36 r7 q),(6,K 34 l9 o)]) (US i E) (fun⟨h,e,b⟩ H=>?_) (fun _ l P u=>?_)
  ·refine jB [2,3,4,5,6,7,12,14,15] H fun H=>F H
  refine vB<|iB [2,3,4,5,6,7,12,14,15,16] H fun H=>iD o79 [2,3,4,5,6,7,12,14,15,16,17,18] H fun _ H=>vQ<|iA [2,3,4,5,6,7,12,14,15,16,18,44]<|cD H (fun H=>vE<|fE<|fX rfl<|l H) fun H=>vK<|fQ<|vQ<|iB [2,3,4,5,6,7,12,14,15,16,18,48] H fun H=>cD H (fun H=>iA [12,13]<|j5<|fR<|m4<|u<|z<|m4<|v<|hr H) fun H=>vK<|fQ<|iB [2,3,4,5,6,7,12,14,15,16,18] H fun H=>iB [2,3,4,5,6,7,12,14,15,16,18] H fun H=>jB [2,3,4,5,6,7,12,14,15] H fun H=>fK<|l H
 exact vE<|fE<|w<|fX rfl<|x H
def Mp(a:j9)(e:p8)(c:List Int)(f:List m6):Option (C3×Int) :=
 gd ((Lc a e c f).isSome/\True)<|lt (vl (Lc a e c f)) fun d =>
 if(d.2 != 0) then
  some ((([],[],[]),d.2))
 else
  gd ((u32 a).isSome/\True)<|lt (vl (u32 a)) fun b =>
  gd ((Bg b c).isSome/\(IT a e b (vl (Bg b c)) f d.1).isSome/\True)<|lt ((vl (IT a e b (vl (Bg b c)) f d.1),vl (Bg b c))) fun(g,_) =>
  if(!g.2) then
   some ((([],[],[]),(3:Int)))
  else
   some ((g.1,(0:Int)))
def UT:Ct:=k6 10 [.agg l9,.agg r7,.dat i64.sl,.dat y53.sl] (fun x=>Mp x.1 x.2.1 x.2.2.1 x.2.2.2.1) (fun r:C3×Int=>AV.tup [AV.agg [AV.ow 4 true Ty.bool r.1.1,AV.ow 51 true y51 r.1.2.1,AV.ow 51 true y51 r.1.2.2],I r.2]) (fun _=>())
theorem o10:Ok prog UT:=by
 refine l5 [.cell 8 44,.tmp 9] func10 ?_;intro y ⟨e,d,_,_,_⟩ r H Q hn hr;have:=hz (tc o33 (tc OK (tc Cu (tc o31 tn))));refine iA [2,3,4,5,8]<|iD o31 [2,3,4,5,8,10,11] H fun c H=>vQ<|iA [2,3,4,5,8,10,11,24]<|cD H (fun H=>iA [8,9]<|j5<|fR<|hr H) fun H=>vK<|fQ<|iD Cu [2,3,4,5,8,10,12] H fun f H=>qD (fun(a,b)=>Z [p 8 (R 8),p 13 (R 13),p 14 (B a.2)] [(13,bx 44 [AV.os 38 0,AV.os 1038 0,AV.os 2038 0]),(2038,A 51 y51 a.1.2.2 0),(1038,A 51 y51 a.1.2.1 0),(38,A 4 Ty.bool a.1.1 0),(35,A 4 Ty.bool b 0),(28,A 80 y80 f 0),(20,A 2 i64 c.1 0),(8,bx 44 [nil,nil,nil]),(5,K 36 r7 d),(4,K 34 l9 e)]) H fun⟨a,b⟩ H =>
  vQ <|
  iA [8,13,42] <|
  cD H (fun H=>iA [8,9]<|j5<|fR<|hr H) fun H=>vK<|fQ<|iA [8,9]<|j5<|hr H
def Fv(a:m6)(d:Bool)(c:r8)(b:r8):Option (m6×Bool) :=
 if(!d) then
  some ((a.1,c,b),true)
 else
  gd ((Mo a.2.1 c).isSome/\(Mo a.2.2 b).isSome/\True) <|
  some ((a.1,vl (Mo a.2.1 c),vl (Mo a.2.2 b)),d)
theorem I0v{st:St}{z:j6 y53×j6 Ty.bool}{a:j6 y53}{b:Bool}(e:some (a,b)=some z)(h:PZ st 53 y53 4 .bool z=(a=z.1/\b=z.2)):PZ st 53 y53 4 .bool z:=by
 cases e;rw[h];exact⟨rfl,rfl⟩
theorem q97:Mq prog 97 53 y53 4 .bool [.agg y51,.agg y51] (fun x1 x2 x=>Fv x1 x2 x.1 x.2.1):=by
 refine I0b func97 ntmps97 rfl results97 (by kernel_rfl) rfl ?_;intro y x1 x2 ⟨_,_,_⟩ z H Q hQ;have:HG prog Γ:=⟨M1⟩;have:=hz (tc O0R (@tn prog));refine iA [0,1,6,7]<|vQ<|iA [0,1,6,7,11]<|cD H (fun H=>iA [0,1]<|j5<|fR<|(hQ _ (I0v H (by kernel_rfl))).2) fun H=>vK<|fQ<|jB [0,1] H fun H=>(hQ _ (I0v H (by kernel_rfl))).1
def G0C:Int×Int×Int×Int×Int×Bool->Option (Bool×m6)
 | (f,d,b,e,c,a) =>
 if(!a) then
  some ((false,(0:Int),((0:Int),(0:Int)),(0:Int),(0:Int)))
 else
  some ((true,f,(d,b),e,c))
def UU(a:Int)(h:Int×Int×Int×Int×Int×Int×Bool->Option (Bool×m6)):Int×Int×Int×Int×Int×Bool->Option (Bool×m6)
 | (b,g,f,d,e,c) =>
 gd (j0 (a+1)/\True) <|
 h (a+1,b,g,f,d,e,c)
def G0B(e:C3)(m:I4)(n:p8)(l:List Int)(o:Int×Int×Int×Int×Int×Int×Bool->Option (Bool×m6)):Int×Int×Int×Int×Int×Int×Bool->Option (Bool×m6)
 | (b,i,g,f,j,k,h) =>
 if(decide (b < (l.length:Int))) then
  gd (ix b l.length/\b.toNat<l.length/\True) <|
  gd (ix (l.getD b.toNat 0) m.1.2.2.1.length/\True)<|lt (m.1.2.2.1.getD (Int.toNat (l.getD b.toNat 0)) (a6 y80)) fun a =>
  gd (ix a.1 e.1.length/\True) <|
  if(e.1.getD a.1.toNat false) then
   gd (ix a.1 e.2.2.length/\(Dp m.1 n (l.getD b.toNat 0) (e.2.2.getD a.1.toNat (a6 y51))).isSome/\True)<|lt (vl (Dp m.1 n (l.getD b.toNat 0) (e.2.2.getD a.1.toNat (a6 y51)))) fun c =>
   gd ((ix a.1 e.2.1.length/\(Dr (e.2.1.getD a.1.toNat (a6 y51)) c.1).isSome/\True)/\(Fv (i,(g,f),j,k) h (vl (Dr (e.2.1.getD a.1.toNat (a6 y51)) c.1),c.2,()).1 (vl (Dr (e.2.1.getD a.1.toNat (a6 y51)) c.1),c.2,()).2.1).isSome/\True)<|lt (vl (Fv (i,(g,f),j,k) h (vl (Dr (e.2.1.getD a.1.toNat (a6 y51)) c.1),c.2,()).1 (vl (Dr (e.2.1.getD a.1.toNat (a6 y51)) c.1),c.2,()).2.1)) fun(d:(m6×Bool)) =>
   gd (True) <|
   UU b o (d.1.1,d.1.2.1.1,d.1.2.1.2,d.1.2.2.1,d.1.2.2.2,d.2)
  else
   UU b o (i,g,f,j,k,h)
 else
  G0C (i,g,f,j,k,h)
def Mr(h:C3)(a:I4)(f:p8)(b:Int):Int×Int×Int×Int×Int×Bool->Option (Bool×m6)
 | (j,g,d,k,c,e) =>
 gd ((Md a b).isSome/\True)<|lt (vl (Md a b)) fun i =>
 lp (G0B h a f i) (0,j,g,d,k,c,e)
def IU(e:I4)(d:p8)(g:List m6)(f:C3)(b:Int):Option (Bool×m6) :=
 gd ((Mc g b).isSome/\True)<|lt (vl (Mc g b)) fun a =>
 if a.2 then
  gd (True/\(Fv (b,(Int.ofNat 0,Int.ofNat 0),Int.ofNat 0,Int.ofNat 0) false (a.1.2.1,a.1.2.2,()).1 (a.1.2.1,a.1.2.2,()).2.1).isSome/\True)<|lt (vl (Fv (b,(Int.ofNat 0,Int.ofNat 0),Int.ofNat 0,Int.ofNat 0) false (a.1.2.1,a.1.2.2,()).1 (a.1.2.1,a.1.2.2,()).2.1)) fun(c:(m6×Bool)) =>
  gd (True) <|
  Mr f e d b (c.1.1,c.1.2.1.1,c.1.2.1.2,c.1.2.2.1,c.1.2.2.2,c.2)
 else
  Mr f e d b (b,0,0,0,0,false)
def k42:Ct:=k6 42 [.dat y104.pt,.agg r7,.dat y53.sl,.agg P0,.dat i64] (fun x=>IU x.1 x.2.1 x.2.2.1 x.2.2.2.1 x.2.2.2.2.1) (fun r:Bool×m6=>AV.tup [B r.1,AV.agg [I r.2.1,I r.2.2.1.1,I r.2.2.1.2,I r.2.2.2.1,I r.2.2.2.2]]) (fun _=>())
theorem o42:Ok prog k42:=by
 refine l5 [.tmp 10,.cell 11 53] func42 ?_;intro y ⟨n,o,_,l,V,_⟩ r H Q hn hr;have:=hz (tc o99 (tc o57 (tc o98 (tc o96 tn))));refine iA [0,2,4,6,8,11]<|iA [0,2,4,6,8,11,12]<|iA [0,2,4,6,8,11,12,13]<|jN r (fun((Y,v3,v4,v5,v6,X):Int×Int×Int×Int×Int×Bool)=>Z [p 0 (D y104.pt n),p 4 (J V),p 6 (R 6),p 8 (R 8),p 11 (R 11),p 12 (R 12),p 13 (R 13)] ((12,bx 53 [J Y,J v3,J v4,J v5,J v6])::(13,bx 4 [C X])::Ij l o)) (Mr l n o V) (fun w H=>?_) (fun _ n0 e0 t0=>?_)
 ·obtain⟨Y,v3,v4,v5,v6,X⟩:=w;refine jN r (fun((t,x,E,P,s,G):Int×Int×Int×Int×Int×Bool)=>Z [p 11 (R 11),p 12 (R 12),p 13 (R 13)] [(12,bx 53 [J t,J x,J E,J P,J s]),(13,bx 4 [C G]),(11,bx 53 [I 0,I 0,I 0,I 0,I 0])]) (G0C) (fun⟨t,x,E,P,s,G⟩ H=>?_) (fun _ n1 e1 t1=>?_)
  ·refine vQ<|iA [11,12,85]<|cD H (fun H=>iA [10,11]<|j5<|fR<|hr H) fun H=>vK<|fQ<|iA [10,11]<|j5<|hr H
  refine iD o98 [0,6,8,11,12,13,37,38,39] H fun i H=>vB<|lX (fun((a,d,b,f,e,c,j):Int×Int×Int×Int×Int×Int×Bool)=>Z (Oz n [p 37 (O 37),p 38 (I (i.length:Int)),p 39 (I a)]) ((37,A 2 i64 i 0)::(12,bx 53 [J d,J b,J f,J e,J c])::(13,bx 4 [C j])::Ij l o)) (0,Y,v3,v4,v5,v6,X) H fun _ g2 b2 e2 t2 ⟨a,d,b,f,e,c,j⟩ H=>iA [0,6,8,11,12,13,37,38,39,40]<|vQ<|cD H (fun H=>?_) (fun H=>?_)
  ·refine vK<|fQ<|jN r (fun((q,F,T,v,z,u):Int×Int×Int×Int×Int×Bool)=>Z (Oz n [p 37 (O 37),p 38 (I (i.length:Int)),p 39 (I a)]) ((12,bx 53 [J q,J F,J T,J v,J z])::(13,bx 4 [C u])::(37,A 2 i64 i 0)::Ij l o)) (UU a g2) (fun⟨q,F,T,v,z,u⟩ H=>?_) (fun _ n3 e3 t3=>?_)
   ·refine jB [0,6,8,11,12,13,37,38,39] H fun H=>b2 H
   refine vB<|iB [0,6,8,11,12,13,17,37,38,39] H fun H=>qD (fun m=>Z (Oz n [p 17 (I (i.getD a.toNat 0)),p 18 (J m.1),p 37 (O 37),p 38 (I (i.length:Int)),p 39 (I a)]) ((37,A 2 i64 i 0)::(12,bx 53 [J d,J b,J f,J e,J c])::(13,bx 4 [C j])::Ij l o)) H fun m H=>iB [0,6,8,11,12,13,17,18,37,38,39,58] H fun H=>cD H (fun H=>iD o57 [0,6,8,11,12,13,18,19,20,37,38,39] H fun k H=>zU M1 (HT.h) q97 [0,6,8,11,12,13,37,38,39] (fun(g:m6×Bool)=>Z (Oz n [p 37 (O 37),p 38 (I (i.length:Int)),p 39 (I a)]) ((12,K 53 y53 g.1)::(13,bx 4 [C g.2])::(20,bx 51 (r5 true y51 k.2))::(19,bx 51 (r5 true y51 k.1))::(37,A 2 i64 i 0)::Ij l o)) (fun(g:m6×Bool)=>True) (x1:=(d,(b,f),e,c)) (x2:=j) (xs:=(vl (Dr (l.2.1.getD m.1.toNat (a6 y51)) k.1),k.2,())) H (fun _=>by kernel_rfl) fun g H=>K3 H fun H=>fK<|n3 H) fun H=>vK<|fK<|n3 H
  exact vE<|fE<|e2<|fX rfl<|n1 H
 refine iD o96 [0,4,6,8,11,12,13,14,15] H fun v0 H=>iA [0,4,6,8,11,12,13,14,29]<|cD H (fun H=>zT M1 (HT.h) q97 4 [0,4,6,8,11,12,13] (fun(W:m6×Bool)=>Z [p 0 (D y104.pt n),p 4 (J V),p 6 (R 6),p 8 (R 8),p 11 (R 11),p 12 (R 12),p 13 (R 13)] ((12,K 53 y53 W.1)::(13,bx 4 [C W.2])::(14,bx 53 (r5 true y53 v0.1))::Ij l o)) (fun(W:m6×Bool)=>True) (x1:=(V,(Int.ofNat 0,Int.ofNat 0),Int.ofNat 0,Int.ofNat 0)) (x2:=false) (xs:=(v0.1.2.1,v0.1.2.2,())) H (fun _=>by kernel_rfl) fun W H=>K3 H fun H=>n0 H) fun H=>vK<|n0 H
def G0X:List r8×List r8×List Bool->Option (C3×Bool)
 | (b,c,a) =>
 some (((a,c,b),true))
def G0W(b:List Int)(h:I4)(g:p8)(i:List m6)(j:Int×List r8×List r8×List Bool->Option (C3×Bool)):Int×List r8×List r8×List Bool->Option (C3×Bool)
 | (a,d,e,f) =>
 if(decide (a < (b.length:Int))) then
  gd (ix a b.length/\True) <|
  gd ((IU h g i (f,e,d) (b.getD a.toNat 0)).isSome/\True)<|lt (vl (IU h g i (f,e,d) (b.getD a.toNat 0))) fun c =>
  gd ((c.1=true/\True->(M8 c.2.2.1).isSome)/\True) <|
  if(c.1&&!vl (M8 c.2.2.1)) then
   some ((([],[],[]),false))
  else
   gd (ix (b.getD a.toNat 0) f.length/\Int.toNat (b.getD a.toNat 0)<f.length/\ix (b.getD a.toNat 0) e.length/\Int.toNat (b.getD a.toNat 0)<e.length/\ix (b.getD a.toNat 0) d.length/\Int.toNat (b.getD a.toNat 0)<d.length/\True) <|
   gd (j0 (a+1)/\True) <|
   j ((a+1,d.set (Int.toNat (b.getD a.toNat 0)) c.2.2.2,e.set (Int.toNat (b.getD a.toNat 0)) c.2.2.1,f.set (Int.toNat (b.getD a.toNat 0)) c.1))
 else
  G0X (d,e,f)
def GW(b:I4)(c:p8)(e:List m6)(d:List Int):Option (C3×Bool) :=
 gd ((Mb b.1).isSome/\True)<|lt (vl (Mb b.1)) fun a =>
 lp (G0W d b c e) (0,a.2.2,a.2.1,a.1)
def k30:Ct:=k6 30 [.dat y104.pt,.agg r7,.dat y53.sl,.dat i64.sl] (fun x=>GW x.1 x.2.1 x.2.2.1 x.2.2.2.1) (fun r:C3×Bool=>AV.tup [AV.agg [AV.ow 4 true Ty.bool r.1.1,AV.ow 51 true y51 r.1.2.1,AV.ow 51 true y51 r.1.2.2],B r.2]) (fun _=>())
theorem o30:Ok prog k30:=by
 refine l5 [.cell 8 44,.tmp 9] func30 ?_;intro y ⟨m,q,k,f,_⟩ r H Q hn hr;have:=hz (tc Pe (tc o42 (tc o69 tn)));refine iA [0,2,3,5,8]<|iD o69 [0,2,3,5,8,10] H fun d H=>jN r (fun((b,a,c):List r8×List r8×List Bool)=>Z [p 8 (R 8),p 10 (R 10)] [(10,bx 44 [AV.os 19 0,AV.os 1019 0,AV.os 2019 0]),(2019,A 51 y51 b 0),(1019,A 51 y51 a 0),(19,A 4 Ty.bool c 0),(8,bx 44 [nil,nil,nil])]) (G0X) (fun⟨b,a,c⟩ H=>?_) (fun _ n t j=>?_)
 ·refine iA [8,9]<|j5<|hr H
 refine iA [0,2,5,8,10,20,21,22]<|vB<|lX (fun((i,g,e,h):Int×List r8×List r8×List Bool)=>Z [p 0 (D y104.pt m),p 2 (L y53 k),p 5 (R 5),p 8 (R 8),p 10 (R 10),p 20 (L i64 f),p 21 (I (f.length:Int)),p 22 (I i)] [(10,bx 44 [AV.os 19 0,AV.os 1019 0,AV.os 2019 0]),(2019,A 51 y51 g 0),(1019,A 51 y51 e 0),(19,A 4 Ty.bool h 0),(8,bx 44 [nil,nil,nil]),(5,K 36 r7 q)]) (0,d.2.2,d.2.1,d.1) H fun _ u s l o ⟨i,g,e,h⟩ H=>iA [0,2,5,8,10,20,21,22,23]<|vQ<|cD H (fun H=>?_) (fun H=>?_)
 ·refine vK<|fQ<|vQ<|vB<|iB [0,2,5,8,10,12,20,21,22] H fun H=>iD o42 [0,2,5,8,10,12,13,14,20,21,22] H fun _ H=>vQ<|iB [0,2,5,8,10,12,13,14,20,21,22,41] H fun H=>cD H (fun H=>iA [8,9]<|j5<|fR<|m4<|fR<|o<|m4<|j<|hr H) fun H=>vK<|fQ<|jB [0,2,5,8,10,20,21,22] H fun H=>fK<|fQ<|jB [0,2,5,8,10,20,21,22] H fun H=>s H
 exact vE<|fE<|l<|fX rfl<|n H
end Go.Proofs.YtdjgagoledoaaaaGreatDoor
end
