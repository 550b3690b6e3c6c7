/- Functions of this program as plain functions of data, and that they are so: printed by program. -/
import Derived.Test.YtdjgagoledoaaaaGreatDoorF85a
section
namespace Go.Proofs.YtdjgagoledoaaaaGreatDoor
open Go Go.Proofs Go.Proofs.Sv Go.Proofs.Xv Go.Proofs.Xl Go.RowKit
open Tryz
def IA(a:s8):Option Bool :=
 gd ((Bb a.1).isSome/\(vl (Bb a.1)=true/\True->(Bb a.2.1).isSome)/\((vl (Bb a.1)&&vl (Bb a.2.1))=true/\True->c9 ((a.1.length:Int)*(a.2.1.length:Int)))/\((vl (Bb a.1)&&vl (Bb a.2.1)&&(a.2.2.length:Int)==(a.1.length:Int)*(a.2.1.length:Int))=true/\True->(I3 a.2.2 (-1000000) 1000000).isSome)/\True) <|
 some (vl (Bb a.1)&&vl (Bb a.2.1)&&(a.2.2.length:Int)==(a.1.length:Int)*(a.2.1.length:Int)&&vl (I3 a.2.2 (-1000000) 1000000))
def P0r:Ct:=j9 248 [.agg y70] (fun x=>IA x.1) (fun r:Bool=>B r) (fun _=>())
theorem O0h:Ok prog P0r:=by
 refine k8 [.tmp 2] func248 ?_;intro y ⟨_,_⟩ r H Q hn hr;have:=hz (tc Lk (tc O0g tn));refine iA [1]<|iB [2] H fun H=>j0<|hr H
def Lr(a:s8)(b:Bool):Option Bool :=
 gd ((IA a).isSome/\(b=true/\(!vl (IA a))=false/\True->(Iz a.2.2).isSome)/\True)<|lt (vl (Iz a.2.2)) fun c =>
 some (!vl (IA a)||b&&decide (c<0))
def P0s:Ct:=j9 247 [.agg y70,.dat (.pt Ty.bool)] (fun x=>Lr x.1 x.2.1) (fun r:Bool=>B r) (fun _=>())
theorem Uh:Ok prog P0s:=by
 refine k8 [.tmp 3] func247 ?_;intro y ⟨_,_,_⟩ r H Q hn hr;have:=hz (tc M0o (tc O0h tn));refine iA [1,2]<|iD M0o [3] H fun _ H=>j0<|hr H
def j0z:Unit->Option Int
 | _ =>
 some (-1)
def r0E(b:List s8)(c:Bool)(d:Int->Option Int):Int->Option Int
 | a =>
 if(decide (a < (b.length:Int))) then
  gd (ix a b.length/\(Lr (b.getD a.toNat (b7 y70)) c).isSome/\True) <|
  if(vl (Lr (b.getD a.toNat (b7 y70)) c)) then
   some a
  else
   gd (c9 (a+1)/\True) <|
   d (a+1)
 else
  j0z ()
def Pq(a:List s8)(b:Bool):Option Int :=
 lp (r0E a b) 0
def y0W:Ct:=j9 252 [.dat y70.sl,.fn 247 Ty.bool.pt] (fun x=>Pq x.1 x.2.1) (fun r:Int=>I r) (fun _=>())
theorem q0m:Ok prog y0W:=by
 refine k8 [.tmp 4] func252 ?_;intro y ⟨a,e,_⟩ r H Q hn hr;have:=hz (tc Uh tn);refine iA [0,1]<|jN r (fun(_:Unit)=>Z [] []) (j0z) (fun _ H=>?_) (fun _ h j c=>?_)
 ·refine iA [4]<|j0<|hr H
 refine iA [0,1,7,8]<|vB<|lX (fun(b:Int)=>Z [p 0 (L y70 a),p 1 (AV.fn 247 [D Ty.bool.pt e]),p 7 (I (a.length:Int)),p 8 (I b)] []) 0 H fun _ i f d g b H=>iA [0,1,7,8,9]<|vQ<|cD H (fun H=>?_) (fun H=>?_)
 ·refine vK<|fQ<|vQ<|vB<|iA [0,1,5,7,8]<|iB [0,1,5,7,8,16] H fun H=>cD H (fun H=>iA [4]<|j0<|l8<|fR<|g<|l8<|c<|hr H) fun H=>vK<|fK<|fQ<|jB [0,1,7,8] H fun H=>f H
 exact vE<|fE<|d<|fX rfl<|h H
def Pr(a:List s8)(b:Bool):Option Bool :=
 gd ((Pq a b).isSome/\True)<|lt (vl (Pq a b)) fun c =>
 some (decide (0<=c))
def y0Y:Ct:=j9 246 [.dat y70.sl,.fn 247 (.pt Ty.bool)] (fun x=>Pr x.1 x.2.1) (fun r:Bool=>B r) (fun _=>())
theorem y0B:Ok prog y0Y:=by
 refine k8 [.tmp 4] func246 ?_;intro y ⟨_,_,_⟩ r H Q hn hr;have:=hz (tc q0m (tc Uh tn));refine iA [0,1]<|iD q0m [4] H fun _ H=>j0<|hr H
def V6(a:List s8)(b:Bool):Option Bool :=
 gd ((((a.length:Int)==2)=true/\True->(Pr a b).isSome)/\True) <|
 some ((a.length:Int)==2&&!vl (Pr a b))
def P0z:Ct:=j9 235 [.dat y70.sl,.dat Ty.bool] (fun x=>V6 x.1 x.2.1) (fun r:Bool=>B r) (fun _=>())
theorem O0k:Ok prog P0z:=by
 refine k8 [.tmp 4] func235 ?_;intro y ⟨_,_,_⟩ r H Q hn hr;have:=hz (tc y0B (tc Uh tn));refine iA [0,3]<|iB [4] H fun H=>j0<|hr H
def Ui(a:I2):Option Bool :=
 some a.2.2.2
def P0p:Ct:=j9 251 [.agg y233] (fun x=>Ui x.1) (fun r:Bool=>B r) (fun _=>())
theorem M0n:Ok prog P0p:=by
 refine k8 [.tmp 2] func251 ?_;intro y ⟨_,_⟩ r H Q hn hr;refine iA [1]<|iA [2]<|j0<|hr H
def j0A:Unit->Option Int
 | _ =>
 some (-1)
def r0F(b:List I2)(c:Int->Option Int):Int->Option Int
 | a =>
 if(decide (a < (b.length:Int))) then
  gd (ix a b.length/\(Ui (b.getD a.toNat (b7 y233))).isSome/\True) <|
  if(vl (Ui (b.getD a.toNat (b7 y233)))) then
   some a
  else
   gd (c9 (a+1)/\True) <|
   c (a+1)
 else
  j0A ()
def Ps(a:List I2):Option Int :=
 lp (r0F a) 0
def y0X:Ct:=j9 250 [.dat y233.sl,.nof 251] (fun x=>Ps x.1) (fun r:Int=>I r) (fun _=>())
theorem q0n:Ok prog y0X:=by
 refine k8 [.tmp 4] func250 ?_;intro y ⟨a,_,_⟩ r H Q hn hr;have:=hz (tc M0n tn);refine iA [0,1]<|jN r (fun(_:Unit)=>Z [] []) (j0A) (fun _ H=>?_) (fun _ g i c=>?_)
 ·refine iA [4]<|j0<|hr H
 refine iA [0,1,7,8]<|vB<|lX (fun(b:Int)=>Z [p 0 (L y233 a),p 1 (AV.fn 251 []),p 7 (I (a.length:Int)),p 8 (I b)] []) 0 H fun _ h e d f b H=>iA [0,1,7,8,9]<|vQ<|cD H (fun H=>?_) (fun H=>?_)
 ·refine vK<|fQ<|vQ<|vB<|iA [0,1,5,7,8]<|iB [0,1,5,7,8,16] H fun H=>cD H (fun H=>iA [4]<|j0<|l8<|fR<|f<|l8<|c<|hr H) fun H=>vK<|fK<|fQ<|jB [0,1,7,8] H fun H=>e H
 exact vE<|fE<|d<|fX rfl<|g H
def IB(a:m4):Option Int :=
 gd ((Ps a.2.2.1).isSome/\True)<|lt (vl (Ps a.2.2.1)) fun b =>
 some b
def P0y:Ct:=j9 236 [.agg y64] (fun x=>IB x.1) (fun r:Int=>I r) (fun _=>())
theorem M0q:Ok prog P0y:=by
 refine k8 [.tmp 2] func236 ?_;intro y ⟨_,_⟩ r H Q hn hr;have:=hz (tc M0n (tc q0n tn));refine iA [1]<|iD q0n [2] H fun _ H=>j0<|hr H
def Pt(a:Int):Option Bool :=
 some (a==4||a==5)
def P0A:Ct:=j9 234 [.dat i64] (fun x=>Pt x.1) (fun r:Bool=>B r) (fun _=>())
theorem O0l:Ok prog P0A:=by
 refine k8 [.tmp 2] func234 ?_;intro y ⟨_,_⟩ r H Q hn hr;refine iA [0]<|iA [2]<|j0<|hr H
def Ls(b:m4)(a:z7):Bool->Option Bool
 | c =>
 if c then
  gd (ix a.2.1 b.2.2.1.length/\True) <|
  some ((b.2.2.1.getD a.2.1.toNat (b7 y233)).2.2.2&&a.2.2.2.1==0)
 else
  some false
def GH(b:m4)(a:z7):Option Bool :=
 gd ((Pt a.1).isSome/\True) <|
 if(vl (Pt a.1)) then
  gd (((a.2.2.2.1==0&&(a.2.2.2.2.2.length:Int)==0)=true/\True->(V6 a.2.2.2.2.1 false).isSome)/\((a.2.2.2.1==0&&(a.2.2.2.2.2.length:Int)==0&&vl (V6 a.2.2.2.2.1 false))=true/\True->(IB b).isSome)/\((a.2.2.2.1==0&&(a.2.2.2.2.2.length:Int)==0&&vl (V6 a.2.2.2.2.1 false)&&a.2.1==vl (IB b)&&decide (0<=a.2.1))=true/\True->(GG b a.2.2.1).isSome)/\True)<|lt (vl (IB b)) fun c =>
  some (a.2.2.2.1==0&&(a.2.2.2.2.2.length:Int)==0&&vl (V6 a.2.2.2.2.1 false)&&a.2.1==c&&decide (0<=a.2.1)&&vl (GG b a.2.2.1)&&a.2.2.1 != a.2.1)
 else
  gd ((V6 a.2.2.2.2.1 true).isSome/\((!vl (V6 a.2.2.2.2.1 true))=false/\True->(V6 a.2.2.2.2.2 true).isSome)/\((!vl (V6 a.2.2.2.2.1 true)||!vl (V6 a.2.2.2.2.2 true))=false/\True->(V5 b).isSome)/\((!vl (V6 a.2.2.2.2.1 true)||!vl (V6 a.2.2.2.2.2 true)||a.2.2.1 != vl (V5 b))=false/\True->(GG b a.2.1).isSome)/\True)<|lt (vl (V5 b)) fun d =>
  if(!vl (V6 a.2.2.2.2.1 true)||!vl (V6 a.2.2.2.2.2 true)||a.2.2.1 != d||!vl (GG b a.2.1)) then
   some false
  else
   if(a.1==1) then
    gd (ix a.2.1 b.2.2.1.length/\((!(b.2.2.1.getD a.2.1.toNat (b7 y233)).2.2.2)=true/\True->(A8 a.2.2.2.1 1 3).isSome)/\True) <|
    some (!(b.2.2.1.getD a.2.1.toNat (b7 y233)).2.2.2&&vl (A8 a.2.2.2.1 1 3))
   else
    if(a.1==2) then
     Ls b a (a.1==2)
    else
     Ls b a (a.1==3)
def P0K:Ct:=j9 220 [.agg y64,.agg y67] (fun x=>GH x.1 x.2.1) (fun r:Bool=>B r) (fun _=>())
theorem O0s:Ok prog P0K:=by
 refine k8 [.tmp 4] func220 ?_;intro y ⟨b,c,_⟩ r H Q hn hr;have:=hz (tc Ac (tc O0j (tc Lq (tc O0k (tc M0q (tc O0l tn))))));refine iA [2,3]<|vQ<|iB [2,3,7] H fun H=>cD H (fun H=>iD M0q [4] H fun _ H=>j0<|fR<|hr H) fun H=>vK<|fQ<|vQ<|iD Lq [2,3,70] H fun _ H=>cD H (fun H=>iA [4]<|j0<|fR<|hr H) fun H=>vK<|fQ<|vQ<|iA [2,3,72]<|vB<|iA [2,3,72,73]<|cD H (fun H=>iB [4] H fun H=>j0<|l8<|fR<|hr H) fun H=>jN r (fun(a:Bool)=>Z (G7 [p 88 (B a)]) [(3,K 67 y67 c),(2,K 64 y64 b)]) (Ls b c) (fun a H=>?_) (fun _ d f e=>?_)
 ·refine cD H (fun H=>iB [4] H fun H=>j0<|l8<|fR<|hr H) fun H=>vK<|fK<|fQ<|iA [4]<|j0<|hr H
 refine iA [2,3,72,88]<|cD H (fun H=>vK<|d H) fun H=>jA [2,3,88]<|d H
def Uj(a:z7)(b:z7):Option Bool :=
 some (a.1==b.1&&a.2.1==b.2.1&&a.2.2.1==b.2.2.1)
def P0J:Ct:=j9 222 [.agg y67,.dat (.pt y67)] (fun x=>Uj x.1 x.2.1) (fun r:Bool=>B r) (fun _=>())
theorem Uk:Ok prog P0J:=by
 refine k8 [.tmp 3] func222 ?_;intro y ⟨_,_,_⟩ r H Q hn hr;refine iA [1,2]<|iA [3]<|j0<|hr H
def j0C:Unit->Option Int
 | _ =>
 some (-1)
def r0H(b:List z7)(c:z7)(d:Int->Option Int):Int->Option Int
 | a =>
 if(decide (a < (b.length:Int))) then
  gd (ix a b.length/\(Uj (b.getD a.toNat (b7 y67)) c).isSome/\True) <|
  if(vl (Uj (b.getD a.toNat (b7 y67)) c)) then
   some a
  else
   gd (c9 (a+1)/\True) <|
   d (a+1)
 else
  j0C ()
def Pu(a:List z7)(b:z7):Option Int :=
 lp (r0H a b) 0
def z0a:Ct:=j9 238 [.dat y67.sl,.fn 222 y67.pt] (fun x=>Pu x.1 x.2.1) (fun r:Int=>I r) (fun _=>())
theorem q0o:Ok prog z0a:=by
 refine k8 [.tmp 4] func238 ?_;intro y ⟨a,e,_⟩ r H Q hn hr;have:=hz (tc Uk tn);refine iA [0,1]<|jN r (fun(_:Unit)=>Z [] []) (j0C) (fun _ H=>?_) (fun _ h j c=>?_)
 ·refine iA [4]<|j0<|hr H
 refine iA [0,1,7,8]<|vB<|lX (fun(b:Int)=>Z [p 0 (L y67 a),p 1 (AV.fn 222 [D y67.pt e]),p 7 (I (a.length:Int)),p 8 (I b)] []) 0 H fun _ i f d g b H=>iA [0,1,7,8,9]<|vQ<|cD H (fun H=>?_) (fun H=>?_)
 ·refine vK<|fQ<|vQ<|vB<|iA [0,1,5,7,8]<|iB [0,1,5,7,8,16] H fun H=>cD H (fun H=>iA [4]<|j0<|l8<|fR<|g<|l8<|c<|hr H) fun H=>vK<|fK<|fQ<|jB [0,1,7,8] H fun H=>f H
 exact vE<|fE<|d<|fX rfl<|h H
def Lt(a:List z7)(b:z7):Option Bool :=
 gd ((Pu a b).isSome/\True)<|lt (vl (Pu a b)) fun c =>
 some (decide (0<=c))
def z0c:Ct:=j9 221 [.dat y67.sl,.fn 222 (.pt y67)] (fun x=>Lt x.1 x.2.1) (fun r:Bool=>B r) (fun _=>())
theorem y0C:Ok prog z0c:=by
 refine k8 [.tmp 4] func221 ?_;intro y ⟨_,_,_⟩ r H Q hn hr;have:=hz (tc Ud (tc q0o (tc Uk tn)));refine iA [0,1]<|iD q0o [4] H fun _ H=>j0<|hr H
def Pv(a:m4):Unit->Option Bool
 | _ =>
 some (decide ((a.2.2.2.1.length:Int)<=8))
def A0s(a:m4)(d:Int->Option Bool):Int->Option Bool
 | b =>
 if(decide (b < (a.2.2.2.1.length:Int))) then
  gd (ix b a.2.2.2.1.length/\True)<|lt (a.2.2.2.1.getD b.toNat (b7 y67)) fun c =>
  gd ((GH a c).isSome/\((!vl (GH a c))=false/\True->(0:Int)<=(0:Int)/\(0:Int)<=b/\b<=(a.2.2.2.1.length:Int))/\((!vl (GH a c))=false/\True->(Lt (List.take b.toNat a.2.2.2.1) c).isSome)/\True) <|
  if(!vl (GH a c)||vl (Lt (List.take b.toNat a.2.2.2.1) c)) then
   some false
  else
   gd (c9 (b+1)/\True) <|
   d (b+1)
 else
  Pv a ()
def GI(a:m4):Option Bool :=
 lp (A0s a) 0
def P0X:Ct:=j9 202 [.agg y64] (fun x=>GI x.1) (fun r:Bool=>B r) (fun _=>())
theorem O0x:Ok prog P0X:=by
 refine k8 [.tmp 2] func202 ?_;intro y ⟨a,_⟩ r H Q hn hr;have:=hz (tc q0p (tc y0C (tc Uk (tc O0s tn))));refine iA [1]<|jN r (fun(_:Unit)=>Z [p 1 (R 1)] [(1,K 64 y64 a)]) (Pv a) (fun _ H=>?_) (fun _ h j d=>?_)
 ·refine iA [2]<|j0<|hr H
 refine iA [1,6,7,8]<|vB<|lX (fun(b:Int)=>Z [p 1 (R 1),p 6 (L y67 a.2.2.2.1),p 7 (I (a.2.2.2.1.length:Int)),p 8 (I b)] [(1,K 64 y64 a)]) 0 H fun _ i f e g b H=>iA [1,6,7,8,9]<|vQ<|cD H (fun H=>?_) (fun H=>?_)
 ·refine vK<|fQ<|vQ<|vB<|qD (fun c=>Z (Q7 b [p 4 (R 4),p 6 (L y67 a.2.2.2.1),p 7 (I (a.2.2.2.1.length:Int)),p 8 (I b)]) [(4,K 67 y67 c),(1,K 64 y64 a)]) H fun c H=>iB [1,6,7,8,24] H fun H=>cD H (fun H=>iA [2]<|j0<|l8<|fR<|g<|l8<|d<|hr H) fun H=>vK<|fK<|fQ<|jB [1,6,7,8] H fun H=>f H
 exact vE<|fE<|e<|fX rfl<|h H
def Lu(a:List I2):List ByteArray->Option Bool
 | b =>
 gd ((Cs a).isSome/\(A8 (vl (Cs a)) 2 5).isSome/\(vl (A8 (vl (Cs a)) 2 5)=true/\True->(Y2 b).isSome)/\True) <|
 some (vl (A8 (vl (Cs a)) 2 5)&&vl (Y2 b))
def Pw(a:Int)(b:List ByteArray×Int->Option Bool):List ByteArray->Option Bool
 | c =>
 gd (c9 (a+1)/\True) <|
 b (c,a+1)
def A0t(b:List I2)(e:List ByteArray×Int->Option Bool):List ByteArray×Int->Option Bool
 | (d,c) =>
 if(decide (c < (b.length:Int))) then
  gd (ix c b.length/\True)<|lt (b.getD c.toNat (b7 y233)) fun a =>
  gd ((d.length+[a.1].length<=9223372036854775807/\(d.length+[a.1].length)*16<=140737488355328)/\True) <|
  gd (c9 ((b.length:Int)-1)/\True) <|
  if(c==(b.length:Int)-1) then
   if(a.2.1 != 2||a.2.2.1 != 0||a.2.2.2) then
    some false
   else
    Pw c e (d++[a.1])
  else
   gd (((a.2.1 != 1)=false/\True->(A8 a.2.2.1 0 500).isSome)/\True) <|
   if(a.2.1 != 1||!vl (A8 a.2.2.1 0 500)) then
    some false
   else
    Pw c e (d++[a.1])
 else
  Lu b d
def Fm(a:List I2):Option Bool :=
 lp (A0t a) ([],0)
def P0Y:Ct:=j9 201 [.dat y233.sl] (fun x=>Fm x.1) (fun r:Bool=>B r) (fun _=>())
theorem O0y:Ok prog P0Y:=by
 refine k8 [.tmp 2] func201 ?_;intro y ⟨a,_⟩ r H Q hn hr;have:=hz (tc Ua (tc Ac (tc Ue tn)));refine iA [0]<|iA [0,3]<|jN r (fun(e:List ByteArray)=>Z [p 0 (L y233 a),p 3 (O 17)] [(17,A 9 Ty.str e 0)]) (Lu a) (fun e H=>?_) (fun _ n o d=>?_)
 ·refine iB [2] H fun H=>j0<|hr H
 refine iA [0,3,6,7,8]<|vB<|lX (fun((c,b):List ByteArray×Int)=>Z [p 0 (L y233 a),p 3 (O 17),p 6 (L y233 a),p 7 (I (a.length:Int)),p 8 (I b)] [(17,A 9 Ty.str c 0)]) ([],0) H fun _ k m l h ⟨c,b⟩ H=>iA [0,3,6,7,8,9]<|vQ<|cD H (fun H=>?_) (fun H=>?_)
 ·refine vK<|fQ<|jN r (fun(f:List ByteArray)=>Z [p 0 (L y233 a),p 3 (O 17),p 6 (L y233 a),p 7 (I (a.length:Int)),p 8 (I b)] [(17,A 9 Ty.str f 0)]) (Pw b k) (fun f H=>?_) (fun _ g q i=>?_)
  ·refine jB [0,3,6,7,8] H fun H=>m H
  refine vB<|qD (fun j=>Z [p 0 (L y233 a),p 3 (O 17),p 4 (I b),p 5 (R 5),p 6 (L y233 a),p 7 (I (a.length:Int)),p 8 (I b)] [(5,K 233 y233 j),(17,A 9 Ty.str c 0)]) H fun j H=>iB [0,3,4,5,6,7,8] H fun H=>iB [0,3,5,6,7,8,22] H fun H=>cD H (fun H=>?_) (fun H=>?_)
  ·refine iA [0,3,6,7,8,34]<|cD H (fun H=>iA [2]<|j0<|l8<|i<|h<|l8<|d<|hr H) fun H=>vK<|fK<|g H
  refine iB [0,3,6,7,8,43] H fun H=>cD H (fun H=>iA [2]<|j0<|l8<|i<|h<|l8<|d<|hr H) fun H=>vK<|fK<|g H
 exact vE<|fE<|l<|fX rfl<|n H
def Lv(a:m4):Option Bool :=
 gd ((Q9 a.1).isSome/\(vl (Q9 a.1)=true/\True->(Fm a.2.2.1).isSome)/\((vl (Q9 a.1)&&vl (Fm a.2.2.1))=true/\True->(GI a).isSome)/\((vl (Q9 a.1)&&vl (Fm a.2.2.1)&&vl (GI a))=true/\True->(A8 a.2.2.2.2.2.1 0 100000).isSome)/\((vl (Q9 a.1)&&vl (Fm a.2.2.1)&&vl (GI a)&&vl (A8 a.2.2.2.2.2.1 0 100000))=true/\True->(A8 a.2.2.2.2.2.2 0 100000).isSome)/\((vl (Q9 a.1)&&vl (Fm a.2.2.1)&&vl (GI a)&&vl (A8 a.2.2.2.2.2.1 0 100000)&&vl (A8 a.2.2.2.2.2.2 0 100000))=true/\True->(Pp a).isSome)/\True) <|
 some (vl (Q9 a.1)&&vl (Fm a.2.2.1)&&vl (GI a)&&vl (A8 a.2.2.2.2.2.1 0 100000)&&vl (A8 a.2.2.2.2.2.2 0 100000)&&vl (Pp a))
def Q0p:Ct:=j9 174 [.agg y64] (fun x=>Lv x.1) (fun r:Bool=>B r) (fun _=>())
theorem O0E:Ok prog Q0p:=by
 refine k8 [.tmp 2] func174 ?_;intro y ⟨_,_⟩ r H Q hn hr;have:=hz (tc O0w (tc Ac (tc O0x (tc O0y (tc TZ tn)))));refine iA [1]<|iB [2] H fun H=>j0<|hr H
def Lw(a:List m4):List ByteArray->Option Bool
 | b =>
 gd ((decide ((a.length:Int)<=8)=true/\True->(Y2 b).isSome)/\True) <|
 some (decide ((a.length:Int)<=8)&&vl (Y2 b))
def B0f(c:List m4)(e:List ByteArray×Int->Option Bool):List ByteArray×Int->Option Bool
 | (d,a) =>
 if(decide (a < (c.length:Int))) then
  gd (ix a c.length/\True)<|lt (c.getD a.toNat (b7 y64)) fun b =>
  gd ((Lv b).isSome/\True) <|
  if(!vl (Lv b)) then
   some false
  else
   gd ((d.length+[b.1].length<=9223372036854775807/\(d.length+[b.1].length)*16<=140737488355328)/\True) <|
   gd (c9 (a+1)/\True) <|
   e (d++[b.1],a+1)
 else
  Lw c d
def Lx(a:List m4):Option Bool :=
 lp (B0f a) ([],0)
def Q0Y:Ct:=j9 133 [.agg y64.sl] (fun x=>Lx x.1) (fun r:Bool=>B r) (fun _=>())
theorem O0U:Ok prog Q0Y:=by
 refine k8 [.tmp 2] func133 ?_;intro y ⟨a,_⟩ r H Q hn hr;have:=hz (tc Ua (tc O0E tn));refine iA [1]<|iA [1,3]<|jN r (fun(e:List ByteArray)=>Z (Dc []) [(1,bx 26 [L y64 a]),(20,A 9 Ty.str e 0)]) (Lw a) (fun e H=>?_) (fun _ j l f=>?_)
 ·refine iB [2] H fun H=>j0<|hr H
 refine iA [1,3,7,8,9]<|vB<|lX (fun((c,b):List ByteArray×Int)=>Z (Dc [p 7 (L y64 a),p 8 (I (a.length:Int)),p 9 (I b)]) [(1,bx 26 [L y64 a]),(20,A 9 Ty.str c 0)]) ([],0) H fun _ k h g i ⟨c,b⟩ H=>iA [1,3,7,8,9,10]<|vQ<|cD H (fun H=>?_) (fun H=>?_)
 ·refine vK<|fQ<|vQ<|vB<|qD (fun d=>Z (Dc [p 5 (R 5),p 7 (L y64 a),p 8 (I (a.length:Int)),p 9 (I b)]) [(5,K 64 y64 d),(1,bx 26 [L y64 a]),(20,A 9 Ty.str c 0)]) H fun d H=>vQ<|iB [1,3,5,7,8,9,15] H fun H=>cD H (fun H=>iA [2]<|j0<|fR<|l8<|fR<|i<|l8<|f<|hr H) fun H=>vK<|fQ<|jB [1,3,7,8,9] H fun H=>fK<|fQ<|jB [1,3,7,8,9] H fun H=>h H
 exact vE<|fE<|g<|fX rfl<|j H
def j0L:Unit->Option Int
 | _ =>
 some (-1)
def r0L(b:List Int)(c:Int->Option Int):Int->Option Int
 | a =>
 if(decide (a < (b.length:Int))) then
  gd (ix a b.length/\(TW (b.getD a.toNat 0)).isSome/\True) <|
  if(vl (TW (b.getD a.toNat 0))) then
   some a
  else
   gd (c9 (a+1)/\True) <|
   c (a+1)
 else
  j0L ()
def Px(a:List Int):Option Int :=
 lp (r0L a) 0
def z0f:Ct:=j9 179 [.dat i64.sl,.nof 138] (fun x=>Px x.1) (fun r:Int=>I r) (fun _=>())
theorem q0r:Ok prog z0f:=by
 refine k8 [.tmp 4] func179 ?_;intro y ⟨a,_,_⟩ r H Q hn hr;have:=hz (tc TX tn);refine iA [0,1]<|jN r (fun(_:Unit)=>Z [] []) (j0L) (fun _ H=>?_) (fun _ g i c=>?_)
 ·refine iA [4]<|j0<|hr H
 refine iA [0,1,7,8]<|vB<|lX (fun(b:Int)=>Z [p 0 (L i64 a),p 1 (AV.fn 138 []),p 7 (I (a.length:Int)),p 8 (I b)] []) 0 H fun _ h e d f b H=>iA [0,1,7,8,9]<|vQ<|cD H (fun H=>?_) (fun H=>?_)
 ·refine vK<|fQ<|vQ<|vB<|iA [0,1,5,7,8]<|iB [0,1,5,7,8,16] H fun H=>cD H (fun H=>iA [4]<|j0<|l8<|fR<|f<|l8<|c<|hr H) fun H=>vK<|fK<|fQ<|jB [0,1,7,8] H fun H=>e H
 exact vE<|fE<|d<|fX rfl<|g H
def Py(a:List Int):Option Bool :=
 gd ((Px a).isSome/\True)<|lt (vl (Px a)) fun b =>
 some (decide (0<=b))
def z0j:Ct:=j9 137 [.dat i64.sl,.nof 138] (fun x=>Py x.1) (fun r:Bool=>B r) (fun _=>())
theorem y0E:Ok prog z0j:=by
 refine k8 [.tmp 4] func137 ?_;intro y ⟨_,_,_⟩ r H Q hn hr;have:=hz (tc q0r (tc TX tn));refine iA [0,1]<|iD q0r [4] H fun _ H=>j0<|hr H
def Ly:List Int->Option Bool
 | a =>
 gd ((Py a).isSome/\True) <|
 some (!vl (Py a))
def Pz(b:Int)(c:Int×List Int->Option Bool):List Int->Option Bool
 | a =>
 gd (c9 (b+1)/\True) <|
 c (b+1,a)
def F0Q(d:r6)(e:Int×List Int->Option Bool):Int×List Int->Option Bool
 | (c,b) =>
 if(decide (c < (d.2.2.length:Int))) then
  gd (ix c d.2.2.length/\True)<|lt (d.2.2.getD c.toNat (b7 y202)) fun a =>
  gd (((a.2.1 != 1&&a.2.1 != 2)=false/\True->(GF d a.2.2).isSome)/\True) <|
  if(a.2.1 != 1&&a.2.1 != 2||!vl (GF d a.2.2)) then
   some false
  else
   if(a.2.1==1) then
    gd (ix a.2.2 b.length/\a.2.2.toNat<b.length/\c9 (b.getD a.2.2.toNat 0+1)/\ix a.2.2 b.length/\a.2.2.toNat<b.length/\True) <|
    Pz c e (b.set a.2.2.toNat (b.getD a.2.2.toNat 0+1))
   else
    Pz c e b
 else
  Ly b
def PA(a:r6):List Int->Option Bool
 | b =>
 lp (F0Q a) (0,b)
def F0R(c:r6)(e:List m4)(f:Int×List Int->Option Bool):Int×List Int->Option Bool
 | (d,b) =>
 if(decide (d < (c.1.length:Int))) then
  gd (ix d c.1.length/\True)<|lt (c.1.getD d.toNat (b7 y139)) fun a =>
  gd ((Ln c e a).isSome/\True) <|
  if(!vl (Ln c e a)) then
   some false
  else
   gd (c9 ((a.2.2.length:Int)-1)/\ix ((a.2.2.length:Int)-1) a.2.2.length/\ix (a.2.2.getD ((a.2.2.length:Int)-1).toNat 0) b.length/\Int.toNat (a.2.2.getD ((a.2.2.length:Int)-1).toNat 0)<b.length/\c9 (b.getD (Int.toNat (a.2.2.getD ((a.2.2.length:Int)-1).toNat 0)) 0+1)/\ix (a.2.2.getD ((a.2.2.length:Int)-1).toNat 0) b.length/\Int.toNat (a.2.2.getD ((a.2.2.length:Int)-1).toNat 0)<b.length/\True)<|lt (b.set (Int.toNat (a.2.2.getD ((a.2.2.length:Int)-1).toNat 0)) (b.getD (Int.toNat (a.2.2.getD ((a.2.2.length:Int)-1).toNat 0)) 0+1)) fun g =>
   gd (c9 (d+1)/\True) <|
   f (d+1,g)
 else
  PA c b
def Lz(b:List m4)(a:r6):Option Bool :=
 gd ((Lx b).isSome/\((!vl (Lx b))=false/\True->(Pl a).isSome)/\True) <|
 if(!vl (Lx b)||!vl (Pl a)) then
  some false
 else
  gd ((0<=(a.2.1.length:Int)/\(a.2.1.length:Int)=(a.2.1.length:Int)/\(a.2.1.length:Int).toNat*8<=281474976710656/\(a.2.1.length:Int)<=9223372036854775807)/\True) <|
  lp (F0R a b) ((0,List.replicate (a.2.1.length:Int).toNat 0))
def k82:Ct:=j9 82 [.agg y64.sl,.agg y31] (fun x=>Lz x.1 x.2.1) (fun r:Bool=>B r) (fun _=>())
theorem o82:Ok prog k82:=by
 refine k8 [.tmp 4] func82 ?_;intro y ⟨h,a,_⟩ r H Q hn hr;have:=hz (tc TX (tc y0E (tc M0L (tc O0S (tc O0T (tc O0U tn))))));refine iA [2,3]<|vQ<|iB [2,3,17] H fun H=>cD H (fun H=>iA [4]<|j0<|fR<|hr H) fun H=>vK<|fQ<|iB [2,3,5] H fun H=>jN r (fun(i:List Int)=>Z [p 3 (R 3),p 5 (O 21)] [(21,A 3 i64 i 0),(3,K 31 y31 a)]) (PA a) (fun i H=>?_) (fun _ F V n=>?_)
 ·refine jN r (fun(f:List Int)=>Z [p 5 (O 21)] [(21,A 3 i64 f 0)]) (Ly) (fun f H=>?_) (fun _ w T E=>?_)
  ·refine iB [4] H fun H=>j0<|hr H
  refine iA [3,5,49,50,51]<|vB<|lX (fun((c,b):Int×List Int)=>Z [p 3 (R 3),p 5 (O 21),p 49 (L y202 a.2.2),p 50 (I (a.2.2.length:Int)),p 51 (I c)] [(21,A 3 i64 b 0),(3,K 31 y31 a)]) (0,i) H fun _ u t o x ⟨c,b⟩ H=>iA [3,5,49,50,51,52]<|vQ<|cD H (fun H=>?_) (fun H=>?_)
  ·refine vK<|fQ<|jN r (fun(d:List Int)=>Z [p 3 (R 3),p 5 (O 21),p 49 (L y202 a.2.2),p 50 (I (a.2.2.length:Int)),p 51 (I c)] [(21,A 3 i64 d 0),(3,K 31 y31 a)]) (Pz c u) (fun d H=>?_) (fun _ l P v=>?_)
   ·refine jB [3,5,49,50,51] H fun H=>t H
   refine vB<|qD (fun e=>Z [p 3 (R 3),p 5 (O 21),p 9 (R 9),p 49 (L y202 a.2.2),p 50 (I (a.2.2.length:Int)),p 51 (I c)] [(9,K 202 y202 e),(21,A 3 i64 b 0),(3,K 31 y31 a)]) H fun e H=>vQ<|iB [3,5,9,49,50,51,69] H fun H=>cD H (fun H=>iA [4]<|j0<|fR<|l8<|v<|x<|l8<|E<|hr H) fun H=>vK<|fQ<|iA [3,5,9,49,50,51,72]<|cD H (fun H=>jB [3,5,49,50,51] H fun H=>fK<|l H) fun H=>vK<|fK<|l H
  exact vE<|fE<|o<|fX rfl<|w H
 refine iA [2,3,5,23,24,25]<|vB<|lX (fun((g,j):Int×List Int)=>Z (G7 [p 5 (O 21),p 23 (L y139 a.1),p 24 (I (a.1.length:Int)),p 25 (I g)]) ((21,A 3 i64 j 0)::Gp a h)) ((0,List.replicate (a.2.1.length:Int).toNat 0)) H fun _ G q s z ⟨g,j⟩ H=>iA [2,3,5,23,24,25,26]<|vQ<|cD H (fun H=>?_) (fun H=>?_)
 ·refine vK<|fQ<|vQ<|vB<|qD (fun k=>Z (G7 [p 5 (O 21),p 7 (R 7),p 23 (L y139 a.1),p 24 (I (a.1.length:Int)),p 25 (I g)]) ((7,K 139 y139 k)::(21,A 3 i64 j 0)::Gp a h)) H fun k H=>vQ<|iB [2,3,5,7,23,24,25,33] H fun H=>cD H (fun H=>iA [4]<|j0<|fR<|l8<|fR<|z<|l8<|n<|hr H) fun H=>vK<|fQ<|zD (fun m=>Z (G7 [p 5 (O 21),p 23 (L y139 a.1),p 24 (I (a.1.length:Int)),p 25 (I g)]) ((21,A 3 i64 m 0)::(7,K 139 y139 k)::Gp a h)) H fun m H=>fK<|fQ<|jB [2,3,5,23,24,25] H fun H=>q H
 exact vE<|fE<|s<|fX rfl<|F H
def G0H:Unit->Option Bool
 | _ =>
 some true
def G0F(c:List Int)(d:j7)(e:Int->Option Bool):Int->Option Bool
 | a =>
 if(decide (a < (d.2.2.length:Int))) then
  gd (ix a d.2.2.length/\True)<|lt (d.2.2.getD a.toNat (b7 l6)) fun b =>
  gd (ix a c.length/\a.toNat<c.length/\(Ll b (c.getD a.toNat 0)).isSome/\True) <|
  if(!vl (Ll b (c.getD a.toNat 0))) then
   some false
  else
   gd (c9 (a+1)/\True) <|
   e (a+1)
 else
  G0H ()
def PB(a:j7):List Int->Option Bool
 | b =>
 lp (G0F b a) 0
def PC(a:Int)(b:Int×List Int->Option Bool):List Int->Option Bool
 | c =>
 gd (c9 (a+1)/\True) <|
 b (a+1,c)
def G0G(d:List B8)(g:j7)(e:Int×List Int->Option Bool):Int×List Int->Option Bool
 | (c,a) =>
 if(decide (c < (d.length:Int))) then
  gd (ix c d.length/\c.toNat<d.length/\True)<|lt (d.getD c.toNat (b7 y151)) fun b =>
  if(!b.2.2.2) then
   gd (ix b.2.2.1 a.length/\b.2.2.1.toNat<a.length/\c9 (a.getD b.2.2.1.toNat 0+1)/\ix b.2.2.1 a.length/\b.2.2.1.toNat<a.length/\True)<|lt (a.set b.2.2.1.toNat (a.getD b.2.2.1.toNat 0+1)) fun f =>
   PC c e f
  else
   PC c e a
 else
  PB g a
def IC(a:j7):Option Bool :=
 gd ((Lz a.1 a.2.1).isSome/\True) <|
 if(!vl (Lz a.1 a.2.1)||(a.2.2.length:Int) != (a.2.1.2.1.length:Int)) then
  some false
 else
  gd ((0<=(a.2.2.length:Int)/\(a.2.2.length:Int)=(a.2.2.length:Int)/\(a.2.2.length:Int).toNat*8<=281474976710656/\(a.2.2.length:Int)<=9223372036854775807)/\True) <|
  gd ((BD a.2.1).isSome/\True)<|lt (vl (BD a.2.1)) fun b =>
  lp (G0G b a) ((0,List.replicate (a.2.2.length:Int).toNat 0))
def k36:Ct:=j9 36 [.agg l9] (fun x=>IC x.1) (fun r:Bool=>B r) (fun _=>())
theorem o36:Ok prog k36:=by
 refine k8 [.tmp 2] func36 ?_;intro y ⟨a,_⟩ r H Q hn hr;have:=hz (tc o84 (tc Fh (tc o82 tn)));refine iA [1]<|vQ<|iB [1,23] H fun H=>cD H (fun H=>iA [2]<|j0<|fR<|hr H) fun H=>vK<|fQ<|iB [1,3] H fun H=>jN r (fun(f:List Int)=>Z [p 1 (R 1),p 3 (O 27)] [(27,A 2 i64 f 0),(1,K 34 l9 a)]) (PB a) (fun f H=>?_) (fun _ u E v=>?_)
 ·refine jN r (fun(_:Unit)=>Z [] []) (G0H) (fun _ H=>?_) (fun _ n3 w s=>?_)
  ·refine iA [2]<|j0<|hr H
  refine iA [3,48,49,50]<|vB<|lX (fun(b:Int)=>Z [p 3 (O 27),p 48 (L l6 a.2.2),p 49 (I (a.2.2.length:Int)),p 50 (I b)] [(27,A 2 i64 f 0)]) 0 H fun _ z t m q b H=>iA [3,48,49,50,51]<|vQ<|cD H (fun H=>?_) (fun H=>?_)
  ·refine vK<|fQ<|vQ<|vB<|qD (fun e=>Z [p 3 (O 27),p 6 (I b),p 7 (R 7),p 48 (L l6 a.2.2),p 49 (I (a.2.2.length:Int)),p 50 (I b)] [(7,K 153 l6 e),(27,A 2 i64 f 0)]) H fun e H=>iB [3,48,49,50,61] H fun H=>cD H (fun H=>iA [2]<|j0<|l8<|fR<|q<|l8<|s<|hr H) fun H=>vK<|fK<|fQ<|jB [3,48,49,50] H fun H=>t H
  exact vE<|fE<|m<|fX rfl<|n3 H
 refine iD Fh [1,3,30,31,32] H fun c H=>vB<|lX (fun((d,h):Int×List Int)=>Z [p 1 (R 1),p 3 (O 27),p 30 (O 30),p 31 (I (c.length:Int)),p 32 (I d)] [(30,A 151 y151 c 0),(27,A 2 i64 h 0),(1,K 34 l9 a)]) ((0,List.replicate (a.2.2.length:Int).toNat 0)) H fun _ l n o F ⟨d,h⟩ H=>iA [1,3,30,31,32,33]<|vQ<|cD H (fun H=>?_) (fun H=>?_)
 ·refine vK<|fQ<|jN r (fun(i:List Int)=>Z [p 1 (R 1),p 3 (O 27),p 30 (O 30),p 31 (I (c.length:Int)),p 32 (I d)] [(27,A 2 i64 i 0),(30,A 151 y151 c 0),(1,K 34 l9 a)]) (PC d l) (fun i H=>?_) (fun _ k x G=>?_)
  ·refine jB [1,3,30,31,32] H fun H=>n H
  refine vB<|qD (fun g=>Z [p 1 (R 1),p 3 (O 27),p 5 (R 5),p 30 (O 30),p 31 (I (c.length:Int)),p 32 (I d)] [(5,bx 151 (p9 true y151 g)),(30,A 151 y151 c 0),(27,A 2 i64 h 0),(1,K 34 l9 a)]) H fun g H=>iA [1,3,5,30,31,32,38]<|cD H (fun H=>zD (fun j=>Z [p 1 (R 1),p 3 (O 27),p 30 (O 30),p 31 (I (c.length:Int)),p 32 (I d)] [(27,A 2 i64 j 0),(5,bx 151 (p9 true y151 g)),(30,A 151 y151 c 0),(1,K 34 l9 a)]) H fun j H=>fK<|k H) fun H=>vK<|fK<|k H
 exact vE<|fE<|o<|fX rfl<|u H
def H0k:Unit->Option Bool
 | _ =>
 some true
def H0j(a:s8)(c:Int->Option Bool):Int->Option Bool
 | b =>
 if(decide (b < (a.2.2.length:Int))) then
  gd (0 < (a.2.1.length:Int)/\(decide (0<b.tmod (a.2.1.length:Int))=true/\True->c9 (b-1))/\(decide (0<b.tmod (a.2.1.length:Int))=true/\True->ix (b-1) a.2.2.length)/\(decide (0<b.tmod (a.2.1.length:Int))=true/\True->ix b a.2.2.length)/\(decide ((a.2.1.length:Int)<=b)=true/\(decide (0<b.tmod (a.2.1.length:Int))&&decide (a.2.2.getD b.toNat 0<a.2.2.getD (b-1).toNat 0))=false/\True->c9 (b-(a.2.1.length:Int)))/\(decide ((a.2.1.length:Int)<=b)=true/\(decide (0<b.tmod (a.2.1.length:Int))&&decide (a.2.2.getD b.toNat 0<a.2.2.getD (b-1).toNat 0))=false/\True->ix (b-(a.2.1.length:Int)) a.2.2.length)/\(decide ((a.2.1.length:Int)<=b)=true/\(decide (0<b.tmod (a.2.1.length:Int))&&decide (a.2.2.getD b.toNat 0<a.2.2.getD (b-1).toNat 0))=false/\True->ix b a.2.2.length)/\True) <|
  if(decide (0<b.tmod (a.2.1.length:Int))&&decide (a.2.2.getD b.toNat 0<a.2.2.getD (b-1).toNat 0)||decide ((a.2.1.length:Int)<=b)&&decide (a.2.2.getD b.toNat 0<a.2.2.getD (b-(a.2.1.length:Int)).toNat 0)) then
   some false
  else
   gd (c9 (b+1)/\True) <|
   c (b+1)
 else
  H0k ()
def Di(a:s8):Option Bool :=
 gd ((Gy a).isSome/\True) <|
 if(!vl (Gy a)) then
  some false
 else
  lp (H0j a) 0
def k18:Ct:=j9 18 [.agg y70] (fun x=>Di x.1) (fun r:Bool=>B r) (fun _=>())
theorem o18:Ok prog k18:=by
 refine k8 [.tmp 2] func18 ?_;intro y ⟨a,_⟩ r H Q hn hr;have:=hz (tc o45 tn);refine iA [1]<|vQ<|iB [1,7] H fun H=>cD H (fun H=>iA [2]<|j0<|fR<|hr H) fun H=>vK<|fQ<|iA [1,3]<|jN r (fun(_:Unit)=>Z [] []) (H0k) (fun _ H=>?_) (fun _ g i c=>?_)
 ·refine iA [2]<|j0<|hr H
 refine iA [1,3,4]<|vB<|lX (fun(b:Int)=>Z (Q7 (a.2.1.length:Int) [p 4 (I b)]) [(1,K 70 y70 a)]) 0 H fun _ h e d f b H=>vQ<|iA [1,3,4,15]<|cD H (fun H=>?_) (fun H=>?_)
 ·refine vK<|fQ<|vQ<|vB<|iB [1,3,4,55] H fun H=>cD H (fun H=>iA [2]<|j0<|l8<|fR<|f<|l8<|c<|hr H) fun H=>vK<|fK<|fQ<|jB [1,3,4] H fun H=>e H
 exact vE<|fE<|d<|fX rfl<|g H
def H0g:Unit->Option Bool
 | _ =>
 some true
def H0f(b:B7)(c:B7)(d:Int->Option Bool):Int->Option Bool
 | a =>
 if(decide (a < (b.1.length:Int))) then
  gd (ix a b.1.length/\(b.1.getD a.toNat false=true/\True->ix a c.1.length)/\((!c.1.getD a.toNat false)=false/\b.1.getD a.toNat false=true/\True->ix a c.2.1.length)/\((!c.1.getD a.toNat false)=false/\b.1.getD a.toNat false=true/\True->ix a b.2.1.length)/\((!c.1.getD a.toNat false||decide ((b.2.1.getD a.toNat (b7 y51)).1 < (c.2.1.getD a.toNat (b7 y51)).1))=false/\b.1.getD a.toNat false=true/\True->ix a c.2.1.length)/\((!c.1.getD a.toNat false||decide ((b.2.1.getD a.toNat (b7 y51)).1 < (c.2.1.getD a.toNat (b7 y51)).1))=false/\b.1.getD a.toNat false=true/\True->ix a b.2.1.length)/\True) <|
  if(b.1.getD a.toNat false&&(!c.1.getD a.toNat false||decide ((b.2.1.getD a.toNat (b7 y51)).1 < (c.2.1.getD a.toNat (b7 y51)).1)||decide ((c.2.1.getD a.toNat (b7 y51)).2 < (b.2.1.getD a.toNat (b7 y51)).2))) then
   some false
  else
   gd (c9 (a+1)/\True) <|
   d (a+1)
 else
  H0g ()
def ID(a:B7)(b:B7):Option Bool :=
 if((a.1.length:Int) != (b.1.length:Int)||(a.2.1.length:Int) != (a.1.length:Int)||(b.2.1.length:Int) != (b.1.length:Int)) then
  some false
 else
  lp (H0f a b) 0
def k19:Ct:=j9 19 [.agg K7,.agg K7] (fun x=>ID x.1 x.2.1) (fun r:Bool=>B r) (fun _=>())
theorem o19:Ok prog k19:=by
 refine k8 [.tmp 4] func19 ?_;intro y ⟨d,e,_⟩ r H Q hn hr;refine iA [2,3]<|vQ<|iA [2,3,30]<|cD H (fun H=>iA [4]<|j0<|fR<|hr H) fun H=>vK<|fQ<|jN r (fun(_:Unit)=>Z [] []) (H0g) (fun _ H=>?_) (fun _ h j b=>?_)
 ·refine iA [4]<|j0<|hr H
 refine iA [2,3,5]<|vB<|lX (fun(a:Int)=>Z (G7 [p 5 (I a)]) [(3,K 44 K7 e),(2,K 44 K7 d)]) 0 H fun _ i f c g a H=>vQ<|iA [2,3,5,35]<|cD H (fun H=>?_) (fun H=>?_)
 ·refine vK<|fQ<|vQ<|vB<|iB [2,3,5,80] H fun H=>cD H (fun H=>iA [4]<|j0<|l8<|fR<|g<|l8<|b<|hr H) fun H=>vK<|fK<|fQ<|jB [2,3,5] H fun H=>f H
 exact vE<|fE<|c<|fX rfl<|h H
def BF(b:Int)(a:Int)(c:Int):Option Int :=
 gd (0<a/\0<a/\True) <|
 if(c==0&&decide (b.tmod a<0)) then
  gd (c9 (b.tdiv a-1)/\True) <|
  some (b.tdiv a-1)
 else
  if(c==1&&decide (0<b.tmod a)) then
   gd (c9 (b.tdiv a+1)/\True) <|
   some (b.tdiv a+1)
  else
   some (b.tdiv a)
def Q0C:Ct:=j9 160 [.dat i64,.dat i64,.dat i64] (fun x=>BF x.1 x.2.1 x.2.2.1) (fun r:Int=>I r) (fun _=>())
theorem Fo:Ok prog Q0C:=by
 refine k8 [.tmp 6] func160 ?_;intro y ⟨_,_,_,_⟩ r H Q hn hr;refine iA [0,1,2]<|iB [2,7,8] H fun H=>vQ<|vB<|iA [2,7,8,15]<|cD H (fun H=>iB [6] H fun H=>j0<|l8<|fR<|hr H) fun H=>iA [7,24]<|cD H (fun H=>iB [6] H fun H=>j0<|l8<|fR<|hr H) fun H=>vK<|fK<|fQ<|iA [6]<|j0<|hr H
def A0w:Int->Option Int
 | a =>
 some a
def Um(d:Int)(c:Int×Int->Option Int):Int×Int->Option Int
 | (a,b) =>
 if(decide (a<b)) then
  gd (c9 (a+b)/\c9 (a+b+(1:Int))/\(0:Int) < (2:Int)/\True) <|
  gd (c9 ((a+b+1).tdiv 2*(a+b+1).tdiv 2)/\True) <|
  if(decide ((a+b+1).tdiv 2*(a+b+1).tdiv 2<=d)) then
   c (((a+b+1).tdiv 2,b))
  else
   gd (c9 ((a+b+1).tdiv 2-1)/\True) <|
   c ((a,(a+b+1).tdiv 2-1))
 else
  A0w a
def LA(a:Int):Option Int :=
 lp (Um a) (0,3000000000)
def Q0b:Ct:=j9 197 [.dat i64] (fun x=>LA x.1) (fun r:Int=>I r) (fun _=>())
theorem M0w:Ok prog Q0b:=by
 refine k8 [.tmp 2] func197 ?_;intro y ⟨f,_⟩ r H Q hn hr;refine iA [0]<|iA [0,3,4]<|jN r (fun(a:Int)=>Z [p 3 (I a)] []) (A0w) (fun a H=>?_) (fun _ g j i=>?_)
 ·refine iA [2]<|j0<|hr H
 refine vB<|lX (fun((b,d):Int×Int)=>Z [p 0 (J f),p 3 (I b),p 4 (I d)] []) (0,3000000000) H fun _ h c e k ⟨b,d⟩ H=>vQ<|iA [0,3,4,8]<|cD H (fun H=>?_) (fun H=>?_)
 ·refine vK<|fQ<|vB<|iB [0,3,4,5] H fun H=>iB [0,3,4,5,18] H fun H=>cD H (fun H=>jA [0,3,4]<|fK<|c H) fun H=>jB [0,3,4] H fun H=>fK<|c H
 exact vE<|fE<|e<|fX rfl<|g H
def V7(a:Int)(b:Int)(d:Int):Option Int :=
 gd (c9 (500*a)/\c9 (500*a*500)/\c9 (500*a*500*a)/\c9 (b*b)/\c9 (500*a*500*a+b*b)/\True) <|
 gd ((LA (500*a*500*a+b*b)).isSome/\True)<|lt (vl (LA (500*a*500*a+b*b))) fun c =>
 gd (((d==1)=true/\True->c9 (c*c))/\True) <|
 if(d==1&&decide (c*c<500*a*500*a+b*b)) then
  gd ((0:Int) < (500:Int)/\c9 (c.tdiv (500:Int)+(1:Int))/\True) <|
  some (c.tdiv 500+1)
 else
  gd ((BF c 500 d).isSome/\True)<|lt (vl (BF c 500 d)) fun e =>
  some e
def Q0z:Ct:=j9 163 [.dat i64,.dat i64,.dat i64] (fun x=>V7 x.1 x.2.1 x.2.2.1) (fun r:Int=>I r) (fun _=>())
theorem M0B:Ok prog Q0z:=by
 refine k8 [.tmp 6] func163 ?_;intro y ⟨_,_,_,_⟩ r H Q hn hr;have:=hz (tc Fo (tc M0w tn));refine iA [0,1,2]<|iB [2,7] H fun H=>iD M0w [2,7,8] H fun _ H=>vQ<|iB [2,8,28] H fun H=>cD H (fun H=>iB [6] H fun H=>j0<|fR<|hr H) fun H=>vK<|fQ<|iD Fo [6] H fun _ H=>j0<|hr H
def GJ(a:Int):Option Bool :=
 some (a != a)
def P0C:Ct:=j9 232 [.dat i64] (fun x=>GJ x.1) (fun r:Bool=>B r) (fun _=>())
theorem O0n:Ok prog P0C:=by
 refine k8 [.tmp 2] func232 ?_;intro y ⟨_,_⟩ r H Q hn hr;refine iA [0]<|iA [2]<|j0<|hr H
def GK(a:Int):Option Bool :=
 some (a != a)
def P0u:Ct:=j9 244 [.dat i64] (fun x=>GK x.1) (fun r:Bool=>B r) (fun _=>())
theorem O0i:Ok prog P0u:=by
 refine k8 [.tmp 2] func244 ?_;intro y ⟨_,_⟩ r H Q hn hr;refine iA [0]<|iA [2]<|j0<|hr H
def LB(a:Int)(b:Int):Option Bool :=
 gd ((GK a).isSome/\(vl (GK a)=true/\True->(GK b).isSome)/\True) <|
 some (vl (GK a)&&!vl (GK b)||decide (a<b))
def P0D:Ct:=j9 231 [.dat i64,.dat i64] (fun x=>LB x.1 x.2.1) (fun r:Bool=>B r) (fun _=>())
theorem O0o:Ok prog P0D:=by
 refine k8 [.tmp 4] func231 ?_;intro y ⟨_,_,_⟩ r H Q hn hr;have:=hz (tc O0i tn);refine iA [0,1]<|iB [4] H fun H=>j0<|hr H
def Un(b:List Int)(c:Int):Int->Option (Int×Bool)
 | a =>
 gd ((decide (a < (b.length:Int))=true/\True->ix a b.length)/\((b.getD a.toNat 0==c)=false/\decide (a < (b.length:Int))=true/\True->ix a b.length)/\((b.getD a.toNat 0==c)=false/\decide (a < (b.length:Int))=true/\True->(GJ (b.getD a.toNat 0)).isSome)/\(vl (GJ (b.getD a.toNat 0))=true/\(b.getD a.toNat 0==c)=false/\decide (a < (b.length:Int))=true/\True->(GJ c).isSome)/\True) <|
 some ((a,decide (a < (b.length:Int))&&(b.getD a.toNat 0==c||vl (GJ (b.getD a.toNat 0))&&vl (GJ c))))
def LC(c:List Int)(d:Int)(e:Int×Int->Option (Int×Bool)):Int×Int->Option (Int×Bool)
 | (a,b) =>
 if(decide (a<b)) then
  gd (c9 (a+b)/\((0:Int)<=a+b/\a+b<=(18446744073709551615:Int))/\(((0:Int)<=(1:Int)/\(1:Int)<=(62:Int))/\(0:Int)<=(a+b).fdiv ((2:Int) ^ Int.toNat (1:Int))/\(a+b).fdiv ((2:Int) ^ Int.toNat (1:Int))<=(18446744073709551615:Int))/\c9 ((a+b).fdiv ((2:Int) ^ Int.toNat (1:Int)))/\True) <|
  gd (ix ((a+b).fdiv ((2:Int) ^ Int.toNat (1:Int))) c.length/\(LB (c.getD ((a+b).fdiv ((2:Int) ^ Int.toNat (1:Int))).toNat (0:Int)) d).isSome/\True) <|
  if(vl (LB (c.getD ((a+b).fdiv ((2:Int) ^ Int.toNat (1:Int))).toNat (0:Int)) d)) then
   gd (c9 ((a+b).fdiv ((2:Int) ^ Int.toNat (1:Int))+(1:Int))/\True) <|
   e (((a+b).fdiv ((2:Int) ^ Int.toNat (1:Int))+(1:Int),b))
  else
   e ((a,(a+b).fdiv ((2:Int) ^ Int.toNat (1:Int))))
 else
  Un c d a
def LD(a:List Int)(b:Int):Option (Int×Bool) :=
 lp (LC a b) ((0,(a.length:Int)))
def P0N:Ct:=j9 217 [.dat i64.sl,.dat i64] (fun x=>LD x.1 x.2.1) (fun r:Int×Bool=>AV.tup [I r.1,B r.2]) (fun _=>())
theorem M0s:Ok prog P0N:=by
 refine k8 [.tmp 4,.tmp 5] func217 ?_;intro y ⟨a,b,_⟩ r H Q hn hr;have:=hz (tc O0n (tc O0o tn));refine iA [0,1]<|iA [0,1,6]<|iA [0,1,6,7,8]<|jN r (fun(d:Int)=>Z [p 0 (L i64 a),p 1 (J b),p 6 (I (a.length:Int)),p 7 (I d)] []) (Un a b) (fun d H=>?_) (fun _ h k j=>?_)
 ·refine iB [4,5] H fun H=>j0<|hr H
 refine vB<|lX (fun((f,c):Int×Int)=>Z [p 0 (L i64 a),p 1 (J b),p 6 (I (a.length:Int)),p 7 (I f),p 8 (I c)] []) ((0,(a.length:Int))) H fun _ i e g l ⟨f,c⟩ H=>vQ<|iA [0,1,6,7,8,15]<|cD H (fun H=>?_) (fun H=>?_)
 ·refine vK<|fQ<|vB<|iB [0,1,6,7,8,9] H fun H=>iB [0,1,6,7,8,9,27] H fun H=>cD H (fun H=>jB [0,1,6,7,8] H fun H=>fK<|e H) fun H=>jA [0,1,6,7,8]<|fK<|e H
 exact vE<|fE<|g<|fX rfl<|h H
def O6(a:List Int)(e:Int):Option (List BG×Int) :=
 gd (ix 0 a.length/\c9 ((a.length:Int)-1)/\ix ((a.length:Int)-1) a.length/\True)<|lt (min (max e (a.getD (Int.toNat (0:Int)) (0:Int))) (a.getD ((a.length:Int)-(1:Int)).toNat (0:Int))) fun c =>
 gd ((LD a c).isSome/\True)<|lt (vl (LD a c)) fun b =>
 if b.2 then
  some (([(b.1,(1:Int))],(1:Int)))
 else
  gd (c9 (b.1-1)/\ix b.1 a.length/\c9 (a.getD b.1.toNat 0-c)/\c9 (b.1-1)/\ix (b.1-1) a.length/\c9 (c-a.getD (b.1-1).toNat 0)/\ix b.1 a.length/\c9 (b.1-1)/\ix (b.1-1) a.length/\c9 (a.getD b.1.toNat 0-a.getD (b.1-1).toNat 0)/\True)<|lt ([(b.1-1,a.getD b.1.toNat 0-c),(b.1,c-a.getD (b.1-1).toNat 0)]) fun d =>
  some ((d,a.getD b.1.toNat 0-a.getD (b.1-1).toNat 0))
def Q0c:Ct:=j9 196 [.dat i64.sl,.dat i64] (fun x=>O6 x.1 x.2.1) (fun r:List BG×Int=>AV.tup [AV.ow 252 true T3 r.1,I r.2]) (fun _=>())
theorem Uo:Ok prog Q0c:=by
 refine k8 [.tmp 4,.tmp 5] func196 ?_;intro y ⟨a,_,_⟩ r H Q hn hr;have:=hz (tc M0s tn);refine iA [0,1]<|qD (fun b=>Z [p 0 (L i64 a),p 1 (I b)] []) H fun b H=>iD M0s [0,1,6,7] H fun d H=>vQ<|iA [0,1,6,26]<|cD H (fun H=>iA [4,5]<|j0<|fR<|hr H) fun H=>vK<|fQ<|qD (fun c=>Z [p 4 (O 48),p 5 (I (a.getD d.1.toNat 0-a.getD (d.1-1).toNat 0))] [(48,A 252 T3 c 0)]) H fun c H=>j0<|hr H
def IE(b:List BG×Int)(c:List BG×Int)(e:Int):Int->Option Int
 | a =>
 gd (c9 (b.2*c.2)/\(BF a (b.2*c.2) e).isSome/\True)<|lt (vl (BF a (b.2*c.2) e)) fun d =>
 some d
def Up(a:Int)(c:Int×Int->Option Int):Int->Option Int
 | b =>
 gd (c9 (a+1)/\True) <|
 c (b,a+1)
def IF(d:s8)(a:BG)(f:List BG×Int)(g:Int)(i:Int×Int->Option Int)(j:Int×Int->Option Int):Int×Int->Option Int
 | (e,c) =>
 if(decide (c < (f.1.length:Int))) then
  gd (ix c f.1.length/\c.toNat<f.1.length/\True)<|lt (f.1.getD c.toNat (b7 T3)) fun b =>
  gd (c9 (a.1*(d.2.1.length:Int))/\c9 (a.1*(d.2.1.length:Int)+b.1)/\ix (a.1*(d.2.1.length:Int)+b.1) d.2.2.length/\c9 (d.2.2.getD (a.1*(d.2.1.length:Int)+b.1).toNat 0*a.2)/\c9 (d.2.2.getD (a.1*(d.2.1.length:Int)+b.1).toNat 0*a.2*b.2)/\c9 (e+d.2.2.getD (a.1*(d.2.1.length:Int)+b.1).toNat 0*a.2*b.2)/\True)<|lt (e+d.2.2.getD (a.1*(d.2.1.length:Int)+b.1).toNat 0*a.2*b.2) fun h =>
  gd (c9 (c+1)/\True) <|
  j (h,c+1)
 else
  Up g i e
def GL(g:s8)(e:List BG×Int)(b:List BG×Int)(h:Int)(f:Int×Int->Option Int):Int×Int->Option Int
 | (c,a) =>
 if(decide (a < (b.1.length:Int))) then
  gd (ix a b.1.length/\a.toNat<b.1.length/\True)<|lt (b.1.getD a.toNat (b7 T3)) fun d =>
  lp (IF g d e a f) (c,0)
 else
  IE b e h c
def J6(a:s8)(b:Int)(c:Int)(d:Int):Option Int :=
 gd ((O6 a.1 b).isSome/\True)<|lt (vl (O6 a.1 b)) fun e =>
 gd ((O6 a.2.1 c).isSome/\True)<|lt (vl (O6 a.2.1 c)) fun f =>
 lp (GL a f e d) (0,0)
def Q0D:Ct:=j9 159 [.agg y70,.dat i64,.dat i64,.dat i64] (fun x=>J6 x.1 x.2.1 x.2.2.1 x.2.2.2.1) (fun r:Int=>I r) (fun _=>())
theorem PD:Ok prog Q0D:=by
 refine k8 [.tmp 8] func159 ?_;intro y ⟨j,_,_,g,_⟩ r H Q hn hr;have:=hz (tc Fo (tc Uo tn));refine iA [1,2,3,4]<|iD Uo [2,3,4,9,10] H fun a H=>iD Uo [3,4,9,10,11,12] H fun b H=>iA [3,4,9,10,11,12,13]<|jN r (fun(l:Int)=>Z [p 3 (J g),p 10 (I a.2),p 12 (I b.2),p 13 (I l)] []) (IE a b g) (fun l H=>?_) (fun _ v z w=>?_)
 ·refine iD Fo [8] H fun _ H=>j0<|hr H
 refine iA [3,4,10,11,12,13,32,33,34]<|vB<|lX (fun((f,c):Int×Int)=>Z (Ii g a.2 b.2 f [p 32 (O 22),p 33 (I (a.1.length:Int)),p 34 (I c)]) (Ij b.1 a.1 j)) (0,0) H fun _ n q s G ⟨f,c⟩ H=>iA [3,4,10,11,12,13,32,33,34,35]<|vQ<|cD H (fun H=>?_) (fun H=>?_)
 ·refine vK<|fQ<|jN r (fun(m:Int)=>Z (Ii g a.2 b.2 m [p 32 (O 22),p 33 (I (a.1.length:Int)),p 34 (I c)]) (Ij b.1 a.1 j)) (Up c n) (fun m H=>?_) (fun _ u x P=>?_)
  ·refine jB [3,4,10,11,12,13,32,33,34] H fun H=>q H
  refine vB<|qD (fun d=>Z (Ii g a.2 b.2 f [p 15 (R 15),p 32 (O 22),p 33 (I (a.1.length:Int)),p 34 (I c)]) ((15,bx 252 (p9 true T3 d))::Ij b.1 a.1 j)) H fun d H=>iA [3,4,10,11,12,13,15,32,33,34,38,39,40]<|vB<|lX (fun((h,e):Int×Int)=>Z (Ii g a.2 b.2 h [p 15 (R 15),p 32 (O 22),p 33 (I (a.1.length:Int)),p 34 (I c),p 38 (O 29),p 39 (I (b.1.length:Int)),p 40 (I e)]) ((15,bx 252 (p9 true T3 d))::Ij b.1 a.1 j)) (f,0) H fun _ E t o F ⟨h,e⟩ H=>iA [3,4,10,11,12,13,15,32,33,34,38,39,40,41]<|vQ<|cD H (fun H=>vK<|fQ<|vQ<|vB<|qD (fun i=>Z (Ii g a.2 b.2 h [p 15 (R 15),p 17 (R 17),p 32 (O 22),p 33 (I (a.1.length:Int)),p 34 (I c),p 38 (O 29),p 39 (I (b.1.length:Int)),p 40 (I e)]) ((17,bx 252 (p9 true T3 i))::(15,bx 252 (p9 true T3 d))::Ij b.1 a.1 j)) H fun i H=>zD (fun k=>Z (Ii g a.2 b.2 k [p 15 (R 15),p 32 (O 22),p 33 (I (a.1.length:Int)),p 34 (I c),p 38 (O 29),p 39 (I (b.1.length:Int)),p 40 (I e)]) ((17,bx 252 (p9 true T3 i))::(15,bx 252 (p9 true T3 d))::Ij b.1 a.1 j)) H fun k H=>fK<|fQ<|jB [3,4,10,11,12,13,15,32,33,34,38,39,40] H fun H=>t H) fun H=>vE<|fE<|o<|fX rfl<|fK<|u H
 exact vE<|fE<|s<|fX rfl<|v H
def BH(a:C4)(b:l7):Option z7 :=
 gd ((0:Int) < (2:Int)/\ix (b.2.1.tdiv (2:Int)) a.2.1.length/\ix (a.2.1.getD (b.2.1.tdiv (2:Int)).toNat (b7 y151)).1 a.1.2.1.1.length/\True)<|lt (a.1.2.1.1.getD (a.2.1.getD (b.2.1.tdiv 2).toNat (b7 y151)).1.toNat (b7 y139)) fun c =>
 gd (ix c.2.1 a.1.1.length/\ix b.2.2.2 (a.1.1.getD c.2.1.toNat (b7 y64)).2.2.2.1.length/\True)<|lt ((a.1.1.getD c.2.1.toNat (b7 y64)).2.2.2.1.getD b.2.2.2.toNat (b7 y67)) fun d =>
 some d
def Q0E:Ct:=j9 158 [.dat y157.pt,.agg y80] (fun x=>BH x.1 x.2.1) (fun r:z7=>AV.agg [I r.1,I r.2.1,I r.2.2.1,I r.2.2.2.1,L y70 r.2.2.2.2.1,L y70 r.2.2.2.2.2]) (fun _=>())
theorem M0D:Ok prog Q0E:=by
 refine k8 [.cell 4 67] func158 ?_;intro y ⟨d,b,_⟩ r H Q hn hr;refine iA [0,3,4]<|qD (fun a=>Z [p 0 (D y157.pt d),p 3 (R 3),p 4 (R 4),p 5 (R 5)] [(5,K 139 y139 a),(4,bx 67 [I 0,I 0,I 0,I 0,nil,nil]),(3,K 80 y80 b)]) H fun a H=>qD (fun c=>Z [p 4 (R 4)] [(4,K 67 y67 c),(5,K 139 y139 a),(3,K 80 y80 b)]) H fun c H=>j0<|hr H
def Cv(a:C4)(b:l7):Option Int :=
 gd ((0:Int) < (2:Int)/\ix (b.2.1.tdiv (2:Int)) a.2.1.length/\True)<|lt (a.2.1.getD (b.2.1.tdiv 2).toNat (b7 y151)) fun c =>
 some c.2.2.1
def R0l:Ct:=j9 116 [.dat y157.pt,.agg y80] (fun x=>Cv x.1 x.2.1) (fun r:Int=>I r) (fun _=>())
theorem IG:Ok prog R0l:=by
 refine k8 [.tmp 4] func116 ?_;intro y ⟨_,b,_⟩ r H Q hn hr;refine iA [0,3]<|qD (fun a=>Z [p 4 (J a.2.2.1)] [(3,K 80 y80 b)]) H fun a H=>j0<|hr H
def F6(a:C4)(f:Int)(e:Int)(d:Int):Option Int :=
 gd (ix f a.2.2.1.length/\True)<|lt (a.2.2.1.getD f.toNat (b7 y80)) fun b =>
 gd ((Cv a b).isSome/\True)<|lt (vl (Cv a b)) fun c =>
 if(b.2.2.1==1) then
  gd ((BH a b).isSome/\(0:Int) < (2:Int)/\ix (b.2.1.tmod (2:Int)) (vl (BH a b)).2.2.2.2.2.length/\ix c a.2.2.2.1.length/\(J6 ((vl (BH a b)).2.2.2.2.2.getD (b.2.1.tmod (2:Int)).toNat (b7 y70)) e (a.2.2.2.1.getD c.toNat (0:Int)) d).isSome/\True)<|lt (vl (J6 ((vl (BH a b)).2.2.2.2.2.getD (b.2.1.tmod 2).toNat (b7 y70)) e (a.2.2.2.1.getD c.toNat 0) d)) fun g =>
  some (min g 1000000)
 else
  gd (ix c a.2.2.2.2.1.length/\ix b.2.2.2 (List.length (a.2.2.2.2.1.getD c.toNat []))/\(V7 e (List.getD (a.2.2.2.2.1.getD c.toNat []) b.2.2.2.toNat 0) d).isSome/\True)<|lt (vl (V7 e (List.getD (a.2.2.2.2.1.getD c.toNat []) b.2.2.2.toNat 0) d)) fun h =>
  some (min h 1000000)
def R0k:Ct:=j9 117 [.dat y157.pt,.dat i64,.dat i64,.dat i64] (fun x=>F6 x.1 x.2.1 x.2.2.1 x.2.2.2.1) (fun r:Int=>I r) (fun _=>())
theorem O0Y:Ok prog R0k:=by
 refine k8 [.tmp 8] func117 ?_;intro y ⟨b,_,d,c,_⟩ r H Q hn hr;have:=hz (tc M0B (tc PD (tc M0D (tc IG tn))));refine iA [0,1,2,3]<|qD (fun a=>Z [p 0 (D y157.pt b),p 2 (J d),p 3 (J c),p 9 (R 9)] [(9,K 80 y80 a)]) H fun a H=>iD IG [0,2,3,9,10] H fun _ H=>vQ<|iA [0,2,3,9,10,23]<|cD H (fun H=>iD PD [8] H fun _ H=>j0<|fR<|hr H) fun H=>vK<|fQ<|iD M0B [8] H fun _ H=>j0<|hr H
def Av(a:Int)(b:Int)(c:Int):Option Int :=
 gd (c9 (a*b)/\(BF (a*b) 1000 c).isSome/\True)<|lt (vl (BF (a*b) 1000 c)) fun d =>
 some d
def Q0B:Ct:=j9 161 [.dat i64,.dat i64,.dat i64] (fun x=>Av x.1 x.2.1 x.2.2.1) (fun r:Int=>I r) (fun _=>())
theorem M0C:Ok prog Q0B:=by
 refine k8 [.tmp 6] func161 ?_;intro y ⟨_,_,_,_⟩ r H Q hn hr;have:=hz (tc Fo tn);refine iA [0,1,2]<|iD Fo [6] H fun _ H=>j0<|hr H
def IH(a:p5)(b:Int)(c:Int):Option Int :=
 if(b==1&&c==0) then
  some a.2.1
 else
  if(b==1) then
   some a.2.2.1
  else
   if(c==0) then
    some a.2.2.2.1
   else
    some a.2.2.2.2
def Q0A:Ct:=j9 162 [.agg r5,.dat i64,.dat i64] (fun x=>IH x.1 x.2.1 x.2.2.1) (fun r:Int=>I r) (fun _=>())
theorem O0J:Ok prog Q0A:=by
 refine k8 [.tmp 6] func162 ?_;intro y ⟨_,_,_,_⟩ r H Q hn hr;refine iA [1,2,3]<|vQ<|vB<|iA [1,2,3,7]<|cD H (fun H=>iA [6]<|j0<|l8<|fR<|hr H) fun H=>iA [2,3,16]<|cD H (fun H=>iA [6]<|j0<|l8<|fR<|hr H) fun H=>iA [3,21]<|cD H (fun H=>iA [6]<|j0<|l8<|fR<|hr H) fun H=>vK<|fK<|fQ<|iA [6]<|j0<|hr H
def Aw(b:p5)(c:l7)(a:Int):Int->Option Int
 | d =>
 gd ((IH b c.2.2.1 a).isSome/\(Av d (vl (IH b c.2.2.1 a)) a).isSome/\True)<|lt (vl (Av d (vl (IH b c.2.2.1 a)) a)) fun e =>
 some e
def L8(a:C4)(e:p5)(g:Int)(f:Int)(d:Int):Option Int :=
 gd (ix g a.2.2.1.length/\True)<|lt (a.2.2.1.getD g.toNat (b7 y80)) fun b =>
 gd ((Cv a b).isSome/\True)<|lt (vl (Cv a b)) fun c =>
 if(b.2.2.1==1) then
  gd ((BH a b).isSome/\(0:Int) < (2:Int)/\ix (b.2.1.tmod (2:Int)) (vl (BH a b)).2.2.2.2.1.length/\ix c a.2.2.2.1.length/\(J6 ((vl (BH a b)).2.2.2.2.1.getD (b.2.1.tmod (2:Int)).toNat (b7 y70)) f (a.2.2.2.1.getD c.toNat (0:Int)) d).isSome/\True)<|lt (vl (J6 ((vl (BH a b)).2.2.2.2.1.getD (b.2.1.tmod 2).toNat (b7 y70)) f (a.2.2.2.1.getD c.toNat 0) d)) fun h =>
  Aw e b d h
 else
  gd (ix c a.2.2.2.2.1.length/\ix b.2.2.2 (List.length (a.2.2.2.2.1.getD c.toNat []))/\(BF (List.getD (a.2.2.2.2.1.getD c.toNat []) b.2.2.2.toNat 0) 1000 d).isSome/\True)<|lt (vl (BF (List.getD (a.2.2.2.2.1.getD c.toNat []) b.2.2.2.toNat 0) 1000 d)) fun i =>
  Aw e b d i
def R0m:Ct:=j9 115 [.dat y157.pt,.agg r5,.dat i64,.dat i64,.dat i64] (fun x=>L8 x.1 x.2.1 x.2.2.1 x.2.2.2.1 x.2.2.2.2.1) (fun r:Int=>I r) (fun _=>())
theorem O0Z:Ok prog R0m:=by
 refine k8 [.tmp 10] func115 ?_;intro y ⟨f,b,_,g,c,_⟩ r H Q hn hr;have:=hz (tc M0C (tc O0J (tc Fo (tc PD (tc M0D (tc IG tn))))));refine iA [0,2,3,4,6]<|qD (fun a=>Z [p 0 (D y157.pt f),p 3 (J g),p 4 (J c),p 6 (R 6),p 11 (R 11)] [(11,K 80 y80 a),(6,K 36 r5 b)]) H fun a H=>iD IG [0,3,4,6,11,12] H fun _ H=>iA [0,3,4,6,11,12]<|jN r (fun(d:Int)=>Z [p 4 (J c),p 6 (R 6),p 11 (R 11),p 13 (I d)] [(11,K 80 y80 a),(6,K 36 r5 b)]) (Aw b a c) (fun d H=>?_) (fun _ e i h=>?_)
 ·refine iD M0C [10] H fun _ H=>j0<|hr H
 refine iA [0,3,4,6,11,12,26]<|cD H (fun H=>jD PD [4,6,11,13] H fun _ H=>e H) fun H=>jD Fo [4,6,11,13] H fun _ H=>e H
def GM(a:C4)(c:Int)(b:u3):Int×Int->Option (u3×u3)
 | (h,g) =>
 gd ((F6 a c b.1 0).isSome/\(F6 a c b.2 0).isSome/\(F6 a c b.1 1).isSome/\(F6 a c b.2 1).isSome/\True)<|lt ((vl (F6 a c b.1 0),vl (F6 a c b.2 0),vl (F6 a c b.1 1),vl (F6 a c b.2 1))) fun(i,f,e,d) =>
 some (((h,g),min i f,max e d))
def Dj(a:C4)(d:p5)(b:Int)(c:u3):Option (u3×u3) :=
 gd ((L8 a d b c.1 0).isSome/\(L8 a d b c.2 0).isSome/\(L8 a d b c.1 1).isSome/\(L8 a d b c.2 1).isSome/\True)<|lt ((vl (L8 a d b c.1 0),vl (L8 a d b c.2 0),vl (L8 a d b c.1 1),vl (L8 a d b c.2 1))) fun(h,j,g,i) =>
 gd (ix b a.2.2.1.length/\True)<|lt (a.2.2.1.getD b.toNat (b7 y80)) fun f =>
 if(decide (0 < (a.2.2.2.2.2.length:Int))&&f.2.2.1==2) then
  gd ((Cv a f).isSome/\ix (vl (Cv a f)) a.2.2.2.2.2.length/\True)<|lt (vl (Cv a f)) fun e =>
  gd (c9 (min h j-a.2.2.2.2.2.getD e.toNat 0)/\c9 (max g i+a.2.2.2.2.2.getD e.toNat 0)/\True) <|
  GM a b c (min h j-a.2.2.2.2.2.getD e.toNat 0,max g i+a.2.2.2.2.2.getD e.toNat 0)
 else
  GM a b c (min h j,max g i)
def k57:Ct:=j9 57 [.dat y157.pt,.agg r5,.dat i64,.agg y51] (fun x=>Dj x.1 x.2.1 x.2.2.1 x.2.2.2.1) (fun r:u3×u3=>AV.tup [AV.agg [I r.1.1,I r.1.2],AV.agg [I r.2.1,I r.2.2]]) (fun _=>())
theorem o57:Ok prog k57:=by
 refine k8 [.cell 8 51,.cell 9 51] func57 ?_;intro y ⟨d,m,e,a,_⟩ r H Q hn hr;have:=hz (tc O0Y (tc IG (tc O0Z tn)));refine iA [0,2,5,7,8,9]<|iA [0,2,5,8,9,10,11]<|qD (fun(i,k,f,j)=>Z [p 0 (D y157.pt d),p 2 (J e),p 8 (R 8),p 9 (R 9),p 10 (J a.1),p 11 (J a.2),p 12 (R 12)] [(12,bx 51 [I (min i k),I (max f j)]),(9,bx 51 [I 0,I 0]),(8,bx 51 [I 0,I 0]),(7,K 51 y51 a),(5,K 36 r5 m)]) H fun⟨i,k,f,j⟩ H =>
  jN r (fun((g,h):Int×Int)=>Z [p 0 (D y157.pt d),p 2 (J e),p 8 (R 8),p 9 (R 9),p 10 (J a.1),p 11 (J a.2),p 12 (R 12)] [(12,bx 51 [I g,I h]),(9,bx 51 [I 0,I 0]),(8,bx 51 [I 0,I 0])]) (GM d e a) (fun⟨g,h⟩ H=>?_) (fun _ q t s=>?_)
 ·refine qD (fun(n,l,c,b)=>Z [p 8 (R 8),p 9 (R 9),p 12 (R 12),p 15 (R 15)] [(15,bx 51 [I (min n l),I (max c b)]),(12,bx 51 [I g,I h]),(9,bx 51 [I 0,I 0]),(8,bx 51 [I 0,I 0])]) H fun⟨n,l,c,b⟩ H =>
   iA [8,9] <|
   j0<|hr H
 refine qD (fun o=>Z [p 0 (D y157.pt d),p 2 (J e),p 8 (R 8),p 9 (R 9),p 10 (J a.1),p 11 (J a.2),p 12 (R 12),p 13 (R 13)] [(13,K 80 y80 o),(12,bx 51 [I (min i k),I (max f j)]),(9,bx 51 [I 0,I 0]),(8,bx 51 [I 0,I 0]),(7,K 51 y51 a),(5,K 36 r5 m)]) H fun o H=>iA [0,2,8,9,10,11,12,13,60]<|cD H (fun H=>iD IG [0,2,8,9,10,11,12,14] H fun _ H=>jB [0,2,8,9,10,11,12] H fun H=>q H) fun H=>vK<|q H
def GN(a:List l7):Option Int :=
 some (a.length:Int)
def R0o:Ct:=j9 113 [.dat y80.sl] (fun x=>GN x.1) (fun r:Int=>I r) (fun _=>())
theorem P0b:Ok prog R0o:=by
 refine k8 [.tmp 2] func113 ?_;intro y ⟨_,_⟩ r H Q hn hr;refine iA [0]<|iA [2]<|j0<|hr H
def GO(a:Int)(b:Int):Option Bool :=
 some (decide (100<=a)&&decide (a<=b)&&decide (b<=5000))
def R0p:Ct:=j9 112 [.dat i64,.dat i64] (fun x=>GO x.1 x.2.1) (fun r:Bool=>B r) (fun _=>())
theorem P0c:Ok prog R0p:=by
 refine k8 [.tmp 4] func112 ?_;intro y ⟨_,_,_⟩ r H Q hn hr;refine iA [0,1]<|iA [4]<|j0<|hr H
def LF(a:p5):Option Bool :=
 gd ((Q9 a.1).isSome/\(vl (Q9 a.1)=true/\True->(GO a.2.1 a.2.2.1).isSome)/\((vl (Q9 a.1)&&vl (GO a.2.1 a.2.2.1))=true/\True->(GO a.2.2.2.1 a.2.2.2.2).isSome)/\True) <|
 some (vl (Q9 a.1)&&vl (GO a.2.1 a.2.2.1)&&vl (GO a.2.2.2.1 a.2.2.2.2))
def k54:Ct:=j9 54 [.agg r5] (fun x=>LF x.1) (fun r:Bool=>B r) (fun _=>())
theorem o54:Ok prog k54:=by
 refine k8 [.tmp 2] func54 ?_;intro y ⟨_,_⟩ r H Q hn hr;have:=hz (tc P0c (tc TZ tn));refine iA [1]<|iB [2] H fun H=>j0<|hr H
def G0W(b:List Int):Int->Option (List Int×Int×Int)
 | a =>
 some ((b,(0:Int),a))
def G0V(b:List Int)(d:Int×Int->Option (List Int×Int×Int)):Int×Int->Option (List Int×Int×Int)
 | (a,c) =>
 if(decide (a < (b.length:Int))&&decide (a<64)) then
  gd (c9 (c*(31:Int))/\ix a b.length/\True/\c9 (c*(31:Int)+b.getD a.toNat (0:Int))/\(0:Int) < (2147483647:Int)/\True) <|
  gd (c9 (a+1)/\True) <|
  d ((a+1,(c*31+b.getD a.toNat 0).tmod 2147483647))
 else
  G0W b c
def LG(a:List Int):Option (List Int×Int×Int) :=
 lp (G0V a) (0,12345)
def k27:Ct:=j9 27 [.dat (b8.sl)] (fun x=>LG x.1) (fun r:List Int×Int×Int=>AV.ob 122 [L b8 r.1,I r.2.1,I r.2.2]) (fun _=>())
theorem o27:Ok prog k27:=by
 refine k8 [.tmp 2] func27 ?_;intro y ⟨a,_⟩ r H Q hn hr;refine iA [0]<|iA [0,3]<|jN r (fun(c:Int)=>Z [p 3 (R 7)] [(7,bx 122 [L b8 a,I 0,I c])]) (G0W a) (fun c H=>?_) (fun _ g j i=>?_)
 ·refine iA [2]<|j0<|hr H
 refine iA [0,3,4]<|vB<|lX (fun((d,b):Int×Int)=>Z [p 0 (L b8 a),p 3 (R 7),p 4 (I d)] [(7,bx 122 [L b8 a,I 0,I b])]) (0,12345) H fun _ h f e k ⟨d,b⟩ H=>vQ<|iA [0,3,4,15]<|cD H (fun H=>vK<|fQ<|vQ<|vB<|jB [0,3,4] H fun H=>fK<|fQ<|jB [0,3,4] H fun H=>f H) fun H=>vE<|fE<|e<|fX rfl<|g H
def Cw(a:C4)(b:Int):Option Bool :=
 gd ((Q8 a).isSome/\c9 (vl (Q8 a)-1)/\(A8 b 0 (vl (Q8 a)-1)).isSome/\True) <|
 some (vl (A8 b 0 (vl (Q8 a)-1)))
def k41:Ct:=j9 41 [.dat y157.pt,.dat i64] (fun x=>Cw x.1 x.2.1) (fun r:Bool=>B r) (fun _=>())
theorem o41:Ok prog k41:=by
 refine k8 [.tmp 4] func41 ?_;intro y ⟨_,_,_⟩ r H Q hn hr;have:=hz (tc Ac (tc GB tn));refine iA [0,1]<|iB [4] H fun H=>j0<|hr H
def c8(a:l5)(b:Int):Option (Int×l5) :=
 if(decide (b<=1)) then
  some (((0:Int),a))
 else
  if(decide (a.2.1 < (a.1.length:Int))) then
   gd (ix a.2.1 a.1.length/\True/\True) <|
   gd (c9 (a.2.1+1)/\True) <|
   if(decide (b<=256)) then
    gd (0<b/\True) <|
    some ((Int.tmod (a.1.getD a.2.1.toNat 0) b,a.1,a.2.1+1,a.2.2))
   else
    gd (c9 (a.2.2*(48271:Int))/\c9 (a.2.2*(48271:Int)+a.1.getD a.2.1.toNat (0:Int))/\c9 (a.2.2*(48271:Int)+a.1.getD a.2.1.toNat (0:Int)+(1:Int))/\(0:Int) < (2147483647:Int)/\True)<|lt ((a.2.2*48271+a.1.getD a.2.1.toNat 0+1).tmod 2147483647) fun c =>
    gd (0<b/\True) <|
    some (c.tmod b,a.1,a.2.1+1,c)
  else
   gd (c9 (a.2.2*(48271:Int))/\c9 (a.2.2*(48271:Int)+(11:Int))/\(0:Int) < (2147483647:Int)/\True) <|
   gd ((0:Int) < (7:Int)/\(0:Int)<b/\True) <|
   some (((((a.2.2*48271+11).tmod 2147483647).tdiv 7).tmod b,a.1,a.2.1,(a.2.2*48271+11).tmod 2147483647))
def k60:Ct:=j9 60 [.io 122 m7,.dat i64] (fun x=>c8 x.1 x.2.1) (fun r:Int×l5=>I r.1) (fun r=>r.2)
theorem F4:Ok prog k60:=by
 refine k8 [.tmp 4] func60 ?_;intro y ⟨b,c,_⟩ r H Q hn hr;refine iA [0,1]<|vQ<|iA [0,1,7]<|cD H (fun H=>iA [4]<|j0<|fR<|hr H) fun H=>vK<|fQ<|vQ<|iA [0,1,17]<|cD H (fun H=>?_) (fun H=>?_)
 ·refine iB [0,1,5] H fun H=>iB [0,1,5] H fun H=>vQ<|iA [0,1,5,37]<|cD H (fun H=>iB [4] H fun H=>j0<|fR<|fR<|hr H) fun H=>vK<|fQ<|qD (fun a=>Z [p 0 (R 500000),p 1 (J c)] [(500000,bx 122 [L b8 b.1,I (b.2.1+1),I a])]) H fun a H=>iB [4] H fun H=>j0<|fR<|hr H
 refine vK<|fQ<|iB [0,1] H fun H=>iB [4] H fun H=>j0<|hr H
def II(h:Int×l5):List Int×Int×Int×Int×Int×Int×ByteArray->Option (p5×l5)
 | (d,e,g,f,a,c,b) =>
 some (((b,800+10*h.1,f,a,c),d,e,g))
def LH(c:l5):Option (p5×l5) :=
 gd ((c8 c 3).isSome/\ix (vl (c8 c 3)).1 [ByteArray.mk #[115,108,111,119],ByteArray.mk #[102,97,115,116],ByteArray.mk #[116,121,112]].length/\(vl (c8 c 3)).1.toNat<[ByteArray.mk #[115,108,111,119],ByteArray.mk #[102,97,115,116],ByteArray.mk #[116,121,112]].length/\(c8 (vl (c8 c 3)).2 20).isSome/\c9 (10*(vl (c8 (vl (c8 c 3)).2 20)).1)/\c9 (800+10*(vl (c8 (vl (c8 c 3)).2 20)).1)/\(c8 (vl (c8 (vl (c8 c 3)).2 20)).2 20).isSome/\c9 (10*(vl (c8 (vl (c8 (vl (c8 c 3)).2 20)).2 20)).1)/\c9 (900+10*(vl (c8 (vl (c8 (vl (c8 c 3)).2 20)).2 20)).1)/\True)<|lt ((vl (c8 c 3),vl (c8 (vl (c8 c 3)).2 20),vl (c8 (vl (c8 (vl (c8 c 3)).2 20)).2 20),[ByteArray.mk #[115,108,111,119],ByteArray.mk #[102,97,115,116],ByteArray.mk #[116,121,112]].getD (vl (c8 c 3)).1.toNat (b7 Ty.str),[ByteArray.mk #[115,108,111,119],ByteArray.mk #[102,97,115,116],ByteArray.mk #[116,121,112]])) fun(_,d,b,h,_) =>
 gd ((c8 b.2 60).isSome/\c9 (7*(vl (c8 b.2 60)).1)/\c9 (800+10*d.1+7*(vl (c8 b.2 60)).1)/\True)<|lt (vl (c8 b.2 60)) fun f =>
 gd ((c8 f.2 40).isSome/\c9 (9*(vl (c8 f.2 40)).1)/\c9 (900+10*b.1+9*(vl (c8 f.2 40)).1)/\True)<|lt (vl (c8 f.2 40)) fun g =>
 gd ((c8 g.2 30).isSome/\True)<|lt (vl (c8 g.2 30)) fun a =>
 if(a.1==0) then
  gd (c9 (800+10*d.1-1)/\True) <|
  II d (a.2.1,a.2.2.1,a.2.2.2,800+10*d.1-1,900+10*b.1,900+10*b.1+9*g.1,h)
 else
  if(a.1==1) then
   gd ((c8 a.2 3).isSome/\ix (vl (c8 a.2 3)).1 [99,100,-1].length/\(vl (c8 a.2 3)).1.toNat<[99,100,-1].length/\True)<|lt ((vl (c8 a.2 3),[(99:Int),(100:Int),(-1:Int)].getD (vl (c8 a.2 (3:Int))).1.toNat (0:Int))) fun(i,j) =>
   II d (i.2.1,i.2.2.1,i.2.2.2,800+10*d.1+7*f.1,j,900+10*b.1+9*g.1,h)
  else
   if(a.1==2) then
    gd ((c8 a.2 2).isSome/\c9 (5000+(vl (c8 a.2 2)).1)/\True)<|lt (vl (c8 a.2 2)) fun e =>
    II d (e.2.1,e.2.2.1,e.2.2.2,800+10*d.1+7*f.1,900+10*b.1,5000+e.1,h)
   else
    if(a.1==3) then
     II d (a.2.1,a.2.2.1,a.2.2.2,800+10*d.1+7*f.1,900+10*b.1,900+10*b.1+9*g.1,ByteArray.mk #[])
    else
     II d (a.2.1,a.2.2.1,a.2.2.2,800+10*d.1+7*f.1,900+10*b.1,900+10*b.1+9*g.1,h)
def k59:Ct:=j9 59 [.io 122 m7] (fun x=>LH x.1) (fun r:p5×l5=>AV.agg (Ck r.1.1 r.1.2.1 r.1.2.2.1 r.1.2.2.2.1 r.1.2.2.2.2)) (fun r=>r.2)
theorem o59:Ok prog k59:=by
 refine k8 [.cell 2 36] func59 ?_;intro y ⟨_,_⟩ r H Q hn hr;have:=hz (tc F4 tn);refine iA [0,2]<|qD (fun(q,a,j,k,l)=>Z [p 0 (R 500000),p 2 (R 2),p 3 (R 3)] [(3,bx 36 (Ck k (800+10*a.1) 0 (900+10*j.1) 0)),(500000,K 122 m7 j.2),(4,A 9 Ty.str l 0),(2,bx 36 (Ck (ByteArray.mk #[]) 0 0 0 0))]) H fun⟨q,a,j,k,l⟩ H =>
  iD F4 [0,2,3] H fun s H =>
  iD F4 [0,2,3] H fun o H =>
  jN r (fun((g,e,h,d,b,f,c):List Int×Int×Int×Int×Int×Int×ByteArray)=>Z (G7 []) [(3,bx 36 (Ck c (800+10*a.1) d b f)),(500000,bx 122 (A5 g e h)),(2,bx 36 (Ck (ByteArray.mk #[]) 0 0 0 0))]) (II a) (fun⟨g,e,h,d,b,f,c⟩ H=>?_) (fun _ i u t=>?_)
 ·refine iA [2]<|j0<|hr H
 refine iD F4 [0,2,3,33] H fun _ H=>vB<|iA [0,2,3,33,34]<|cD H (fun H=>jB [2,3] H fun H=>fK<|i H) fun H=>iA [0,2,3,33,40]<|cD H (fun H=>?_) (fun H=>?_)
 ·refine zD (fun(m,n)=>Z (G7 []) [(3,bx 36 (Ck k (800+10*a.1) (800+10*a.1+7*s.1) n (900+10*j.1+9*o.1))),(500000,K 122 m7 m.2),(42,A 2 i64 [99,100,-1] 0),(4,A 9 Ty.str l 0),(2,bx 36 (Ck (ByteArray.mk #[]) 0 0 0 0))]) H fun⟨m,n⟩ H =>
   fK<|i H
 refine iA [0,2,3,33,48]<|cD H (fun H=>jD F4 [2,3] H fun _ H=>fK<|i H) fun H=>iA [2,3,54]<|cD H (fun H=>jA [2,3]<|fK<|i H) fun H=>vK<|fK<|i H
def Uq:List Int×List Int×Int×Int->Option (List Int×l5)
 | (a,b,d,c) =>
 some (a,b,d,c)
def PE(g:List l7):List Int×Int×Int×List Int->Option (List Int×l5)
 | (f,d,e,c) =>
 gd ((c8 (f,d,e) 12).isSome/\True)<|lt (vl (c8 (f,d,e) 12)) fun a =>
 if(a.1==0) then
  gd ((c8 a.2 2).isSome/\c9 ((g.length:Int)*(vl (c8 a.2 2)).1)/\(c.length+[(g.length:Int)*(vl (c8 a.2 2)).1].length<=9223372036854775807/\(c.length+[(g.length:Int)*(vl (c8 a.2 2)).1].length)*8<=140737488355328)/\True)<|lt (vl (c8 a.2 2)) fun b =>
  Uq ((c++[(g.length:Int)*b.1],b.2.1,b.2.2.1,b.2.2.2))
 else
  Uq (c,a.2.1,a.2.2.1,a.2.2.2)
def K0g(g:Int×l5)(h:List l7)(i:Int×List Int×Int×Int×List Int->Option (List Int×l5)):Int×List Int×Int×Int×List Int->Option (List Int×l5)
 | (a,d,c,b,f) =>
 if(decide (a < (h.length:Int))) then
  gd ((f.length+[a].length<=9223372036854775807/\(f.length+[a].length)*8<=140737488355328)/\True) <|
  gd ((c8 (d,c,b) (1+g.1)).isSome/\c9 (1+(vl (c8 (d,c,b) (1+g.1))).1)/\c9 (a+(1+(vl (c8 (d,c,b) (1+g.1))).1))/\True)<|lt (vl (c8 (d,c,b) (1+g.1))) fun e =>
  i ((a+(1+e.1),e.2.1,e.2.2.1,e.2.2.2,f++[a]))
 else
  PE h (d,c,b,f)
def Ur:List Int×List Int×Int×Int->Option (List Int×l5)
 | (b,a,d,c) =>
 some (b,a,d,c)
def PF(d:List l7):List Int×Int×Int×List Int->Option (List Int×l5)
 | (f,g,e,c) =>
 gd ((c8 (f,g,e) 12).isSome/\True)<|lt (vl (c8 (f,g,e) 12)) fun a =>
 if(a.1==0) then
  gd ((c8 a.2 2).isSome/\c9 ((d.length:Int)*(vl (c8 a.2 2)).1)/\(c.length+[(d.length:Int)*(vl (c8 a.2 2)).1].length<=9223372036854775807/\(c.length+[(d.length:Int)*(vl (c8 a.2 2)).1].length)*8<=140737488355328)/\True)<|lt (vl (c8 a.2 2)) fun b =>
  Ur ((c++[(d.length:Int)*b.1],b.2.1,b.2.2.1,b.2.2.2))
 else
  Ur (c,a.2.1,a.2.2.1,a.2.2.2)
def G0q(g:Int×l5)(h:List l7)(i:Int×List Int×Int×Int×List Int->Option (List Int×l5)):Int×List Int×Int×Int×List Int->Option (List Int×l5)
 | (a,d,b,c,f) =>
 if(decide (a < (h.length:Int))) then
  gd ((f.length+[a].length<=9223372036854775807/\(f.length+[a].length)*8<=140737488355328)/\True) <|
  gd ((c8 (d,b,c) (1+g.1)).isSome/\c9 (1+(vl (c8 (d,b,c) (1+g.1))).1)/\c9 (a+(1+(vl (c8 (d,b,c) (1+g.1))).1))/\True)<|lt (vl (c8 (d,b,c) (1+g.1))) fun e =>
  i ((a+(1+e.1),e.2.1,e.2.2.1,e.2.2.2,f++[a]))
 else
  PF h (d,b,c,f)
def IJ(c:l5)(e:j7):Option (List Int×l5) :=
 gd ((Y1 e).isSome/\True)<|if(!vl (Y1 e)) then
  gd (True)<|if(true||false) then
   some ([],c)
  else
   gd ((u32 e).isSome/\True)<|lt (vl (u32 e)) fun j =>
   gd ((c8 c 8).isSome/\c9 (1+(vl (c8 c 8)).1)/\True)<|lt (vl (c8 c 8)) fun f =>
   gd ((c8 f.2 (1+f.1)).isSome/\True)<|lt (vl (c8 f.2 (1+f.1))) fun g =>
   lp (K0g f j) (g.1,g.2.1,g.2.2.1,g.2.2.2,[])
 else
  gd (((c8 c 3).isSome/\True)/\True)<|if(false||decide (0 < (vl (c8 c 3)).1)) then
   lt (vl (c8 c 3)) fun h =>
   some ([],h.2)
  else
   gd ((u32 e).isSome/\True)<|lt ((vl (u32 e),vl (c8 c 3))) fun(i,d) =>
   gd ((c8 d.2 8).isSome/\c9 (1+(vl (c8 d.2 8)).1)/\True)<|lt (vl (c8 d.2 8)) fun a =>
   gd ((c8 a.2 (1+a.1)).isSome/\True)<|lt (vl (c8 a.2 (1+a.1))) fun b =>
   lp (G0q a i) (b.1,b.2.1,b.2.2.1,b.2.2.2,[])
def k62:Ct:=j9 62 [.io 122 m7,.agg l9] (fun x=>IJ x.1 x.2.1) (fun r:List Int×l5=>AV.ow 2 true i64 r.1) (fun r=>r.2)
theorem o62:Ok prog k62:=by
 refine k8 [.tmp 4] func62 ?_;intro y ⟨_,a1,_⟩ r H Q hn hr;have:=hz (tc F4 (tc Cp (tc KQ tn)));refine iA [0,3]<|iA [0,3,5]<|vQ<|vQ<|iG 4 3 [0,3,5,17] [(14,AV.ptr 500000 0),(15,I 0),(16,B false)] H (fun H=>J4 H fun H=>fQ ?_) (fun H=>J4 H fun H=>fQ ?_)
 ·refine cD H (fun H=>iA [4]<|j0<|fR<|hr H) fun H=>vK<|fQ<|iD Cp [0,5,6] H fun V H=>iD F4 [0,5,6,7] H fun v1 H=>jN r (fun((G,E,s,o):List Int×Int×Int×List Int)=>Z [p 0 (R 500000),p 5 (O 9),p 6 (I (V.length:Int))] [(500000,bx 122 (A5 G E s)),(9,A 2 i64 o 0)]) (PE V) (fun⟨G,E,s,o⟩ H=>?_) (fun _ n0 e0 t0=>?_)
  ·refine jN r (fun((x,e,f,z):List Int×List Int×Int×Int)=>Z [p 5 (O 9)] [(9,A 2 i64 x 0),(500000,bx 122 (A5 e f z))]) (Uq) (fun⟨x,e,f,z⟩ H=>?_) (fun _ n2 e2 t2=>?_)
   ·refine iA [4]<|j0<|hr H
   refine iD F4 [0,5,6,43] H fun _ H=>cD H (fun H=>jD F4 [5] H fun _ H=>n2 H) fun H=>vK<|n2 H
  refine iD F4 [0,5,6,7,8] H fun P H=>vB<|lX (fun((Y,v5,W,v7,X):Int×List Int×Int×Int×List Int)=>Z [p 0 (R 500000),p 5 (O 9),p 6 (I (V.length:Int)),p 7 (I (1+v1.1)),p 8 (I Y)] [(500000,bx 122 [L b8 v5,J W,J v7]),(9,A 2 i64 X 0)]) (P.1,P.2.1,P.2.2.1,P.2.2.2,[]) H fun _ g1 b1 e1 t1 ⟨Y,v5,W,v7,X⟩ H=>vQ<|iA [0,5,6,7,8,30]<|cD H (fun H=>vK<|fQ<|vQ<|vB<|jB [0,5,6,7,8] H fun H=>fK<|fQ<|jD F4 [0,5,6,7,8] H fun _ H=>b1 H) fun H=>vE<|fE<|e1<|fX rfl<|n0 H
 refine cD H (fun H=>qC (fun i=>Z [p 4 (O 9)] [(500000,K 122 m7 i.2),(9,A 2 i64 [] 0),(3,K 34 l9 a1)]) H fun i H=>j0<|fR<|hr H) fun H=>vK<|fQ<|qD (fun(a,n)=>Z [p 0 (R 500000),p 5 (O 9),p 6 (I (a.length:Int))] [(20,A 80 y80 a 0),(500000,K 122 m7 n.2),(9,A 2 i64 [] 0),(3,K 34 l9 a1)]) H fun w H=>?_
 obtain⟨a,n⟩:=w;refine iD F4 [0,5,6,7] H fun T H=>jN r (fun((u,t,m,q):List Int×Int×Int×List Int)=>Z [p 0 (R 500000),p 5 (O 9),p 6 (I (a.length:Int))] [(500000,bx 122 (A5 u t m)),(9,A 2 i64 q 0)]) (PF a) (fun⟨u,t,m,q⟩ H=>?_) (fun _ n3 e3 t3=>?_)
 ·refine jN r (fun((g,v,d,h):List Int×List Int×Int×Int)=>Z [p 5 (O 9)] [(9,A 2 i64 g 0),(500000,bx 122 (A5 v d h))]) (Ur) (fun⟨g,v,d,h⟩ H=>?_) (fun _ n5 e5 t5=>?_)
  ·refine iA [4]<|j0<|hr H
  refine iD F4 [0,5,6,43] H fun _ H=>cD H (fun H=>jD F4 [5] H fun _ H=>n5 H) fun H=>vK<|n5 H
 refine iD F4 [0,5,6,7,8] H fun b H=>vB<|lX (fun((F,l,c,k,j):Int×List Int×Int×Int×List Int)=>Z [p 0 (R 500000),p 5 (O 9),p 6 (I (a.length:Int)),p 7 (I (1+T.1)),p 8 (I F)] [(500000,bx 122 (A5 l c k)),(9,A 2 i64 j 0)]) (b.1,b.2.1,b.2.2.1,b.2.2.2,[]) H fun _ g4 b4 e4 t4 ⟨F,l,c,k,j⟩ H=>vQ<|iA [0,5,6,7,8,30]<|cD H (fun H=>vK<|fQ<|vQ<|vB<|jB [0,5,6,7,8] H fun H=>fK<|fQ<|jD F4 [0,5,6,7,8] H fun _ H=>b4 H) fun H=>vE<|fE<|e4<|fX rfl<|n3 H
def A0I:Unit->Option Bool
 | _ =>
 some false
def A0H(c:List Bool)(b:List l7)(d:Int)(e:Int->Option Bool):Int->Option Bool
 | a =>
 if(decide (a < (b.length:Int))) then
  gd (ix a c.length/\(c.getD a.toNat false=true/\True->ix a b.length)/\((c.getD a.toNat false&&(b.getD a.toNat (b7 y80)).1==d)=true/\True->ix a b.length)/\True) <|
  if(c.getD a.toNat false&&(b.getD a.toNat (b7 y80)).1==d&&(b.getD a.toNat (b7 y80)).2.1==d) then
   some true
  else
   gd (c9 (a+1)/\True) <|
   e (a+1)
 else
  A0I ()
def LJ(a:List l7)(b:List Bool)(c:Int):Option Bool :=
 lp (A0H b a c) 0
def Q0s:Ct:=j9 170 [.dat y80.sl,.dat Ty.bool.sl,.dat i64] (fun x=>LJ x.1 x.2.1 x.2.2.1) (fun r:Bool=>B r) (fun _=>())
theorem O0F:Ok prog Q0s:=by
 refine k8 [.tmp 6] func170 ?_;intro y ⟨d,e,f,_⟩ r H Q hn hr;refine iA [0,1,2]<|jN r (fun(_:Unit)=>Z [] []) (A0I) (fun _ H=>?_) (fun _ i k b=>?_)
 ·refine iA [6]<|j0<|hr H
 refine iA [0,1,2,7]<|vB<|lX (fun(a:Int)=>Z [p 0 (L y80 d),p 1 (L Ty.bool e),p 2 (J f),p 7 (I a)] []) 0 H fun _ j g c h a H=>vQ<|iA [0,1,2,7,11]<|cD H (fun H=>?_) (fun H=>?_)
 ·refine vK<|fQ<|vQ<|vB<|iB [0,1,2,7,35] H fun H=>cD H (fun H=>iA [6]<|j0<|l8<|fR<|h<|l8<|b<|hr H) fun H=>vK<|fK<|fQ<|jB [0,1,2,7] H fun H=>g H
 exact vE<|fE<|c<|fX rfl<|i H
def Ut:List Bool->Option (List Bool)
 | a =>
 some a
def Uu(a:Int)(d:Bool×Int×List Bool->Option (List Bool)):List Bool×Bool->Option (List Bool)
 | (c,b) =>
 gd (c9 (a+1)/\True) <|
 d (b,a+1,c)
def PG(b:Int)(a:List Bool)(f:Bool)(e:List Bool)(g:Bool×Int×List Bool->Option (List Bool)):Int×Int->Option (List Bool)
 | (d,c) =>
 gd (ix b e.length/\(e.getD b.toNat false=true/\True->ix d a.length)/\(e.getD b.toNat false=true/\True->d.toNat<a.length)/\((e.getD b.toNat false&&a.getD d.toNat false)=true/\True->ix c a.length)/\((e.getD b.toNat false&&a.getD d.toNat false)=true/\True->c.toNat<a.length)/\True) <|
 if(e.getD b.toNat false&&a.getD d.toNat false&&!a.getD c.toNat false) then
  gd (ix c a.length/\c.toNat<a.length/\True) <|
  Uu b g (a.set c.toNat true,true)
 else
  Uu b g (a,f)
def Uv(f:List Bool)(i:Bool)(e:List l7)(h:Bool×List Bool->Option (List Bool))(g:Bool×Int×List Bool->Option (List Bool)):Bool×Int×List Bool->Option (List Bool)
 | (c,a,d) =>
 if(decide (a < (e.length:Int))) then
  gd (ix a e.length/\ix a e.length/\True)<|lt (e.getD a.toNat (b7 y80)) fun b =>
  if(!i) then
   PG a d c f g (b.2.1,b.1)
  else
   PG a d c f g (b.1,b.2.1)
 else
  h (c,d)
def A0J(e:List Bool)(f:Bool)(d:List l7)(c:Bool×List Bool->Option (List Bool)):Bool×List Bool->Option (List Bool)
 | (b,a) =>
 if b then
  lp (Uv e f d c) (false,0,a)
 else
  Ut a
def Dk(a:Int)(c:List l7)(d:List Bool)(b:Int)(e:Bool):Option (List Bool) :=
 gd ((0<=a/\a=a/\a.toNat*1<=281474976710656/\a<=9223372036854775807)/\True) <|
 gd (ix b (List.replicate a.toNat false).length/\b.toNat < (List.replicate a.toNat false).length/\True) <|
 lp (A0J d e c) ((true,(List.replicate a.toNat false).set b.toNat true))
def Q0t:Ct:=j9 169 [.dat i64,.dat y80.sl,.dat Ty.bool.sl,.dat i64,.dat Ty.bool] (fun x=>Dk x.1 x.2.1 x.2.2.1 x.2.2.2.1 x.2.2.2.2.1) (fun r:List Bool=>AV.ow 4 true Ty.bool r) (fun _=>())
theorem O0G:Ok prog Q0t:=by
 refine k8 [.tmp 10] func169 ?_;intro y ⟨s,m,f,x,l,_⟩ r H Q hn hr;refine iA [0,1,2,3,4]<|iB [1,2,3,4,11] H fun H=>iB [1,2,4,11] H fun H=>jN r (fun(j:List Bool)=>Z [p 11 (O 17)] [(17,A 4 Ty.bool j 0)]) (Ut) (fun j H=>?_) (fun _ z T F=>?_)
 ·refine iA [10]<|j0<|hr H
 refine iA [1,2,4,11,12]<|vB<|lX (fun((i,d):Bool×List Bool)=>Z (Kr m f l i []) [(17,A 4 Ty.bool d 0)]) ((true,(List.replicate s.toNat false).set x.toNat true)) H fun _ E t w V ⟨i,d⟩ H=>vQ<|iA [1,2,4,11,21]<|cD H (fun H=>?_) (fun H=>?_)
 ·refine vK<|fQ<|vB<|iA [1,2,4,11,12]<|iA [1,2,4,11,12,13]<|vB<|lX (fun((b,a,c):Bool×Int×List Bool)=>Z (Kr m f l b [p 13 (I a)]) [(17,A 4 Ty.bool c 0)]) (false,0,d) H fun _ o v u Y ⟨b,a,c⟩ H=>vQ<|iA [1,2,4,11,12,13,25]<|cD H (fun H=>?_) (fun H=>?_)
  ·refine vK<|fQ<|jN r (fun((k,g):List Bool×Bool)=>Z (Kr m f l g [p 13 (I a)]) [(17,A 4 Ty.bool k 0)]) (Uu a o) (fun⟨k,g⟩ H=>?_) (fun _ n3 P X=>?_)
   ·refine jB [1,2,4,11,12,13] H fun H=>v H
   refine vB<|qD (fun e=>Z (Kr m f l b [p 13 (I a),p 14 (J e.1),p 15 (J e.2.1)]) [(17,A 4 Ty.bool c 0)]) H fun e H=>jN r (fun((h,n):Int×Int)=>Z (Kr m f l b [p 13 (I a),p 14 (J h),p 15 (J n)]) [(17,A 4 Ty.bool c 0)]) (PG a c b f o) (fun⟨h,n⟩ H=>?_) (fun _ q G W=>?_)
   ·refine iB [1,2,4,11,12,13,15,58] H fun H=>cD H (fun H=>iB [1,2,4,11,13] H fun H=>jA [1,2,4,11,12,13]<|fK<|n3 H) fun H=>vK<|fK<|n3 H
   refine iA [1,2,4,11,12,13,14,15,39]<|cD H (fun H=>jA [1,2,4,11,12,13,14,15]<|q H) fun H=>vK<|q H
  exact vE<|fE<|u<|fX rfl<|fK<|t H
 exact vE<|fE<|w<|fX rfl<|z H
def B0r:List (List Int)->Option (List (List Int))
 | a =>
 some a
def IK(a:Int)(d:Int×List Bool×List (List Int)->Option (List (List Int))):List Bool×List (List Int)->Option (List (List Int))
 | (b,c) =>
 gd (c9 (a+1)/\True) <|
 d (a+1,b,c)
def LK(c:Int)(b:List (List Int))(f:List l7)(g:List Bool)(e:Int×List Bool×List (List Int)->Option (List (List Int))):List Int×List Bool->Option (List (List Int))
 | (a,d) =>
 gd ((decide (1 < (a.length:Int))=false/\True->(LJ f g c).isSome)/\True) <|
 if(decide (1 < (a.length:Int))||vl (LJ f g c)) then
  gd ((b.length+[a].length<=9223372036854775807/\(b.length+[a].length)*24<=140737488355328)/\True) <|
  IK c e (d,b++[a])
 else
  IK c e (d,b)
def Uw(a:Int)(d:Int×List Int×List Bool->Option (List (List Int))):List Bool×List Int->Option (List (List Int))
 | (c,b) =>
 gd (c9 (a+1)/\True) <|
 d (a+1,b,c)
def Ux(d:List Bool)(e:List Bool)(g:Int)(f:List (List Int))(j:List l7)(k:List Bool)(l:Int)(i:Int×List Bool×List (List Int)->Option (List (List Int)))(h:Int×List Int×List Bool->Option (List (List Int))):Int×List Int×List Bool->Option (List (List Int))
 | (a,b,c) =>
 if(decide (a<l)) then
  gd (ix a d.length/\a.toNat<d.length/\(d.getD a.toNat false=true/\True->ix a e.length)/\(d.getD a.toNat false=true/\True->a.toNat<e.length)/\True) <|
  if(d.getD a.toNat false&&e.getD a.toNat false) then
   gd ((b.length+[a].length<=9223372036854775807/\(b.length+[a].length)*8<=140737488355328)/\True) <|
   gd (ix a c.length/\a.toNat<c.length/\True) <|
   Uw a h (c.set a.toNat true,b++[a])
  else
   Uw a h (c,b)
 else
  LK g f j k i (b,c)
def Uy(e:List l7)(f:List Bool)(d:Int)(i:Int×List Bool×List (List Int)->Option (List (List Int))):Int×List Bool×List (List Int)->Option (List (List Int))
 | (a,b,c) =>
 if(decide (a<d)) then
  gd (ix a b.length/\a.toNat<b.length/\True) <|
  if(b.getD a.toNat false) then
   IK a i (b,c)
  else
   gd ((Dk d e f a true).isSome/\(Dk d e f a false).isSome/\True)<|lt ((vl (Dk d e f a false),vl (Dk d e f a true))) fun(g,h) =>
   lp (Ux h g a c e f d i) (0,[],b)
 else
  B0r c
def GP(a:Int)(b:List l7)(c:List Bool):Option (List (List Int)) :=
 gd ((0<=a/\a=a/\a.toNat*1<=281474976710656/\a<=9223372036854775807)/\True) <|
 lp (Uy b c a) (0,List.replicate a.toNat false,[])
def R0i:Ct:=j9 122 [.dat i64,.dat y80.sl,.dat Ty.bool.sl] (fun x=>GP x.1 x.2.1 x.2.2.1) (fun r:List (List Int)=>AV.ow 37 true i64.sl r) (fun _=>())
theorem M0Q:Ok prog R0i:=by
 refine k8 [.tmp 6] func122 ?_;intro y ⟨j,f,g,_⟩ r H Q hn hr;have:=hz (tc O0F (tc O0G tn));refine iA [0,1,2]<|iA [0,1,2,7]<|iB [0,1,2,7,8] H fun H=>jN r (fun(n:List (List Int))=>Z [p 7 (O 14)] [(14,A 37 i64.sl n 0)]) (B0r) (fun n H=>?_) (fun _ T e0 V=>?_)
 ·refine iA [6]<|j0<|hr H
 refine iA [0,1,2,7,8,9]<|vB<|lX (fun((a,c,b):Int×List Bool×List (List Int))=>Z (As j f g [p 7 (O 14),p 8 (O 16),p 9 (I a)]) (Ik c b)) (0,List.replicate j.toNat false,[]) H fun _ v E F t1 ⟨a,c,b⟩ H=>vQ<|iA [0,1,2,7,8,9,19]<|cD H (fun H=>?_) (fun H=>?_)
 ·refine vK<|fQ<|jN r (fun((l,o):List Bool×List (List Int))=>Z (As j f g [p 7 (O 14),p 8 (O 16),p 9 (I a)]) (Ik l o)) (IK a v) (fun⟨l,o⟩ H=>?_) (fun _ u X Y=>?_)
  ·refine jB [0,1,2,7,8,9] H fun H=>E H
  refine vB<|vQ<|iB [0,1,2,7,8,9,25] H fun H=>cD H (fun H=>vE<|fE<|fX rfl<|u H) fun H=>vK<|fQ<|qD (fun(d,e)=>Z (As j f g [p 7 (O 14),p 8 (O 16),p 9 (I a),p 10 (O 30),p 11 (O 35)]) ((35,A 4 Ty.bool d 0)::(30,A 4 Ty.bool e 0)::Ik c b)) H fun w H=>?_
  obtain⟨d,e⟩:=w;refine iA [0,1,2,7,8,9,10,11,12]<|jN r (fun((h,k):List Int×List Bool)=>Z (As j f g [p 7 (O 14),p 8 (O 16),p 9 (I a),p 12 (O 36)]) ((36,A 2 i64 h 0)::Ik k b)) (LK a b f g v) (fun⟨h,k⟩ H=>?_) (fun _ n3 W t3=>?_)
  ·refine iB [0,1,2,7,8,9,12,67] H fun H=>cD H (fun H=>fZ 36 (Z (As j f g [p 7 (O 14),p 8 (O 16),p 9 (I a),p 12 (M i64 h),p 67 (B (decide (1 < (h.length:Int))||vl (LJ f g a)))]) (Ik k b))<|jB [0,1,2,7,8,9] H fun H=>fK<|u H) fun H=>vK<|fK<|u H
  refine iA [0,1,2,7,8,9,10,11,12,13]<|vB<|lX (fun((i,q,s):Int×List Int×List Bool)=>Z (As j f g [p 7 (O 14),p 8 (O 16),p 9 (I a),p 10 (O 30),p 11 (O 35),p 12 (O 36),p 13 (I i)]) ((36,A 2 i64 q 0)::(35,A 4 Ty.bool d 0)::(30,A 4 Ty.bool e 0)::Ik s b)) (0,[],c) H fun _ G P z t4 ⟨i,q,s⟩ H=>vQ<|iA [0,1,2,7,8,9,10,11,12,13,39]<|cD H (fun H=>?_) (fun H=>?_)
  ·refine vK<|fQ<|jN r (fun((t,m):List Bool×List Int)=>Z (As j f g [p 7 (O 14),p 8 (O 16),p 9 (I a),p 10 (O 30),p 11 (O 35),p 12 (O 36),p 13 (I i)]) [(16,A 4 Ty.bool t 0),(36,A 2 i64 m 0),(35,A 4 Ty.bool d 0),(30,A 4 Ty.bool e 0),(14,A 37 i64.sl b 0)]) (Uw i G) (fun⟨t,m⟩ H=>?_) (fun _ x e5 t5=>?_)
   ·refine jB [0,1,2,7,8,9,10,11,12,13] H fun H=>P H
   refine vB<|iB [0,1,2,7,8,9,10,11,12,13,51] H fun H=>cD H (fun H=>iB [0,1,2,7,8,9,10,11,12,13] H fun H=>jB [0,1,2,7,8,9,10,11,12,13] H fun H=>fK<|x H) fun H=>vK<|fK<|x H
  exact vE<|fE<|z<|fX rfl<|n3 H
 exact vE<|fE<|F<|fX rfl<|T H
def G0p:List Int->Option (List Int)
 | a =>
 some a
def Uz(a:Int)(c:Int×List Int->Option (List Int)):List Int->Option (List Int)
 | b =>
 gd (c9 (a+1)/\True) <|
 c (a+1,b)
def G0m(c:List Bool)(d:Int×List Int->Option (List Int)):Int×List Int->Option (List Int)
 | (a,b) =>
 if(decide (a < (c.length:Int))) then
  gd (ix a c.length/\a.toNat<c.length/\True) <|
  if(!c.getD a.toNat false) then
   gd ((b.length+[a].length<=9223372036854775807/\(b.length+[a].length)*8<=140737488355328)/\True) <|
   Uz a d (b++[a])
  else
   Uz a d b
 else
  G0p b
def LL:List Bool->Option (List Int)
 | a =>
 lp (G0m a) (0,[])
def LM(b:List Bool)(c:List Bool->Option (List Int)):Int->Option (List Int)
 | a =>
 gd (ix a b.length/\a.toNat<b.length/\True) <|
 c (b.set a.toNat false)
def PH(a:Int)(c:Int×Int->Option (List Int)):Int->Option (List Int)
 | b =>
 gd (c9 (a+1)/\True) <|
 c (b,a+1)
def G0n(d:List Bool)(b:List l7)(c:List (List Int))(g:List Bool->Option (List Int))(f:Int×Int->Option (List Int)):Int×Int->Option (List Int)
 | (e,a) =>
 if(decide (a < (b.length:Int))) then
  gd (ix a d.length/\a.toNat<d.length/\(d.getD a.toNat false=true/\True->ix a b.length)/\(d.getD a.toNat false=true/\True->a.toNat<b.length)/\((d.getD a.toNat false&&(b.getD a.toNat (b7 y80)).2.2.1==(1:Int))=true/\True->ix (0:Int) c.length)/\((d.getD a.toNat false&&(b.getD a.toNat (b7 y80)).2.2.1==(1:Int))=true/\True->Int.toNat (0:Int)<c.length)/\((d.getD a.toNat false&&(b.getD a.toNat (b7 y80)).2.2.1==(1:Int))=true/\True->ix a b.length)/\((d.getD a.toNat false&&(b.getD a.toNat (b7 y80)).2.2.1==(1:Int))=true/\True->a.toNat<b.length)/\((d.getD a.toNat false&&(b.getD a.toNat (b7 y80)).2.2.1==(1:Int))=true/\True->(T5 (c.getD (Int.toNat (0:Int)) []) (b.getD a.toNat (b7 y80)).1).isSome)/\((d.getD a.toNat false&&(b.getD a.toNat (b7 y80)).2.2.1==(1:Int)&&vl (T5 (c.getD (Int.toNat (0:Int)) []) (b.getD a.toNat (b7 y80)).1))=true/\True->ix (0:Int) c.length)/\((d.getD a.toNat false&&(b.getD a.toNat (b7 y80)).2.2.1==(1:Int)&&vl (T5 (c.getD (Int.toNat (0:Int)) []) (b.getD a.toNat (b7 y80)).1))=true/\True->Int.toNat (0:Int)<c.length)/\((d.getD a.toNat false&&(b.getD a.toNat (b7 y80)).2.2.1==(1:Int)&&vl (T5 (c.getD (Int.toNat (0:Int)) []) (b.getD a.toNat (b7 y80)).1))=true/\True->ix a b.length)/\((d.getD a.toNat false&&(b.getD a.toNat (b7 y80)).2.2.1==(1:Int)&&vl (T5 (c.getD (Int.toNat (0:Int)) []) (b.getD a.toNat (b7 y80)).1))=true/\True->a.toNat<b.length)/\((d.getD a.toNat false&&(b.getD a.toNat (b7 y80)).2.2.1==(1:Int)&&vl (T5 (c.getD (Int.toNat (0:Int)) []) (b.getD a.toNat (b7 y80)).1))=true/\True->(T5 (c.getD (Int.toNat (0:Int)) []) (b.getD a.toNat (b7 y80)).2.1).isSome)/\True) <|
  if(d.getD a.toNat false&&(b.getD a.toNat (b7 y80)).2.2.1==(1:Int)&&vl (T5 (c.getD (Int.toNat (0:Int)) []) (b.getD a.toNat (b7 y80)).1)&&vl (T5 (c.getD (Int.toNat (0:Int)) []) (b.getD a.toNat (b7 y80)).2.1)) then
   PH a f a
  else
   PH a f e
 else
  LM d g e
def G0o(c:List l7)(d:Int)(e:List Bool->Option (List Int)):List Bool->Option (List Int)
 | b =>
 gd ((GP d c b).isSome/\True)<|lt (vl (GP d c b)) fun a =>
 if((a.length:Int)==0) then
  LL b
 else
  lp (G0n b c a e) (-1,0)
def Fp(a:j7):Option (List Int) :=
 gd ((u32 a).isSome/\True)<|lt (vl (u32 a)) fun b =>
 gd ((AZ b []).isSome/\True)<|lt (vl (AZ b [])) fun d =>
 gd ((X8 a).isSome/\True)<|lt (vl (X8 a)) fun c =>
 lp (G0o b c) d
def k63:Ct:=j9 63 [.agg l9] (fun x=>Fp x.1) (fun r:List Int=>AV.ow 2 true i64 r) (fun _=>())
theorem o63:Ok prog k63:=by
 refine k8 [.tmp 2] func63 ?_;intro y ⟨_,_⟩ r H Q hn hr;have:=hz (tc Zn (tc M0Q (tc It (tc OE (tc Cp tn)))));refine iA [1]<|iD Cp [1,3] H fun m H=>iD OE [1,3,4] H fun v H=>iD It [3,4,5] H fun l H=>jN r (fun(b:List Bool)=>Z [p 4 (O 15)] [(15,A 4 Ty.bool b 0)]) (LL) (fun b H=>?_) (fun _ T e0 V=>?_)
 ·refine iA [4,9]<|jN r (fun(f:List Int)=>Z [p 9 (O 69)] [(69,A 2 i64 f 0)]) (G0p) (fun f H=>?_) (fun _ u e5 t5=>?_)
  ·refine iA [2]<|j0<|hr H
  refine iA [4,9,10]<|vB<|lX (fun((a,j):Int×List Int)=>Z [p 4 (O 15),p 9 (O 69),p 10 (I a)] [(69,A 2 i64 j 0),(15,A 4 Ty.bool b 0)]) (0,[]) H fun _ F x z X ⟨a,j⟩ H=>vQ<|iA [4,9,10,73]<|cD H (fun H=>?_) (fun H=>?_)
  ·refine vK<|fQ<|jN r (fun(h:List Int)=>Z [p 4 (O 15),p 9 (O 69),p 10 (I a)] [(69,A 2 i64 h 0),(15,A 4 Ty.bool b 0)]) (Uz a F) (fun h H=>?_) (fun _ o e7 Y=>?_)
   ·refine jB [4,9,10] H fun H=>x H
   refine vB<|iB [4,9,10,80] H fun H=>cD H (fun H=>jB [4,9,10] H fun H=>fK<|o H) fun H=>vK<|fK<|o H
  exact vE<|fE<|z<|fX rfl<|u H
 refine vB<|lX (fun(d:List Bool)=>Z [p 3 (O 12),p 4 (O 15),p 5 (I l)] [(15,A 4 Ty.bool d 0),(12,A 80 y80 m 0)]) v H fun _ q t w t1 d H=>vB<|iD M0Q [3,4,5,6] H fun k H=>vQ<|iA [3,4,5,6,24]<|cD H (fun H=>vE<|fE<|n0l rfl<|w<|fX rfl<|T H) fun H=>vK<|fQ<|iA [3,4,5,6,7]<|jN r (fun(e:Int)=>Z [p 3 (O 12),p 4 (O 15),p 5 (I l),p 7 (I e)] [(15,A 4 Ty.bool d 0),(12,A 80 y80 m 0)]) (LM d q) (fun e H=>?_) (fun _ P e2 t2=>?_)
 ·refine jB [3,4,5] H fun H=>fK<|t H
 refine iA [3,4,5,6,7,8]<|vB<|lX (fun((i,c):Int×Int)=>Z [p 3 (O 12),p 4 (O 15),p 5 (I l),p 6 (O 21),p 7 (I i),p 8 (I c)] [(21,A 37 i64.sl k 0),(15,A 4 Ty.bool d 0),(12,A 80 y80 m 0)]) (-1,0) H fun _ G E s t3 ⟨i,c⟩ H=>vQ<|iA [3,4,5,6,7,8,28]<|cD H (fun H=>?_) (fun H=>?_)
 ·refine vK<|fQ<|jN r (fun(g:Int)=>Z [p 3 (O 12),p 4 (O 15),p 5 (I l),p 6 (O 21),p 7 (I g),p 8 (I c)] [(21,A 37 i64.sl k 0),(15,A 4 Ty.bool d 0),(12,A 80 y80 m 0)]) (PH c G) (fun g H=>?_) (fun _ n W t4=>?_)
  ·refine jB [3,4,5,6,7,8] H fun H=>E H
  refine vB<|iB [3,4,5,6,7,8,64] H fun H=>cD H (fun H=>jA [3,4,5,6,7,8]<|fK<|n H) fun H=>vK<|fK<|n H
 exact vE<|fE<|s<|fX rfl<|P H
def IL(a:C4)(b:List Int):Option Bool :=
 gd ((GN a.2.2.1).isSome/\c9 (vl (GN a.2.2.1)-1)/\(I3 b 0 (vl (GN a.2.2.1)-1)).isSome/\(vl (I3 b 0 (vl (GN a.2.2.1)-1))=true/\True->(Cu b).isSome)/\True) <|
 some (vl (I3 b 0 (vl (GN a.2.2.1)-1))&&vl (Cu b))
def k65:Ct:=j9 65 [.dat y157.pt,.dat i64.sl] (fun x=>IL x.1 x.2.1) (fun r:Bool=>B r) (fun _=>())
theorem o65:Ok prog k65:=by
 refine k8 [.tmp 4] func65 ?_;intro y ⟨_,_,_⟩ r H Q hn hr;have:=hz (tc M0P (tc Lk (tc P0b tn)));refine iA [0,1]<|iB [4] H fun H=>j0<|hr H
def G0j:Unit->Option Bool
 | _ =>
 some true
def G0i(c:C4)(d:List m6)(e:Int->Option Bool):Int->Option Bool
 | b =>
 if(decide (b < (d.length:Int))) then
  gd (ix b d.length/\True)<|lt (d.getD b.toNat (b7 y53)) fun a =>
  gd ((Cw c a.1).isSome/\((!vl (Cw c a.1))=false/\True->(M4 a.2.1).isSome)/\((!vl (Cw c a.1)||!vl (M4 a.2.1))=false/\True->(Ba a.2.2).isSome)/\(decide (0<b)=true/\(!vl (Cw c a.1)||!vl (M4 a.2.1)||!vl (Ba a.2.2))=false/\True->c9 (b-1))/\(decide (0<b)=true/\(!vl (Cw c a.1)||!vl (M4 a.2.1)||!vl (Ba a.2.2))=false/\True->ix (b-1) d.length)/\True) <|
  if(!vl (Cw c a.1)||!vl (M4 a.2.1)||!vl (Ba a.2.2)||decide (0<b)&&decide (a.1<=(d.getD (b-1).toNat (b7 y53)).1)) then
   some false
  else
   gd (c9 (b+1)/\True) <|
   e (b+1)
 else
  G0j ()
def LN(a:C4)(b:List m6):Option Bool :=
 lp (G0i a b) 0
def k66:Ct:=j9 66 [.dat y157.pt,.dat y53.sl] (fun x=>LN x.1 x.2.1) (fun r:Bool=>B r) (fun _=>())
theorem o66:Ok prog k66:=by
 refine k8 [.tmp 4] func66 ?_;intro y ⟨d,a,_⟩ r H Q hn hr;have:=hz (tc o56 (tc OX (tc o41 tn)));refine iA [0,1]<|jN r (fun(_:Unit)=>Z [] []) (G0j) (fun _ H=>?_) (fun _ i k e=>?_)
 ·refine iA [4]<|j0<|hr H
 refine iA [0,1,7,8,9]<|vB<|lX (fun(b:Int)=>Z [p 0 (D y157.pt d),p 1 (L y53 a),p 7 (L y53 a),p 8 (I (a.length:Int)),p 9 (I b)] []) 0 H fun _ j g f h b H=>iA [0,1,7,8,9,10]<|vQ<|cD H (fun H=>?_) (fun H=>?_)
 ·refine vK<|fQ<|vQ<|vB<|qD (fun c=>Z [p 0 (D y157.pt d),p 1 (L y53 a),p 5 (I b),p 6 (R 6),p 7 (L y53 a),p 8 (I (a.length:Int)),p 9 (I b)] [(6,K 53 y53 c)]) H fun c H=>iB [0,1,7,8,9,45] H fun H=>cD H (fun H=>iA [4]<|j0<|l8<|fR<|h<|l8<|e<|hr H) fun H=>vK<|fK<|fQ<|jB [0,1,7,8,9] H fun H=>g H
 exact vE<|fE<|f<|fX rfl<|i H
def G0h(a:C4):List Bool->Option H9
 | b =>
 some (a,b)
def G0f(b:List Int)(e:C4)(d:Int×List Bool->Option H9):Int×List Bool->Option H9
 | (a,c) =>
 if(decide (a < (b.length:Int))) then
  gd (ix a b.length/\True) <|
  gd (ix (b.getD a.toNat 0) c.length/\Int.toNat (b.getD a.toNat 0)<c.length/\True) <|
  gd (c9 (a+1)/\True) <|
  d ((a+1,c.set (Int.toNat (b.getD a.toNat 0)) false))
 else
  G0h e c
def LO(b:List Int)(a:C4):List Bool->Option H9
 | c =>
 lp (G0f b a) (0,c)
def G0g(e:List Int)(d:C4)(f:Int)(c:Int×List Bool->Option H9):Int×List Bool->Option H9
 | (a,b) =>
 if(decide (a<f)) then
  gd (ix a b.length/\a.toNat<b.length/\True) <|
  gd (c9 (a+1)/\True) <|
  c (a+1,b.set a.toNat true)
 else
  LO e d b
def LP(a:C4)(c:List Int):Option H9 :=
 gd ((0<=(a.2.2.1.length:Int)/\(a.2.2.1.length:Int)=(a.2.2.1.length:Int)/\(a.2.2.1.length:Int).toNat*1<=281474976710656/\(a.2.2.1.length:Int)<=9223372036854775807)/\True) <|
 lt ((↑(List.replicate (a.2.2.1.length:Int).toNat false).length:Int)) fun b =>
 lp (G0g c a b) ((0,List.replicate (a.2.2.1.length:Int).toNat false))
def k67:Ct:=j9 67 [.dat y157.pt,.dat i64.sl] (fun x=>LP x.1 x.2.1) (fun r:H9=>D y104.pt r) (fun _=>())
theorem o67:Ok prog k67:=by
 refine k8 [.tmp 4] func67 ?_;intro y ⟨a,b,_⟩ r H Q hn hr;refine iA [0,1]<|iB [1,5] H fun H=>jN r (fun(c:List Bool)=>Z [p 1 (L i64 b),p 5 (R 17)] (Kn a c)) (LO b a) (fun c H=>?_) (fun _ o u s=>?_)
 ·refine jN r (fun(e:List Bool)=>Z [p 5 (R 17)] (Kn a e)) (G0h a) (fun e H=>?_) (fun _ n t z=>?_)
  ·refine iA [4]<|j0<|hr H
  refine iA [5,33,34,35]<|vB<|lX (fun((f,h):Int×List Bool)=>Z [p 5 (R 17),p 33 (L i64 b),p 34 (I (b.length:Int)),p 35 (I f)] (Kn a h)) (0,c) H fun _ v m j w ⟨f,h⟩ H=>iA [5,33,34,35,36]<|vQ<|cD H (fun H=>vK<|fQ<|vQ<|vB<|iB [5,8,33,34,35] H fun H=>jB [5,33,34,35] H fun H=>fK<|fQ<|jB [5,33,34,35] H fun H=>m H) fun H=>vE<|fE<|j<|fX rfl<|n H
 refine qC (fun d=>Z [p 1 (L i64 b),p 5 (R 17),p 22 (I d),p 23 (I 0)] (Kn a (List.replicate (a.2.2.1.length:Int).toNat false))) H fun d H=>vB<|lX (fun((i,g):Int×List Bool)=>Z [p 1 (L i64 b),p 5 (R 17),p 22 (I d),p 23 (I i)] (Kn a g)) ((0,List.replicate (a.2.2.1.length:Int).toNat false)) H fun _ q k l x ⟨i,g⟩ H=>iA [1,5,22,23,24]<|vQ<|cD H (fun H=>vK<|fQ<|vQ<|vB<|iA [1,5,6,22,23]<|jB [1,5,22,23] H fun H=>fK<|fQ<|jB [1,5,22,23] H fun H=>k H) fun H=>vE<|fE<|l<|fX rfl<|o H
def UA(a:l7)(b:Int):Option Bool :=
 some (a.1==b)
def Q0q:Ct:=j9 173 [.agg y80,.dat (.pt i64)] (fun x=>UA x.1 x.2.1) (fun r:Bool=>B r) (fun _=>())
theorem M0A:Ok prog Q0q:=by
 refine k8 [.tmp 3] func173 ?_;intro y ⟨_,_,_⟩ r H Q hn hr;refine iA [1,2]<|iA [3]<|j0<|hr H
def j0T:List Int->Option (List Int)
 | a =>
 some a
def UB(a:Int)(b:List Int×Int->Option (List Int)):List Int->Option (List Int)
 | c =>
 gd (c9 (a+1)/\True) <|
 b (c,a+1)
def j0S(b:H9)(e:Int)(d:List Int×Int->Option (List Int)):List Int×Int->Option (List Int)
 | (c,a) =>
 if(decide (a < (b.1.2.2.1.length:Int))) then
  gd (ix a b.1.2.2.1.length/\True)<|lt (b.1.2.2.1.getD a.toNat (b7 y80)) fun f =>
  gd (ix a b.2.length/\(b.2.getD a.toNat false=true/\True->(UA f e).isSome)/\True) <|
  if(b.2.getD a.toNat false&&vl (UA f e)) then
   gd ((c.length+[a].length<=9223372036854775807/\(c.length+[a].length)*8<=140737488355328)/\True) <|
   UB a d (c++[a])
  else
   UB a d c
 else
  j0T c
def PI(a:H9)(b:Int):Option (List Int) :=
 lp (j0S a b) ([],0)
def z0k:Ct:=j9 125 [.dat y104.pt,.fn 173 (.pt i64)] (fun x=>PI x.1 x.2.1) (fun r:List Int=>AV.ow 2 true i64 r) (fun _=>())
theorem PJ:Ok prog z0k:=by
 refine k8 [.tmp 4] func125 ?_;intro y ⟨a,d,_⟩ r H Q hn hr;have:=hz (tc M0A tn);refine iA [0,1]<|iA [0,1,5]<|jN r (fun(e:List Int)=>Z [p 5 (O 36)] [(36,A 2 i64 e 0)]) (j0T) (fun e H=>?_) (fun _ l n m=>?_)
 ·refine iA [4]<|j0<|hr H
 refine iA [0,1,5,14,15,16]<|vB<|lX (fun((c,b):List Int×Int)=>Z [p 0 (D y104.pt a),p 1 (AV.fn 173 [D i64.pt d]),p 5 (O 36),p 14 (L y80 a.1.2.2.1),p 15 (I (a.1.2.2.1.length:Int)),p 16 (I b)] [(36,A 2 i64 c 0)]) ([],0) H fun _ i k j q ⟨c,b⟩ H=>iA [0,1,5,14,15,16,17]<|vQ<|cD H (fun H=>?_) (fun H=>?_)
 ·refine vK<|fQ<|jN r (fun(f:List Int)=>Z [p 0 (D y104.pt a),p 1 (AV.fn 173 [D i64.pt d]),p 5 (O 36),p 14 (L y80 a.1.2.2.1),p 15 (I (a.1.2.2.1.length:Int)),p 16 (I b)] [(36,A 2 i64 f 0)]) (UB b i) (fun f H=>?_) (fun _ g o s=>?_)
  ·refine jB [0,1,5,14,15,16] H fun H=>k H
  refine vB<|qD (fun h=>Z [p 0 (D y104.pt a),p 1 (AV.fn 173 [D i64.pt d]),p 5 (O 36),p 6 (I b),p 7 (R 7),p 14 (L y80 a.1.2.2.1),p 15 (I (a.1.2.2.1.length:Int)),p 16 (I b)] [(7,K 80 y80 h),(36,A 2 i64 c 0)]) H fun h H=>iB [0,1,5,6,14,15,16,32] H fun H=>cD H (fun H=>jB [0,1,5,14,15,16] H fun H=>fK<|g H) fun H=>vK<|fK<|g H
 exact vE<|fE<|j<|fX rfl<|l H
def GQ(a:H9)(b:Int):Option (List Int) :=
 gd ((PI a b).isSome/\True)<|lt (vl (PI a b)) fun c =>
 some c
def R0d:Ct:=j9 128 [.dat y104.pt,.dat i64] (fun x=>GQ x.1 x.2.1) (fun r:List Int=>AV.ow 2 true i64 r) (fun _=>())
theorem M0M:Ok prog R0d:=by
 refine k8 [.tmp 4] func128 ?_;intro y ⟨_,_,_⟩ r H Q hn hr;have:=hz (tc PJ (tc M0A tn));refine iA [0,3]<|iD PJ [4] H fun _ H=>j0<|hr H
def B0o:Unit->Option Int
 | _ =>
 some (-1)
def B0n(d:Int)(b:List Int)(c:Int->Option Int):Int->Option Int
 | a =>
 if(decide (a < (b.length:Int))) then
  gd (ix a b.length/\True) <|
  if(d==b.getD a.toNat 0) then
   some a
  else
   gd (c9 (a+1)/\True) <|
   c (a+1)
 else
  B0o ()
def PK(a:List Int)(b:Int):Option Int :=
 lp (B0n b a) 0
def R0e:Ct:=j9 127 [.dat i64.sl,.dat i64] (fun x=>PK x.1 x.2.1) (fun r:Int=>I r) (fun _=>())
theorem M0N:Ok prog R0e:=by
 refine k8 [.tmp 4] func127 ?_;intro y ⟨a,e,_⟩ r H Q hn hr;refine iA [0,1]<|jN r (fun(_:Unit)=>Z [] []) (B0o) (fun _ H=>?_) (fun _ h j c=>?_)
 ·refine iA [4]<|j0<|hr H
 refine iA [0,1,7,8]<|vB<|lX (fun(b:Int)=>Z [p 0 (L i64 a),p 1 (J e),p 7 (I (a.length:Int)),p 8 (I b)] []) 0 H fun _ i f d g b H=>iA [0,1,7,8,9]<|vQ<|cD H (fun H=>?_) (fun H=>?_)
 ·refine vK<|fQ<|vQ<|vB<|iA [0,1,5,7,8]<|iB [0,1,5,7,8,16] H fun H=>cD H (fun H=>iA [4]<|j0<|l8<|fR<|g<|l8<|c<|hr H) fun H=>vK<|fK<|fQ<|jB [0,1,7,8] H fun H=>f H
 exact vE<|fE<|d<|fX rfl<|h H
def UC(a:l7):Option Bool :=
 some true
def R0f:Ct:=j9 126 [.agg y80] (fun x=>UC x.1) (fun r:Bool=>B r) (fun _=>())
theorem M0O:Ok prog R0f:=by
 refine k8 [.tmp 2] func126 ?_;intro y ⟨_,_⟩ r H Q hn hr;refine iA []<|iA [2]<|j0<|hr H
def j0X:List Int->Option (List Int)
 | a =>
 some a
def UD(a:Int)(b:List Int×Int->Option (List Int)):List Int->Option (List Int)
 | c =>
 gd (c9 (a+1)/\True) <|
 b (c,a+1)
def j0W(b:H9)(d:List Int×Int->Option (List Int)):List Int×Int->Option (List Int)
 | (c,a) =>
 if(decide (a < (b.1.2.2.1.length:Int))) then
  gd (ix a b.1.2.2.1.length/\True)<|lt (b.1.2.2.1.getD a.toNat (b7 y80)) fun e =>
  gd (ix a b.2.length/\(b.2.getD a.toNat false=true/\True->(UC e).isSome)/\True) <|
  if(b.2.getD a.toNat false&&vl (UC e)) then
   gd ((c.length+[a].length<=9223372036854775807/\(c.length+[a].length)*8<=140737488355328)/\True) <|
   UD a d (c++[a])
  else
   UD a d c
 else
  j0X c
def PL(a:H9):Option (List Int) :=
 lp (j0W a) ([],0)
def z0m:Ct:=j9 125 [.dat y104.pt,.nof 126] (fun x=>PL x.1) (fun r:List Int=>AV.ow 2 true i64 r) (fun _=>())
theorem UE:Ok prog z0m:=by
 refine k8 [.tmp 4] func125 ?_;intro y ⟨a,_,_⟩ r H Q hn hr;have:=hz (tc M0O tn);refine iA [0,1]<|iA [0,1,5]<|jN r (fun(d:List Int)=>Z [p 5 (O 36)] [(36,A 2 i64 d 0)]) (j0X) (fun d H=>?_) (fun _ k m l=>?_)
 ·refine iA [4]<|j0<|hr H
 refine iA [0,1,5,14,15,16]<|vB<|lX (fun((c,b):List Int×Int)=>Z [p 0 (D y104.pt a),p 1 (AV.fn 126 []),p 5 (O 36),p 14 (L y80 a.1.2.2.1),p 15 (I (a.1.2.2.1.length:Int)),p 16 (I b)] [(36,A 2 i64 c 0)]) ([],0) H fun _ h j i o ⟨c,b⟩ H=>iA [0,1,5,14,15,16,17]<|vQ<|cD H (fun H=>?_) (fun H=>?_)
 ·refine vK<|fQ<|jN r (fun(e:List Int)=>Z [p 0 (D y104.pt a),p 1 (AV.fn 126 []),p 5 (O 36),p 14 (L y80 a.1.2.2.1),p 15 (I (a.1.2.2.1.length:Int)),p 16 (I b)] [(36,A 2 i64 e 0)]) (UD b h) (fun e H=>?_) (fun _ f n q=>?_)
  ·refine jB [0,1,5,14,15,16] H fun H=>j H
  refine vB<|qD (fun g=>Z [p 0 (D y104.pt a),p 1 (AV.fn 126 []),p 5 (O 36),p 6 (I b),p 7 (R 7),p 14 (L y80 a.1.2.2.1),p 15 (I (a.1.2.2.1.length:Int)),p 16 (I b)] [(7,K 80 y80 g),(36,A 2 i64 c 0)]) H fun g H=>iB [0,1,5,6,14,15,16,32] H fun H=>cD H (fun H=>jB [0,1,5,14,15,16] H fun H=>fK<|f H) fun H=>vK<|fK<|f H
 exact vE<|fE<|i<|fX rfl<|k H
def G0e:List Int->Option (List Int×Bool)
 | a =>
 some (a,true)
def PM(a:Int)(d:List Int×Int×List Int->Option (List Int×Bool)):List Int×List Int->Option (List Int×Bool)
 | (b,c) =>
 gd (c9 (a+1)/\True) <|
 d (b,a+1,c)
def PN(d:H9)(b:List Int)(f:Int)(e:List Int)(h:Int)(i:List Int×Int×List Int->Option (List Int×Bool))(j:Int×List Int->Option (List Int×Bool)):Int×List Int->Option (List Int×Bool)
 | (a,c) =>
 if(decide (a < (b.length:Int))) then
  gd (ix a b.length/\a.toNat<b.length/\True) <|
  gd (ix (b.getD a.toNat 0) d.1.2.2.1.length/\ix (d.1.2.2.1.getD (Int.toNat (b.getD a.toNat 0)) (b7 y80)).2.1 c.length/\(d.1.2.2.1.getD (Int.toNat (b.getD a.toNat 0)) (b7 y80)).2.1.toNat<c.length/\c9 (c.getD (d.1.2.2.1.getD (Int.toNat (b.getD a.toNat 0)) (b7 y80)).2.1.toNat 0-1)/\ix (d.1.2.2.1.getD (Int.toNat (b.getD a.toNat 0)) (b7 y80)).2.1 c.length/\(d.1.2.2.1.getD (Int.toNat (b.getD a.toNat 0)) (b7 y80)).2.1.toNat<c.length/\True)<|lt (c.set (d.1.2.2.1.getD (Int.toNat (b.getD a.toNat 0)) (b7 y80)).2.1.toNat (c.getD (d.1.2.2.1.getD (Int.toNat (b.getD a.toNat 0)) (b7 y80)).2.1.toNat 0-1)) fun g =>
  gd (c9 (a+1)/\True) <|
  j (a+1,g)
 else
  PM f i (e++[h],c)
def G0d(e:H9)(h:List Int)(g:List Int×Int×List Int->Option (List Int×Bool)):List Int×Int×List Int->Option (List Int×Bool)
 | (c,d,b) =>
 if(decide (d < (h.length:Int))) then
  gd ((PK b 0).isSome/\True)<|lt (vl (PK b 0)) fun a =>
  if(decide (a<0)) then
   some ([],false)
  else
   gd (ix a b.length/\a.toNat<b.length/\True) <|
   gd ((c.length+[a].length<=9223372036854775807/\(c.length+[a].length)*8<=140737488355328)/\True) <|
   gd ((GQ e a).isSome/\True)<|lt (vl (GQ e a)) fun f =>
   lp (PN e f d c a g) ((0,b.set a.toNat (-1)))
 else
  G0e c
def LQ(b:H9):List Int->Option (List Int×Bool)
 | a =>
 lp (G0d b a) ([],0,a)
def UG(c:H9)(b:List Int)(e:Int×List Int->Option (List Int×Bool)):Int×List Int->Option (List Int×Bool)
 | (a,d) =>
 if(decide (a < (b.length:Int))) then
  gd (ix a b.length/\a.toNat<b.length/\True) <|
  gd (ix (b.getD a.toNat 0) c.1.2.2.1.length/\ix (c.1.2.2.1.getD (Int.toNat (b.getD a.toNat 0)) (b7 y80)).2.1 d.length/\(c.1.2.2.1.getD (Int.toNat (b.getD a.toNat 0)) (b7 y80)).2.1.toNat<d.length/\c9 (d.getD (c.1.2.2.1.getD (Int.toNat (b.getD a.toNat 0)) (b7 y80)).2.1.toNat 0+1)/\ix (c.1.2.2.1.getD (Int.toNat (b.getD a.toNat 0)) (b7 y80)).2.1 d.length/\(c.1.2.2.1.getD (Int.toNat (b.getD a.toNat 0)) (b7 y80)).2.1.toNat<d.length/\True)<|lt (d.set (c.1.2.2.1.getD (Int.toNat (b.getD a.toNat 0)) (b7 y80)).2.1.toNat (d.getD (c.1.2.2.1.getD (Int.toNat (b.getD a.toNat 0)) (b7 y80)).2.1.toNat 0+1)) fun f =>
  gd (c9 (a+1)/\True) <|
  e (a+1,f)
 else
  LQ c d
def LR(a:H9):Option (List Int×Bool) :=
 gd ((Q8 a.1).isSome/\(0<=vl (Q8 a.1)/\vl (Q8 a.1)=vl (Q8 a.1)/\(vl (Q8 a.1)).toNat*8<=281474976710656/\vl (Q8 a.1)<=9223372036854775807)/\True)<|lt (vl (Q8 a.1)) fun b =>
 gd ((PL a).isSome/\True)<|lt (vl (PL a)) fun c =>
 lp (UG a c) (0,List.replicate b.toNat 0)
def k68:Ct:=j9 68 [.dat y104.pt] (fun x=>LR x.1) (fun r:List Int×Bool=>AV.tup [AV.ow 2 true i64 r.1,B r.2]) (fun _=>())
theorem o68:Ok prog k68:=by
 refine k8 [.tmp 2,.tmp 3] func68 ?_;intro y ⟨d,_⟩ r H Q hn hr;have:=hz (tc M0M (tc M0N (tc M0O (tc PJ (tc UE (tc GB tn))))));refine iA [0]<|iD GB [0,4] H fun P H=>jN r (fun(f:List Int)=>Z [p 0 (D y104.pt d),p 4 (O 16)] [(16,A 3 i64 f 0)]) (LQ d) (fun f H=>?_) (fun _ X e0 t0=>?_)
 ·refine iA [0,4,7]<|jN r (fun(i:List Int)=>Z [p 7 (O 55)] [(55,A 2 i64 i 0)]) (G0e) (fun i H=>?_) (fun _ T e2 v=>?_)
  ·refine iA [2,3]<|j0<|hr H
  refine iA [0,4,7,42,43]<|vB<|lX (fun((b,a,e):List Int×Int×List Int)=>Z [p 0 (D y104.pt d),p 4 (O 16),p 7 (O 55),p 42 (I (f.length:Int)),p 43 (I a)] [(16,A 3 i64 e 0),(55,A 2 i64 b 0)]) ([],0,f) H fun _ F z t V ⟨b,a,e⟩ H=>iA [0,4,7,42,43,44]<|vQ<|cD H (fun H=>?_) (fun H=>?_)
  ·refine vK<|fQ<|jN r (fun((m,j):List Int×List Int)=>Z [p 0 (D y104.pt d),p 4 (O 16),p 7 (O 55),p 42 (I (f.length:Int)),p 43 (I a)] [(55,A 2 i64 m 0),(16,A 3 i64 j 0)]) (PM a F) (fun⟨m,j⟩ H=>?_) (fun _ E e4 G=>?_)
   ·refine jB [0,4,7,42,43] H fun H=>z H
   refine vB<|iD M0N [0,4,7,8,42,43] H fun g H=>vQ<|iA [0,4,7,8,42,43,48]<|cD H (fun H=>iA [2,3]<|j0<|fR<|l8<|G<|V<|l8<|v<|hr H) fun H=>vK<|fQ<|iB [0,4,7,8,42,43] H fun H=>iB [0,4,7,8,42,43] H fun H=>iD M0M [0,4,7,42,43,58,59,60] H fun c H=>vB<|lX (fun((h,k):Int×List Int)=>Z [p 0 (D y104.pt d),p 4 (O 16),p 7 (O 55),p 42 (I (f.length:Int)),p 43 (I a),p 58 (O 58),p 59 (I (c.length:Int)),p 60 (I h)] [(58,A 2 i64 c 0),(55,A 2 i64 (b++[g]) 0),(16,A 3 i64 k 0)]) ((0,e.set g.toNat (-1))) H fun _ g5 x W t5 ⟨h,k⟩ H=>iA [0,4,7,42,43,58,59,60,61]<|vQ<|cD H (fun H=>vK<|fQ<|vQ<|vB<|iB [0,4,7,10,42,43,58,59,60] H fun H=>zD (fun l=>Z [p 0 (D y104.pt d),p 4 (O 16),p 7 (O 55),p 42 (I (f.length:Int)),p 43 (I a),p 58 (O 58),p 59 (I (c.length:Int)),p 60 (I h)] [(16,A 3 i64 l 0),(58,A 2 i64 c 0),(55,A 2 i64 (b++[g]) 0)]) H fun l H=>fK<|fQ<|jB [0,4,7,42,43,58,59,60] H fun H=>x H) fun H=>vE<|fE<|W<|fX rfl<|fK<|E H
  exact vE<|fE<|t<|fX rfl<|T H
 refine iD UE [0,4,18,19,20] H fun n H=>vB<|lX (fun((o,q):Int×List Int)=>Z [p 0 (D y104.pt d),p 4 (O 16),p 18 (O 18),p 19 (I (n.length:Int)),p 20 (I o)] [(18,A 2 i64 n 0),(16,A 3 i64 q 0)]) (0,List.replicate P.toNat 0) H fun _ Y u w t1 ⟨o,q⟩ H=>iA [0,4,18,19,20,21]<|vQ<|cD H (fun H=>vK<|fQ<|vQ<|vB<|iB [0,4,6,18,19,20] H fun H=>zD (fun s=>Z [p 0 (D y104.pt d),p 4 (O 16),p 18 (O 18),p 19 (I (n.length:Int)),p 20 (I o)] [(16,A 3 i64 s 0),(18,A 2 i64 n 0)]) H fun s H=>fK<|fQ<|jB [0,4,18,19,20] H fun H=>u H) fun H=>vE<|fE<|w<|fX rfl<|X H
def LS(b:C4):Option B7 :=
 gd ((Q8 b).isSome/\True)<|lt (vl (Q8 b)) fun a =>
 gd ((0<=a/\a=a/\a.toNat*1<=281474976710656/\a<=9223372036854775807)/\(0<=a/\a=a/\a.toNat*16<=281474976710656/\a<=9223372036854775807)/\(0<=a/\a=a/\a.toNat*16<=281474976710656/\a<=9223372036854775807)/\True) <|
 some ((List.replicate a.toNat false,List.replicate a.toNat ((0:Int),(0:Int)),List.replicate a.toNat ((0:Int),(0:Int))))
def k69:Ct:=j9 69 [.dat y157.pt] (fun x=>LS x.1) (fun r:B7=>AV.agg [AV.ow 4 true Ty.bool r.1,AV.ow 51 true y51 r.2.1,AV.ow 51 true y51 r.2.2]) (fun _=>())
theorem o69:Ok prog k69:=by
 refine k8 [.cell 2 44] func69 ?_;intro y ⟨_,_⟩ r H Q hn hr;have:=hz (tc GB tn);refine iA [0,2]<|iD GB [2,3] H fun _ H=>iB [2] H fun H=>j0<|hr H
def UH(a:m6)(b:Int):Option Bool :=
 some (a.1==b)
def Q0J:Ct:=j9 150 [.agg y53,.dat (.pt i64)] (fun x=>UH x.1 x.2.1) (fun r:Bool=>B r) (fun _=>())
theorem M0F:Ok prog Q0J:=by
 refine k8 [.tmp 3] func150 ?_;intro y ⟨_,_,_⟩ r H Q hn hr;refine iA [1,2]<|iA [3]<|j0<|hr H
def j0Q:Unit->Option Int
 | _ =>
 some (-1)
def j0P(b:List m6)(c:Int)(d:Int->Option Int):Int->Option Int
 | a =>
 if(decide (a < (b.length:Int))) then
  gd (ix a b.length/\(UH (b.getD a.toNat (b7 y53)) c).isSome/\True) <|
  if(vl (UH (b.getD a.toNat (b7 y53)) c)) then
   some a
  else
   gd (c9 (a+1)/\True) <|
   d (a+1)
 else
  j0Q ()
def PO(a:List m6)(b:Int):Option Int :=
 lp (j0P a b) 0
def z0i:Ct:=j9 149 [.dat y53.sl,.fn 150 (.pt i64)] (fun x=>PO x.1 x.2.1) (fun r:Int=>I r) (fun _=>())
theorem q0t:Ok prog z0i:=by
 refine k8 [.tmp 4] func149 ?_;intro y ⟨a,e,_⟩ r H Q hn hr;have:=hz (tc M0F tn);refine iA [0,1]<|jN r (fun(_:Unit)=>Z [] []) (j0Q) (fun _ H=>?_) (fun _ h j c=>?_)
 ·refine iA [4]<|j0<|hr H
 refine iA [0,1,7,8]<|vB<|lX (fun(b:Int)=>Z [p 0 (L y53 a),p 1 (AV.fn 150 [D i64.pt e]),p 7 (I (a.length:Int)),p 8 (I b)] []) 0 H fun _ i f d g b H=>iA [0,1,7,8,9]<|vQ<|cD H (fun H=>?_) (fun H=>?_)
 ·refine vK<|fQ<|vQ<|vB<|iA [0,1,5,7,8]<|iB [0,1,5,7,8,16] H fun H=>cD H (fun H=>iA [4]<|j0<|l8<|fR<|g<|l8<|c<|hr H) fun H=>vK<|fK<|fQ<|jB [0,1,7,8] H fun H=>f H
 exact vE<|fE<|d<|fX rfl<|h H
def LU(a:List m6)(c:Int):Option (m6×Bool) :=
 gd ((PO a c).isSome/\True)<|lt (vl (PO a c)) fun b =>
 if(decide (0<=b)) then
  gd (ix b a.length/\True)<|lt (a.getD b.toNat (b7 y53)) fun d =>
  some (d,true)
 else
  some ((((0:Int),((0:Int),(0:Int)),(0:Int),(0:Int)),false))
def k96:Ct:=j9 96 [.dat y53.sl,.dat i64] (fun x=>LU x.1 x.2.1) (fun r:m6×Bool=>AV.tup [AV.agg [I r.1.1,I r.1.2.1.1,I r.1.2.1.2,I r.1.2.2.1,I r.1.2.2.2],B r.2]) (fun _=>())
theorem o96:Ok prog k96:=by
 refine k8 [.cell 4 53,.tmp 5] func96 ?_;intro y ⟨_,b,_⟩ r H Q hn hr;have:=hz (tc q0t (tc M0F tn));refine iA [0,3,4]<|vQ<|iD q0t [0,4,6] H fun _ H=>iA [0,4,6,11]<|cD H (fun H=>qD (fun a=>Z [p 4 (R 4),p 5 (B true)] [(4,K 53 y53 a),(3,bx 2 [J b])]) H fun a H=>j0<|fR<|hr H) fun H=>vK<|fQ<|iA [4,5]<|j0<|hr H
def UI(a:l7)(b:Int):Option Bool :=
 some (a.2.1==b)
def Q0H:Ct:=j9 152 [.agg y80,.dat (.pt i64)] (fun x=>UI x.1 x.2.1) (fun r:Bool=>B r) (fun _=>())
theorem M0E:Ok prog Q0H:=by
 refine k8 [.tmp 3] func152 ?_;intro y ⟨_,_,_⟩ r H Q hn hr;refine iA [1,2]<|iA [3]<|j0<|hr H
def j0V:List Int->Option (List Int)
 | a =>
 some a
def UJ(a:Int)(b:List Int×Int->Option (List Int)):List Int->Option (List Int)
 | c =>
 gd (c9 (a+1)/\True) <|
 b (c,a+1)
def j0U(b:H9)(e:Int)(d:List Int×Int->Option (List Int)):List Int×Int->Option (List Int)
 | (c,a) =>
 if(decide (a < (b.1.2.2.1.length:Int))) then
  gd (ix a b.1.2.2.1.length/\True)<|lt (b.1.2.2.1.getD a.toNat (b7 y80)) fun f =>
  gd (ix a b.2.length/\(b.2.getD a.toNat false=true/\True->(UI f e).isSome)/\True) <|
  if(b.2.getD a.toNat false&&vl (UI f e)) then
   gd ((c.length+[a].length<=9223372036854775807/\(c.length+[a].length)*8<=140737488355328)/\True) <|
   UJ a d (c++[a])
  else
   UJ a d c
 else
  j0V c
def PQ(a:H9)(b:Int):Option (List Int) :=
 lp (j0U a b) ([],0)
def z0l:Ct:=j9 125 [.dat y104.pt,.fn 152 (.pt i64)] (fun x=>PQ x.1 x.2.1) (fun r:List Int=>AV.ow 2 true i64 r) (fun _=>())
theorem q0u:Ok prog z0l:=by
 refine k8 [.tmp 4] func125 ?_;intro y ⟨a,d,_⟩ r H Q hn hr;have:=hz (tc M0E tn);refine iA [0,1]<|iA [0,1,5]<|jN r (fun(e:List Int)=>Z [p 5 (O 36)] [(36,A 2 i64 e 0)]) (j0V) (fun e H=>?_) (fun _ l n m=>?_)
 ·refine iA [4]<|j0<|hr H
 refine iA [0,1,5,14,15,16]<|vB<|lX (fun((c,b):List Int×Int)=>Z [p 0 (D y104.pt a),p 1 (AV.fn 152 [D i64.pt d]),p 5 (O 36),p 14 (L y80 a.1.2.2.1),p 15 (I (a.1.2.2.1.length:Int)),p 16 (I b)] [(36,A 2 i64 c 0)]) ([],0) H fun _ i k j q ⟨c,b⟩ H=>iA [0,1,5,14,15,16,17]<|vQ<|cD H (fun H=>?_) (fun H=>?_)
 ·refine vK<|fQ<|jN r (fun(f:List Int)=>Z [p 0 (D y104.pt a),p 1 (AV.fn 152 [D i64.pt d]),p 5 (O 36),p 14 (L y80 a.1.2.2.1),p 15 (I (a.1.2.2.1.length:Int)),p 16 (I b)] [(36,A 2 i64 f 0)]) (UJ b i) (fun f H=>?_) (fun _ g o s=>?_)
  ·refine jB [0,1,5,14,15,16] H fun H=>k H
  refine vB<|qD (fun h=>Z [p 0 (D y104.pt a),p 1 (AV.fn 152 [D i64.pt d]),p 5 (O 36),p 6 (I b),p 7 (R 7),p 14 (L y80 a.1.2.2.1),p 15 (I (a.1.2.2.1.length:Int)),p 16 (I b)] [(7,K 80 y80 h),(36,A 2 i64 c 0)]) H fun h H=>iB [0,1,5,6,14,15,16,32] H fun H=>cD H (fun H=>jB [0,1,5,14,15,16] H fun H=>fK<|g H) fun H=>vK<|fK<|g H
 exact vE<|fE<|j<|fX rfl<|l H
def LV(a:H9)(b:Int):Option (List Int) :=
 gd ((PQ a b).isSome/\True)<|lt (vl (PQ a b)) fun c =>
 some c
def k98:Ct:=j9 98 [.dat y104.pt,.dat i64] (fun x=>LV x.1 x.2.1) (fun r:List Int=>AV.ow 2 true i64 r) (fun _=>())
theorem o98:Ok prog k98:=by
 refine k8 [.tmp 4] func98 ?_;intro y ⟨_,_,_⟩ r H Q hn hr;have:=hz (tc PJ (tc UE (tc q0u (tc M0E tn))));refine iA [0,3]<|iD q0u [4] H fun _ H=>j0<|hr H
def Dl(a:u3)(b:u3):Option u3 :=
 gd (c9 (a.1+b.1)/\c9 (a.2+b.2)/\True) <|
 some (a.1+b.1,a.2+b.2)
def k99:Ct:=j9 99 [.agg y51,.agg y51] (fun x=>Dl x.1 x.2.1) (fun r:u3=>AV.agg [I r.1,I r.2]) (fun _=>())
theorem o99:Ok prog k99:=by
 refine k8 [.cell 4 51] func99 ?_;intro y ⟨_,_,_⟩ r H Q hn hr;refine iA [2,3,4]<|iB [4] H fun H=>j0<|hr H
def A0d:List Int×Int×Int×List Int->Option (List Int×l5)
 | (d,a,c,b) =>
 some (b,d,a,c)
def A0c(g:Int)(i:Int×Int×List Int×Int×Int×List Int->Option (List Int×l5)):Int×Int×List Int×Int×Int×List Int->Option (List Int×l5)
 | (a,h,f,d,c,e) =>
 if(decide (0<h)) then
  gd ((e.length+[a].length<=9223372036854775807/\(e.length+[a].length)*8<=140737488355328)/\True) <|
  gd (c9 (a+1)/\(c8 (f,d,c) g).isSome/\c9 (a+1+(vl (c8 (f,d,c) g)).1)/\True)<|lt (vl (c8 (f,d,c) g)) fun b =>
  gd (c9 (h-1)/\True) <|
  i (a+1+b.1,h-1,b.2.1,b.2.2.1,b.2.2.2,e++[a])
 else
  A0d (f,d,c,e)
def GR(d:l5)(c:Int):Option (List Int×l5) :=
 gd ((c8 d c).isSome/\True)<|lt (vl (c8 d c)) fun a =>
 gd ((c8 a.2 3).isSome/\c9 (1+(vl (c8 a.2 3)).1)/\True)<|lt (vl (c8 a.2 3)) fun b =>
 lp (A0c c) (a.1,1+b.1,b.2.1,b.2.2.1,b.2.2.2,[])
def P0t:Ct:=j9 245 [.io 122 m7,.dat i64] (fun x=>GR x.1 x.2.1) (fun r:List Int×l5=>AV.ow 2 true i64 r.1) (fun r=>r.2)
theorem UK:Ok prog P0t:=by
 refine k8 [.tmp 4] func245 ?_;intro y ⟨_,n,_⟩ r H Q hn hr;have:=hz (tc F4 tn);refine iA [0,1]<|iA [0,1,5]<|iD F4 [0,1,5,6] H fun o H=>jN r (fun((d,b,a,c):List Int×Int×Int×List Int)=>Z [p 5 (O 8)] [(500000,bx 122 (A5 d b a)),(8,A 2 i64 c 0)]) (A0d) (fun⟨d,b,a,c⟩ H=>?_) (fun _ q u t=>?_)
 ·refine iA [4]<|j0<|hr H
 refine iD F4 [0,1,5,6,7] H fun e H=>vB<|lX (fun((h,i,k,g,j,f):Int×Int×List Int×Int×Int×List Int)=>Z [p 0 (R 500000),p 1 (J n),p 5 (O 8),p 6 (I h),p 7 (I i)] [(500000,bx 122 [L b8 k,J g,J j]),(8,A 2 i64 f 0)]) (o.1,1+e.1,e.2.1,e.2.2.1,e.2.2.2,[]) H fun _ s l m v ⟨h,i,k,g,j,f⟩ H=>vQ<|iA [0,1,5,6,7,16]<|cD H (fun H=>vK<|fQ<|vQ<|vB<|iB [0,1,5,6,7] H fun H=>jD F4 [0,1,5,6,7] H fun _ H=>fK<|fQ<|jB [0,1,5,6,7] H fun H=>l H) fun H=>vE<|fE<|m<|fX rfl<|q H
def A0g(e:List Int×l5)(f:List Int×l5):List Int×List Int×Int×Int->Option (s8×l5)
 | (c,b,d,a) =>
 some (((e.1,f.1,c),b,d,a))
def LW(c:Int)(a:List Int)(g:Int×List Int×List Int×Int×Int->Option (s8×l5)):Int×List Int×Int×Int->Option (s8×l5)
 | (b,d,f,e) =>
 gd ((a.length+[b].length<=9223372036854775807/\(a.length+[b].length)*8<=140737488355328)/\True) <|
 gd (c9 (c+1)/\True) <|
 g (c+1,a++[b],d,f,e)
def LX(a:Int)(b:List Int)(g:List Int×l5)(j:Int×List Int×List Int×Int×Int->Option (s8×l5)):Int×List Int×Int×Int->Option (s8×l5)
 | (h,c,e,d) =>
 if(decide ((g.1.length:Int)<=a)) then
  gd (c9 (a-(g.1.length:Int))/\ix (a-(g.1.length:Int)) b.length/\(a-(g.1.length:Int)).toNat<b.length/\(c8 (c,e,d) 20).isSome/\c9 (b.getD (a-(g.1.length:Int)).toNat 0+(vl (c8 (c,e,d) 20)).1)/\True)<|lt ((vl (c8 (c,e,d) 20),max h (b.getD (a-(g.1.length:Int)).toNat 0+(vl (c8 (c,e,d) 20)).1))) fun(f,i) =>
  LW a b j (i,f.2.1,f.2.2.1,f.2.2.2)
 else
  LW a b j (h,c,e,d)
def A0f(h:List Int×l5)(i:Int)(j:List Int×l5)(k:Int×List Int×List Int×Int×Int->Option (s8×l5)):Int×List Int×List Int×Int×Int->Option (s8×l5)
 | (a,c,f,d,g) =>
 gd (c9 ((j.1.length:Int)*(h.1.length:Int))/\True) <|
 if(decide (a < (j.1.length:Int)*(h.1.length:Int))) then
  gd ((c8 (f,d,g) 10).isSome/\c9 (i+(vl (c8 (f,d,g) 10)).1)/\True)<|lt (vl (c8 (f,d,g) 10)) fun b =>
  gd (0 < (h.1.length:Int)/\True) <|
  if(decide (0<a.tmod (h.1.length:Int))) then
   gd (c9 (a-1)/\ix (a-1) c.length/\(a-1).toNat<c.length/\(c8 b.2 20).isSome/\c9 (c.getD (a-1).toNat 0+(vl (c8 b.2 20)).1)/\True)<|lt (vl (c8 b.2 20)) fun e =>
   LX a c h k ((max (i+b.1) (c.getD (a-1).toNat 0+e.1),e.2.1,e.2.2.1,e.2.2.2))
  else
   LX a c h k (i+b.1,b.2.1,b.2.2.1,b.2.2.2)
 else
  A0g j h (c,f,d,g)
def Fq(c:l5)(d:Int):Option (s8×l5) :=
 gd ((GR c 60).isSome/\True)<|lt (vl (GR c 60)) fun b =>
 gd ((GR b.2 40).isSome/\True)<|lt (vl (GR b.2 40)) fun a =>
 lp (A0f a d b) (0,[],a.2.1,a.2.2.1,a.2.2.2)
def P0B:Ct:=j9 233 [.io 122 m7,.dat i64] (fun x=>Fq x.1 x.2.1) (fun r:s8×l5=>AV.agg [AV.ow 2 true i64 r.1.1,AV.ow 2 true i64 r.1.2.1,AV.ow 2 true i64 r.1.2.2]) (fun r=>r.2)
theorem O0m:Ok prog P0B:=by
 refine k8 [.cell 4 70] func233 ?_;intro y ⟨_,x,_⟩ r H Q hn hr;have:=hz (tc F4 (tc UK tn));refine iA [0,1,4]<|iD UK [0,1,4,5] H fun d H=>iD UK [0,1,4,5,6] H fun c H=>iA [0,1,4,5,6,7]<|iA [0,1,4,5,6,7,8]<|jN r (fun((t,s,o,m):List Int×List Int×Int×Int)=>Z [p 4 (R 4),p 5 (O 12),p 6 (O 14),p 7 (O 15)] ((15,A 2 i64 t 0)::(14,A 2 i64 c.1 0)::(500000,bx 122 (A5 s o m))::Kp d.1)) (A0g d c) (fun⟨t,s,o,m⟩ H=>?_) (fun _ P X T=>?_)
 ·refine iA [4]<|j0<|hr H
 refine iA [0,1,4,5,6,7,8,9]<|vB<|lX (fun((b,a,u,g,i):Int×List Int×List Int×Int×Int)=>Z (Oq x (c.1.length:Int) b []) ((15,A 2 i64 a 0)::(14,A 2 i64 c.1 0)::(500000,bx 122 (A5 u g i))::Kp d.1)) (0,[],c.2.1,c.2.2.1,c.2.2.2) H fun _ z F G Y ⟨b,a,u,g,i⟩ H=>vQ<|iB [0,1,4,5,6,7,8,9,23] H fun H=>cD H (fun H=>?_) (fun H=>?_)
 ·refine vK<|fQ<|vQ<|vB<|iD F4 [0,1,4,5,6,7,8,9,10] H fun _ H=>jN r (fun((f,n,q,v):Int×List Int×Int×Int)=>Z (Oq x (c.1.length:Int) b [p 10 (I f)]) ((500000,bx 122 (A5 n q v))::(15,A 2 i64 a 0)::(14,A 2 i64 c.1 0)::Kp d.1)) (LX b a c z) (fun⟨f,n,q,v⟩ H=>?_) (fun _ E W t2=>?_)
  ·refine jN r (fun((l,e,k,j):Int×List Int×Int×Int)=>Z (Oq x (c.1.length:Int) b [p 10 (I l)]) ((500000,bx 122 (A5 e k j))::(15,A 2 i64 a 0)::(14,A 2 i64 c.1 0)::Kp d.1)) (LW b a z) (fun⟨l,e,k,j⟩ H=>?_) (fun _ n3 V t3=>?_)
   ·refine jB [0,1,4,5,6,7,8,9] H fun H=>fK<|fQ<|jB [0,1,4,5,6,7,8,9] H fun H=>F H
   refine iA [0,1,4,5,6,7,8,9,10,46]<|cD H (fun H=>?_) (fun H=>?_)
   ·refine zD (fun(h,w)=>Z (Oq x (c.1.length:Int) b [p 10 (I w)]) ((500000,K 122 m7 h.2)::(15,A 2 i64 a 0)::(14,A 2 i64 c.1 0)::Kp d.1)) H fun⟨h,w⟩ H =>
     n3 H
   exact vK<|n3 H
  refine iB [0,1,4,5,6,7,8,9,10,33] H fun H=>cD H (fun H=>jD F4 [0,1,4,5,6,7,8,9,10] H fun _ H=>E H) fun H=>vK<|E H
 exact vE<|fE<|G<|fX rfl<|P H
def L0z:Ct:=j9 233 [.io 122 m7,.dat i64] (fun x=>Fq x.1 x.2.1) (fun r=>frz ((fun r:s8×l5=>AV.agg [AV.ow 2 true i64 r.1.1,AV.ow 2 true i64 r.1.2.1,AV.ow 2 true i64 r.1.2.2]) r)) (fun r=>r.2)
theorem K0R:Ok prog L0z:=TL O0m
def Dm(c:l5)(a:Int):Option (List s8×l5) :=
 gd ((Fq c a).isSome/\True)<|lt (vl (Fq c a)) fun b =>
 gd ((Fq b.2 a).isSome/\True)<|lt (vl (Fq b.2 a)) fun d =>
 some ([b.1,d.1],d.2)
def P0M:Ct:=j9 218 [.io 122 m7,.dat i64] (fun x=>Dm x.1 x.2.1) (fun r:List s8×l5=>AV.ow 70 true y70 r.1) (fun r=>r.2)
theorem PR:Ok prog P0M:=by
 refine k8 [.tmp 4] func218 ?_;intro y ⟨_,c,_⟩ r H Q hn hr;have:=hz (tc K0R tn);refine iA [0,1]<|qD (fun a=>Z [p 0 (R 500000),p 1 (J c),p 5 (R 5)] [(5,bx 70 (p9 true y70 a.1)),(500000,K 122 m7 a.2)]) H fun a H=>qD (fun b=>Z [p 4 (O 13)] [(13,A 70 y70 [a.1,b.1] 0),(500000,K 122 m7 b.2),(5,bx 70 (p9 true y70 a.1))]) H fun b H=>j0<|hr H
def K9(a:l5)(b:Int)(f:Int)(e:Int)(h:Int):Option (z7×l5) :=
 if(decide (4<=b)) then
  gd ((c8 a 10).isSome/\c9 (5-(vl (c8 a 10)).1)/\(Dm (vl (c8 a 10)).2 (5-(vl (c8 a 10)).1)).isSome/\True)<|lt (vl (Dm (vl (c8 a 10)).2 (5-(vl (c8 a 10)).1))) fun g =>
  some (((b,f,e,(0:Int),g.1,[]),g.2))
 else
  gd ((c8 a 20).isSome/\c9 (5+(vl (c8 a 20)).1)/\(Dm (vl (c8 a 20)).2 (5+(vl (c8 a 20)).1)).isSome/\True)<|lt (vl (Dm (vl (c8 a 20)).2 (5+(vl (c8 a 20)).1))) fun c =>
  gd ((Dm c.2 10).isSome/\True)<|lt (vl (Dm c.2 10)) fun d =>
  some (((b,f,e,h,c.1,d.1),d.2))
def P0Z:Ct:=j9 199 [.io 122 m7,.dat i64,.dat i64,.dat i64,.dat i64] (fun x=>K9 x.1 x.2.1 x.2.2.1 x.2.2.2.1 x.2.2.2.2.1) (fun r:z7×l5=>AV.agg [I r.1.1,I r.1.2.1,I r.1.2.2.1,I r.1.2.2.2.1,AV.ow 70 true y70 r.1.2.2.2.2.1,AV.ow 70 true y70 r.1.2.2.2.2.2]) (fun r=>r.2)
theorem O0z:Ok prog P0Z:=by
 refine k8 [.cell 10 67] func199 ?_;intro y ⟨_,_,_,_,_,_⟩ r H Q hn hr;have:=hz (tc PR (tc F4 tn));refine iA [0,1,2,3,4,10]<|vQ<|iA [0,1,2,3,4,10,13]<|cD H (fun H=>iD PR [10] H fun _ H=>j0<|fR<|hr H) fun H=>vK<|fQ<|iD PR [0,1,2,3,4,10,11] H fun _ H=>iD PR [10] H fun _ H=>j0<|hr H
def L0A:Ct:=j9 199 [.io 122 m7,.dat i64,.dat i64,.dat i64,.dat i64] (fun x=>K9 x.1 x.2.1 x.2.2.1 x.2.2.2.1 x.2.2.2.2.1) (fun r=>frz ((fun r:z7×l5=>AV.agg [I r.1.1,I r.1.2.1,I r.1.2.2.1,I r.1.2.2.2.1,AV.ow 70 true y70 r.1.2.2.2.2.1,AV.ow 70 true y70 r.1.2.2.2.2.2]) r)) (fun r=>r.2)
theorem I0a:Ok prog L0A:=TL O0z
def LY(e:ByteArray)(f:Int)(i:List I2)(g:Int×l5)(h:Int×l5):List z7×List Int×Int×Int->Option ((ByteArray×Int×List I2×List z7×Int×Int)×l5)
 | (d,c,a,b) =>
 some (((e,f,i,d,g.1,h.1),c,a,b))
def Dn(e:l5)(j:ByteArray)(i:Int)(c:Int):Option ((ByteArray×Int×List I2×List z7×Int×Int)×l5) :=
 gd ((c8 e 50).isSome/\(c8 (vl (c8 e 50)).2 80).isSome/\True)<|lt ((vl (c8 e 50),vl (c8 (vl (c8 e 50)).2 80))) fun(k,b) =>
 gd ((c8 b.2 9).isSome/\c9 (1+(vl (c8 b.2 9)).1)/\(c8 (vl (c8 b.2 9)).2 9).isSome/\c9 (1+(vl (c8 (vl (c8 b.2 9)).2 9)).1)/\True)<|lt ((vl (c8 b.2 9),vl (c8 (vl (c8 b.2 9)).2 9),[(ByteArray.mk #[(100:UInt8)],(1:Int),(1:Int)+(vl (c8 b.2 (9:Int))).1,false),(ByteArray.mk #[(99:UInt8),(107:UInt8)],(1:Int),(1:Int)+(vl (c8 (vl (c8 b.2 (9:Int))).2 (9:Int))).1,true),(ByteArray.mk #[(113:UInt8)],(2:Int),(0:Int),false)])) fun(_,d,l) =>
 gd ((K9 d.2 c 1 2 0).isSome/\(K9 (vl (K9 d.2 c 1 2 0)).2 4 1 0 0).isSome/\(K9 (vl (K9 (vl (K9 d.2 c 1 2 0)).2 4 1 0 0)).2 5 1 0 0).isSome/\True)<|lt ((vl (K9 d.2 c 1 2 0),vl (K9 (vl (K9 d.2 c 1 2 0)).2 4 1 0 0),vl (K9 (vl (K9 (vl (K9 d.2 c 1 2 0)).2 4 1 0 0)).2 5 1 0 0))) fun(h,f,a) =>
 if(i==3) then
  gd ((K9 a.2 1 0 2 1).isSome/\([h.1,f.1,a.1].length+[(vl (K9 a.2 1 0 2 1)).1].length<=9223372036854775807/\([h.1,f.1,a.1].length+[(vl (K9 a.2 1 0 2 1)).1].length)*80<=140737488355328)/\True)<|lt (vl (K9 a.2 1 0 2 1)) fun g =>
  LY j i l k b ([h.1,f.1,a.1]++[g.1],g.2.1,g.2.2.1,g.2.2.2)
 else
  LY j i l k b ([h.1,f.1,a.1],a.2.1,a.2.2.1,a.2.2.2)
def Q0w:Ct:=j9 166 [.io 122 m7,.dat Ty.str,.dat i64,.dat i64] (fun x=>Dn x.1 x.2.1 x.2.2.1 x.2.2.2.1) (fun r:(ByteArray×Int×List I2×List z7×Int×Int)×l5=>AV.agg [S r.1.1,I r.1.2.1,AV.ow 233 true y233 r.1.2.2.1,AV.ow 67 true y67 r.1.2.2.2.1,AV.v (Value.slice none 0 0),I r.1.2.2.2.2.1,I r.1.2.2.2.2.2]) (fun r=>r.2)
theorem UL:Ok prog Q0w:=by
 refine k8 [.cell 8 64] func166 ?_;intro y ⟨_,e,a,o,_⟩ r H Q hn hr;have:=hz (tc I0a (tc F4 tn));refine iA [0,1,2,3,8]<|qD (fun(c,b)=>Z [p 0 (R 500000),p 2 (J a),p 3 (J o),p 8 (R 8),p 9 (R 9)] [(9,bx 64 [U e,J a,nil,nil,nil,I c.1,I b.1]),(500000,K 122 m7 b.2),(8,bx 64 (Cj (ByteArray.mk #[]) 0 0 0))]) H fun⟨c,b⟩ H =>
  qD (fun(s,m,d)=>Z [p 0 (R 500000),p 2 (J a),p 3 (J o),p 8 (R 8),p 9 (R 9)] [(9,bx 64 [U e,J a,AV.os 27 0,nil,nil,I c.1,I b.1]),(27,A 233 y233 d 0),(500000,K 122 m7 m.2),(8,bx 64 (Cj (ByteArray.mk #[]) 0 0 0))]) H fun⟨s,m,d⟩ H =>
  qD (fun(l,k,j)=>Z [p 0 (R 500000),p 2 (J a),p 8 (R 8),p 9 (R 9),p 10 (O 36)] ((36,A 67 y67 [l.1,k.1,j.1] 0)::(500000,K 122 m7 j.2)::Tf e a c.1 b.1 d)) H fun⟨l,k,j⟩ H =>
  jN r (fun((n,h,g,f):List z7×List Int×Int×Int)=>Z [p 8 (R 8),p 9 (R 9),p 10 (O 36)] ((36,A 67 y67 n 0)::(500000,bx 122 (A5 h g f))::Tf e a c.1 b.1 d)) (LY e a d c b) (fun⟨n,h,g,f⟩ H=>?_) (fun _ q u t=>?_)
 ·refine iA [8,9]<|iA [8]<|j0<|hr H
 refine iA [0,8,9,10,38]<|cD H (fun H=>zD (fun i=>Z [p 8 (R 8),p 9 (R 9),p 10 (AV.os 36 1)] ((36,A 67 y67 ([l.1,k.1,j.1]++[i.1]) 1)::(42,A 67 y67 [i.1] 0)::(500000,K 122 m7 i.2)::Tf e a c.1 b.1 d)) H fun i H=>q H) fun H=>vK<|q H
def UM:Bool×Bool->Option Int
 | (a,b) =>
 if(a&&b) then
  some 3
 else
  if a then
   some 1
  else
   if b then
    some 2
   else
    some 0
def LZ(a:Int)(b:Bool×Bool×Int->Option Int):Bool×Bool->Option Int
 | (c,d) =>
 gd (c9 (a+1)/\True) <|
 b (c,d,a+1)
def A0v(b:m4)(c:Int)(f:Bool×Bool×Int->Option Int):Bool×Bool×Int->Option Int
 | (d,e,a) =>
 if(decide (a < (b.2.2.2.2.1.length:Int))) then
  gd (((0:Int)<=a/\(0:Int)<=(1:Int)*(2:j5 i64) ^ c.toNat)/\True) <|
  if((↑(a.toNat &&& ((1:Int)*(2:j5 i64) ^ c.toNat).toNat):Int) != (0:Int)) then
   LZ a f (d,e)
  else
   gd ((d=false/\True->ix a b.2.2.2.2.1.length)/\(d=false/\True->c9 (a+(1:Int)*(2:j5 i64) ^ c.toNat))/\(d=false/\True->ix (a+(1:Int)*(2:j5 i64) ^ c.toNat) b.2.2.2.2.1.length)/\True) <|
   gd ((e=false/\True->ix a b.2.2.2.2.1.length)/\(e=false/\True->c9 (a+(1:Int)*(2:j5 i64) ^ c.toNat))/\(e=false/\True->ix (a+(1:Int)*(2:j5 i64) ^ c.toNat) b.2.2.2.2.1.length)/\True) <|
   LZ a f ((d||decide (b.2.2.2.2.1.getD a.toNat (0:Int)<b.2.2.2.2.1.getD (a+(1:Int)*(2:j5 i64) ^ c.toNat).toNat (0:Int)),e||decide (b.2.2.2.2.1.getD (a+(1:Int)*(2:j5 i64) ^ c.toNat).toNat (0:Int)<b.2.2.2.2.1.getD a.toNat (0:Int))))
 else
  UM (d,e)
def Ma(b:m4)(a:Int):Option Int :=
 gd (((0:Int)<=a/\a<=(18446744073709551615:Int))/\(((0:Int)<=a/\a<=(62:Int))/\c9 ((1:Int)*(2:Int) ^ a.toNat))/\True) <|
 lp (A0v b a) (false,false,0)
def Q0a:Ct:=j9 198 [.agg y64,.dat i64] (fun x=>Ma x.1 x.2.1) (fun r:Int=>I r) (fun _=>())
theorem M0v:Ok prog Q0a:=by
 refine k8 [.tmp 4] func198 ?_;intro y ⟨b,h,_⟩ r H Q hn hr;refine iA [1,2]<|iA [1,2,5,6]<|iB [2,5,6,7] H fun H=>jN r (fun((f,c):Bool×Bool)=>Z [p 5 (B f),p 6 (B c)] []) (UM) (fun⟨f,c⟩ H=>?_) (fun _ n s o=>?_)
 ·refine vQ<|vB<|iA [5,6,55]<|cD H (fun H=>iA [4]<|j0<|l8<|fR<|hr H) fun H=>iA [6,60]<|cD H (fun H=>iA [4]<|j0<|l8<|fR<|hr H) fun H=>iA [62]<|cD H (fun H=>iA [4]<|j0<|l8<|fR<|hr H) fun H=>vK<|fK<|fQ<|iA [4]<|j0<|hr H
 refine iA [2,5,6,7,8]<|vB<|lX (fun((g,e,a):Bool×Bool×Int)=>Z [p 2 (R 2),p 5 (B g),p 6 (B e),p 7 (I ((1:Int)*(2:j5 i64) ^ h.toNat)),p 8 (I a)] [(2,K 64 y64 b)]) (false,false,0) H fun _ k l m t ⟨g,e,a⟩ H=>vQ<|iA [2,5,6,7,8,16]<|cD H (fun H=>?_) (fun H=>?_)
 ·refine vK<|fQ<|jN r (fun((i,d):Bool×Bool)=>Z [p 2 (R 2),p 5 (B i),p 6 (B d),p 7 (I ((1:Int)*(2:j5 i64) ^ h.toNat)),p 8 (I a)] [(2,K 64 y64 b)]) (LZ a k) (fun⟨i,d⟩ H=>?_) (fun _ j q u=>?_)
  ·refine jB [2,5,6,7,8] H fun H=>l H
  refine vB<|vQ<|iB [2,5,6,7,8,22] H fun H=>cD H (fun H=>vE<|fE<|fX rfl<|j H) fun H=>vK<|fQ<|iB [2,5,6,7,8] H fun H=>jB [2,5,6,7,8] H fun H=>fK<|j H
 exact vE<|fE<|m<|fX rfl<|n H
def UN(g:ByteArray)(d:List I2)(h:List Int)(i:Int×l5)(f:Int×l5):List z7×List Int×Int×Int->Option (m4×l5)
 | (c,e,b,a) =>
 some (((g,(1:Int),d,c,h,i.1,f.1),e,b,a))
def Mb(a:Int)(f:Int×List z7×List Int×Int×Int->Option (m4×l5)):List z7×List Int×Int×Int->Option (m4×l5)
 | (e,b,c,d) =>
 gd (c9 (a+1)/\True) <|
 f (a+1,e,b,c,d)
def A0K(g:List I2)(k:ByteArray)(i:List I2)(l:List Int)(m:Int×l5)(j:Int×l5)(n:Int×List z7×List Int×Int×Int->Option (m4×l5)):Int×List z7×List Int×Int×Int->Option (m4×l5)
 | (a,f,b,d,c) =>
 if(decide (a < (g.length:Int))) then
  gd ((Ma (k,(1:Int),i,[],l,m.1,j.1) a).isSome/\True)<|lt (vl (Ma (k,(1:Int),i,[],l,m.1,j.1) a)) fun e =>
  if(e != 0) then
   gd ((K9 (b,d,c) 1 a (g.length:Int) e).isSome/\(f.length+[(vl (K9 (b,d,c) 1 a (g.length:Int) e)).1].length<=9223372036854775807/\(f.length+[(vl (K9 (b,d,c) 1 a (g.length:Int) e)).1].length)*80<=140737488355328)/\True)<|lt (vl (K9 (b,d,c) 1 a (g.length:Int) e)) fun h =>
   Mb a n (f++[h.1],h.2.1,h.2.2.1,h.2.2.2)
  else
   Mb a n (f,b,d,c)
 else
  UN k i l m j (f,b,d,c)
def PS(g:ByteArray)(h:List Int)(i:Int×l5)(f:Int×l5):List I2×List Int×Int×Int->Option (m4×l5)
 | (a,b,d,c) =>
 gd ((a.length+[(ByteArray.mk #[(121:UInt8)],(2:Int),(0:Int),false)].length<=9223372036854775807/\(a.length+[(ByteArray.mk #[(121:UInt8)],(2:Int),(0:Int),false)].length)*40<=140737488355328)/\True)<|lt ((a++[(ByteArray.mk #[(121:UInt8)],(2:Int),(0:Int),false)],[(ByteArray.mk #[(121:UInt8)],(2:Int),(0:Int),false)])) fun(e,_) =>
 lp (A0K a g e h i f) (0,[],b,d,c)
def A0L(f:List ByteArray)(l:ByteArray)(i:List Int)(m:Int×l5)(k:Int×l5)(j:Int×List I2×List Int×Int×Int->Option (m4×l5)):Int×List I2×List Int×Int×Int->Option (m4×l5)
 | (g,b,d,c,a) =>
 if(decide (g < (i.length:Int))) then
  gd (ix (b.length:Int) f.length/\(b.length:Int).toNat<f.length/\(c8 (d,c,a) (9:Int)).isSome/\c9 ((1:Int)+(vl (c8 (d,c,a) (9:Int))).1)/\(b.length+[(f.getD (b.length:Int).toNat (b7 Ty.str),(1:Int),(1:Int)+(vl (c8 (d,c,a) (9:Int))).1,false)].length<=9223372036854775807/\(b.length+[(f.getD (b.length:Int).toNat (b7 Ty.str),(1:Int),(1:Int)+(vl (c8 (d,c,a) (9:Int))).1,false)].length)*40<=140737488355328)/\True)<|lt ((vl (c8 (d,c,a) 9),b++[(f.getD (b.length:Int).toNat (b7 Ty.str),(1:Int),(1:Int)+(vl (c8 (d,c,a) (9:Int))).1,false)],[(f.getD (b.length:Int).toNat (b7 Ty.str),(1:Int),(1:Int)+(vl (c8 (d,c,a) (9:Int))).1,false)])) fun(e,h,_) =>
  gd (c9 (2*g)/\True) <|
  j (2*g,h,e.2.1,e.2.2.1,e.2.2.2)
 else
  PS l i m k (b,d,c,a)
def C5(b:l5)(c:ByteArray)(d:List Int):Option (m4×l5) :=
 lt ([ByteArray.mk #[97],ByteArray.mk #[98],ByteArray.mk #[99],ByteArray.mk #[100]]) fun e =>
 gd ((c8 b 50).isSome/\(c8 (vl (c8 b 50)).2 80).isSome/\True)<|lt ((vl (c8 b 50),vl (c8 (vl (c8 b 50)).2 80))) fun(f,a) =>
 lp (A0L e c d f a) (1,[],a.2.1,a.2.2.1,a.2.2.2)
def Q0x:Ct:=j9 165 [.io 122 m7,.dat Ty.str,.dat i64.sl] (fun x=>C5 x.1 x.2.1 x.2.2.1) (fun r:m4×l5=>AV.agg [S r.1.1,I r.1.2.1,AV.ow 233 true y233 r.1.2.2.1,AV.ow 67 true y67 r.1.2.2.2.1,L i64 r.1.2.2.2.2.1,I r.1.2.2.2.2.2.1,I r.1.2.2.2.2.2.2]) (fun r=>r.2)
theorem O0I:Ok prog Q0x:=by
 refine k8 [.cell 6 64] func165 ?_;intro y ⟨a0,f,c,_⟩ r H Q hn hr;have:=hz (tc I0a (tc M0v (tc F4 tn)));refine iA [0,1,2,6]<|qC (fun G=>Z [p 0 (R 500000),p 1 (U f),p 2 (L i64 c),p 6 (R 6),p 7 (O 15)] [(15,A 9 Ty.str G 0),(6,bx 64 (Cj (ByteArray.mk #[]) 0 0 0)),(500000,K 122 m7 a0)]) H fun G H=>qD (fun(e,a)=>Z [p 0 (R 500000),p 2 (L i64 c),p 6 (R 6),p 7 (O 15),p 8 (R 8)] [(8,bx 64 [U f,I 1,nil,nil,L i64 c,I e.1,I a.1]),(500000,K 122 m7 a.2),(15,A 9 Ty.str G 0),(6,bx 64 (Cj (ByteArray.mk #[]) 0 0 0))]) H fun w H=>?_
 obtain⟨e,a⟩:=w;refine iA [0,2,6,7,8,9]<|jN r (fun((d,h,k,i):List I2×List Int×Int×Int)=>Z (Cm [p 8 (R 8),p 9 (O 23)]) ((23,A 233 y233 d 0)::(8,bx 64 [U f,I 1,nil,nil,L i64 c,I e.1,I a.1])::Ou h k i)) (PS f c e a) (fun⟨d,h,k,i⟩ H=>?_) (fun _ n0 e0 t0=>?_)
 ·refine iA [0,6,8,9,11]<|qD (fun(b,P)=>Z (Cm [p 8 (R 8),p 11 (I (d.length:Int))]) ((8,bx 64 [U f,I 1,AV.os 23 1,nil,L i64 c,I e.1,I a.1])::(23,A 233 y233 b 1)::(46,A 233 y233 P 0)::Ou h k i)) H fun w H=>?_
  obtain⟨b,P⟩:=w;refine iA [0,6,8,11,12]<|jN r (fun((u,o,F,n):List z7×List Int×Int×Int)=>Z [p 6 (R 6),p 8 (R 8),p 12 (O 49)] ((49,A 67 y67 u 0)::(8,bx 64 [U f,I 1,AV.os 23 0,nil,L i64 c,I e.1,I a.1])::(23,A 233 y233 b 0)::Ou o F n)) (UN f b c e a) (fun⟨u,o,F,n⟩ H=>?_) (fun _ n2 e2 t2=>?_)
  ·refine iA [6,8]<|iA [6]<|j0<|hr H
  refine iA [0,6,8,11,12,13]<|vB<|lX (fun((g,l,m,s,q):Int×List z7×List Int×Int×Int)=>Z (Cm [p 8 (R 8),p 11 (I (d.length:Int)),p 12 (O 49),p 13 (I g)]) ((49,A 67 y67 l 0)::(8,bx 64 [U f,I 1,AV.os 23 0,nil,L i64 c,I e.1,I a.1])::(23,A 233 y233 b 0)::Ou m s q)) (0,[],h,k,i) H fun _ g3 b3 e3 t3 ⟨g,l,m,s,q⟩ H=>vQ<|iA [0,6,8,11,12,13,52]<|cD H (fun H=>?_) (fun H=>?_)
  ·refine vK<|fQ<|jN r (fun((z,t,v,x):List z7×List Int×Int×Int)=>Z (Cm [p 8 (R 8),p 11 (I (d.length:Int)),p 12 (O 49),p 13 (I g)]) [(49,A 67 y67 z 0),(500000,bx 122 (A5 t v x)),(8,bx 64 [U f,I 1,AV.os 23 0,nil,L i64 c,I e.1,I a.1]),(23,A 233 y233 b 0),(6,bx 64 (Cj (ByteArray.mk #[]) 0 0 0))]) (Mb g g3) (fun⟨z,t,v,x⟩ H=>?_) (fun _ n4 e4 t4=>?_)
   ·refine jB [0,6,8,11,12,13] H fun H=>b3 H
   refine vB<|iD M0v [0,6,8,11,12,13,14] H fun _ H=>iA [0,6,8,11,12,13,14,59]<|cD H (fun H=>zD (fun j=>Z (Cm [p 8 (R 8),p 11 (I (d.length:Int)),p 12 (AV.os 49 1),p 13 (I g)]) [(49,A 67 y67 (l++[j.1]) 1),(66,A 67 y67 [j.1] 0),(500000,K 122 m7 j.2),(8,bx 64 [U f,I 1,AV.os 23 0,nil,L i64 c,I e.1,I a.1]),(23,A 233 y233 b 0),(6,bx 64 (Cj (ByteArray.mk #[]) 0 0 0))]) H fun j H=>fK<|n4 H) fun H=>vK<|fK<|n4 H
  exact vE<|fE<|e3<|fX rfl<|n2 H
 refine iA [0,2,6,7,8,9,10]<|vB<|lX (fun((X,v7,Y,v9,W):Int×List I2×List Int×Int×Int)=>Z [p 0 (R 500000),p 2 (L i64 c),p 6 (R 6),p 7 (O 15),p 8 (R 8),p 9 (O 23),p 10 (I X)] [(23,A 233 y233 v7 0),(8,bx 64 [U f,I 1,nil,nil,L i64 c,I e.1,I a.1]),(500000,bx 122 [L b8 Y,J v9,J W]),(15,A 9 Ty.str G 0),(6,bx 64 (Cj (ByteArray.mk #[]) 0 0 0))]) (1,[],a.2.1,a.2.2.1,a.2.2.2) H fun _ g1 b1 e1 t1 ⟨X,v7,Y,v9,W⟩ H=>vQ<|iA [0,2,6,7,8,9,10,27]<|cD H (fun H=>?_) (fun H=>?_)
 ·refine vK<|fQ<|vQ<|vB<|zD (fun(T,E,V)=>Z [p 0 (R 500000),p 2 (L i64 c),p 6 (R 6),p 7 (O 15),p 8 (R 8),p 9 (AV.os 23 1),p 10 (I X)] [(23,A 233 y233 E 1),(40,A 233 y233 V 0),(500000,K 122 m7 T.2),(8,bx 64 [U f,I 1,nil,nil,L i64 c,I e.1,I a.1]),(15,A 9 Ty.str G 0),(6,bx 64 (Cj (ByteArray.mk #[]) 0 0 0))]) H fun⟨T,E,V⟩ H =>
   fK<|fQ <|
   jB [0,2,6,7,8,9,10] H fun H =>
   b1 H
 exact vE<|fE<|e1<|fX rfl<|n0 H
def Mc(a:l5):Option (List m4×l5) :=
 gd (True/\(C5 a (ByteArray.mk #[105,110,118]) [1,0]).isSome/\True) <|
 gd (True/\(C5 (vl (C5 a (ByteArray.mk #[105,110,118]) [1,0])).2 (ByteArray.mk #[98,117,102]) [0,1]).isSome/\True) <|
 gd (True/\(C5 (vl (C5 (vl (C5 a (ByteArray.mk #[105,110,118]) [1,0])).2 (ByteArray.mk #[98,117,102]) [0,1])).2 (ByteArray.mk #[110,97,110,100]) [1,1,1,0]).isSome/\True) <|
 gd (True/\(C5 (vl (C5 (vl (C5 (vl (C5 a (ByteArray.mk #[105,110,118]) [1,0])).2 (ByteArray.mk #[98,117,102]) [0,1])).2 (ByteArray.mk #[110,97,110,100]) [1,1,1,0])).2 (ByteArray.mk #[120,111,114]) [0,1,1,0]).isSome/\True) <|
 gd (True/\(C5 (vl (C5 (vl (C5 (vl (C5 (vl (C5 a (ByteArray.mk #[105,110,118]) [1,0])).2 (ByteArray.mk #[98,117,102]) [0,1])).2 (ByteArray.mk #[110,97,110,100]) [1,1,1,0])).2 (ByteArray.mk #[120,111,114]) [0,1,1,0])).2 (ByteArray.mk #[109,117,120]) [0,1,0,1,0,0,1,1]).isSome/\True) <|
 gd ((Dn (vl (C5 (vl (C5 (vl (C5 (vl (C5 (vl (C5 a (ByteArray.mk #[105,110,118]) [1,0])).2 (ByteArray.mk #[98,117,102]) [0,1])).2 (ByteArray.mk #[110,97,110,100]) [1,1,1,0])).2 (ByteArray.mk #[120,111,114]) [0,1,1,0])).2 (ByteArray.mk #[109,117,120]) [0,1,0,1,0,0,1,1])).2 (ByteArray.mk #[102,108,111,112]) 2 2).isSome/\True)<|lt ((vl (Dn (vl (C5 (vl (C5 (vl (C5 (vl (C5 (vl (C5 a (ByteArray.mk #[105,110,118]) [1,0])).2 (ByteArray.mk #[98,117,102]) [0,1])).2 (ByteArray.mk #[110,97,110,100]) [1,1,1,0])).2 (ByteArray.mk #[120,111,114]) [0,1,1,0])).2 (ByteArray.mk #[109,117,120]) [0,1,0,1,0,0,1,1])).2 (ByteArray.mk #[102,108,111,112]) 2 2),vl (C5 (vl (C5 (vl (C5 (vl (C5 (vl (C5 a (ByteArray.mk #[105,110,118]) [1,0])).2 (ByteArray.mk #[98,117,102]) [0,1])).2 (ByteArray.mk #[110,97,110,100]) [1,1,1,0])).2 (ByteArray.mk #[120,111,114]) [0,1,1,0])).2 (ByteArray.mk #[109,117,120]) [0,1,0,1,0,0,1,1]),vl (C5 (vl (C5 (vl (C5 (vl (C5 a (ByteArray.mk #[105,110,118]) [1,0])).2 (ByteArray.mk #[98,117,102]) [0,1])).2 (ByteArray.mk #[110,97,110,100]) [1,1,1,0])).2 (ByteArray.mk #[120,111,114]) [0,1,1,0]),vl (C5 (vl (C5 (vl (C5 a (ByteArray.mk #[105,110,118]) [1,0])).2 (ByteArray.mk #[98,117,102]) [0,1])).2 (ByteArray.mk #[110,97,110,100]) [1,1,1,0]),vl (C5 (vl (C5 a (ByteArray.mk #[105,110,118]) [1,0])).2 (ByteArray.mk #[98,117,102]) [0,1]),vl (C5 a (ByteArray.mk #[105,110,118]) [1,0]))) fun(c,i,e,g,j,h) =>
 gd ((Dn c.2 (ByteArray.mk #[102,108,111,112,110]) 2 3).isSome/\True)<|lt (vl (Dn c.2 (ByteArray.mk #[102,108,111,112,110]) 2 3)) fun b =>
 gd ((Dn b.2 (ByteArray.mk #[108,97,116,99,104]) 3 2).isSome/\True)<|lt (vl (Dn b.2 (ByteArray.mk #[108,97,116,99,104]) 3 2)) fun d =>
 lt ([h.1,j.1,g.1,e.1,i.1,(c.1.1,c.1.2.1,c.1.2.2.1,c.1.2.2.2.1,[],c.1.2.2.2.2),(b.1.1,b.1.2.1,b.1.2.2.1,b.1.2.2.2.1,[],b.1.2.2.2.2),(d.1.1,d.1.2.1,d.1.2.2.1,d.1.2.2.2.1,[],d.1.2.2.2.2)]) fun f =>
 some (f,d.2)
def R0j:Ct:=j9 119 [.io 122 m7] (fun x=>Mc x.1) (fun r:List m4×l5=>AV.agg [AV.ow 64 false y64 r.1]) (fun r=>r.2)
theorem O0X:Ok prog R0j:=by
 refine k8 [.cell 2 26] func119 ?_;intro y ⟨_,_⟩ r H Q hn hr;have:=hz (tc UL (tc O0I tn));refine iA [0,2]<|iA [0,2,3]<|vQ<|iF 2 [14] [0,2,3,4] H fun H=>fQ<|vQ<|iF 2 [17] [0,2,3,4,5] H fun H=>fQ<|vQ<|iF 2 [20] [0,2,3,4,5,6] H fun H=>fQ<|vQ<|iF 2 [23] [0,2,3,4,5,6,7] H fun H=>fQ<|vQ<|iF 2 [26] [0,2,3,4,5,6,7,8] H fun H=>fQ<|qD (fun(b,e,a,c,f,d)=>Z [p 0 (R 500000),p 2 (R 2),p 3 (R 3),p 4 (R 4),p 5 (R 5),p 6 (R 6),p 7 (R 7),p 8 (R 8),p 9 (R 9)] [(9,bx 64 [S b.1.1,I b.1.2.1,AV.os 29 0,AV.os 1029 0,nil,I b.1.2.2.2.2.1,I b.1.2.2.2.2.2]),(1029,A 67 y67 b.1.2.2.2.1 0),(29,A 233 y233 b.1.2.2.1 0),(500000,K 122 m7 b.2),(8,bx 64 [S e.1.1,I e.1.2.1,AV.os 27 0,AV.os 1027 0,L i64 e.1.2.2.2.2.1,I e.1.2.2.2.2.2.1,I e.1.2.2.2.2.2.2]),(1027,A 67 y67 e.1.2.2.2.1 0),(27,A 233 y233 e.1.2.2.1 0),(7,bx 64 [S a.1.1,I a.1.2.1,AV.os 24 0,AV.os 1024 0,L i64 a.1.2.2.2.2.1,I a.1.2.2.2.2.2.1,I a.1.2.2.2.2.2.2]),(1024,A 67 y67 a.1.2.2.2.1 0),(24,A 233 y233 a.1.2.2.1 0),(6,bx 64 [S c.1.1,I c.1.2.1,AV.os 21 0,AV.os 1021 0,L i64 c.1.2.2.2.2.1,I c.1.2.2.2.2.2.1,I c.1.2.2.2.2.2.2]),(1021,A 67 y67 c.1.2.2.2.1 0),(21,A 233 y233 c.1.2.2.1 0),(5,bx 64 [S f.1.1,I f.1.2.1,AV.os 18 0,AV.os 1018 0,L i64 f.1.2.2.2.2.1,I f.1.2.2.2.2.2.1,I f.1.2.2.2.2.2.2]),(1018,A 67 y67 f.1.2.2.2.1 0),(18,A 233 y233 f.1.2.2.1 0),(4,bx 64 [S d.1.1,I d.1.2.1,AV.os 15 0,AV.os 1015 0,L i64 d.1.2.2.2.2.1,I d.1.2.2.2.2.2.1,I d.1.2.2.2.2.2.2]),(1015,A 67 y67 d.1.2.2.2.1 0),(15,A 233 y233 d.1.2.2.1 0),(3,bx 26 [nil]),(2,bx 26 [nil])]) H fun⟨b,e,a,c,f,d⟩ H =>
  iD UL [0,2,3,4,5,6,7,8,9,10] H fun i H =>
  iD UL [2,3,4,5,6,7,8,9,10,11] H fun g H=>?_
 refine fZs [33,1033,31,1031,29,1029,27,1027,24,1024,21,1021,18,1018,15,1015] (Z (G7 [p 4 (R 4),p 5 (R 5),p 6 (R 6),p 7 (R 7),p 8 (R 8),p 9 (R 9),p 10 (R 10),p 11 (R 11)]) [(11,bx 64 (Q4 g.1)),(500000,K 122 m7 g.2),(10,bx 64 (Q4 i.1)),(9,bx 64 (Q4 b.1)),(8,bx 64 (Q1 e.1)),(7,bx 64 (Q1 a.1)),(6,bx 64 (Q1 c.1)),(5,bx 64 (Q1 f.1)),(4,bx 64 (Q1 d.1)),(3,bx 26 [nil]),(2,bx 26 [nil])])<|qC (fun h=>Z (G7 []) [(3,bx 26 [AV.os 42 0]),(42,Ob.arr 64 false y64 h 0),(11,bx 64 (Q4 g.1)),(500000,K 122 m7 g.2),(10,bx 64 (Q4 i.1)),(9,bx 64 (Q4 b.1)),(8,bx 64 (Q1 e.1)),(7,bx 64 (Q1 a.1)),(6,bx 64 (Q1 c.1)),(5,bx 64 (Q1 f.1)),(4,bx 64 (Q1 d.1)),(2,bx 26 [nil])]) H fun h H=>iA [2]<|j0<|hr H
def Md(a:Int)(b:Int):Option x8 :=
 gd ((0<=a/\a=a/\a.toNat*8<=281474976710656/\a<=9223372036854775807)/\True) <|
 some ([-1],[0],[b],List.replicate a.toNat 0)
def Q0u:Ct:=j9 168 [.dat i64,.dat i64] (fun x=>Md x.1 x.2.1) (fun r:x8=>AV.agg [AV.ow 2 true i64 r.1,AV.ow 2 true i64 r.2.1,AV.ow 2 true i64 r.2.2.1,AV.ow 2 true i64 r.2.2.2]) (fun _=>())
theorem O0H:Ok prog Q0u:=by
 refine k8 [.cell 4 153] func168 ?_;intro y ⟨_,_,_⟩ r H Q hn hr;refine iA [0,1,4]<|iB [4] H fun H=>j0<|hr H
def Me(a:u3)(b:u3):Option u3 :=
 some (min a.1 b.1,max a.2 b.2)
def Q0I:Ct:=j9 151 [.agg y51,.agg y51] (fun x=>Me x.1 x.2.1) (fun r:u3=>AV.agg [I r.1,I r.2]) (fun _=>())
theorem O0M:Ok prog Q0I:=by
 refine k8 [.cell 4 51] func151 ?_;intro y ⟨_,_,_⟩ r H Q hn hr;refine iA [2,3,4]<|iA [4]<|j0<|hr H
def F0W:Bool×Int×Int×Int×Int×Int->Option (Bool×m6)
 | (c,e,a,b,f,d) =>
 some ((c,e,(a,b),f,d))
def IM(a:Int)(h:Bool×Int×Int×Int×Int×Int×Int->Option (Bool×m6)):Bool×Int×Int×Int×Int×Int->Option (Bool×m6)
 | (e,c,f,g,d,b) =>
 gd (c9 (a+1)/\True) <|
 h (e,a+1,c,f,g,d,b)
def UO(e:Int)(f:Int)(g:Bool×Int×Int×Int×Int×Int×Int->Option (Bool×m6)):Int×Int×Int×Int->Option (Bool×m6)
 | (a,d,b,c) =>
 IM e g (true,f,b,c,a,d)
def F0U(m:Int)(d:B7)(r:j7)(s:p5)(o:List Bool)(q:List l7)(n:Bool×Int×Int×Int×Int×Int×Int->Option (Bool×m6)):Bool×Int×Int×Int×Int×Int×Int->Option (Bool×m6)
 | (i,c,j,g,e,f,h) =>
 if(decide (c < (q.length:Int))) then
  gd (ix c q.length/\True)<|lt (q.getD c.toNat (b7 y80)) fun a =>
  gd (ix c o.length/\((!o.getD c.toNat false||a.2.1 != m)=false/\True->ix a.1 d.1.length)/\True) <|
  if(!o.getD c.toNat false||a.2.1 != m||!d.1.getD a.1.toNat false) then
   IM c n (i,j,g,e,f,h)
  else
   gd (ix a.1 d.2.2.length/\(Is r s a (d.2.2.getD a.1.toNat (b7 y51))).isSome/\True)<|lt (vl (Is r s a (d.2.2.getD a.1.toNat (b7 y51)))) fun b =>
   gd (ix a.1 d.2.1.length/\c9 ((d.2.1.getD a.1.toNat (b7 y51)).1+b.1.1)/\ix a.1 d.2.1.length/\c9 ((d.2.1.getD a.1.toNat (b7 y51)).2+b.1.2)/\True) <|
   if i then
    gd ((Ks ((d.2.1.getD a.1.toNat (b7 y51)).1+b.1.1,(d.2.1.getD a.1.toNat (b7 y51)).2+b.1.2) (g,e)).isSome/\True)<|lt (vl (Ks ((d.2.1.getD a.1.toNat (b7 y51)).1+b.1.1,(d.2.1.getD a.1.toNat (b7 y51)).2+b.1.2) (g,e))) fun l =>
    gd ((Ks b.2 (f,h)).isSome/\True)<|lt (vl (Ks b.2 (f,h))) fun k =>
    UO c m n (k.1,k.2,l.1,l.2)
   else
    UO c m n ((b.2.1,b.2.2,(d.2.1.getD a.1.toNat (b7 y51)).1+b.1.1,(d.2.1.getD a.1.toNat (b7 y51)).2+b.1.2))
 else
  F0W (i,j,g,e,f,h)
def IN(g:Int)(h:B7)(i:j7)(j:p5)(k:List Bool)(l:List l7):Bool×Int×Int×Int×Int×Int->Option (Bool×m6)
 | (e,a,f,b,c,d) =>
 lp (F0U g h i j k l) (e,0,a,f,b,c,d)
def UP(g:Int)(h:Bool×Int×Int×Int×Int×Int×Int->Option (Bool×m6)):Int×Int×Int×Int×Int×Bool->Option (Bool×m6)
 | (a,d,b,f,e,c) =>
 gd (c9 (g+1)/\True) <|
 h (c,g+1,a,d,b,f,e)
def F0V(c:List m6)(j:Int)(l:B7)(m:j7)(n:p5)(o:List Bool)(q:List l7)(h:Bool×Int×Int×Int×Int×Int×Int->Option (Bool×m6)):Bool×Int×Int×Int×Int×Int×Int->Option (Bool×m6)
 | (k,b,i,g,d,e,f) =>
 if(decide (b < (c.length:Int))) then
  gd (ix b c.length/\True) <|
  if((c.getD b.toNat (b7 y53)).1==j) then
   gd (ix b c.length/\True)<|lt (c.getD b.toNat (b7 y53)) fun a =>
   UP b h (a.1,a.2.1.1,a.2.1.2,a.2.2.1,a.2.2.2,true)
  else
   UP b h (i,g,d,e,f,k)
 else
  IN j l m n o q (k,i,g,d,e,f)
def IP(c:j7)(d:p5)(f:List l7)(e:List Bool)(g:List m6)(b:B7)(a:Int):Option (Bool×m6) :=
 lp (F0V g a b c d e f) (false,0,0,0,0,0,0)
def k79:Ct:=j9 79 [.agg l9,.agg r5,.dat y80.sl,.dat Ty.bool.sl,.dat y53.sl,.agg K7,.dat i64] (fun x=>IP x.1 x.2.1 x.2.2.1 x.2.2.2.1 x.2.2.2.2.1 x.2.2.2.2.2.1 x.2.2.2.2.2.2.1) (fun r:Bool×m6=>AV.tup [B r.1,AV.agg [I r.2.1,I r.2.2.1.1,I r.2.2.1.2,I r.2.2.2.1,I r.2.2.2.2]]) (fun _=>())
theorem o79:Ok prog k79:=by
 refine k8 [.tmp 14,.cell 15 53] func79 ?_;intro y ⟨d,h,i,l,a4,k,b,_⟩ r H Q hn hr;have:=hz (tc Tg (tc Zj tn));refine iA [2,3,4,6,7,8,12,15]<|iA [2,3,4,6,7,8,12,15,16]<|iA [2,3,4,6,7,8,12,15,16,17]<|jN r (fun((o,x,z,F,q,n):Bool×Int×Int×Int×Int×Int)=>Z (Km i l b [p 16 (B o),p 17 (R 17)]) (W5 x z F q n k h d)) (IN b k d h l i) (fun w H=>?_) (fun _ n0 e0 t0=>?_)
 ·obtain⟨o,x,z,F,q,n⟩:=w;refine jN r (fun((aG,aP,P,W,aQ,aI):Bool×Int×Int×Int×Int×Int)=>Z [p 15 (R 15),p 16 (B aG),p 17 (R 17)] [(17,bx 53 [J aP,J P,J W,J aQ,J aI]),(15,bx 53 [I 0,I 0,I 0,I 0,I 0])]) (F0W) (fun⟨aG,aP,P,W,aQ,aI⟩ H=>?_) (fun _ n3 e3 t3=>?_)
  ·refine iA [14,15]<|j0<|hr H
  refine iA [2,3,6,7,8,12,15,16,17,19]<|vB<|lX (fun((u,a,g,f,c,e,j):Bool×Int×Int×Int×Int×Int×Int)=>Z (Km i l b [p 16 (B u),p 17 (R 17),p 19 (I a)]) (W5 g f c e j k h d)) (o,0,x,z,F,q,n) H fun _ g4 b4 e4 t4 ⟨u,a,g,f,c,e,j⟩ H=>vQ<|iA [2,3,6,7,8,12,15,16,17,19,45]<|cD H (fun H=>?_) (fun H=>?_)
  ·refine vK<|fQ<|jN r (fun((aH,aD,aL,Y,aJ,aC):Bool×Int×Int×Int×Int×Int)=>Z (Km i l b [p 16 (B aH),p 17 (R 17),p 19 (I a)]) (W5 aD aL Y aJ aC k h d)) (IM a g4) (fun⟨aH,aD,aL,Y,aJ,aC⟩ H=>?_) (fun _ n5 e5 t5=>?_)
   ·refine jB [2,3,6,7,8,12,15,16,17,19] H fun H=>b4 H
   refine vB<|qD (fun V=>Z (Km i l b [p 16 (B u),p 17 (R 17),p 19 (I a),p 20 (R 20)]) ((20,K 80 y80 V)::W5 g f c e j k h d)) H fun V H=>vQ<|iB [2,3,6,7,8,12,15,16,17,19,20,71] H fun H=>cD H (fun H=>vE<|fE<|fX rfl<|n5 H) fun H=>vK<|fQ<|iD Zj [2,3,6,7,8,12,15,16,17,19,20,21,22] H fun _ H=>iB [2,3,6,7,8,12,15,16,17,19,22,23] H fun H=>jN r (fun((t,E,m,v):Int×Int×Int×Int)=>Z (Km i l b [p 17 (R 17),p 19 (I a),p 22 (R 22),p 23 (R 23)]) ((22,bx 51 [I t,I E])::(23,bx 51 [I m,I v])::W5 g f c e j k h d)) (UO a b g4) (fun⟨t,E,m,v⟩ H=>?_) (fun _ n6 e6 t6=>?_)
   ·refine iA [2,3,6,7,8,12,15,16,17,19,22,23]<|jA [2,3,6,7,8,12,15,16,17,19]<|fK<|n5 (s:=(true,b,m,v,t,E)) H (by kernel_rfl)
   refine iA [2,3,6,7,8,12,15,17,19,22,23,106]<|cD H (fun H=>iD Tg [2,3,6,7,8,12,15,17,19,22,23] H fun _ H=>jD Tg [2,3,6,7,8,12,15,17,19,22,23] H fun _ H=>n6 H) fun H=>vK<|n6 H
  exact vE<|fE<|e4<|fX rfl<|n3 H
 refine iA [2,3,4,6,7,8,12,15,16,17,18]<|vB<|lX (fun((v7,X,v9,aS,aO,aK,aR):Bool×Int×Int×Int×Int×Int×Int)=>Z [p 2 (L y80 i),p 3 (L Ty.bool l),p 4 (L y53 a4),p 6 (J b),p 7 (R 7),p 8 (R 8),p 12 (R 12),p 15 (R 15),p 16 (B v7),p 17 (R 17),p 18 (I X)] (W5 v9 aS aO aK aR k h d)) (false,0,0,0,0,0,0) H fun _ g1 b1 e1 t1 ⟨v7,X,v9,aS,aO,aK,aR⟩ H=>vQ<|iA [2,3,4,6,7,8,12,15,16,17,18,28]<|cD H (fun H=>?_) (fun H=>?_)
 ·refine vK<|fQ<|jN r (fun((G,aM,T,aB,aN,aF):Int×Int×Int×Int×Int×Bool)=>Z [p 2 (L y80 i),p 3 (L Ty.bool l),p 4 (L y53 a4),p 6 (J b),p 7 (R 7),p 8 (R 8),p 12 (R 12),p 15 (R 15),p 16 (B aF),p 17 (R 17),p 18 (I X)] (W5 G aM T aB aN k h d)) (UP X g1) (fun⟨G,aM,T,aB,aN,aF⟩ H=>?_) (fun _ n2 e2 t2=>?_)
  ·refine jB [2,3,4,6,7,8,12,15,16,17,18] H fun H=>b1 H
  refine vB<|iB [2,3,4,6,7,8,12,15,16,17,18,37] H fun H=>cD H (fun H=>iA [2,3,4,6,7,8,12,15,16,17,18]<|zD (fun aA=>Z [p 2 (L y80 i),p 3 (L Ty.bool l),p 4 (L y53 a4),p 6 (J b),p 7 (R 7),p 8 (R 8),p 12 (R 12),p 15 (R 15),p 16 (B true),p 17 (R 17),p 18 (I X)] [(17,K 53 y53 aA),(15,bx 53 [I 0,I 0,I 0,I 0,I 0]),(12,K 44 K7 k),(8,K 36 r5 h),(7,K 34 l9 d)]) H fun aA H=>fK<|n2 H) fun H=>vK<|fK<|n2 H
 exact vE<|fE<|e1<|fX rfl<|n0 H
def G0N:List u3×List u3×List Bool->Option (B7×Bool)
 | (a,b,c) =>
 some (((c,b,a),true))
def UQ(d:Int)(e:Int×List u3×List u3×List Bool->Option (B7×Bool)):List u3×List u3×List Bool->Option (B7×Bool)
 | (c,b,a) =>
 gd (c9 (d+1)/\True) <|
 e (d+1,c,b,a)
def G0M(d:List Int)(h:j7)(i:p5)(k:List l7)(j:List Bool)(l:List m6)(g:Int×List u3×List u3×List Bool->Option (B7×Bool)):Int×List u3×List u3×List Bool->Option (B7×Bool)
 | (a,f,c,b) =>
 if(decide (a < (d.length:Int))) then
  gd (ix a d.length/\True) <|
  gd ((IP h i k j l (b,c,f) (d.getD a.toNat 0)).isSome/\True)<|lt (vl (IP h i k j l (b,c,f) (d.getD a.toNat 0))) fun e =>
  if(!e.1) then
   UQ a g (f,c,b)
  else
   gd ((Dd e.2.2.1).isSome/\True) <|
   if(!vl (Dd e.2.2.1)) then
    some ((([],[],[]),false))
   else
    gd (ix (d.getD a.toNat 0) b.length/\Int.toNat (d.getD a.toNat 0)<b.length/\True) <|
    gd (ix (d.getD a.toNat 0) c.length/\Int.toNat (d.getD a.toNat 0)<c.length/\True) <|
    gd (ix (d.getD a.toNat 0) f.length/\Int.toNat (d.getD a.toNat 0)<f.length/\True) <|
    UQ a g ((f.set (Int.toNat (d.getD a.toNat 0)) e.2.2.2,c.set (Int.toNat (d.getD a.toNat 0)) e.2.2.1,b.set (Int.toNat (d.getD a.toNat 0)) true))
 else
  G0N (f,c,b)
def IQ(a:j7)(d:p5)(f:List l7)(e:List Bool)(g:List m6)(c:List Int):Option (B7×Bool) :=
 gd ((X8 a).isSome/\(Kw (vl (X8 a))).isSome/\True)<|lt (vl (Kw (vl (X8 a)))) fun b =>
 lp (G0M c a d f e g) (0,b.2.2,b.2.1,b.1)
def k33:Ct:=j9 33 [.agg l9,.agg r5,.dat y80.sl,.dat Ty.bool.sl,.dat y53.sl,.dat i64.sl] (fun x=>IQ x.1 x.2.1 x.2.2.1 x.2.2.2.1 x.2.2.2.2.1 x.2.2.2.2.2.1) (fun r:B7×Bool=>AV.tup [AV.agg [AV.ow 4 true Ty.bool r.1.1,AV.ow 51 true y51 r.1.2.1,AV.ow 51 true y51 r.1.2.2],B r.2]) (fun _=>())
theorem o33:Ok prog k33:=by
 refine k8 [.cell 12 44,.tmp 13] func33 ?_;intro y ⟨k,n,o,s,l,q,_⟩ r H Q hn hr;have:=hz (tc YY (tc o79 (tc Zk (tc It tn))));refine iA [2,3,4,5,6,7,12]<|iD Zk [2,3,4,5,6,7,12,14] H fun j H=>jN r (fun((e,b,d):List u3×List u3×List Bool)=>Z [p 12 (R 12),p 14 (R 14)] [(14,bx 44 [AV.os 21 0,AV.os 1021 0,AV.os 2021 0]),(2021,A 51 y51 e 0),(1021,A 51 y51 b 0),(21,A 4 Ty.bool d 0),(12,bx 44 [nil,nil,nil])]) (G0N) (fun⟨e,b,d⟩ H=>?_) (fun _ F P v=>?_)
 ·refine iA [12,13]<|j0<|hr H
 refine iA [2,3,4,5,6,7,12,14,15]<|vB<|lX (fun((i,m,h,f):Int×List u3×List u3×List Bool)=>Z [p 2 (L y80 o),p 3 (L Ty.bool s),p 4 (L y53 l),p 5 (L i64 q),p 6 (R 6),p 7 (R 7),p 12 (R 12),p 14 (R 14),p 15 (I i)] [(14,bx 44 [AV.os 21 0,AV.os 1021 0,AV.os 2021 0]),(2021,A 51 y51 m 0),(1021,A 51 y51 h 0),(21,A 4 Ty.bool f 0),(12,bx 44 [nil,nil,nil]),(7,K 36 r5 n),(6,K 34 l9 k)]) (0,j.2.2,j.2.1,j.1) H fun _ u w x z ⟨i,m,h,f⟩ H=>vQ<|iA [2,3,4,5,6,7,12,14,15,25]<|cD H (fun H=>?_) (fun H=>?_)
 ·refine vK<|fQ<|jN r (fun((g,c,a):List u3×List u3×List Bool)=>Z [p 2 (L y80 o),p 3 (L Ty.bool s),p 4 (L y53 l),p 5 (L i64 q),p 6 (R 6),p 7 (R 7),p 12 (R 12),p 14 (R 14),p 15 (I i)] [(14,bx 44 [AV.os 21 0,AV.os 1021 0,AV.os 2021 0]),(2021,A 51 y51 g 0),(1021,A 51 y51 c 0),(21,A 4 Ty.bool a 0),(12,bx 44 [nil,nil,nil]),(7,K 36 r5 n),(6,K 34 l9 k)]) (UQ i u) (fun⟨g,c,a⟩ H=>?_) (fun _ t G E=>?_)
  ·refine jB [2,3,4,5,6,7,12,14,15] H fun H=>w H
  refine vB<|iB [2,3,4,5,6,7,12,14,15,16] H fun H=>iD o79 [2,3,4,5,6,7,12,14,15,16,17,18] H fun _ H=>vQ<|iA [2,3,4,5,6,7,12,14,15,16,18,44]<|cD H (fun H=>vE<|fE<|fX rfl<|t H) fun H=>vK<|fQ<|vQ<|iB [2,3,4,5,6,7,12,14,15,16,18,48] H fun H=>cD H (fun H=>iA [12,13]<|j0<|fR<|l8<|E<|z<|l8<|v<|hr H) fun H=>vK<|fQ<|iB [2,3,4,5,6,7,12,14,15,16,18] H fun H=>iB [2,3,4,5,6,7,12,14,15,16,18] H fun H=>jB [2,3,4,5,6,7,12,14,15] H fun H=>fK<|t H
 exact vE<|fE<|x<|fX rfl<|F H
def Mf(a:j7)(d:p5)(b:List Int)(e:List m6):Option (B7×Int) :=
 gd ((KX a d b e).isSome/\True)<|lt (vl (KX a d b e)) fun f =>
 if(f.2 != 0) then
  some ((([],[],[]),f.2))
 else
  gd ((u32 a).isSome/\True)<|lt (vl (u32 a)) fun c =>
  gd ((AZ c b).isSome/\(IQ a d c (vl (AZ c b)) e f.1).isSome/\True)<|lt ((vl (IQ a d c (vl (AZ c b)) e f.1),vl (AZ c b))) fun(g,_) =>
  if(!g.2) then
   some ((([],[],[]),(3:Int)))
  else
   some ((g.1,(0:Int)))
def UR:Ct:=j9 10 [.agg l9,.agg r5,.dat i64.sl,.dat y53.sl] (fun x=>Mf x.1 x.2.1 x.2.2.1 x.2.2.2.1) (fun r:B7×Int=>AV.tup [AV.agg [AV.ow 4 true Ty.bool r.1.1,AV.ow 51 true y51 r.1.2.1,AV.ow 51 true y51 r.1.2.2],I r.2]) (fun _=>())
theorem o10:Ok prog UR:=by
 refine k8 [.cell 8 44,.tmp 9] func10 ?_;intro y ⟨c,d,_,_,_⟩ r H Q hn hr;have:=hz (tc o33 (tc OE (tc Cp (tc o31 tn))));refine iA [2,3,4,5,8]<|iD o31 [2,3,4,5,8,10,11] H fun e H=>vQ<|iA [2,3,4,5,8,10,11,24]<|cD H (fun H=>iA [8,9]<|j0<|fR<|hr H) fun H=>vK<|fQ<|iD Cp [2,3,4,5,8,10,12] H fun f H=>qD (fun(a,b)=>Z [p 8 (R 8),p 13 (R 13),p 14 (B a.2)] [(13,bx 44 [AV.os 38 0,AV.os 1038 0,AV.os 2038 0]),(2038,A 51 y51 a.1.2.2 0),(1038,A 51 y51 a.1.2.1 0),(38,A 4 Ty.bool a.1.1 0),(35,A 4 Ty.bool b 0),(28,A 80 y80 f 0),(20,A 2 i64 e.1 0),(8,bx 44 [nil,nil,nil]),(5,K 36 r5 d),(4,K 34 l9 c)]) H fun⟨a,b⟩ H =>
  vQ <|
  iA [8,13,42] <|
  cD H (fun H=>iA [8,9]<|j0<|fR<|hr H) fun H=>vK<|fQ<|iA [8,9]<|j0<|hr H
def Fs(a:m6)(d:Bool)(c:u3)(b:u3):Option (m6×Bool) :=
 if(!d) then
  some ((a.1,c,b),true)
 else
  gd ((Me a.2.1 c).isSome/\(Me a.2.2 b).isSome/\True) <|
  some ((a.1,vl (Me a.2.1 c),vl (Me a.2.2 b)),d)
theorem I0t{st:St}{z:j5 y53×j5 Ty.bool}{a:j5 y53}{b:Bool}(e:some (a,b)=some z)(h:PT st 53 y53 4 .bool z=(a=z.1/\b=z.2)):PT st 53 y53 4 .bool z:=by
 cases e;rw[h];exact⟨rfl,rfl⟩
theorem q97:Mg prog 97 53 y53 4 .bool [.agg y51,.agg y51] (fun x1 x2 x=>Fs x1 x2 x.1 x.2.1):=by
 refine H0Y func97 ntmps97 rfl results97 (by kernel_rfl) rfl ?_;intro y x1 x2 ⟨_,_,_⟩ z H Q hQ;have:HG prog Γ:=⟨L7⟩;have:=hz (tc O0M (@tn prog));refine iA [0,1,6,7]<|vQ<|iA [0,1,6,7,11]<|cD H (fun H=>iA [0,1]<|j0<|fR<|(hQ _ (I0t H (by kernel_rfl))).2) fun H=>vK<|fQ<|jB [0,1] H fun H=>(hQ _ (I0t H (by kernel_rfl))).1
def G0z:Int×Int×Int×Int×Int×Bool->Option (Bool×m6)
 | (a,e,d,c,f,b) =>
 if(!b) then
  some ((false,(0:Int),((0:Int),(0:Int)),(0:Int),(0:Int)))
 else
  some ((true,a,(e,d),c,f))
def US(a:Int)(h:Int×Int×Int×Int×Int×Int×Bool->Option (Bool×m6)):Int×Int×Int×Int×Int×Bool->Option (Bool×m6)
 | (b,f,e,d,c,g) =>
 gd (c9 (a+1)/\True) <|
 h (a+1,b,f,e,d,c,g)
def G0y(e:B7)(m:H9)(n:p5)(l:List Int)(o:Int×Int×Int×Int×Int×Int×Bool->Option (Bool×m6)):Int×Int×Int×Int×Int×Int×Bool->Option (Bool×m6)
 | (c,h,g,j,f,k,i) =>
 if(decide (c < (l.length:Int))) then
  gd (ix c l.length/\c.toNat<l.length/\True) <|
  gd (ix (l.getD c.toNat 0) m.1.2.2.1.length/\True)<|lt (m.1.2.2.1.getD (Int.toNat (l.getD c.toNat 0)) (b7 y80)) fun a =>
  gd (ix a.1 e.1.length/\True) <|
  if(e.1.getD a.1.toNat false) then
   gd (ix a.1 e.2.2.length/\(Dj m.1 n (l.getD c.toNat 0) (e.2.2.getD a.1.toNat (b7 y51))).isSome/\True)<|lt (vl (Dj m.1 n (l.getD c.toNat 0) (e.2.2.getD a.1.toNat (b7 y51)))) fun b =>
   gd ((ix a.1 e.2.1.length/\(Dl (e.2.1.getD a.1.toNat (b7 y51)) b.1).isSome/\True)/\(Fs (h,(g,j),f,k) i (vl (Dl (e.2.1.getD a.1.toNat (b7 y51)) b.1),b.2,()).1 (vl (Dl (e.2.1.getD a.1.toNat (b7 y51)) b.1),b.2,()).2.1).isSome/\True)<|lt (vl (Fs (h,(g,j),f,k) i (vl (Dl (e.2.1.getD a.1.toNat (b7 y51)) b.1),b.2,()).1 (vl (Dl (e.2.1.getD a.1.toNat (b7 y51)) b.1),b.2,()).2.1)) fun(d:(m6×Bool)) =>
   gd (True) <|
   US c o (d.1.1,d.1.2.1.1,d.1.2.1.2,d.1.2.2.1,d.1.2.2.2,d.2)
  else
   US c o (h,g,j,f,k,i)
 else
  G0z (h,g,j,f,k,i)
def Mh(e:B7)(a:H9)(d:p5)(b:Int):Int×Int×Int×Int×Int×Bool->Option (Bool×m6)
 | (c,i,k,j,g,f) =>
 gd ((LV a b).isSome/\True)<|lt (vl (LV a b)) fun h =>
 lp (G0y e a d h) (0,c,i,k,j,g,f)
def IS(d:H9)(e:p5)(g:List m6)(f:B7)(b:Int):Option (Bool×m6) :=
 gd ((LU g b).isSome/\True)<|lt (vl (LU g b)) fun a =>
 if a.2 then
  gd (True/\(Fs (b,(Int.ofNat 0,Int.ofNat 0),Int.ofNat 0,Int.ofNat 0) false (a.1.2.1,a.1.2.2,()).1 (a.1.2.1,a.1.2.2,()).2.1).isSome/\True)<|lt (vl (Fs (b,(Int.ofNat 0,Int.ofNat 0),Int.ofNat 0,Int.ofNat 0) false (a.1.2.1,a.1.2.2,()).1 (a.1.2.1,a.1.2.2,()).2.1)) fun(c:(m6×Bool)) =>
  gd (True) <|
  Mh f d e b (c.1.1,c.1.2.1.1,c.1.2.1.2,c.1.2.2.1,c.1.2.2.2,c.2)
 else
  Mh f d e b (b,0,0,0,0,false)
def k42:Ct:=j9 42 [.dat y104.pt,.agg r5,.dat y53.sl,.agg K7,.dat i64] (fun x=>IS x.1 x.2.1 x.2.2.1 x.2.2.2.1 x.2.2.2.2.1) (fun r:Bool×m6=>AV.tup [B r.1,AV.agg [I r.2.1,I r.2.2.1.1,I r.2.2.1.2,I r.2.2.2.1,I r.2.2.2.2]]) (fun _=>())
theorem o42:Ok prog k42:=by
 refine k8 [.tmp 10,.cell 11 53] func42 ?_;intro y ⟨m,o,_,l,W,_⟩ r H Q hn hr;have:=hz (tc o99 (tc o57 (tc o98 (tc o96 tn))));refine iA [0,2,4,6,8,11]<|iA [0,2,4,6,8,11,12]<|iA [0,2,4,6,8,11,12,13]<|jN r (fun((v2,Y,v4,v5,X,v7):Int×Int×Int×Int×Int×Bool)=>Z [p 0 (D y104.pt m),p 4 (J W),p 6 (R 6),p 8 (R 8),p 11 (R 11),p 12 (R 12),p 13 (R 13)] ((12,bx 53 [J v2,J Y,J v4,J v5,J X])::(13,bx 4 [C v7])::Ig l o)) (Mh l m o W) (fun w H=>?_) (fun _ n0 e0 t0=>?_)
 ·obtain⟨v2,Y,v4,v5,X,v7⟩:=w;refine jN r (fun((v,z,E,x,s,T):Int×Int×Int×Int×Int×Bool)=>Z [p 11 (R 11),p 12 (R 12),p 13 (R 13)] [(12,bx 53 [J v,J z,J E,J x,J s]),(13,bx 4 [C T]),(11,bx 53 [I 0,I 0,I 0,I 0,I 0])]) (G0z) (fun⟨v,z,E,x,s,T⟩ H=>?_) (fun _ n1 e1 t1=>?_)
  ·refine vQ<|iA [11,12,85]<|cD H (fun H=>iA [10,11]<|j0<|fR<|hr H) fun H=>vK<|fQ<|iA [10,11]<|j0<|hr H
  refine iD o98 [0,6,8,11,12,13,37,38,39] H fun c H=>vB<|lX (fun((a,i,d,b,f,g,j):Int×Int×Int×Int×Int×Int×Bool)=>Z (Ot m [p 37 (O 37),p 38 (I (c.length:Int)),p 39 (I a)]) ((37,A 2 i64 c 0)::(12,bx 53 [J i,J d,J b,J f,J g])::(13,bx 4 [C j])::Ig l o)) (0,v2,Y,v4,v5,X,v7) H fun _ g2 b2 e2 t2 ⟨a,i,d,b,f,g,j⟩ H=>iA [0,6,8,11,12,13,37,38,39,40]<|vQ<|cD H (fun H=>?_) (fun H=>?_)
  ·refine vK<|fQ<|jN r (fun((q,u,t,P,G,F):Int×Int×Int×Int×Int×Bool)=>Z (Ot m [p 37 (O 37),p 38 (I (c.length:Int)),p 39 (I a)]) ((12,bx 53 [J q,J u,J t,J P,J G])::(13,bx 4 [C F])::(37,A 2 i64 c 0)::Ig l o)) (US a g2) (fun⟨q,u,t,P,G,F⟩ H=>?_) (fun _ n3 e3 t3=>?_)
   ·refine jB [0,6,8,11,12,13,37,38,39] H fun H=>b2 H
   refine vB<|iB [0,6,8,11,12,13,17,37,38,39] H fun H=>qD (fun n=>Z (Ot m [p 17 (I (c.getD a.toNat 0)),p 18 (J n.1),p 37 (O 37),p 38 (I (c.length:Int)),p 39 (I a)]) ((37,A 2 i64 c 0)::(12,bx 53 [J i,J d,J b,J f,J g])::(13,bx 4 [C j])::Ig l o)) H fun n H=>iB [0,6,8,11,12,13,17,18,37,38,39,58] H fun H=>cD H (fun H=>iD o57 [0,6,8,11,12,13,18,19,20,37,38,39] H fun k H=>zU L7 (HT.h) q97 [0,6,8,11,12,13,37,38,39] (fun(e:m6×Bool)=>Z (Ot m [p 37 (O 37),p 38 (I (c.length:Int)),p 39 (I a)]) ((12,K 53 y53 e.1)::(13,bx 4 [C e.2])::(20,bx 51 (p9 true y51 k.2))::(19,bx 51 (p9 true y51 k.1))::(37,A 2 i64 c 0)::Ig l o)) (fun(e:m6×Bool)=>True) (x1:=(i,(d,b),f,g)) (x2:=j) (xs:=(vl (Dl (l.2.1.getD n.1.toNat (b7 y51)) k.1),k.2,())) H (fun _=>by kernel_rfl) fun e H=>J4 H fun H=>fK<|n3 H) fun H=>vK<|fK<|n3 H
  exact vE<|fE<|e2<|fX rfl<|n1 H
 refine iD o96 [0,4,6,8,11,12,13,14,15] H fun v0 H=>iA [0,4,6,8,11,12,13,14,29]<|cD H (fun H=>zT L7 (HT.h) q97 4 [0,4,6,8,11,12,13] (fun(V:m6×Bool)=>Z [p 0 (D y104.pt m),p 4 (J W),p 6 (R 6),p 8 (R 8),p 11 (R 11),p 12 (R 12),p 13 (R 13)] ((12,K 53 y53 V.1)::(13,bx 4 [C V.2])::(14,bx 53 (p9 true y53 v0.1))::Ig l o)) (fun(V:m6×Bool)=>True) (x1:=(W,(Int.ofNat 0,Int.ofNat 0),Int.ofNat 0,Int.ofNat 0)) (x2:=false) (xs:=(v0.1.2.1,v0.1.2.2,())) H (fun _=>by kernel_rfl) fun V H=>J4 H fun H=>n0 H) fun H=>vK<|n0 H
end Go.Proofs.YtdjgagoledoaaaaGreatDoor
end
