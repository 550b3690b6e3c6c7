/- Functions of this program as plain functions of data, and that they are so: printed by program. -/
import Derived.Test.YtdjgagoledoaaaaGreatDoorF86a
section
namespace Go.Proofs.YtdjgagoledoaaaaGreatDoor
open Go Go.Proofs Go.Proofs.Sv Go.Proofs.Xv Go.Proofs.Xl Go.RowKit
open Tryz
def UP(a:H9):Option Bool :=
 some a.2.2.2
def P0N:Ct:=k8 251 [.agg y233] (fun x=>UP x.1) (fun r:Bool=>B r) (fun _=>())
theorem M0z:Ok prog P0N:=by
 refine k9 [.tmp 2] func251 ?_;intro y ⟨_,_⟩ r H Q hn hr;refine iA [1]<|iA [2]<|j0<|hr H
def j0D:Unit->Option Int
 | _ =>
 some (-1)
def r0I(b:List H9)(c:Int->Option Int):Int->Option Int
 | a =>
 if(decide (a < (b.length:Int))) then
  gd (ix a b.length/\(UP (b.getD a.toNat (b7 y233))).isSome/\True) <|
  if(vl (UP (b.getD a.toNat (b7 y233)))) then
   some a
  else
   gd (c9 (a+1)/\True) <|
   c (a+1)
 else
  j0D ()
def PU(a:List H9):Option Int :=
 lp (r0I a) 0
def z0c:Ct:=k8 250 [.dat y233.sl,.nof 251] (fun x=>PU x.1) (fun r:Int=>I r) (fun _=>())
theorem q0t:Ok prog z0c:=by
 refine k9 [.tmp 4] func250 ?_;intro y ⟨b,_,_⟩ r H Q hn hr;have:=hz (tc M0z tn);refine iA [0,1]<|jN r (fun(_:Unit)=>Z [] []) (j0D) (fun _ H=>?_) (fun _ e h g=>?_)
 ·refine iA [4]<|j0<|hr H
 refine iA [0,1,7,8]<|vB<|lX (fun(a:Int)=>Z [p 0 (L y233 b),p 1 (AV.fn 251 []),p 7 (I (b.length:Int)),p 8 (I a)] []) 0 H fun _ i f c d a H=>iA [0,1,7,8,9]<|vQ<|cD H (fun H=>?_) (fun H=>?_)
 ·refine vK<|fQ<|vQ<|vB<|iA [0,1,5,7,8]<|iB [0,1,5,7,8,16] H fun H=>cD H (fun H=>iA [4]<|j0<|l7<|fR<|d<|l7<|g<|hr H) fun H=>vK<|fK<|fQ<|jB [0,1,7,8] H fun H=>f H
 exact vE<|fE<|c<|fX rfl<|e H
def Jd(a:m6):Option Int :=
 gd ((PU a.2.2.1).isSome/\True)<|lt (vl (PU a.2.2.1)) fun b =>
 some b
def P0W:Ct:=k8 236 [.agg y64] (fun x=>Jd x.1) (fun r:Int=>I r) (fun _=>())
theorem M0C:Ok prog P0W:=by
 refine k9 [.tmp 2] func236 ?_;intro y ⟨_,_⟩ r H Q hn hr;have:=hz (tc M0z (tc q0t tn));refine iA [1]<|iD q0t [2] H fun _ H=>j0<|hr H
def PV(a:Int):Option Bool :=
 some (a==4||a==5)
def P0Y:Ct:=k8 234 [.dat i64] (fun x=>PV x.1) (fun r:Bool=>B r) (fun _=>())
theorem O0I:Ok prog P0Y:=by
 refine k9 [.tmp 2] func234 ?_;intro y ⟨_,_⟩ r H Q hn hr;refine iA [0]<|iA [2]<|j0<|hr H
def LU(b:m6)(a:A9):Bool->Option Bool
 | c =>
 if c then
  gd (ix a.2.1 b.2.2.1.length/\True) <|
  some ((b.2.2.1.getD a.2.1.toNat (b7 y233)).2.2.2&&a.2.2.2.1==0)
 else
  some false
def GX(b:m6)(a:A9):Option Bool :=
 gd ((PV a.1).isSome/\True) <|
 if(vl (PV a.1)) then
  gd (((a.2.2.2.1==0&&(a.2.2.2.2.2.length:Int)==0)=true/\True->(V2 a.2.2.2.2.1 false).isSome)/\((a.2.2.2.1==0&&(a.2.2.2.2.2.length:Int)==0&&vl (V2 a.2.2.2.2.1 false))=true/\True->(Jd b).isSome)/\((a.2.2.2.1==0&&(a.2.2.2.2.2.length:Int)==0&&vl (V2 a.2.2.2.2.1 false)&&a.2.1==vl (Jd b)&&decide (0<=a.2.1))=true/\True->(GW b a.2.2.1).isSome)/\True)<|lt (vl (Jd b)) fun c =>
  some (a.2.2.2.1==0&&(a.2.2.2.2.2.length:Int)==0&&vl (V2 a.2.2.2.2.1 false)&&a.2.1==c&&decide (0<=a.2.1)&&vl (GW b a.2.2.1)&&a.2.2.1 != a.2.1)
 else
  gd ((V2 a.2.2.2.2.1 true).isSome/\((!vl (V2 a.2.2.2.2.1 true))=false/\True->(V2 a.2.2.2.2.2 true).isSome)/\((!vl (V2 a.2.2.2.2.1 true)||!vl (V2 a.2.2.2.2.2 true))=false/\True->(V0 b).isSome)/\((!vl (V2 a.2.2.2.2.1 true)||!vl (V2 a.2.2.2.2.2 true)||a.2.2.1 != vl (V0 b))=false/\True->(GW b a.2.1).isSome)/\True)<|lt (vl (V0 b)) fun d =>
  if(!vl (V2 a.2.2.2.2.1 true)||!vl (V2 a.2.2.2.2.2 true)||a.2.2.1 != d||!vl (GW b a.2.1)) then
   some false
  else
   if(a.1==1) then
    gd (ix a.2.1 b.2.2.1.length/\((!(b.2.2.1.getD a.2.1.toNat (b7 y233)).2.2.2)=true/\True->(A4 a.2.2.2.1 1 3).isSome)/\True) <|
    some (!(b.2.2.1.getD a.2.1.toNat (b7 y233)).2.2.2&&vl (A4 a.2.2.2.1 1 3))
   else
    if(a.1==2) then
     LU b a (a.1==2)
    else
     LU b a (a.1==3)
def Q0i:Ct:=k8 220 [.agg y64,.agg y67] (fun x=>GX x.1 x.2.1) (fun r:Bool=>B r) (fun _=>())
theorem O0P:Ok prog Q0i:=by
 refine k9 [.tmp 4] func220 ?_;intro y ⟨b,a,_⟩ r H Q hn hr;have:=hz (tc X9 (tc O0G (tc LR (tc O0H (tc M0C (tc O0I tn))))));refine iA [2,3]<|vQ<|iB [2,3,7] H fun H=>cD H (fun H=>iD M0C [4] H fun _ H=>j0<|fR<|hr H) fun H=>vK<|fQ<|vQ<|iD LR [2,3,70] H fun _ H=>cD H (fun H=>iA [4]<|j0<|fR<|hr H) fun H=>vK<|fQ<|vQ<|iA [2,3,72]<|vB<|iA [2,3,72,73]<|cD H (fun H=>iB [4] H fun H=>j0<|l7<|fR<|hr H) fun H=>jN r (fun(d:Bool)=>Z (G8 [p 88 (B d)]) [(3,K 67 y67 a),(2,K 64 y64 b)]) (LU b a) (fun d H=>?_) (fun _ c e f=>?_)
 ·refine cD H (fun H=>iB [4] H fun H=>j0<|l7<|fR<|hr H) fun H=>vK<|fK<|fQ<|iA [4]<|j0<|hr H
 refine iA [2,3,72,88]<|cD H (fun H=>vK<|c H) fun H=>jA [2,3,88]<|c H
def UQ(a:A9)(b:A9):Option Bool :=
 some (a.1==b.1&&a.2.1==b.2.1&&a.2.2.1==b.2.2.1)
def Q0h:Ct:=k8 222 [.agg y67,.dat (.pt y67)] (fun x=>UQ x.1 x.2.1) (fun r:Bool=>B r) (fun _=>())
theorem UR:Ok prog Q0h:=by
 refine k9 [.tmp 3] func222 ?_;intro y ⟨_,_,_⟩ r H Q hn hr;refine iA [1,2]<|iA [3]<|j0<|hr H
def j0F:Unit->Option Int
 | _ =>
 some (-1)
def r0K(b:List A9)(c:A9)(d:Int->Option Int):Int->Option Int
 | a =>
 if(decide (a < (b.length:Int))) then
  gd (ix a b.length/\(UQ (b.getD a.toNat (b7 y67)) c).isSome/\True) <|
  if(vl (UQ (b.getD a.toNat (b7 y67)) c)) then
   some a
  else
   gd (c9 (a+1)/\True) <|
   d (a+1)
 else
  j0F ()
def PW(a:List A9)(b:A9):Option Int :=
 lp (r0K a b) 0
def z0f:Ct:=k8 238 [.dat y67.sl,.fn 222 y67.pt] (fun x=>PW x.1 x.2.1) (fun r:Int=>I r) (fun _=>())
theorem q0u:Ok prog z0f:=by
 refine k9 [.tmp 4] func238 ?_;intro y ⟨b,c,_⟩ r H Q hn hr;have:=hz (tc UR tn);refine iA [0,1]<|jN r (fun(_:Unit)=>Z [] []) (j0F) (fun _ H=>?_) (fun _ e i h=>?_)
 ·refine iA [4]<|j0<|hr H
 refine iA [0,1,7,8]<|vB<|lX (fun(a:Int)=>Z [p 0 (L y67 b),p 1 (AV.fn 222 [D y67.pt c]),p 7 (I (b.length:Int)),p 8 (I a)] []) 0 H fun _ j g d f a H=>iA [0,1,7,8,9]<|vQ<|cD H (fun H=>?_) (fun H=>?_)
 ·refine vK<|fQ<|vQ<|vB<|iA [0,1,5,7,8]<|iB [0,1,5,7,8,16] H fun H=>cD H (fun H=>iA [4]<|j0<|l7<|fR<|f<|l7<|h<|hr H) fun H=>vK<|fK<|fQ<|jB [0,1,7,8] H fun H=>g H
 exact vE<|fE<|d<|fX rfl<|e H
def LV(a:List A9)(b:A9):Option Bool :=
 gd ((PW a b).isSome/\True)<|lt (vl (PW a b)) fun c =>
 some (decide (0<=c))
def z0h:Ct:=k8 221 [.dat y67.sl,.fn 222 (.pt y67)] (fun x=>LV x.1 x.2.1) (fun r:Bool=>B r) (fun _=>())
theorem y0H:Ok prog z0h:=by
 refine k9 [.tmp 4] func221 ?_;intro y ⟨_,_,_⟩ r H Q hn hr;have:=hz (tc UJ (tc q0u (tc UR tn)));refine iA [0,1]<|iD q0u [4] H fun _ H=>j0<|hr H
def PX(a:m6):Unit->Option Bool
 | _ =>
 some (decide ((a.2.2.2.1.length:Int)<=8))
def A0z(a:m6)(d:Int->Option Bool):Int->Option Bool
 | b =>
 if(decide (b < (a.2.2.2.1.length:Int))) then
  gd (ix b a.2.2.2.1.length/\True)<|lt (a.2.2.2.1.getD b.toNat (b7 y67)) fun c =>
  gd ((GX a c).isSome/\((!vl (GX a c))=false/\True->(0:Int)<=(0:Int)/\(0:Int)<=b/\b<=(a.2.2.2.1.length:Int))/\((!vl (GX a c))=false/\True->(LV (List.take b.toNat a.2.2.2.1) c).isSome)/\True) <|
  if(!vl (GX a c)||vl (LV (List.take b.toNat a.2.2.2.1) c)) then
   some false
  else
   gd (c9 (b+1)/\True) <|
   d (b+1)
 else
  PX a ()
def GY(a:m6):Option Bool :=
 lp (A0z a) 0
def Q0x:Ct:=k8 202 [.agg y64] (fun x=>GY x.1) (fun r:Bool=>B r) (fun _=>())
theorem O0W:Ok prog Q0x:=by
 refine k9 [.tmp 2] func202 ?_;intro y ⟨a,_⟩ r H Q hn hr;have:=hz (tc q0v (tc y0H (tc UR (tc O0P tn))));refine iA [1]<|jN r (fun(_:Unit)=>Z [p 1 (R 1)] [(1,K 64 y64 a)]) (PX a) (fun _ H=>?_) (fun _ f i h=>?_)
 ·refine iA [2]<|j0<|hr H
 refine iA [1,6,7,8]<|vB<|lX (fun(b:Int)=>Z [p 1 (R 1),p 6 (L y67 a.2.2.2.1),p 7 (I (a.2.2.2.1.length:Int)),p 8 (I b)] [(1,K 64 y64 a)]) 0 H fun _ j g d e b H=>iA [1,6,7,8,9]<|vQ<|cD H (fun H=>?_) (fun H=>?_)
 ·refine vK<|fQ<|vQ<|vB<|qD (fun c=>Z (S0 b [p 4 (R 4),p 6 (L y67 a.2.2.2.1),p 7 (I (a.2.2.2.1.length:Int)),p 8 (I b)]) [(4,K 67 y67 c),(1,K 64 y64 a)]) H fun c H=>iB [1,6,7,8,24] H fun H=>cD H (fun H=>iA [2]<|j0<|l7<|fR<|e<|l7<|h<|hr H) fun H=>vK<|fK<|fQ<|jB [1,6,7,8] H fun H=>g H
 exact vE<|fE<|d<|fX rfl<|f H
def LW(a:List H9):List ByteArray->Option Bool
 | b =>
 gd ((Cv a).isSome/\(A4 (vl (Cv a)) 2 5).isSome/\(vl (A4 (vl (Cv a)) 2 5)=true/\True->(Y0 b).isSome)/\True) <|
 some (vl (A4 (vl (Cv a)) 2 5)&&vl (Y0 b))
def PY(a:Int)(c:List ByteArray×Int->Option Bool):List ByteArray->Option Bool
 | b =>
 gd (c9 (a+1)/\True) <|
 c (b,a+1)
def A0A(c:List H9)(e:List ByteArray×Int->Option Bool):List ByteArray×Int->Option Bool
 | (d,b) =>
 if(decide (b < (c.length:Int))) then
  gd (ix b c.length/\True)<|lt (c.getD b.toNat (b7 y233)) fun a =>
  gd ((d.length+[a.1].length<=9223372036854775807/\(d.length+[a.1].length)*16<=140737488355328)/\True) <|
  gd (c9 ((c.length:Int)-1)/\True) <|
  if(b==(c.length:Int)-1) then
   if(a.2.1 != 2||a.2.2.1 != 0||a.2.2.2) then
    some false
   else
    PY b e (d++[a.1])
  else
   gd (((a.2.1 != 1)=false/\True->(A4 a.2.2.1 0 500).isSome)/\True) <|
   if(a.2.1 != 1||!vl (A4 a.2.2.1 0 500)) then
    some false
   else
    PY b e (d++[a.1])
 else
  LW c d
def Fy(a:List H9):Option Bool :=
 lp (A0A a) ([],0)
def Q0y:Ct:=k8 201 [.dat y233.sl] (fun x=>Fy x.1) (fun r:Bool=>B r) (fun _=>())
theorem O0X:Ok prog Q0y:=by
 refine k9 [.tmp 2] func201 ?_;intro y ⟨a,_⟩ r H Q hn hr;have:=hz (tc UG (tc X9 (tc UK tn)));refine iA [0]<|iA [0,3]<|jN r (fun(h:List ByteArray)=>Z [p 0 (L y233 a),p 3 (O 17)] [(17,A 9 Ty.str h 0)]) (LW a) (fun h H=>?_) (fun _ l o j=>?_)
 ·refine iB [2] H fun H=>j0<|hr H
 refine iA [0,3,6,7,8]<|vB<|lX (fun((c,b):List ByteArray×Int)=>Z [p 0 (L y233 a),p 3 (O 17),p 6 (L y233 a),p 7 (I (a.length:Int)),p 8 (I b)] [(17,A 9 Ty.str c 0)]) ([],0) H fun _ n m k f ⟨c,b⟩ H=>iA [0,3,6,7,8,9]<|vQ<|cD H (fun H=>?_) (fun H=>?_)
 ·refine vK<|fQ<|jN r (fun(d:List ByteArray)=>Z [p 0 (L y233 a),p 3 (O 17),p 6 (L y233 a),p 7 (I (a.length:Int)),p 8 (I b)] [(17,A 9 Ty.str d 0)]) (PY b n) (fun d H=>?_) (fun _ g q i=>?_)
  ·refine jB [0,3,6,7,8] H fun H=>m H
  refine vB<|qD (fun e=>Z [p 0 (L y233 a),p 3 (O 17),p 4 (I b),p 5 (R 5),p 6 (L y233 a),p 7 (I (a.length:Int)),p 8 (I b)] [(5,K 233 y233 e),(17,A 9 Ty.str c 0)]) H fun e H=>iB [0,3,4,5,6,7,8] H fun H=>iB [0,3,5,6,7,8,22] H fun H=>cD H (fun H=>?_) (fun H=>?_)
  ·refine iA [0,3,6,7,8,34]<|cD H (fun H=>iA [2]<|j0<|l7<|i<|f<|l7<|j<|hr H) fun H=>vK<|fK<|g H
  refine iB [0,3,6,7,8,43] H fun H=>cD H (fun H=>iA [2]<|j0<|l7<|i<|f<|l7<|j<|hr H) fun H=>vK<|fK<|g H
 exact vE<|fE<|k<|fX rfl<|l H
def LX(a:m6):Option Bool :=
 gd ((P9 a.1).isSome/\(vl (P9 a.1)=true/\True->(Fy a.2.2.1).isSome)/\((vl (P9 a.1)&&vl (Fy a.2.2.1))=true/\True->(GY a).isSome)/\((vl (P9 a.1)&&vl (Fy a.2.2.1)&&vl (GY a))=true/\True->(A4 a.2.2.2.2.2.1 0 100000).isSome)/\((vl (P9 a.1)&&vl (Fy a.2.2.1)&&vl (GY a)&&vl (A4 a.2.2.2.2.2.1 0 100000))=true/\True->(A4 a.2.2.2.2.2.2 0 100000).isSome)/\((vl (P9 a.1)&&vl (Fy a.2.2.1)&&vl (GY a)&&vl (A4 a.2.2.2.2.2.1 0 100000)&&vl (A4 a.2.2.2.2.2.2 0 100000))=true/\True->(PR a).isSome)/\True) <|
 some (vl (P9 a.1)&&vl (Fy a.2.2.1)&&vl (GY a)&&vl (A4 a.2.2.2.2.2.1 0 100000)&&vl (A4 a.2.2.2.2.2.2 0 100000)&&vl (PR a))
def Q0P:Ct:=k8 174 [.agg y64] (fun x=>LX x.1) (fun r:Bool=>B r) (fun _=>())
theorem P0d:Ok prog Q0P:=by
 refine k9 [.tmp 2] func174 ?_;intro y ⟨_,_⟩ r H Q hn hr;have:=hz (tc O0V (tc X9 (tc O0W (tc O0X (tc UE tn)))));refine iA [1]<|iB [2] H fun H=>j0<|hr H
def LY(a:List m6):List ByteArray->Option Bool
 | b =>
 gd ((decide ((a.length:Int)<=8)=true/\True->(Y0 b).isSome)/\True) <|
 some (decide ((a.length:Int)<=8)&&vl (Y0 b))
def B0m(c:List m6)(e:List ByteArray×Int->Option Bool):List ByteArray×Int->Option Bool
 | (d,b) =>
 if(decide (b < (c.length:Int))) then
  gd (ix b c.length/\True)<|lt (c.getD b.toNat (b7 y64)) fun a =>
  gd ((LX a).isSome/\True) <|
  if(!vl (LX a)) then
   some false
  else
   gd ((d.length+[a.1].length<=9223372036854775807/\(d.length+[a.1].length)*16<=140737488355328)/\True) <|
   gd (c9 (b+1)/\True) <|
   e (d++[a.1],b+1)
 else
  LY c d
def LZ(a:List m6):Option Bool :=
 lp (B0m a) ([],0)
def R0y:Ct:=k8 133 [.agg y64.sl] (fun x=>LZ x.1) (fun r:Bool=>B r) (fun _=>())
theorem P0s:Ok prog R0y:=by
 refine k9 [.tmp 2] func133 ?_;intro y ⟨a,_⟩ r H Q hn hr;have:=hz (tc UG (tc P0d tn));refine iA [1]<|iA [1,3]<|jN r (fun(e:List ByteArray)=>Z (Dg []) [(1,bx 26 [L y64 a]),(20,A 9 Ty.str e 0)]) (LY a) (fun e H=>?_) (fun _ h k g=>?_)
 ·refine iB [2] H fun H=>j0<|hr H
 refine iA [1,3,7,8,9]<|vB<|lX (fun((c,b):List ByteArray×Int)=>Z (Dg [p 7 (L y64 a),p 8 (I (a.length:Int)),p 9 (I b)]) [(1,bx 26 [L y64 a]),(20,A 9 Ty.str c 0)]) ([],0) H fun _ l j f i ⟨c,b⟩ H=>iA [1,3,7,8,9,10]<|vQ<|cD H (fun H=>?_) (fun H=>?_)
 ·refine vK<|fQ<|vQ<|vB<|qD (fun d=>Z (Dg [p 5 (R 5),p 7 (L y64 a),p 8 (I (a.length:Int)),p 9 (I b)]) [(5,K 64 y64 d),(1,bx 26 [L y64 a]),(20,A 9 Ty.str c 0)]) H fun d H=>vQ<|iB [1,3,5,7,8,9,15] H fun H=>cD H (fun H=>iA [2]<|j0<|fR<|l7<|fR<|i<|l7<|g<|hr H) fun H=>vK<|fQ<|jB [1,3,7,8,9] H fun H=>fK<|fQ<|jB [1,3,7,8,9] H fun H=>j H
 exact vE<|fE<|f<|fX rfl<|h H
def j0O:Unit->Option Int
 | _ =>
 some (-1)
def r0O(b:List Int)(c:Int->Option Int):Int->Option Int
 | a =>
 if(decide (a < (b.length:Int))) then
  gd (ix a b.length/\(UB (b.getD a.toNat 0)).isSome/\True) <|
  if(vl (UB (b.getD a.toNat 0))) then
   some a
  else
   gd (c9 (a+1)/\True) <|
   c (a+1)
 else
  j0O ()
def PZ(a:List Int):Option Int :=
 lp (r0O a) 0
def z0k:Ct:=k8 179 [.dat i64.sl,.nof 138] (fun x=>PZ x.1) (fun r:Int=>I r) (fun _=>())
theorem q0x:Ok prog z0k:=by
 refine k9 [.tmp 4] func179 ?_;intro y ⟨b,_,_⟩ r H Q hn hr;have:=hz (tc UC tn);refine iA [0,1]<|jN r (fun(_:Unit)=>Z [] []) (j0O) (fun _ H=>?_) (fun _ e h g=>?_)
 ·refine iA [4]<|j0<|hr H
 refine iA [0,1,7,8]<|vB<|lX (fun(a:Int)=>Z [p 0 (L i64 b),p 1 (AV.fn 138 []),p 7 (I (b.length:Int)),p 8 (I a)] []) 0 H fun _ i f c d a H=>iA [0,1,7,8,9]<|vQ<|cD H (fun H=>?_) (fun H=>?_)
 ·refine vK<|fQ<|vQ<|vB<|iA [0,1,5,7,8]<|iB [0,1,5,7,8,16] H fun H=>cD H (fun H=>iA [4]<|j0<|l7<|fR<|d<|l7<|g<|hr H) fun H=>vK<|fK<|fQ<|jB [0,1,7,8] H fun H=>f H
 exact vE<|fE<|c<|fX rfl<|e H
def Qa(a:List Int):Option Bool :=
 gd ((PZ a).isSome/\True)<|lt (vl (PZ a)) fun b =>
 some (decide (0<=b))
def z0o:Ct:=k8 137 [.dat i64.sl,.nof 138] (fun x=>Qa x.1) (fun r:Bool=>B r) (fun _=>())
theorem y0J:Ok prog z0o:=by
 refine k9 [.tmp 4] func137 ?_;intro y ⟨_,_,_⟩ r H Q hn hr;have:=hz (tc q0x (tc UC tn));refine iA [0,1]<|iD q0x [4] H fun _ H=>j0<|hr H
def Ma:List Int->Option Bool
 | a =>
 gd ((Qa a).isSome/\True) <|
 some (!vl (Qa a))
def Qb(b:Int)(c:Int×List Int->Option Bool):List Int->Option Bool
 | a =>
 gd (c9 (b+1)/\True) <|
 c (b+1,a)
def G0f(d:r6)(e:Int×List Int->Option Bool):Int×List Int->Option Bool
 | (c,b) =>
 if(decide (c < (d.2.2.length:Int))) then
  gd (ix c d.2.2.length/\True)<|lt (d.2.2.getD c.toNat (b7 y202)) fun a =>
  gd (((a.2.1 != 1&&a.2.1 != 2)=false/\True->(GV d a.2.2).isSome)/\True) <|
  if(a.2.1 != 1&&a.2.1 != 2||!vl (GV d a.2.2)) then
   some false
  else
   if(a.2.1==1) then
    gd (ix a.2.2 b.length/\a.2.2.toNat<b.length/\c9 (b.getD a.2.2.toNat 0+1)/\ix a.2.2 b.length/\a.2.2.toNat<b.length/\True) <|
    Qb c e (b.set a.2.2.toNat (b.getD a.2.2.toNat 0+1))
   else
    Qb c e b
 else
  Ma b
def Qc(b:r6):List Int->Option Bool
 | a =>
 lp (G0f b) (0,a)
def G0g(c:r6)(e:List m6)(g:Int×List Int->Option Bool):Int×List Int->Option Bool
 | (d,b) =>
 if(decide (d < (c.1.length:Int))) then
  gd (ix d c.1.length/\True)<|lt (c.1.getD d.toNat (b7 y139)) fun a =>
  gd ((LO c e a).isSome/\True) <|
  if(!vl (LO c e a)) then
   some false
  else
   gd (c9 ((a.2.2.length:Int)-1)/\ix ((a.2.2.length:Int)-1) a.2.2.length/\ix (a.2.2.getD ((a.2.2.length:Int)-1).toNat 0) b.length/\Int.toNat (a.2.2.getD ((a.2.2.length:Int)-1).toNat 0)<b.length/\c9 (b.getD (Int.toNat (a.2.2.getD ((a.2.2.length:Int)-1).toNat 0)) 0+1)/\ix (a.2.2.getD ((a.2.2.length:Int)-1).toNat 0) b.length/\Int.toNat (a.2.2.getD ((a.2.2.length:Int)-1).toNat 0)<b.length/\True)<|lt (b.set (Int.toNat (a.2.2.getD ((a.2.2.length:Int)-1).toNat 0)) (b.getD (Int.toNat (a.2.2.getD ((a.2.2.length:Int)-1).toNat 0)) 0+1)) fun f =>
   gd (c9 (d+1)/\True) <|
   g (d+1,f)
 else
  Qc c b
def Mb(b:List m6)(a:r6):Option Bool :=
 gd ((LZ b).isSome/\((!vl (LZ b))=false/\True->(PM a).isSome)/\True) <|
 if(!vl (LZ b)||!vl (PM a)) then
  some false
 else
  gd ((0<=(a.2.1.length:Int)/\(a.2.1.length:Int)=(a.2.1.length:Int)/\(a.2.1.length:Int).toNat*8<=281474976710656/\(a.2.1.length:Int)<=9223372036854775807)/\True) <|
  lp (G0g a b) ((0,List.replicate (a.2.1.length:Int).toNat 0))
def k82:Ct:=k8 82 [.agg y64.sl,.agg y31] (fun x=>Mb x.1 x.2.1) (fun r:Bool=>B r) (fun _=>())
theorem o82:Ok prog k82:=by
 refine k9 [.tmp 4] func82 ?_;intro y ⟨j,a,_⟩ r H Q hn hr;have:=hz (tc UC (tc y0J (tc M0X (tc P0q (tc P0r (tc P0s tn))))));refine iA [2,3]<|vQ<|iB [2,3,17] H fun H=>cD H (fun H=>iA [4]<|j0<|fR<|hr H) fun H=>vK<|fQ<|iB [2,3,5] H fun H=>jN r (fun(i:List Int)=>Z [p 3 (R 3),p 5 (O 21)] [(21,A 3 i64 i 0),(3,K 31 y31 a)]) (Qc a) (fun i H=>?_) (fun _ t G x=>?_)
 ·refine jN r (fun(e:List Int)=>Z [p 5 (O 21)] [(21,A 3 i64 e 0)]) (Ma) (fun e H=>?_) (fun _ n V o=>?_)
  ·refine iB [4] H fun H=>j0<|hr H
  refine iA [3,5,49,50,51]<|vB<|lX (fun((c,b):Int×List Int)=>Z [p 3 (R 3),p 5 (O 21),p 49 (L y202 a.2.2),p 50 (I (a.2.2.length:Int)),p 51 (I c)] [(21,A 3 i64 b 0),(3,K 31 y31 a)]) (0,i) H fun _ s v u q ⟨c,b⟩ H=>iA [3,5,49,50,51,52]<|vQ<|cD H (fun H=>?_) (fun H=>?_)
  ·refine vK<|fQ<|jN r (fun(d:List Int)=>Z [p 3 (R 3),p 5 (O 21),p 49 (L y202 a.2.2),p 50 (I (a.2.2.length:Int)),p 51 (I c)] [(21,A 3 i64 d 0),(3,K 31 y31 a)]) (Qb c s) (fun d H=>?_) (fun _ m T F=>?_)
   ·refine jB [3,5,49,50,51] H fun H=>v H
   refine vB<|qD (fun f=>Z [p 3 (R 3),p 5 (O 21),p 9 (R 9),p 49 (L y202 a.2.2),p 50 (I (a.2.2.length:Int)),p 51 (I c)] [(9,K 202 y202 f),(21,A 3 i64 b 0),(3,K 31 y31 a)]) H fun f H=>vQ<|iB [3,5,9,49,50,51,69] H fun H=>cD H (fun H=>iA [4]<|j0<|fR<|l7<|F<|q<|l7<|o<|hr H) fun H=>vK<|fQ<|iA [3,5,9,49,50,51,72]<|cD H (fun H=>jB [3,5,49,50,51] H fun H=>fK<|m H) fun H=>vK<|fK<|m H
  exact vE<|fE<|u<|fX rfl<|n H
 refine iA [2,3,5,23,24,25]<|vB<|lX (fun((g,k):Int×List Int)=>Z (G8 [p 5 (O 21),p 23 (L y139 a.1),p 24 (I (a.1.length:Int)),p 25 (I g)]) ((21,A 3 i64 k 0)::GG a j)) ((0,List.replicate (a.2.1.length:Int).toNat 0)) H fun _ P w z E ⟨g,k⟩ H=>iA [2,3,5,23,24,25,26]<|vQ<|cD H (fun H=>?_) (fun H=>?_)
 ·refine vK<|fQ<|vQ<|vB<|qD (fun h=>Z (G8 [p 5 (O 21),p 7 (R 7),p 23 (L y139 a.1),p 24 (I (a.1.length:Int)),p 25 (I g)]) ((7,K 139 y139 h)::(21,A 3 i64 k 0)::GG a j)) H fun h H=>vQ<|iB [2,3,5,7,23,24,25,33] H fun H=>cD H (fun H=>iA [4]<|j0<|fR<|l7<|fR<|E<|l7<|x<|hr H) fun H=>vK<|fQ<|zD (fun l=>Z (G8 [p 5 (O 21),p 23 (L y139 a.1),p 24 (I (a.1.length:Int)),p 25 (I g)]) ((21,A 3 i64 l 0)::(7,K 139 y139 h)::GG a j)) H fun l H=>fK<|fQ<|jB [2,3,5,23,24,25] H fun H=>w H
 exact vE<|fE<|z<|fX rfl<|t H
def G0V:Unit->Option Bool
 | _ =>
 some true
def G0T(c:List Int)(d:j6)(e:Int->Option Bool):Int->Option Bool
 | a =>
 if(decide (a < (d.2.2.length:Int))) then
  gd (ix a d.2.2.length/\True)<|lt (d.2.2.getD a.toNat (b7 l9)) fun b =>
  gd (ix a c.length/\a.toNat<c.length/\(LM b (c.getD a.toNat 0)).isSome/\True) <|
  if(!vl (LM b (c.getD a.toNat 0))) then
   some false
  else
   gd (c9 (a+1)/\True) <|
   e (a+1)
 else
  G0V ()
def Qd(a:j6):List Int->Option Bool
 | b =>
 lp (G0T b a) 0
def Qe(a:Int)(b:Int×List Int->Option Bool):List Int->Option Bool
 | c =>
 gd (c9 (a+1)/\True) <|
 b (a+1,c)
def G0U(d:List B6)(f:j6)(e:Int×List Int->Option Bool):Int×List Int->Option Bool
 | (c,a) =>
 if(decide (c < (d.length:Int))) then
  gd (ix c d.length/\c.toNat<d.length/\True)<|lt (d.getD c.toNat (b7 y151)) fun b =>
  if(!b.2.2.2) then
   gd (ix b.2.2.1 a.length/\b.2.2.1.toNat<a.length/\c9 (a.getD b.2.2.1.toNat 0+1)/\ix b.2.2.1 a.length/\b.2.2.1.toNat<a.length/\True)<|lt (a.set b.2.2.1.toNat (a.getD b.2.2.1.toNat 0+1)) fun g =>
   Qe c e g
  else
   Qe c e a
 else
  Qd f a
def Dm(a:j6):Option Bool :=
 gd ((Mb a.1 a.2.1).isSome/\True) <|
 if(!vl (Mb a.1 a.2.1)||(a.2.2.length:Int) != (a.2.1.2.1.length:Int)) then
  some false
 else
  gd ((0<=(a.2.2.length:Int)/\(a.2.2.length:Int)=(a.2.2.length:Int)/\(a.2.2.length:Int).toNat*8<=281474976710656/\(a.2.2.length:Int)<=9223372036854775807)/\True) <|
  gd ((BD a.2.1).isSome/\True)<|lt (vl (BD a.2.1)) fun b =>
  lp (G0U b a) ((0,List.replicate (a.2.2.length:Int).toNat 0))
def k36:Ct:=k8 36 [.agg l6] (fun x=>Dm x.1) (fun r:Bool=>B r) (fun _=>())
theorem o36:Ok prog k36:=by
 refine k9 [.tmp 2] func36 ?_;intro y ⟨a,_⟩ r H Q hn hr;have:=hz (tc o84 (tc Ft (tc o82 tn)));refine iA [1]<|vQ<|iB [1,23] H fun H=>cD H (fun H=>iA [2]<|j0<|fR<|hr H) fun H=>vK<|fQ<|iB [1,3] H fun H=>jN r (fun(f:List Int)=>Z [p 1 (R 1),p 3 (O 27)] [(27,A 2 i64 f 0),(1,K 34 l6 a)]) (Qd a) (fun f H=>?_) (fun _ m v E=>?_)
 ·refine jN r (fun(_:Unit)=>Z [] []) (G0V) (fun _ H=>?_) (fun _ n3 x l=>?_)
  ·refine iA [2]<|j0<|hr H
  refine iA [3,48,49,50]<|vB<|lX (fun(b:Int)=>Z [p 3 (O 27),p 48 (L l9 a.2.2),p 49 (I (a.2.2.length:Int)),p 50 (I b)] [(27,A 2 i64 f 0)]) 0 H fun _ F n q u b H=>iA [3,48,49,50,51]<|vQ<|cD H (fun H=>?_) (fun H=>?_)
  ·refine vK<|fQ<|vQ<|vB<|qD (fun e=>Z [p 3 (O 27),p 6 (I b),p 7 (R 7),p 48 (L l9 a.2.2),p 49 (I (a.2.2.length:Int)),p 50 (I b)] [(7,K 153 l9 e),(27,A 2 i64 f 0)]) H fun e H=>iB [3,48,49,50,61] H fun H=>cD H (fun H=>iA [2]<|j0<|l7<|fR<|u<|l7<|l<|hr H) fun H=>vK<|fK<|fQ<|jB [3,48,49,50] H fun H=>n H
  exact vE<|fE<|q<|fX rfl<|n3 H
 refine iD Ft [1,3,30,31,32] H fun c H=>vB<|lX (fun((d,h):Int×List Int)=>Z [p 1 (R 1),p 3 (O 27),p 30 (O 30),p 31 (I (c.length:Int)),p 32 (I d)] [(30,A 151 y151 c 0),(27,A 2 i64 h 0),(1,K 34 l6 a)]) ((0,List.replicate (a.2.2.length:Int).toNat 0)) H fun _ o s t G ⟨d,h⟩ H=>iA [1,3,30,31,32,33]<|vQ<|cD H (fun H=>?_) (fun H=>?_)
 ·refine vK<|fQ<|jN r (fun(j:List Int)=>Z [p 1 (R 1),p 3 (O 27),p 30 (O 30),p 31 (I (c.length:Int)),p 32 (I d)] [(27,A 2 i64 j 0),(30,A 151 y151 c 0),(1,K 34 l6 a)]) (Qe d o) (fun j H=>?_) (fun _ i z w=>?_)
  ·refine jB [1,3,30,31,32] H fun H=>s H
  refine vB<|qD (fun g=>Z [p 1 (R 1),p 3 (O 27),p 5 (R 5),p 30 (O 30),p 31 (I (c.length:Int)),p 32 (I d)] [(5,bx 151 (p8 true y151 g)),(30,A 151 y151 c 0),(27,A 2 i64 h 0),(1,K 34 l6 a)]) H fun g H=>iA [1,3,5,30,31,32,38]<|cD H (fun H=>zD (fun k=>Z [p 1 (R 1),p 3 (O 27),p 30 (O 30),p 31 (I (c.length:Int)),p 32 (I d)] [(27,A 2 i64 k 0),(5,bx 151 (p8 true y151 g)),(30,A 151 y151 c 0),(1,K 34 l6 a)]) H fun k H=>fK<|i H) fun H=>vK<|fK<|i H
 exact vE<|fE<|t<|fX rfl<|m H
def Ay(a:w7)(b:Int):Option Int :=
 if(b==0) then
  some a.1
 else
  some a.2
def R0S:Ct:=k8 109 [.agg y51,.dat i64] (fun x=>Ay x.1 x.2.1) (fun r:Int=>I r) (fun _=>())
theorem US:Ok prog R0S:=by
 refine k9 [.tmp 4] func109 ?_;intro y ⟨_,_,_⟩ r H Q hn hr;refine iA [1,2]<|vQ<|iA [2,6]<|cD H (fun H=>iA [4]<|j0<|fR<|hr H) fun H=>vK<|fQ<|iA [4]<|j0<|hr H
def G0I:Unit->Option (Int×Int)
 | _ =>
 some (((0:Int),(5:Int)))
def Qf(a:Int)(b:Int->Option (Int×Int)):Unit->Option (Int×Int)
 | _ =>
 gd (c9 (a+1)/\True) <|
 b (a+1)
def Qg(n:Int)(c:u3)(e:Int)(m:j6)(j:o5)(g:List Bool)(k:Int)(h:List l8)(l:Int->Option (Int×Int)):Int->Option (Int×Int)
 | b =>
 if(decide (b < (h.length:Int))) then
  gd (ix b h.length/\True)<|lt (h.getD b.toNat (b7 y80)) fun a =>
  gd (ix b g.length/\((!g.getD b.toNat false||a.2.1 != k)=false/\True->ix a.1 c.1.length)/\True) <|
  if(!g.getD b.toNat false||a.2.1 != k||!c.1.getD a.1.toNat false) then
   Qf b l ()
  else
   gd (ix a.1 c.2.2.length/\(Fk m j a (c.2.2.getD a.1.toNat (b7 y51))).isSome/\True)<|lt (vl (Fk m j a (c.2.2.getD a.1.toNat (b7 y51)))) fun d =>
   gd (ix a.1 c.2.1.length/\(Ay (c.2.1.getD a.1.toNat (b7 y51)) e).isSome/\(Ay d.1 e).isSome/\c9 (vl (Ay (c.2.1.getD a.1.toNat (b7 y51)) e)+vl (Ay d.1 e))/\True)<|lt ((vl (Ay (c.2.1.getD a.1.toNat (b7 y51)) e),vl (Ay d.1 e))) fun(i,f) =>
   if(i+f==n) then
    some ((b,(0:Int)))
   else
    Qf b l ()
 else
  G0I ()
def Qh(b:Int)(h:u3)(a:Int)(e:j6)(c:o5)(f:List Bool)(d:Int)(g:List l8):Unit->Option (Int×Int)
 | _ =>
 lp (Qg b h a e c f d g) 0
def Qi(b:List m8)(c:Int)(e:Int)(d:Int)(k:u3)(h:j6)(g:o5)(i:List Bool)(j:List l8)(l:Int->Option (Int×Int)):Int->Option (Int×Int)
 | a =>
 if(decide (a < (b.length:Int))) then
  gd (ix a b.length/\(((b.getD a.toNat (b7 y53)).1==c)=true/\True->ix a b.length)/\(((b.getD a.toNat (b7 y53)).1==c)=true/\True->(Ay (b.getD a.toNat (b7 y53)).2.1 d).isSome)/\True)<|lt (vl (Ay (b.getD a.toNat (b7 y53)).2.1 d)) fun f =>
  if((b.getD a.toNat (b7 y53)).1==c&&f==e) then
   some (((-1:Int),(0:Int)))
  else
   gd (c9 (a+1)/\True) <|
   l (a+1)
 else
  Qh e k d h g i c j ()
def GZ(b:j6)(f:o5)(i:List l8)(h:List Bool)(g:List m8)(c:u3)(a:Int)(d:Int):Option (Int×Int) :=
 gd ((J5 b).isSome/\c9 (vl (J5 b)-1)/\(r9 a 0 (vl (J5 b)-1)).isSome/\((!vl (r9 a 0 (vl (J5 b)-1)))=false/\True->ix a c.1.length)/\True) <|
 if(!vl (r9 a 0 (vl (J5 b)-1))||!c.1.getD a.toNat false) then
  some (((0:Int),(4:Int)))
 else
  gd (ix a c.2.1.length/\(Ay (c.2.1.getD a.toNat (b7 y51)) d).isSome/\True)<|lt (vl (Ay (c.2.1.getD a.toNat (b7 y51)) d)) fun e =>
  lp (Qi g a e d c b f h i) 0
def k53:Ct:=k8 53 [.agg l6,.agg o8,.dat y80.sl,.dat Ty.bool.sl,.dat y53.sl,.agg y44,.dat i64,.dat i64] (fun x=>GZ x.1 x.2.1 x.2.2.1 x.2.2.2.1 x.2.2.2.2.1 x.2.2.2.2.2.1 x.2.2.2.2.2.2.1 x.2.2.2.2.2.2.2.1) (fun r:Int×Int=>AV.tup [I r.1,I r.2]) (fun _=>())
theorem o53:Ok prog k53:=by
 refine k9 [.tmp 16,.tmp 17] func53 ?_;intro y ⟨d,g,f,e,q,h,c,b,_⟩ r H Q hn hr;have:=hz (tc US (tc Pf (tc AW (tc Cq tn))));refine iA [2,3,4,6,7,8,9,13]<|vQ<|iB [2,3,4,6,7,8,9,13,37] H fun H=>cD H (fun H=>iA [16,17]<|j0<|fR<|hr H) fun H=>vK<|fQ<|iD US [2,3,4,6,7,8,9,13,18] H fun a H=>jN r (fun(_:Unit)=>Z (U6 f e [p 6 (J c),p 7 (J b),p 8 (R 8),p 9 (R 9),p 13 (R 13),p 18 (I a)]) (IK h g d)) (Qh a h b d g e c f) (fun _ H=>?_) (fun _ w V F=>?_)
 ·refine jN r (fun(_:Unit)=>Z [] []) (G0I) (fun _ H=>?_) (fun _ s Y u=>?_)
  ·refine iA [16,17]<|j0<|hr H
  refine iA [2,3,6,7,8,9,13,18,20]<|vB<|lX (fun(i:Int)=>Z (U6 f e [p 6 (J c),p 7 (J b),p 8 (R 8),p 9 (R 9),p 13 (R 13),p 18 (I a),p 20 (I i)]) (IK h g d)) 0 H fun _ v z x t i H=>vQ<|iA [2,3,6,7,8,9,13,18,20,72]<|cD H (fun H=>?_) (fun H=>?_)
  ·refine vK<|fQ<|jN r (fun(_:Unit)=>Z (U6 f e [p 6 (J c),p 7 (J b),p 8 (R 8),p 9 (R 9),p 13 (R 13),p 18 (I a),p 20 (I i)]) (IK h g d)) (Qf i v) (fun _ H=>?_) (fun _ o X T=>?_)
   ·refine jB [2,3,6,7,8,9,13,18,20] H fun H=>z H
   refine vB<|qD (fun m=>Z (U6 f e [p 6 (J c),p 7 (J b),p 8 (R 8),p 9 (R 9),p 13 (R 13),p 18 (I a),p 20 (I i),p 21 (R 21)]) ((21,K 80 y80 m)::IK h g d)) H fun m H=>vQ<|iB [2,3,6,7,8,9,13,18,20,21,98] H fun H=>cD H (fun H=>vE<|fE<|fX rfl<|o H) fun H=>vK<|fQ<|iD Pf [2,3,6,7,8,9,13,18,20,21,22] H fun k H=>qD (fun(l,j)=>Z (U6 f e [p 6 (J c),p 7 (J b),p 8 (R 8),p 9 (R 9),p 13 (R 13),p 18 (I a),p 20 (I i),p 125 (B (l+j==a))]) ((23,bx 51 (p8 true y51 k.2))::(22,bx 51 (p8 true y51 k.1))::(21,K 80 y80 m)::IK h g d)) H fun⟨l,j⟩ H =>
    cD H (fun H=>iA [16,17]<|j0<|l7<|T<|t<|l7<|u<|hr H) fun H=>vK<|fK<|o H
  exact vE<|fE<|x<|fX rfl<|s H
 refine iA [2,3,4,6,7,8,9,13,18,19]<|vB<|lX (fun(n:Int)=>Z (U6 f e [p 4 (L y53 q),p 6 (J c),p 7 (J b),p 8 (R 8),p 9 (R 9),p 13 (R 13),p 18 (I a),p 19 (I n)]) (IK h g d)) 0 H fun _ W E G P n H=>vQ<|iA [2,3,4,6,7,8,9,13,18,19,48]<|cD H (fun H=>?_) (fun H=>?_)
 ·refine vK<|fQ<|vQ<|vB<|iD US [2,3,4,6,7,8,9,13,18,19,68] H fun _ H=>cD H (fun H=>iA [16,17]<|j0<|l7<|fR<|P<|l7<|F<|hr H) fun H=>vK<|fK<|fQ<|jB [2,3,4,6,7,8,9,13,18,19] H fun H=>E H
 exact vE<|fE<|G<|fX rfl<|w H
def UT(a:Int):Option Bool :=
 some (a==0||a==1)
def k52:Ct:=k8 52 [.dat i64] (fun x=>UT x.1) (fun r:Bool=>B r) (fun _=>())
theorem o52:Ok prog k52:=by
 refine k9 [.tmp 2] func52 ?_;intro y ⟨_,_⟩ r H Q hn hr;refine iA [0]<|iA [2]<|j0<|hr H
def B0H:Unit->Option Bool
 | _ =>
 some true
def B0G(b:u3)(c:Int->Option Bool):Int->Option Bool
 | a =>
 if(decide (a < (b.1.length:Int))) then
  gd (ix a b.2.1.length/\(U8 (b.2.1.getD a.toNat (b7 y51))).isSome/\((!vl (U8 (b.2.1.getD a.toNat (b7 y51))))=false/\True->ix a b.2.2.length)/\((!vl (U8 (b.2.1.getD a.toNat (b7 y51))))=false/\True->(Cs (b.2.2.getD a.toNat (b7 y51))).isSome)/\((!vl (U8 (b.2.1.getD a.toNat (b7 y51)))||!vl (Cs (b.2.2.getD a.toNat (b7 y51))))=false/\True->ix a b.1.length)/\((!b.1.getD a.toNat false)=true/\(!vl (U8 (b.2.1.getD a.toNat (b7 y51)))||!vl (Cs (b.2.2.getD a.toNat (b7 y51))))=false/\True->ix a b.2.1.length)/\((!((b.2.1.getD a.toNat (b7 y51)).1==0&&((b.2.1.getD a.toNat (b7 y51)).2==0&&true)))=false/\(!b.1.getD a.toNat false)=true/\(!vl (U8 (b.2.1.getD a.toNat (b7 y51)))||!vl (Cs (b.2.2.getD a.toNat (b7 y51))))=false/\True->ix a b.2.2.length)/\True)<|lt (!vl (U8 (b.2.1.getD a.toNat (b7 y51)))||!vl (Cs (b.2.2.getD a.toNat (b7 y51)))||!b.1.getD a.toNat false&&(!((b.2.1.getD a.toNat (b7 y51)).1==0&&((b.2.1.getD a.toNat (b7 y51)).2==0&&true))||!((b.2.2.getD a.toNat (b7 y51)).1==0&&((b.2.2.getD a.toNat (b7 y51)).2==0&&true)))) fun d =>
  if d then
   some false
  else
   gd (c9 (a+1)/\True) <|
   c (a+1)
 else
  B0H ()
def Mc(b:Int)(a:u3):Option Bool :=
 if((a.1.length:Int) != b||(a.2.1.length:Int) != b||(a.2.2.length:Int) != b) then
  some false
 else
  lp (B0G a) 0
def R0T:Ct:=k8 108 [.dat i64,.agg y44] (fun x=>Mc x.1 x.2.1) (fun r:Bool=>B r) (fun _=>())
theorem P0A:Ok prog R0T:=by
 refine k9 [.tmp 4] func108 ?_;intro y ⟨_,b,_⟩ r H Q hn hr;have:=hz (tc N0f (tc TK tn));refine iA [0,3]<|vQ<|iA [3,24]<|cD H (fun H=>iA [4]<|j0<|fR<|hr H) fun H=>vK<|fQ<|jN r (fun(_:Unit)=>Z [] []) (B0H) (fun _ H=>?_) (fun _ f i h=>?_)
 ·refine iA [4]<|j0<|hr H
 refine iA [3,5]<|vB<|lX (fun(a:Int)=>Z [p 3 (R 3),p 5 (I a)] [(3,K 44 y44 b)]) 0 H fun _ j g d e a H=>vQ<|iA [3,5,29]<|cD H (fun H=>?_) (fun H=>?_)
 ·refine vK<|fQ<|vQ<|vB<|qD (fun c=>Z [p 3 (R 3),p 5 (I a),p 73 (B c)] [(3,K 44 y44 b)]) H fun c H=>cD H (fun H=>iA [4]<|j0<|l7<|fR<|e<|l7<|h<|hr H) fun H=>vK<|fK<|fQ<|jB [3,5] H fun H=>g H
 exact vE<|fE<|d<|fX rfl<|f H
def Md(a:j6)(b:o5)(e:List Int)(d:List m8)(c:u3):Option Int :=
 gd ((K6 a).isSome/\((!vl (K6 a))=false/\True->(Dl b).isSome)/\((!vl (K6 a)||!vl (Dl b))=false/\True->(J5 a).isSome)/\((!vl (K6 a)||!vl (Dl b))=false/\True->(Mc (vl (J5 a)) c).isSome)/\True) <|
 if(!vl (K6 a)||!vl (Dl b)||!vl (Mc (vl (J5 a)) c)) then
  some 1
 else
  gd ((GP a b e d).isSome/\True)<|lt (vl (GP a b e d)) fun f =>
  some f.2
def k51:Ct:=k8 51 [.agg l6,.agg o8,.dat i64.sl,.dat y53.sl,.agg y44] (fun x=>Md x.1 x.2.1 x.2.2.1 x.2.2.2.1 x.2.2.2.2.1) (fun r:Int=>I r) (fun _=>())
theorem o51:Ok prog k51:=by
 refine k9 [.tmp 10] func51 ?_;intro y ⟨_,_,_,_,_,_⟩ r H Q hn hr;have:=hz (tc Py (tc P0A (tc Cq (tc o70 (tc Fo tn)))));refine iA [2,3,5,6,9]<|vQ<|iB [2,3,5,6,27] H fun H=>cD H (fun H=>iA [10]<|j0<|fR<|hr H) fun H=>vK<|fQ<|iD Py [12] H fun _ H=>iA [10]<|j0<|hr H
def Ha(b:List l8)(g:j6)(e:o5)(j:List Bool)(i:List m8)(h:u3)(f:Int)(l:List Int×Int->Option (List Int×Int)):List Int×Int->Option (List Int×Int)
 | (c,k) =>
 gd ((GZ g e b j i h k f).isSome/\True)<|lt (vl (GZ g e b j i h k f)) fun a =>
 if(a.2 != 0) then
  some ([],a.2)
 else
  if(decide (a.1<0)) then
   some ((c,(0:Int)))
  else
   gd (([a.1].length+c.length<=9223372036854775807/\([a.1].length+c.length)*8<=140737488355328)/\True) <|
   gd (ix a.1 b.length/\a.1.toNat<b.length/\True)<|lt (b.getD a.1.toNat (b7 y80)) fun d =>
   l ([a.1]++c,d.1)
def Hb(a:j6)(c:o5)(b:List Int)(f:List m8)(e:u3)(j:Int)(d:Int):Option (List Int×Int) :=
 gd ((Md a c b f e).isSome/\True)<|lt (vl (Md a c b f e)) fun h =>
 if(h != 0) then
  some ([],h)
 else
  gd ((UT d).isSome/\True) <|
  if(!vl (UT d)) then
   some (([],(2:Int)))
  else
   gd ((u32 a).isSome/\True)<|lt (vl (u32 a)) fun g =>
   gd ((Z6 g b).isSome/\True)<|lt (vl (Z6 g b)) fun i =>
   lp (Ha g a c i f e d) ([],j)
def k22:Ct:=k8 22 [.agg l6,.agg o8,.dat i64.sl,.dat y53.sl,.agg y44,.dat i64,.dat i64] (fun x=>Hb x.1 x.2.1 x.2.2.1 x.2.2.2.1 x.2.2.2.2.1 x.2.2.2.2.2.1 x.2.2.2.2.2.2.1) (fun r:List Int×Int=>AV.tup [M i64 r.1,I r.2]) (fun _=>())
theorem UU:Ok prog k22:=by
 refine k9 [.tmp 14,.tmp 15] func22 ?_;intro y ⟨d,b,_,f,e,k,c,_⟩ r H Q hn hr;have:=hz (tc o53 (tc IU (tc Z7 (tc o52 (tc o51 tn)))));refine iA [2,3,5,6,7,8,11]<|vQ<|iD o51 [2,3,5,6,7,8,11,16] H fun _ H=>iA [2,3,5,6,7,8,11,16,30]<|cD H (fun H=>iA [14,15]<|j0<|fR<|hr H) fun H=>vK<|fQ<|vQ<|iB [2,3,5,6,7,8,11,35] H fun H=>cD H (fun H=>iA [14,15]<|j0<|fR<|hr H) fun H=>vK<|fQ<|iD Z7 [2,3,5,6,7,8,11,17] H fun i H=>iD IU [3,5,6,7,8,11,17,18] H fun g H=>iA [3,5,6,7,8,11,17,18,19]<|iA [3,6,7,8,11,17,18,19,20]<|vB<|fZ 42 (Z (OT f c [p 19 (M i64 []),p 20 (J k)]) ((41,A 4 Ty.bool g 0)::(38,A 80 y80 i 0)::(11,K 44 y44 e)::Fi b d))<|lX (fun((h,l):List Int×Int)=>Z (OT f c [p 19 (M i64 h),p 20 (J l)]) ((41,A 4 Ty.bool g 0)::(38,A 80 y80 i 0)::(11,K 44 y44 e)::Fi b d)) ([],k) H fun _ o n q m ⟨h,l⟩ H=>vB<|iD o53 [3,6,7,8,11,17,18,19,21,22] H fun j H=>?_
 refine vQ<|iA [3,6,7,8,11,17,18,19,21,22,57]<|cD H (fun H=>iA [14,15]<|j0<|fR<|l7<|m<|l7<|hr H) fun H=>vK<|fQ<|vQ<|iA [3,6,7,8,11,17,18,19,21,61]<|cD H (fun H=>iA [14,15]<|j0<|fR<|l7<|m<|l7<|hr H) fun H=>vK<|fQ<|iB [3,6,7,8,11,17,18,19,21] H fun H=>zD (fun a=>Z (OT f c [p 19 (AV.os 64 1),p 20 (I a.1)]) ((64,A 2 i64 ([j.1]++h) 1)::(41,A 4 Ty.bool g 0)::(38,A 80 y80 i 0)::(11,K 44 y44 e)::Fi b d)) H fun a H=>fK<|S9 64 (Z (OT f c [p 19 (M i64 ([j.1]++h)),p 20 (I a.1)]) ((41,A 4 Ty.bool g 0)::(38,A 80 y80 i 0)::(11,K 44 y44 e)::Fi b d)) (by kernel_rfl) rfl<|n H
def H0m:Unit->Option Bool
 | _ =>
 some true
def H0l(b:List Int)(c:List Int)(d:Int->Option Bool):Int->Option Bool
 | a =>
 if(decide (a < (b.length:Int))) then
  gd (ix a b.length/\ix a c.length/\True) <|
  if(b.getD a.toNat 0 != c.getD a.toNat 0) then
   some false
  else
   gd (c9 (a+1)/\True) <|
   d (a+1)
 else
  H0m ()
def Hc(a:List Int)(b:List Int):Option Bool :=
 if((a.length:Int) != (b.length:Int)) then
  some false
 else
  lp (H0l a b) 0
def Qj:Ct:=k8 23 [.dat i64.sl,.dat i64.sl] (fun x=>Hc x.1 x.2.1) (fun r:Bool=>B r) (fun _=>())
theorem o23:Ok prog Qj:=by
 refine k9 [.tmp 4] func23 ?_;intro y ⟨d,b,_⟩ r H Q hn hr;refine iA [0,1]<|vQ<|iA [0,1,10]<|cD H (fun H=>iA [4]<|j0<|fR<|hr H) fun H=>vK<|fQ<|jN r (fun(_:Unit)=>Z [] []) (H0m) (fun _ H=>?_) (fun _ e i h=>?_)
 ·refine iA [4]<|j0<|hr H
 refine iA [0,1,5]<|vB<|lX (fun(a:Int)=>Z [p 0 (L i64 d),p 1 (L i64 b),p 5 (I a)] []) 0 H fun _ j g c f a H=>vQ<|iA [0,1,5,14]<|cD H (fun H=>?_) (fun H=>?_)
 ·refine vK<|fQ<|vQ<|vB<|iB [0,1,5,25] H fun H=>cD H (fun H=>iA [4]<|j0<|l7<|fR<|f<|l7<|h<|hr H) fun H=>vK<|fK<|fQ<|jB [0,1,5] H fun H=>g H
 exact vE<|fE<|c<|fX rfl<|e H
def Hd(a:j6):Option (List l8×Int) :=
 gd ((K6 a).isSome/\True) <|
 if(!vl (K6 a)) then
  some (([],(1:Int)))
 else
  gd ((u32 a).isSome/\True)<|lt (vl (u32 a)) fun b =>
  some ((b,(0:Int)))
def k24:Ct:=k8 24 [.agg l6] (fun x=>Hd x.1) (fun r:List l8×Int=>AV.tup [AV.ow 80 true y80 r.1,I r.2]) (fun _=>())
theorem o24:Ok prog k24:=by
 refine k9 [.tmp 2,.tmp 3] func24 ?_;intro y ⟨_,_⟩ r H Q hn hr;have:=hz (tc Z7 (tc Fo tn));refine iA [1]<|vQ<|iB [1,6] H fun H=>cD H (fun H=>iA [2,3]<|j0<|fR<|hr H) fun H=>vK<|fQ<|iD Z7 [2,3] H fun _ H=>j0<|hr H
def BF(b:Int)(a:Int)(c:Int):Option Int :=
 gd (0<a/\0<a/\True) <|
 if(c==0&&decide (b.tmod a<0)) then
  gd (c9 (b.tdiv a-1)/\True) <|
  some (b.tdiv a-1)
 else
  if(c==1&&decide (0<b.tmod a)) then
   gd (c9 (b.tdiv a+1)/\True) <|
   some (b.tdiv a+1)
  else
   some (b.tdiv a)
def R0c:Ct:=k8 160 [.dat i64,.dat i64,.dat i64] (fun x=>BF x.1 x.2.1 x.2.2.1) (fun r:Int=>I r) (fun _=>())
theorem Fz:Ok prog R0c:=by
 refine k9 [.tmp 6] func160 ?_;intro y ⟨_,_,_,_⟩ r H Q hn hr;refine iA [0,1,2]<|iB [2,7,8] H fun H=>vQ<|vB<|iA [2,7,8,15]<|cD H (fun H=>iB [6] H fun H=>j0<|l7<|fR<|hr H) fun H=>iA [7,24]<|cD H (fun H=>iB [6] H fun H=>j0<|l7<|fR<|hr H) fun H=>vK<|fK<|fQ<|iA [6]<|j0<|hr H
def A0D:Int->Option Int
 | a =>
 some a
def UW(d:Int)(c:Int×Int->Option Int):Int×Int->Option Int
 | (a,b) =>
 if(decide (a<b)) then
  gd (c9 (a+b)/\c9 (a+b+(1:Int))/\(0:Int) < (2:Int)/\True) <|
  gd (c9 ((a+b+1).tdiv 2*(a+b+1).tdiv 2)/\True) <|
  if(decide ((a+b+1).tdiv 2*(a+b+1).tdiv 2<=d)) then
   c (((a+b+1).tdiv 2,b))
  else
   gd (c9 ((a+b+1).tdiv 2-1)/\True) <|
   c ((a,(a+b+1).tdiv 2-1))
 else
  A0D a
def Me(a:Int):Option Int :=
 lp (UW a) (0,3000000000)
def Q0B:Ct:=k8 197 [.dat i64] (fun x=>Me x.1) (fun r:Int=>I r) (fun _=>())
theorem M0I:Ok prog Q0B:=by
 refine k9 [.tmp 2] func197 ?_;intro y ⟨f,_⟩ r H Q hn hr;refine iA [0]<|iA [0,3,4]<|jN r (fun(b:Int)=>Z [p 3 (I b)] []) (A0D) (fun b H=>?_) (fun _ g j h=>?_)
 ·refine iA [2]<|j0<|hr H
 refine vB<|lX (fun((a,d):Int×Int)=>Z [p 0 (J f),p 3 (I a),p 4 (I d)] []) (0,3000000000) H fun _ k c e i ⟨a,d⟩ H=>vQ<|iA [0,3,4,8]<|cD H (fun H=>?_) (fun H=>?_)
 ·refine vK<|fQ<|vB<|iB [0,3,4,5] H fun H=>iB [0,3,4,5,18] H fun H=>cD H (fun H=>jA [0,3,4]<|fK<|c H) fun H=>jB [0,3,4] H fun H=>fK<|c H
 exact vE<|fE<|e<|fX rfl<|g H
def V3(a:Int)(b:Int)(d:Int):Option Int :=
 gd (c9 (500*a)/\c9 (500*a*500)/\c9 (500*a*500*a)/\c9 (b*b)/\c9 (500*a*500*a+b*b)/\True) <|
 gd ((Me (500*a*500*a+b*b)).isSome/\True)<|lt (vl (Me (500*a*500*a+b*b))) fun c =>
 gd (((d==1)=true/\True->c9 (c*c))/\True) <|
 if(d==1&&decide (c*c<500*a*500*a+b*b)) then
  gd ((0:Int) < (500:Int)/\c9 (c.tdiv (500:Int)+(1:Int))/\True) <|
  some (c.tdiv 500+1)
 else
  gd ((BF c 500 d).isSome/\True)<|lt (vl (BF c 500 d)) fun e =>
  some e
def Q0Z:Ct:=k8 163 [.dat i64,.dat i64,.dat i64] (fun x=>V3 x.1 x.2.1 x.2.2.1) (fun r:Int=>I r) (fun _=>())
theorem M0N:Ok prog Q0Z:=by
 refine k9 [.tmp 6] func163 ?_;intro y ⟨_,_,_,_⟩ r H Q hn hr;have:=hz (tc Fz (tc M0I tn));refine iA [0,1,2]<|iB [2,7] H fun H=>iD M0I [2,7,8] H fun _ H=>vQ<|iB [2,8,28] H fun H=>cD H (fun H=>iB [6] H fun H=>j0<|fR<|hr H) fun H=>vK<|fQ<|iD Fz [6] H fun _ H=>j0<|hr H
def He(a:Int):Option Bool :=
 some (a != a)
def Q0a:Ct:=k8 232 [.dat i64] (fun x=>He x.1) (fun r:Bool=>B r) (fun _=>())
theorem O0K:Ok prog Q0a:=by
 refine k9 [.tmp 2] func232 ?_;intro y ⟨_,_⟩ r H Q hn hr;refine iA [0]<|iA [2]<|j0<|hr H
def Hf(a:Int):Option Bool :=
 some (a != a)
def P0S:Ct:=k8 244 [.dat i64] (fun x=>Hf x.1) (fun r:Bool=>B r) (fun _=>())
theorem O0F:Ok prog P0S:=by
 refine k9 [.tmp 2] func244 ?_;intro y ⟨_,_⟩ r H Q hn hr;refine iA [0]<|iA [2]<|j0<|hr H
def Mf(a:Int)(b:Int):Option Bool :=
 gd ((Hf a).isSome/\(vl (Hf a)=true/\True->(Hf b).isSome)/\True) <|
 some (vl (Hf a)&&!vl (Hf b)||decide (a<b))
def Q0b:Ct:=k8 231 [.dat i64,.dat i64] (fun x=>Mf x.1 x.2.1) (fun r:Bool=>B r) (fun _=>())
theorem O0L:Ok prog Q0b:=by
 refine k9 [.tmp 4] func231 ?_;intro y ⟨_,_,_⟩ r H Q hn hr;have:=hz (tc O0F tn);refine iA [0,1]<|iB [4] H fun H=>j0<|hr H
def UX(b:List Int)(c:Int):Int->Option (Int×Bool)
 | a =>
 gd ((decide (a < (b.length:Int))=true/\True->ix a b.length)/\((b.getD a.toNat 0==c)=false/\decide (a < (b.length:Int))=true/\True->ix a b.length)/\((b.getD a.toNat 0==c)=false/\decide (a < (b.length:Int))=true/\True->(He (b.getD a.toNat 0)).isSome)/\(vl (He (b.getD a.toNat 0))=true/\(b.getD a.toNat 0==c)=false/\decide (a < (b.length:Int))=true/\True->(He c).isSome)/\True) <|
 some ((a,decide (a < (b.length:Int))&&(b.getD a.toNat 0==c||vl (He (b.getD a.toNat 0))&&vl (He c))))
def Mg(c:List Int)(d:Int)(e:Int×Int->Option (Int×Bool)):Int×Int->Option (Int×Bool)
 | (a,b) =>
 if(decide (a<b)) then
  gd (c9 (a+b)/\((0:Int)<=a+b/\a+b<=(18446744073709551615:Int))/\(((0:Int)<=(1:Int)/\(1:Int)<=(62:Int))/\(0:Int)<=(a+b).fdiv ((2:Int) ^ Int.toNat (1:Int))/\(a+b).fdiv ((2:Int) ^ Int.toNat (1:Int))<=(18446744073709551615:Int))/\c9 ((a+b).fdiv ((2:Int) ^ Int.toNat (1:Int)))/\True) <|
  gd (ix ((a+b).fdiv ((2:Int) ^ Int.toNat (1:Int))) c.length/\(Mf (c.getD ((a+b).fdiv ((2:Int) ^ Int.toNat (1:Int))).toNat (0:Int)) d).isSome/\True) <|
  if(vl (Mf (c.getD ((a+b).fdiv ((2:Int) ^ Int.toNat (1:Int))).toNat (0:Int)) d)) then
   gd (c9 ((a+b).fdiv ((2:Int) ^ Int.toNat (1:Int))+(1:Int))/\True) <|
   e (((a+b).fdiv ((2:Int) ^ Int.toNat (1:Int))+(1:Int),b))
  else
   e ((a,(a+b).fdiv ((2:Int) ^ Int.toNat (1:Int))))
 else
  UX c d a
def Mh(a:List Int)(b:Int):Option (Int×Bool) :=
 lp (Mg a b) ((0,(a.length:Int)))
def Q0n:Ct:=k8 217 [.dat i64.sl,.dat i64] (fun x=>Mh x.1 x.2.1) (fun r:Int×Bool=>AV.tup [I r.1,B r.2]) (fun _=>())
theorem M0E:Ok prog Q0n:=by
 refine k9 [.tmp 4,.tmp 5] func217 ?_;intro y ⟨a,b,_⟩ r H Q hn hr;have:=hz (tc O0K (tc O0L tn));refine iA [0,1]<|iA [0,1,6]<|iA [0,1,6,7,8]<|jN r (fun(c:Int)=>Z [p 0 (L i64 a),p 1 (J b),p 6 (I (a.length:Int)),p 7 (I c)] []) (UX a b) (fun c H=>?_) (fun _ h k i=>?_)
 ·refine iB [4,5] H fun H=>j0<|hr H
 refine vB<|lX (fun((f,d):Int×Int)=>Z [p 0 (L i64 a),p 1 (J b),p 6 (I (a.length:Int)),p 7 (I f),p 8 (I d)] []) ((0,(a.length:Int))) H fun _ l e g j ⟨f,d⟩ H=>vQ<|iA [0,1,6,7,8,15]<|cD H (fun H=>?_) (fun H=>?_)
 ·refine vK<|fQ<|vB<|iB [0,1,6,7,8,9] H fun H=>iB [0,1,6,7,8,9,27] H fun H=>cD H (fun H=>jB [0,1,6,7,8] H fun H=>fK<|e H) fun H=>jA [0,1,6,7,8]<|fK<|e H
 exact vE<|fE<|g<|fX rfl<|h H
def O5(a:List Int)(d:Int):Option (List BG×Int) :=
 gd (ix 0 a.length/\c9 ((a.length:Int)-1)/\ix ((a.length:Int)-1) a.length/\True)<|lt (min (max d (a.getD (Int.toNat (0:Int)) (0:Int))) (a.getD ((a.length:Int)-(1:Int)).toNat (0:Int))) fun c =>
 gd ((Mh a c).isSome/\True)<|lt (vl (Mh a c)) fun b =>
 if b.2 then
  some (([(b.1,(1:Int))],(1:Int)))
 else
  gd (c9 (b.1-1)/\ix b.1 a.length/\c9 (a.getD b.1.toNat 0-c)/\c9 (b.1-1)/\ix (b.1-1) a.length/\c9 (c-a.getD (b.1-1).toNat 0)/\ix b.1 a.length/\c9 (b.1-1)/\ix (b.1-1) a.length/\c9 (a.getD b.1.toNat 0-a.getD (b.1-1).toNat 0)/\True)<|lt ([(b.1-1,a.getD b.1.toNat 0-c),(b.1,c-a.getD (b.1-1).toNat 0)]) fun e =>
  some ((e,a.getD b.1.toNat 0-a.getD (b.1-1).toNat 0))
def Q0C:Ct:=k8 196 [.dat i64.sl,.dat i64] (fun x=>O5 x.1 x.2.1) (fun r:List BG×Int=>AV.tup [AV.ow 252 true S6 r.1,I r.2]) (fun _=>())
theorem UY:Ok prog Q0C:=by
 refine k9 [.tmp 4,.tmp 5] func196 ?_;intro y ⟨a,_,_⟩ r H Q hn hr;have:=hz (tc M0E tn);refine iA [0,1]<|qD (fun b=>Z [p 0 (L i64 a),p 1 (I b)] []) H fun b H=>iD M0E [0,1,6,7] H fun c H=>vQ<|iA [0,1,6,26]<|cD H (fun H=>iA [4,5]<|j0<|fR<|hr H) fun H=>vK<|fQ<|qD (fun d=>Z [p 4 (O 48),p 5 (I (a.getD c.1.toNat 0-a.getD (c.1-1).toNat 0))] [(48,A 252 S6 d 0)]) H fun d H=>j0<|hr H
def Je(b:List BG×Int)(d:List BG×Int)(e:Int):Int->Option Int
 | a =>
 gd (c9 (b.2*d.2)/\(BF a (b.2*d.2) e).isSome/\True)<|lt (vl (BF a (b.2*d.2) e)) fun c =>
 some c
def UZ(a:Int)(c:Int×Int->Option Int):Int->Option Int
 | b =>
 gd (c9 (a+1)/\True) <|
 c (b,a+1)
def Jf(d:u1)(a:BG)(f:List BG×Int)(h:Int)(j:Int×Int->Option Int)(i:Int×Int->Option Int):Int×Int->Option Int
 | (e,c) =>
 if(decide (c < (f.1.length:Int))) then
  gd (ix c f.1.length/\c.toNat<f.1.length/\True)<|lt (f.1.getD c.toNat (b7 S6)) fun b =>
  gd (c9 (a.1*(d.2.1.length:Int))/\c9 (a.1*(d.2.1.length:Int)+b.1)/\ix (a.1*(d.2.1.length:Int)+b.1) d.2.2.length/\c9 (d.2.2.getD (a.1*(d.2.1.length:Int)+b.1).toNat 0*a.2)/\c9 (d.2.2.getD (a.1*(d.2.1.length:Int)+b.1).toNat 0*a.2*b.2)/\c9 (e+d.2.2.getD (a.1*(d.2.1.length:Int)+b.1).toNat 0*a.2*b.2)/\True)<|lt (e+d.2.2.getD (a.1*(d.2.1.length:Int)+b.1).toNat 0*a.2*b.2) fun g =>
  gd (c9 (c+1)/\True) <|
  i (g,c+1)
 else
  UZ h j e
def Hg(f:u1)(e:List BG×Int)(b:List BG×Int)(g:Int)(h:Int×Int->Option Int):Int×Int->Option Int
 | (c,a) =>
 if(decide (a < (b.1.length:Int))) then
  gd (ix a b.1.length/\a.toNat<b.1.length/\True)<|lt (b.1.getD a.toNat (b7 S6)) fun d =>
  lp (Jf f d e a h) (c,0)
 else
  Je b e g c
def J6(a:u1)(b:Int)(c:Int)(e:Int):Option Int :=
 gd ((O5 a.1 b).isSome/\True)<|lt (vl (O5 a.1 b)) fun d =>
 gd ((O5 a.2.1 c).isSome/\True)<|lt (vl (O5 a.2.1 c)) fun f =>
 lp (Hg a f d e) (0,0)
def R0d:Ct:=k8 159 [.agg y70,.dat i64,.dat i64,.dat i64] (fun x=>J6 x.1 x.2.1 x.2.2.1 x.2.2.2.1) (fun r:Int=>I r) (fun _=>())
theorem Qk:Ok prog R0d:=by
 refine k9 [.tmp 8] func159 ?_;intro y ⟨j,_,_,g,_⟩ r H Q hn hr;have:=hz (tc Fz (tc UY tn));refine iA [1,2,3,4]<|iD UY [2,3,4,9,10] H fun a H=>iD UY [3,4,9,10,11,12] H fun b H=>iA [3,4,9,10,11,12,13]<|jN r (fun(m:Int)=>Z [p 3 (J g),p 10 (I a.2),p 12 (I b.2),p 13 (I m)] []) (Je a b g) (fun m H=>?_) (fun _ o w G=>?_)
 ·refine iD Fz [8] H fun _ H=>j0<|hr H
 refine iA [3,4,10,11,12,13,32,33,34]<|vB<|lX (fun((f,c):Int×Int)=>Z (II g a.2 b.2 f [p 32 (O 22),p 33 (I (a.1.length:Int)),p 34 (I c)]) (IJ b.1 a.1 j)) (0,0) H fun _ t u v P ⟨f,c⟩ H=>iA [3,4,10,11,12,13,32,33,34,35]<|vQ<|cD H (fun H=>?_) (fun H=>?_)
 ·refine vK<|fQ<|jN r (fun(k:Int)=>Z (II g a.2 b.2 k [p 32 (O 22),p 33 (I (a.1.length:Int)),p 34 (I c)]) (IJ b.1 a.1 j)) (UZ c t) (fun k H=>?_) (fun _ n F z=>?_)
  ·refine jB [3,4,10,11,12,13,32,33,34] H fun H=>u H
  refine vB<|qD (fun d=>Z (II g a.2 b.2 f [p 15 (R 15),p 32 (O 22),p 33 (I (a.1.length:Int)),p 34 (I c)]) ((15,bx 252 (p8 true S6 d))::IJ b.1 a.1 j)) H fun d H=>iA [3,4,10,11,12,13,15,32,33,34,38,39,40]<|vB<|lX (fun((h,e):Int×Int)=>Z (II g a.2 b.2 h [p 15 (R 15),p 32 (O 22),p 33 (I (a.1.length:Int)),p 34 (I c),p 38 (O 29),p 39 (I (b.1.length:Int)),p 40 (I e)]) ((15,bx 252 (p8 true S6 d))::IJ b.1 a.1 j)) (f,0) H fun _ E s q x ⟨h,e⟩ H=>iA [3,4,10,11,12,13,15,32,33,34,38,39,40,41]<|vQ<|cD H (fun H=>vK<|fQ<|vQ<|vB<|qD (fun i=>Z (II g a.2 b.2 h [p 15 (R 15),p 17 (R 17),p 32 (O 22),p 33 (I (a.1.length:Int)),p 34 (I c),p 38 (O 29),p 39 (I (b.1.length:Int)),p 40 (I e)]) ((17,bx 252 (p8 true S6 i))::(15,bx 252 (p8 true S6 d))::IJ b.1 a.1 j)) H fun i H=>zD (fun l=>Z (II g a.2 b.2 l [p 15 (R 15),p 32 (O 22),p 33 (I (a.1.length:Int)),p 34 (I c),p 38 (O 29),p 39 (I (b.1.length:Int)),p 40 (I e)]) ((17,bx 252 (p8 true S6 i))::(15,bx 252 (p8 true S6 d))::IJ b.1 a.1 j)) H fun l H=>fK<|fQ<|jB [3,4,10,11,12,13,15,32,33,34,38,39,40] H fun H=>s H) fun H=>vE<|fE<|q<|fX rfl<|fK<|n H
 exact vE<|fE<|v<|fX rfl<|o H
def BH(a:C3)(b:l8):Option A9 :=
 gd ((0:Int) < (2:Int)/\ix (b.2.1.tdiv (2:Int)) a.2.1.length/\ix (a.2.1.getD (b.2.1.tdiv (2:Int)).toNat (b7 y151)).1 a.1.2.1.1.length/\True)<|lt (a.1.2.1.1.getD (a.2.1.getD (b.2.1.tdiv 2).toNat (b7 y151)).1.toNat (b7 y139)) fun c =>
 gd (ix c.2.1 a.1.1.length/\ix b.2.2.2 (a.1.1.getD c.2.1.toNat (b7 y64)).2.2.2.1.length/\True)<|lt ((a.1.1.getD c.2.1.toNat (b7 y64)).2.2.2.1.getD b.2.2.2.toNat (b7 y67)) fun d =>
 some d
def R0e:Ct:=k8 158 [.dat y157.pt,.agg y80] (fun x=>BH x.1 x.2.1) (fun r:A9=>AV.agg [I r.1,I r.2.1,I r.2.2.1,I r.2.2.2.1,L y70 r.2.2.2.2.1,L y70 r.2.2.2.2.2]) (fun _=>())
theorem M0P:Ok prog R0e:=by
 refine k9 [.cell 4 67] func158 ?_;intro y ⟨d,b,_⟩ r H Q hn hr;refine iA [0,3,4]<|qD (fun a=>Z [p 0 (D y157.pt d),p 3 (R 3),p 4 (R 4),p 5 (R 5)] [(5,K 139 y139 a),(4,bx 67 [I 0,I 0,I 0,I 0,nil,nil]),(3,K 80 y80 b)]) H fun a H=>qD (fun c=>Z [p 4 (R 4)] [(4,K 67 y67 c),(5,K 139 y139 a),(3,K 80 y80 b)]) H fun c H=>j0<|hr H
def Cy(a:C3)(b:l8):Option Int :=
 gd ((0:Int) < (2:Int)/\ix (b.2.1.tdiv (2:Int)) a.2.1.length/\True)<|lt (a.2.1.getD (b.2.1.tdiv 2).toNat (b7 y151)) fun c =>
 some c.2.2.1
def R0L:Ct:=k8 116 [.dat y157.pt,.agg y80] (fun x=>Cy x.1 x.2.1) (fun r:Int=>I r) (fun _=>())
theorem Jg:Ok prog R0L:=by
 refine k9 [.tmp 4] func116 ?_;intro y ⟨_,b,_⟩ r H Q hn hr;refine iA [0,3]<|qD (fun a=>Z [p 4 (J a.2.2.1)] [(3,K 80 y80 b)]) H fun a H=>j0<|hr H
def F2(a:C3)(f:Int)(e:Int)(d:Int):Option Int :=
 gd (ix f a.2.2.1.length/\True)<|lt (a.2.2.1.getD f.toNat (b7 y80)) fun b =>
 gd ((Cy a b).isSome/\True)<|lt (vl (Cy a b)) fun c =>
 if(b.2.2.1==1) then
  gd ((BH a b).isSome/\(0:Int) < (2:Int)/\ix (b.2.1.tmod (2:Int)) (vl (BH a b)).2.2.2.2.2.length/\ix c a.2.2.2.1.length/\(J6 ((vl (BH a b)).2.2.2.2.2.getD (b.2.1.tmod (2:Int)).toNat (b7 y70)) e (a.2.2.2.1.getD c.toNat (0:Int)) d).isSome/\True)<|lt (vl (J6 ((vl (BH a b)).2.2.2.2.2.getD (b.2.1.tmod 2).toNat (b7 y70)) e (a.2.2.2.1.getD c.toNat 0) d)) fun h =>
  some (min h 1000000)
 else
  gd (ix c a.2.2.2.2.1.length/\ix b.2.2.2 (List.length (a.2.2.2.2.1.getD c.toNat []))/\(V3 e (List.getD (a.2.2.2.2.1.getD c.toNat []) b.2.2.2.toNat 0) d).isSome/\True)<|lt (vl (V3 e (List.getD (a.2.2.2.2.1.getD c.toNat []) b.2.2.2.toNat 0) d)) fun g =>
  some (min g 1000000)
def R0K:Ct:=k8 117 [.dat y157.pt,.dat i64,.dat i64,.dat i64] (fun x=>F2 x.1 x.2.1 x.2.2.1 x.2.2.2.1) (fun r:Int=>I r) (fun _=>())
theorem P0w:Ok prog R0K:=by
 refine k9 [.tmp 8] func117 ?_;intro y ⟨b,_,c,d,_⟩ r H Q hn hr;have:=hz (tc M0N (tc Qk (tc M0P (tc Jg tn))));refine iA [0,1,2,3]<|qD (fun a=>Z [p 0 (D y157.pt b),p 2 (J c),p 3 (J d),p 9 (R 9)] [(9,K 80 y80 a)]) H fun a H=>iD Jg [0,2,3,9,10] H fun _ H=>vQ<|iA [0,2,3,9,10,23]<|cD H (fun H=>iD Qk [8] H fun _ H=>j0<|fR<|hr H) fun H=>vK<|fQ<|iD M0N [8] H fun _ H=>j0<|hr H
def Az(a:Int)(b:Int)(c:Int):Option Int :=
 gd (c9 (a*b)/\(BF (a*b) 1000 c).isSome/\True)<|lt (vl (BF (a*b) 1000 c)) fun d =>
 some d
def R0b:Ct:=k8 161 [.dat i64,.dat i64,.dat i64] (fun x=>Az x.1 x.2.1 x.2.2.1) (fun r:Int=>I r) (fun _=>())
theorem M0O:Ok prog R0b:=by
 refine k9 [.tmp 6] func161 ?_;intro y ⟨_,_,_,_⟩ r H Q hn hr;have:=hz (tc Fz tn);refine iA [0,1,2]<|iD Fz [6] H fun _ H=>j0<|hr H
def Jh(a:o5)(b:Int)(c:Int):Option Int :=
 if(b==1&&c==0) then
  some a.2.1
 else
  if(b==1) then
   some a.2.2.1
  else
   if(c==0) then
    some a.2.2.2.1
   else
    some a.2.2.2.2
def R0a:Ct:=k8 162 [.agg o8,.dat i64,.dat i64] (fun x=>Jh x.1 x.2.1 x.2.2.1) (fun r:Int=>I r) (fun _=>())
theorem P0i:Ok prog R0a:=by
 refine k9 [.tmp 6] func162 ?_;intro y ⟨_,_,_,_⟩ r H Q hn hr;refine iA [1,2,3]<|vQ<|vB<|iA [1,2,3,7]<|cD H (fun H=>iA [6]<|j0<|l7<|fR<|hr H) fun H=>iA [2,3,16]<|cD H (fun H=>iA [6]<|j0<|l7<|fR<|hr H) fun H=>iA [3,21]<|cD H (fun H=>iA [6]<|j0<|l7<|fR<|hr H) fun H=>vK<|fK<|fQ<|iA [6]<|j0<|hr H
def AA(c:o5)(b:l8)(a:Int):Int->Option Int
 | d =>
 gd ((Jh c b.2.2.1 a).isSome/\(Az d (vl (Jh c b.2.2.1 a)) a).isSome/\True)<|lt (vl (Az d (vl (Jh c b.2.2.1 a)) a)) fun e =>
 some e
def L6(b:C3)(e:o5)(g:Int)(f:Int)(d:Int):Option Int :=
 gd (ix g b.2.2.1.length/\True)<|lt (b.2.2.1.getD g.toNat (b7 y80)) fun a =>
 gd ((Cy b a).isSome/\True)<|lt (vl (Cy b a)) fun c =>
 if(a.2.2.1==1) then
  gd ((BH b a).isSome/\(0:Int) < (2:Int)/\ix (a.2.1.tmod (2:Int)) (vl (BH b a)).2.2.2.2.1.length/\ix c b.2.2.2.1.length/\(J6 ((vl (BH b a)).2.2.2.2.1.getD (a.2.1.tmod (2:Int)).toNat (b7 y70)) f (b.2.2.2.1.getD c.toNat (0:Int)) d).isSome/\True)<|lt (vl (J6 ((vl (BH b a)).2.2.2.2.1.getD (a.2.1.tmod 2).toNat (b7 y70)) f (b.2.2.2.1.getD c.toNat 0) d)) fun i =>
  AA e a d i
 else
  gd (ix c b.2.2.2.2.1.length/\ix a.2.2.2 (List.length (b.2.2.2.2.1.getD c.toNat []))/\(BF (List.getD (b.2.2.2.2.1.getD c.toNat []) a.2.2.2.toNat 0) 1000 d).isSome/\True)<|lt (vl (BF (List.getD (b.2.2.2.2.1.getD c.toNat []) a.2.2.2.toNat 0) 1000 d)) fun h =>
  AA e a d h
def R0M:Ct:=k8 115 [.dat y157.pt,.agg o8,.dat i64,.dat i64,.dat i64] (fun x=>L6 x.1 x.2.1 x.2.2.1 x.2.2.2.1 x.2.2.2.2.1) (fun r:Int=>I r) (fun _=>())
theorem P0x:Ok prog R0M:=by
 refine k9 [.tmp 10] func115 ?_;intro y ⟨f,b,_,g,c,_⟩ r H Q hn hr;have:=hz (tc M0O (tc P0i (tc Fz (tc Qk (tc M0P (tc Jg tn))))));refine iA [0,2,3,4,6]<|qD (fun a=>Z [p 0 (D y157.pt f),p 3 (J g),p 4 (J c),p 6 (R 6),p 11 (R 11)] [(11,K 80 y80 a),(6,K 36 o8 b)]) H fun a H=>iD Jg [0,3,4,6,11,12] H fun _ H=>iA [0,3,4,6,11,12]<|jN r (fun(d:Int)=>Z [p 4 (J c),p 6 (R 6),p 11 (R 11),p 13 (I d)] [(11,K 80 y80 a),(6,K 36 o8 b)]) (AA b a c) (fun d H=>?_) (fun _ e h i=>?_)
 ·refine iD M0O [10] H fun _ H=>j0<|hr H
 refine iA [0,3,4,6,11,12,26]<|cD H (fun H=>jD Qk [4,6,11,13] H fun _ H=>e H) fun H=>jD Fz [4,6,11,13] H fun _ H=>e H
def Hh(a:C3)(c:Int)(b:w7):Int×Int->Option (w7×w7)
 | (h,i) =>
 gd ((F2 a c b.1 0).isSome/\(F2 a c b.2 0).isSome/\(F2 a c b.1 1).isSome/\(F2 a c b.2 1).isSome/\True)<|lt ((vl (F2 a c b.1 0),vl (F2 a c b.2 0),vl (F2 a c b.1 1),vl (F2 a c b.2 1))) fun(g,f,d,e) =>
 some (((h,i),min g f,max d e))
def Ba(a:C3)(d:o5)(b:Int)(c:w7):Option (w7×w7) :=
 gd ((L6 a d b c.1 0).isSome/\(L6 a d b c.2 0).isSome/\(L6 a d b c.1 1).isSome/\(L6 a d b c.2 1).isSome/\True)<|lt ((vl (L6 a d b c.1 0),vl (L6 a d b c.2 0),vl (L6 a d b c.1 1),vl (L6 a d b c.2 1))) fun(g,j,i,h) =>
 gd (ix b a.2.2.1.length/\True)<|lt (a.2.2.1.getD b.toNat (b7 y80)) fun f =>
 if(decide (0 < (a.2.2.2.2.2.length:Int))&&f.2.2.1==2) then
  gd ((Cy a f).isSome/\ix (vl (Cy a f)) a.2.2.2.2.2.length/\True)<|lt (vl (Cy a f)) fun e =>
  gd (c9 (min g j-a.2.2.2.2.2.getD e.toNat 0)/\c9 (max i h+a.2.2.2.2.2.getD e.toNat 0)/\True) <|
  Hh a b c (min g j-a.2.2.2.2.2.getD e.toNat 0,max i h+a.2.2.2.2.2.getD e.toNat 0)
 else
  Hh a b c (min g j,max i h)
def k57:Ct:=k8 57 [.dat y157.pt,.agg o8,.dat i64,.agg y51] (fun x=>Ba x.1 x.2.1 x.2.2.1 x.2.2.2.1) (fun r:w7×w7=>AV.tup [AV.agg [I r.1.1,I r.1.2],AV.agg [I r.2.1,I r.2.2]]) (fun _=>())
theorem Ql:Ok prog k57:=by
 refine k9 [.cell 8 51,.cell 9 51] func57 ?_;intro y ⟨d,l,e,a,_⟩ r H Q hn hr;have:=hz (tc P0w (tc Jg (tc P0x tn)));refine iA [0,2,5,7,8,9]<|iA [0,2,5,8,9,10,11]<|qD (fun(f,h,i,g)=>Z [p 0 (D y157.pt d),p 2 (J e),p 8 (R 8),p 9 (R 9),p 10 (J a.1),p 11 (J a.2),p 12 (R 12)] [(12,bx 51 [I (min f h),I (max i g)]),(9,bx 51 [I 0,I 0]),(8,bx 51 [I 0,I 0]),(7,K 51 y51 a),(5,K 36 o8 l)]) H fun⟨f,h,i,g⟩ H =>
  jN r (fun((k,j):Int×Int)=>Z [p 0 (D y157.pt d),p 2 (J e),p 8 (R 8),p 9 (R 9),p 10 (J a.1),p 11 (J a.2),p 12 (R 12)] [(12,bx 51 [I k,I j]),(9,bx 51 [I 0,I 0]),(8,bx 51 [I 0,I 0])]) (Hh d e a) (fun⟨k,j⟩ H=>?_) (fun _ o s t=>?_)
 ·refine qD (fun(q,m,b,c)=>Z [p 8 (R 8),p 9 (R 9),p 12 (R 12),p 15 (R 15)] [(15,bx 51 [I (min q m),I (max b c)]),(12,bx 51 [I k,I j]),(9,bx 51 [I 0,I 0]),(8,bx 51 [I 0,I 0])]) H fun⟨q,m,b,c⟩ H =>
   iA [8,9] <|
   j0<|hr H
 refine qD (fun n=>Z [p 0 (D y157.pt d),p 2 (J e),p 8 (R 8),p 9 (R 9),p 10 (J a.1),p 11 (J a.2),p 12 (R 12),p 13 (R 13)] [(13,K 80 y80 n),(12,bx 51 [I (min f h),I (max i g)]),(9,bx 51 [I 0,I 0]),(8,bx 51 [I 0,I 0]),(7,K 51 y51 a),(5,K 36 o8 l)]) H fun n H=>iA [0,2,8,9,10,11,12,13,60]<|cD H (fun H=>iD Jg [0,2,8,9,10,11,12,14] H fun _ H=>jB [0,2,8,9,10,11,12] H fun H=>o H) fun H=>vK<|o H
def Bb(a:List l8):Option Int :=
 some (a.length:Int)
def R0O:Ct:=k8 113 [.dat y80.sl] (fun x=>Bb x.1) (fun r:Int=>I r) (fun _=>())
theorem N0d:Ok prog R0O:=by
 refine k9 [.tmp 2] func113 ?_;intro y ⟨_,_⟩ r H Q hn hr;refine iA [0]<|iA [2]<|j0<|hr H
def Mi(a:C3)(b:Int):Option Bool :=
 gd ((Bb a.2.2.1).isSome/\c9 (vl (Bb a.2.2.1)-1)/\(A4 b 0 (vl (Bb a.2.2.1)-1)).isSome/\True) <|
 some (vl (A4 b 0 (vl (Bb a.2.2.1)-1)))
def k55:Ct:=k8 55 [.dat y157.pt,.dat i64] (fun x=>Mi x.1 x.2.1) (fun r:Bool=>B r) (fun _=>())
theorem o55:Ok prog k55:=by
 refine k9 [.tmp 4] func55 ?_;intro y ⟨_,_,_⟩ r H Q hn hr;have:=hz (tc X9 (tc N0d tn));refine iA [0,1]<|iB [4] H fun H=>j0<|hr H
def Hi(a:Int)(b:Int):Option Bool :=
 some (decide (100<=a)&&decide (a<=b)&&decide (b<=5000))
def R0P:Ct:=k8 112 [.dat i64,.dat i64] (fun x=>Hi x.1 x.2.1) (fun r:Bool=>B r) (fun _=>())
theorem P0z:Ok prog R0P:=by
 refine k9 [.tmp 4] func112 ?_;intro y ⟨_,_,_⟩ r H Q hn hr;refine iA [0,1]<|iA [4]<|j0<|hr H
def Hj(a:o5):Option Bool :=
 gd ((P9 a.1).isSome/\(vl (P9 a.1)=true/\True->(Hi a.2.1 a.2.2.1).isSome)/\((vl (P9 a.1)&&vl (Hi a.2.1 a.2.2.1))=true/\True->(Hi a.2.2.2.1 a.2.2.2.2).isSome)/\True) <|
 some (vl (P9 a.1)&&vl (Hi a.2.1 a.2.2.1)&&vl (Hi a.2.2.2.1 a.2.2.2.2))
def k54:Ct:=k8 54 [.agg o8] (fun x=>Hj x.1) (fun r:Bool=>B r) (fun _=>())
theorem o54:Ok prog k54:=by
 refine k9 [.tmp 2] func54 ?_;intro y ⟨_,_⟩ r H Q hn hr;have:=hz (tc P0z (tc UE tn));refine iA [1]<|iB [2] H fun H=>j0<|hr H
def Ji(a:j6)(c:o5)(e:Int)(d:w7):Option (w7×w7×Int) :=
 gd ((Dm a).isSome/\((!vl (Dm a))=false/\True->(Hj c).isSome)/\True) <|
 if(!vl (Dm a)||!vl (Hj c)) then
  some ((((0:Int),(0:Int)),((0:Int),(0:Int)),(1:Int)))
 else
  gd ((GU a).isSome/\True)<|lt (vl (GU a)) fun b =>
  gd ((Mi b e).isSome/\True) <|
  if(!vl (Mi b e)) then
   some ((((0:Int),(0:Int)),((0:Int),(0:Int)),(4:Int)))
  else
   gd ((Aa d).isSome/\True) <|
   if(!vl (Aa d)) then
    some ((((0:Int),(0:Int)),((0:Int),(0:Int)),(2:Int)))
   else
    gd ((Ba b c e d).isSome/\True)<|lt (vl (Ba b c e d)) fun f =>
    some ((f.1,f.2,(0:Int)))
def k25:Ct:=k8 25 [.agg l6,.agg o8,.dat i64,.agg y51] (fun x=>Ji x.1 x.2.1 x.2.2.1 x.2.2.2.1) (fun r:w7×w7×Int=>AV.tup [AV.agg [I r.1.1,I r.1.2],AV.agg [I r.2.1.1,I r.2.1.2],I r.2.2]) (fun _=>())
theorem o25:Ok prog k25:=by
 refine k9 [.cell 8 51,.cell 9 51,.tmp 10] func25 ?_;intro y ⟨_,_,_,_,_⟩ r H Q hn hr;have:=hz (tc Ql (tc Uk (tc o55 (tc PD (tc o54 (tc o36 tn))))));refine iA [2,4,5,7,8,9]<|vQ<|iB [2,4,5,7,8,9,21] H fun H=>cD H (fun H=>iA [8,9,10]<|j0<|fR<|hr H) fun H=>vK<|fQ<|iD PD [2,5,7,8,9,11] H fun _ H=>vQ<|vB<|iB [2,5,7,8,9,11,26] H fun H=>cD H (fun H=>iA [8,9,10]<|j0<|l7<|fR<|hr H) fun H=>iB [2,5,7,8,9,11,33] H fun H=>cD H (fun H=>iA [8,9,10]<|j0<|l7<|fR<|hr H) fun H=>vK<|fK<|fQ<|iD Ql [8,9,12,13] H fun _ H=>iA [8,9,10]<|j0<|hr H
def H0i:Unit->Option Bool
 | _ =>
 some false
def H0h(b:List Int)(c:Int)(d:Int->Option Bool):Int->Option Bool
 | a =>
 if(decide (a < (b.length:Int))) then
  gd (ix a b.length/\True) <|
  if(b.getD a.toNat 0==c) then
   some true
  else
   gd (c9 (a+1)/\True) <|
   d (a+1)
 else
  H0i ()
def Mj(a:List Int)(b:Int):Option Bool :=
 lp (H0h a b) 0
def k26:Ct:=k8 26 [.dat i64.sl,.dat i64] (fun x=>Mj x.1 x.2.1) (fun r:Bool=>B r) (fun _=>())
theorem o26:Ok prog k26:=by
 refine k9 [.tmp 4] func26 ?_;intro y ⟨d,b,_⟩ r H Q hn hr;refine iA [0,1]<|jN r (fun(_:Unit)=>Z [] []) (H0i) (fun _ H=>?_) (fun _ e i h=>?_)
 ·refine iA [4]<|j0<|hr H
 refine iA [0,1,5]<|vB<|lX (fun(a:Int)=>Z [p 0 (L i64 d),p 1 (J b),p 5 (I a)] []) 0 H fun _ j g c f a H=>vQ<|iA [0,1,5,9]<|cD H (fun H=>?_) (fun H=>?_)
 ·refine vK<|fQ<|vQ<|vB<|iB [0,1,5,17] H fun H=>cD H (fun H=>iA [4]<|j0<|l7<|fR<|f<|l7<|h<|hr H) fun H=>vK<|fK<|fQ<|jB [0,1,5] H fun H=>g H
 exact vE<|fE<|c<|fX rfl<|e H
def H0g(a:List Int):Int->Option (List Int×Int×Int)
 | b =>
 some ((a,(0:Int),b))
def H0f(b:List Int)(d:Int×Int->Option (List Int×Int×Int)):Int×Int->Option (List Int×Int×Int)
 | (a,c) =>
 if(decide (a < (b.length:Int))&&decide (a<64)) then
  gd (c9 (c*(31:Int))/\ix a b.length/\True/\c9 (c*(31:Int)+b.getD a.toNat (0:Int))/\(0:Int) < (2147483647:Int)/\True) <|
  gd (c9 (a+1)/\True) <|
  d ((a+1,(c*31+b.getD a.toNat 0).tmod 2147483647))
 else
  H0g b c
def Hk(a:List Int):Option (List Int×Int×Int) :=
 lp (H0f a) (0,12345)
def k27:Ct:=k8 27 [.dat (b8.sl)] (fun x=>Hk x.1) (fun r:List Int×Int×Int=>AV.ob 122 [L b8 r.1,I r.2.1,I r.2.2]) (fun _=>())
theorem o27:Ok prog k27:=by
 refine k9 [.tmp 2] func27 ?_;intro y ⟨a,_⟩ r H Q hn hr;refine iA [0]<|iA [0,3]<|jN r (fun(b:Int)=>Z [p 3 (R 7)] [(7,bx 122 [L b8 a,I 0,I b])]) (H0g a) (fun b H=>?_) (fun _ f j h=>?_)
 ·refine iA [2]<|j0<|hr H
 refine iA [0,3,4]<|vB<|lX (fun((d,c):Int×Int)=>Z [p 0 (L b8 a),p 3 (R 7),p 4 (I d)] [(7,bx 122 [L b8 a,I 0,I c])]) (0,12345) H fun _ k g e i ⟨d,c⟩ H=>vQ<|iA [0,3,4,15]<|cD H (fun H=>vK<|fQ<|vQ<|vB<|jB [0,3,4] H fun H=>fK<|fQ<|jB [0,3,4] H fun H=>g H) fun H=>vE<|fE<|e<|fX rfl<|f H
def T3(a:C3)(b:Int):Option Bool :=
 gd ((P7 a).isSome/\c9 (vl (P7 a)-1)/\(A4 b 0 (vl (P7 a)-1)).isSome/\True) <|
 some (vl (A4 b 0 (vl (P7 a)-1)))
def k41:Ct:=k8 41 [.dat y157.pt,.dat i64] (fun x=>T3 x.1 x.2.1) (fun r:Bool=>B r) (fun _=>())
theorem o41:Ok prog k41:=by
 refine k9 [.tmp 4] func41 ?_;intro y ⟨_,_,_⟩ r H Q hn hr;have:=hz (tc X9 (tc Ly tn));refine iA [0,1]<|iB [4] H fun H=>j0<|hr H
def b9(a:l5)(b:Int):Option (Int×l5) :=
 if(decide (b<=1)) then
  some (((0:Int),a))
 else
  if(decide (a.2.1 < (a.1.length:Int))) then
   gd (ix a.2.1 a.1.length/\True/\True) <|
   gd (c9 (a.2.1+1)/\True) <|
   if(decide (b<=256)) then
    gd (0<b/\True) <|
    some ((Int.tmod (a.1.getD a.2.1.toNat 0) b,a.1,a.2.1+1,a.2.2))
   else
    gd (c9 (a.2.2*(48271:Int))/\c9 (a.2.2*(48271:Int)+a.1.getD a.2.1.toNat (0:Int))/\c9 (a.2.2*(48271:Int)+a.1.getD a.2.1.toNat (0:Int)+(1:Int))/\(0:Int) < (2147483647:Int)/\True)<|lt ((a.2.2*48271+a.1.getD a.2.1.toNat 0+1).tmod 2147483647) fun c =>
    gd (0<b/\True) <|
    some (c.tmod b,a.1,a.2.1+1,c)
  else
   gd (c9 (a.2.2*(48271:Int))/\c9 (a.2.2*(48271:Int)+(11:Int))/\(0:Int) < (2147483647:Int)/\True) <|
   gd ((0:Int) < (7:Int)/\(0:Int)<b/\True) <|
   some (((((a.2.2*48271+11).tmod 2147483647).tdiv 7).tmod b,a.1,a.2.1,(a.2.2*48271+11).tmod 2147483647))
def k60:Ct:=k8 60 [.io 122 m4,.dat i64] (fun x=>b9 x.1 x.2.1) (fun r:Int×l5=>I r.1) (fun r=>r.2)
theorem B4:Ok prog k60:=by
 refine k9 [.tmp 4] func60 ?_;intro y ⟨a,c,_⟩ r H Q hn hr;refine iA [0,1]<|vQ<|iA [0,1,7]<|cD H (fun H=>iA [4]<|j0<|fR<|hr H) fun H=>vK<|fQ<|vQ<|iA [0,1,17]<|cD H (fun H=>?_) (fun H=>?_)
 ·refine iB [0,1,5] H fun H=>iB [0,1,5] H fun H=>vQ<|iA [0,1,5,37]<|cD H (fun H=>iB [4] H fun H=>j0<|fR<|fR<|hr H) fun H=>vK<|fQ<|qD (fun b=>Z [p 0 (R 500000),p 1 (J c)] [(500000,bx 122 [L b8 a.1,I (a.2.1+1),I b])]) H fun b H=>iB [4] H fun H=>j0<|fR<|hr H
 refine vK<|fQ<|iB [0,1] H fun H=>iB [4] H fun H=>j0<|hr H
def Mm(d:l5):Int->Option (Int×l5)
 | b =>
 gd ((b9 d 16).isSome/\True)<|lt (vl (b9 d 16)) fun a =>
 if(a.1==0) then
  gd ((b9 a.2 2).isSome/\ix (vl (b9 a.2 2)).1 [-1,b].length/\(vl (b9 a.2 2)).1.toNat<[-1,b].length/\True)<|lt (vl (b9 a.2 2)) fun c =>
  some ([-1,b].getD c.1.toNat 0,c.2)
 else
  gd ((b9 a.2 b).isSome/\True)<|lt (vl (b9 a.2 b)) fun e =>
  some e
def Hl(b:l5)(a:j6):Option (Int×l5) :=
 gd ((K6 a).isSome/\True) <|
 if(vl (K6 a)) then
  gd ((J5 a).isSome/\True)<|lt (vl (J5 a)) fun c =>
  Mm b c
 else
  Mm b 8
def R0V:Ct:=k8 105 [.io 122 m4,.agg l6] (fun x=>Hl x.1 x.2.1) (fun r:Int×l5=>I r.1) (fun r=>r.2)
theorem Va:Ok prog R0V:=by
 refine k9 [.tmp 4] func105 ?_;intro y ⟨a,_,_⟩ r H Q hn hr;have:=hz (tc B4 (tc Cq (tc Fo tn)));refine iA [0,3]<|iA [0,3,5]<|jN r (fun(c:Int)=>Z [p 0 (R 500000),p 5 (I c)] [(500000,K 122 m4 a)]) (Mm a) (fun c H=>?_) (fun _ b d e=>?_)
 ·refine vQ<|iD B4 [0,5,12] H fun _ H=>cD H (fun H=>iD B4 [4] H fun _ H=>j0<|fR<|hr H) fun H=>vK<|fQ<|iD B4 [4] H fun _ H=>j0<|hr H
 refine iB [0,3,5,7] H fun H=>cD H (fun H=>jD Cq [0,5] H fun _ H=>b H) fun H=>vK<|b H
def B0K:List Int->Option (List Int)
 | a =>
 some a
def Vb(a:Int)(c:Int×List Int->Option (List Int)):List Int->Option (List Int)
 | b =>
 gd (c9 (a+1)/\True) <|
 c (a+1,b)
def B0J(c:List Bool)(d:Int×List Int->Option (List Int)):Int×List Int->Option (List Int)
 | (a,b) =>
 if(decide (a < (c.length:Int))) then
  gd (ix a c.length/\True) <|
  if(c.getD a.toNat false) then
   gd ((b.length+[a].length<=9223372036854775807/\(b.length+[a].length)*8<=140737488355328)/\True) <|
   Vb a d (b++[a])
  else
   Vb a d b
 else
  B0K b
def Qm(a:List Bool):Option (List Int) :=
 lp (B0J a) (0,[])
def R0W:Ct:=k8 104 [.dat Ty.bool.sl] (fun x=>Qm x.1) (fun r:List Int=>AV.ow 2 true i64 r) (fun _=>())
theorem N0e:Ok prog R0W:=by
 refine k9 [.tmp 2] func104 ?_;intro y ⟨c,_⟩ r H Q hn hr;refine iA [0]<|iA [0,3]<|jN r (fun(d:List Int)=>Z [p 3 (O 5)] [(5,A 2 i64 d 0)]) (B0K) (fun d H=>?_) (fun _ h k l=>?_)
 ·refine iA [2]<|j0<|hr H
 refine iA [0,3,4]<|vB<|lX (fun((a,e):Int×List Int)=>Z [p 0 (L Ty.bool c),p 3 (O 5),p 4 (I a)] [(5,A 2 i64 e 0)]) (0,[]) H fun _ j i g m ⟨a,e⟩ H=>vQ<|iA [0,3,4,9]<|cD H (fun H=>?_) (fun H=>?_)
 ·refine vK<|fQ<|jN r (fun(b:List Int)=>Z [p 0 (L Ty.bool c),p 3 (O 5),p 4 (I a)] [(5,A 2 i64 b 0)]) (Vb a j) (fun b H=>?_) (fun _ f n o=>?_)
  ·refine jB [0,3,4] H fun H=>i H
  refine vB<|iB [0,3,4,15] H fun H=>cD H (fun H=>jB [0,3,4] H fun H=>fK<|f H) fun H=>vK<|fK<|f H
 exact vE<|fE<|g<|fX rfl<|h H
def Hm(b:l5)(c:j6)(e:u3):Option (Int×l5) :=
 gd ((Qm e.1).isSome/\True)<|lt (vl (Qm e.1)) fun a =>
 gd (True)<|if(decide (0 < (a.length:Int))) then
  gd (((b9 b 8).isSome/\True)/\True)<|if(true&&decide (0 < (vl (b9 b 8)).1)) then
   gd ((b9 (vl (b9 b 8)).2 (a.length:Int)).isSome/\ix (vl (b9 (vl (b9 b 8)).2 (a.length:Int))).1 a.length/\(vl (b9 (vl (b9 b 8)).2 (a.length:Int))).1.toNat<a.length/\True)<|lt (vl (b9 (vl (b9 b 8)).2 (a.length:Int))) fun f =>
   some (a.getD f.1.toNat 0,f.2)
  else
   gd ((Hl (vl (b9 b 8)).2 c).isSome/\True)<|lt (vl (Hl (vl (b9 b 8)).2 c)) fun h =>
   some h
 else
  gd (True)<|if(false&&false) then
   gd ((b9 b (a.length:Int)).isSome/\ix (vl (b9 b (a.length:Int))).1 a.length/\(vl (b9 b (a.length:Int))).1.toNat<a.length/\True)<|lt (vl (b9 b (a.length:Int))) fun d =>
   some (a.getD d.1.toNat 0,d.2)
  else
   gd ((Hl b c).isSome/\True)<|lt (vl (Hl b c)) fun g =>
   some g
def k47:Ct:=k8 47 [.io 122 m4,.agg l6,.agg y44] (fun x=>Hm x.1 x.2.1 x.2.2.1) (fun r:Int×l5=>I r.1) (fun r=>r.2)
theorem o47:Ok prog k47:=by
 refine k9 [.tmp 6] func47 ?_;intro y ⟨_,_,_,_⟩ r H Q hn hr;have:=hz (tc Va (tc B4 (tc N0e tn)));refine iA [0,4,5]<|iD N0e [0,4,7] H fun _ H=>vQ<|vQ<|iG 4 3 [0,4,7,18] [(15,AV.ptr 500000 0),(16,I 0),(17,B false)] H (fun H=>H6 H fun H=>fQ ?_) (fun H=>H6 H fun H=>fQ ?_)
 ·refine cD H (fun H=>iD B4 [6] H fun _ H=>j0<|fR<|hr H) fun H=>vK<|fQ<|iD Va [6] H fun _ H=>j0<|hr H
 refine cD H (fun H=>iD B4 [6] H fun _ H=>j0<|fR<|hr H) fun H=>vK<|fQ<|iD Va [6] H fun _ H=>j0<|hr H
def Mn(b:l5):Option (Int×l5) :=
 gd ((b9 b 24).isSome/\True)<|lt (vl (b9 b 24)) fun a =>
 if(a.1==0) then
  gd ((b9 a.2 2).isSome/\c9 (3*(vl (b9 a.2 2)).1)/\c9 (3*(vl (b9 a.2 2)).1-1)/\True)<|lt (vl (b9 a.2 2)) fun c =>
  some (3*c.1-1,c.2)
 else
  gd ((b9 a.2 2).isSome/\True)<|lt (vl (b9 a.2 2)) fun d =>
  some d
def k48:Ct:=k8 48 [.io 122 m4] (fun x=>Mn x.1) (fun r:Int×l5=>I r.1) (fun r=>r.2)
theorem o48:Ok prog k48:=by
 refine k9 [.tmp 2] func48 ?_;intro y ⟨_,_⟩ r H Q hn hr;have:=hz (tc B4 tn);refine iA [0]<|vQ<|iD B4 [0,5] H fun _ H=>cD H (fun H=>iD B4 [2] H fun _ H=>j0<|fR<|hr H) fun H=>vK<|fQ<|iD B4 [2] H fun _ H=>j0<|hr H
def Hn(a:Int):Option Bool :=
 some (a==0||a==1)
def k49:Ct:=k8 49 [.dat i64] (fun x=>Hn x.1) (fun r:Bool=>B r) (fun _=>())
theorem o49:Ok prog k49:=by
 refine k9 [.tmp 2] func49 ?_;intro y ⟨_,_⟩ r H Q hn hr;refine iA [0]<|iA [2]<|j0<|hr H
def Jj(h:Int×l5):List Int×Int×Int×Int×Int×Int×ByteArray->Option (o5×l5)
 | (g,b,a,c,f,d,e) =>
 some (((e,800+10*h.1,c,f,d),g,b,a))
def Mo(b:l5):Option (o5×l5) :=
 gd ((b9 b 3).isSome/\ix (vl (b9 b 3)).1 [ByteArray.mk #[115,108,111,119],ByteArray.mk #[102,97,115,116],ByteArray.mk #[116,121,112]].length/\(vl (b9 b 3)).1.toNat<[ByteArray.mk #[115,108,111,119],ByteArray.mk #[102,97,115,116],ByteArray.mk #[116,121,112]].length/\(b9 (vl (b9 b 3)).2 20).isSome/\c9 (10*(vl (b9 (vl (b9 b 3)).2 20)).1)/\c9 (800+10*(vl (b9 (vl (b9 b 3)).2 20)).1)/\(b9 (vl (b9 (vl (b9 b 3)).2 20)).2 20).isSome/\c9 (10*(vl (b9 (vl (b9 (vl (b9 b 3)).2 20)).2 20)).1)/\c9 (900+10*(vl (b9 (vl (b9 (vl (b9 b 3)).2 20)).2 20)).1)/\True)<|lt ((vl (b9 b 3),vl (b9 (vl (b9 b 3)).2 20),vl (b9 (vl (b9 (vl (b9 b 3)).2 20)).2 20),[ByteArray.mk #[115,108,111,119],ByteArray.mk #[102,97,115,116],ByteArray.mk #[116,121,112]].getD (vl (b9 b 3)).1.toNat (b7 Ty.str),[ByteArray.mk #[115,108,111,119],ByteArray.mk #[102,97,115,116],ByteArray.mk #[116,121,112]])) fun(_,d,c,h,_) =>
 gd ((b9 c.2 60).isSome/\c9 (7*(vl (b9 c.2 60)).1)/\c9 (800+10*d.1+7*(vl (b9 c.2 60)).1)/\True)<|lt (vl (b9 c.2 60)) fun f =>
 gd ((b9 f.2 40).isSome/\c9 (9*(vl (b9 f.2 40)).1)/\c9 (900+10*c.1+9*(vl (b9 f.2 40)).1)/\True)<|lt (vl (b9 f.2 40)) fun g =>
 gd ((b9 g.2 30).isSome/\True)<|lt (vl (b9 g.2 30)) fun a =>
 if(a.1==0) then
  gd (c9 (800+10*d.1-1)/\True) <|
  Jj d (a.2.1,a.2.2.1,a.2.2.2,800+10*d.1-1,900+10*c.1,900+10*c.1+9*g.1,h)
 else
  if(a.1==1) then
   gd ((b9 a.2 3).isSome/\ix (vl (b9 a.2 3)).1 [99,100,-1].length/\(vl (b9 a.2 3)).1.toNat<[99,100,-1].length/\True)<|lt ((vl (b9 a.2 3),[(99:Int),(100:Int),(-1:Int)].getD (vl (b9 a.2 (3:Int))).1.toNat (0:Int))) fun(i,j) =>
   Jj d (i.2.1,i.2.2.1,i.2.2.2,800+10*d.1+7*f.1,j,900+10*c.1+9*g.1,h)
  else
   if(a.1==2) then
    gd ((b9 a.2 2).isSome/\c9 (5000+(vl (b9 a.2 2)).1)/\True)<|lt (vl (b9 a.2 2)) fun e =>
    Jj d (e.2.1,e.2.2.1,e.2.2.2,800+10*d.1+7*f.1,900+10*c.1,5000+e.1,h)
   else
    if(a.1==3) then
     Jj d (a.2.1,a.2.2.1,a.2.2.2,800+10*d.1+7*f.1,900+10*c.1,900+10*c.1+9*g.1,ByteArray.mk #[])
    else
     Jj d (a.2.1,a.2.2.1,a.2.2.2,800+10*d.1+7*f.1,900+10*c.1,900+10*c.1+9*g.1,h)
def k59:Ct:=k8 59 [.io 122 m4] (fun x=>Mo x.1) (fun r:o5×l5=>AV.agg (Q6 r.1)) (fun r=>r.2)
theorem o59:Ok prog k59:=by
 refine k9 [.cell 2 36] func59 ?_;intro y ⟨_,_⟩ r H Q hn hr;have:=hz (tc B4 tn);refine iA [0,2]<|qD (fun(s,a,j,l,k)=>Z [p 0 (R 500000),p 2 (R 2),p 3 (R 3)] [(3,bx 36 (GC l (800+10*a.1) 0 (900+10*j.1) 0)),(500000,K 122 m4 j.2),(4,A 9 Ty.str k 0),(2,bx 36 (GC (ByteArray.mk #[]) 0 0 0 0))]) H fun⟨s,a,j,l,k⟩ H =>
  iD B4 [0,2,3] H fun q H =>
  iD B4 [0,2,3] H fun o H =>
  jN r (fun((i,b,c,d,g,e,h):List Int×Int×Int×Int×Int×Int×ByteArray)=>Z (G8 []) [(3,bx 36 (GC h (800+10*a.1) d g e)),(500000,bx 122 (A3 i b c)),(2,bx 36 (GC (ByteArray.mk #[]) 0 0 0 0))]) (Jj a) (fun⟨i,b,c,d,g,e,h⟩ H=>?_) (fun _ f t u=>?_)
 ·refine iA [2]<|j0<|hr H
 refine iD B4 [0,2,3,33] H fun _ H=>vB<|iA [0,2,3,33,34]<|cD H (fun H=>jB [2,3] H fun H=>fK<|f H) fun H=>iA [0,2,3,33,40]<|cD H (fun H=>?_) (fun H=>?_)
 ·refine zD (fun(n,m)=>Z (G8 []) [(3,bx 36 (GC l (800+10*a.1) (800+10*a.1+7*q.1) m (900+10*j.1+9*o.1))),(500000,K 122 m4 n.2),(42,A 2 i64 [99,100,-1] 0),(4,A 9 Ty.str k 0),(2,bx 36 (GC (ByteArray.mk #[]) 0 0 0 0))]) H fun⟨n,m⟩ H =>
   fK<|f H
 refine iA [0,2,3,33,48]<|cD H (fun H=>jD B4 [2,3] H fun _ H=>fK<|f H) fun H=>iA [2,3,54]<|cD H (fun H=>jA [2,3]<|fK<|f H) fun H=>vK<|fK<|f H
def Vc:List Int×List Int×Int×Int->Option (List Int×l5)
 | (d,c,a,b) =>
 some (d,c,a,b)
def Qn(g:List l8):List Int×Int×Int×List Int->Option (List Int×l5)
 | (d,f,e,b) =>
 gd ((b9 (d,f,e) 12).isSome/\True)<|lt (vl (b9 (d,f,e) 12)) fun a =>
 if(a.1==0) then
  gd ((b9 a.2 2).isSome/\c9 ((g.length:Int)*(vl (b9 a.2 2)).1)/\(b.length+[(g.length:Int)*(vl (b9 a.2 2)).1].length<=9223372036854775807/\(b.length+[(g.length:Int)*(vl (b9 a.2 2)).1].length)*8<=140737488355328)/\True)<|lt (vl (b9 a.2 2)) fun c =>
  Vc ((b++[(g.length:Int)*c.1],c.2.1,c.2.2.1,c.2.2.2))
 else
  Vc (b,a.2.1,a.2.2.1,a.2.2.2)
def K0t(g:Int×l5)(h:List l8)(i:Int×List Int×Int×Int×List Int->Option (List Int×l5)):Int×List Int×Int×Int×List Int->Option (List Int×l5)
 | (a,b,c,d,f) =>
 if(decide (a < (h.length:Int))) then
  gd ((f.length+[a].length<=9223372036854775807/\(f.length+[a].length)*8<=140737488355328)/\True) <|
  gd ((b9 (b,c,d) (1+g.1)).isSome/\c9 (1+(vl (b9 (b,c,d) (1+g.1))).1)/\c9 (a+(1+(vl (b9 (b,c,d) (1+g.1))).1))/\True)<|lt (vl (b9 (b,c,d) (1+g.1))) fun e =>
  i ((a+(1+e.1),e.2.1,e.2.2.1,e.2.2.2,f++[a]))
 else
  Qn h (b,c,d,f)
def Vd:List Int×List Int×Int×Int->Option (List Int×l5)
 | (b,c,d,a) =>
 some (b,c,d,a)
def Qo(d:List l8):List Int×Int×Int×List Int->Option (List Int×l5)
 | (f,g,e,c) =>
 gd ((b9 (f,g,e) 12).isSome/\True)<|lt (vl (b9 (f,g,e) 12)) fun a =>
 if(a.1==0) then
  gd ((b9 a.2 2).isSome/\c9 ((d.length:Int)*(vl (b9 a.2 2)).1)/\(c.length+[(d.length:Int)*(vl (b9 a.2 2)).1].length<=9223372036854775807/\(c.length+[(d.length:Int)*(vl (b9 a.2 2)).1].length)*8<=140737488355328)/\True)<|lt (vl (b9 a.2 2)) fun b =>
  Vd ((c++[(d.length:Int)*b.1],b.2.1,b.2.2.1,b.2.2.2))
 else
  Vd (c,a.2.1,a.2.2.1,a.2.2.2)
def G0G(e:Int×l5)(h:List l8)(i:Int×List Int×Int×Int×List Int->Option (List Int×l5)):Int×List Int×Int×Int×List Int->Option (List Int×l5)
 | (a,b,c,d,f) =>
 if(decide (a < (h.length:Int))) then
  gd ((f.length+[a].length<=9223372036854775807/\(f.length+[a].length)*8<=140737488355328)/\True) <|
  gd ((b9 (b,c,d) (1+e.1)).isSome/\c9 (1+(vl (b9 (b,c,d) (1+e.1))).1)/\c9 (a+(1+(vl (b9 (b,c,d) (1+e.1))).1))/\True)<|lt (vl (b9 (b,c,d) (1+e.1))) fun g =>
  i ((a+(1+g.1),g.2.1,g.2.2.1,g.2.2.2,f++[a]))
 else
  Qo h (b,c,d,f)
def Jk(c:l5)(e:j6):Option (List Int×l5) :=
 gd ((K6 e).isSome/\True)<|if(!vl (K6 e)) then
  gd (True)<|if(true||false) then
   some ([],c)
  else
   gd ((u32 e).isSome/\True)<|lt (vl (u32 e)) fun j =>
   gd ((b9 c 8).isSome/\c9 (1+(vl (b9 c 8)).1)/\True)<|lt (vl (b9 c 8)) fun f =>
   gd ((b9 f.2 (1+f.1)).isSome/\True)<|lt (vl (b9 f.2 (1+f.1))) fun g =>
   lp (K0t f j) (g.1,g.2.1,g.2.2.1,g.2.2.2,[])
 else
  gd (((b9 c 3).isSome/\True)/\True)<|if(false||decide (0 < (vl (b9 c 3)).1)) then
   lt (vl (b9 c 3)) fun h =>
   some ([],h.2)
  else
   gd ((u32 e).isSome/\True)<|lt ((vl (u32 e),vl (b9 c 3))) fun(i,d) =>
   gd ((b9 d.2 8).isSome/\c9 (1+(vl (b9 d.2 8)).1)/\True)<|lt (vl (b9 d.2 8)) fun a =>
   gd ((b9 a.2 (1+a.1)).isSome/\True)<|lt (vl (b9 a.2 (1+a.1))) fun b =>
   lp (G0G a i) (b.1,b.2.1,b.2.2.1,b.2.2.2,[])
def k62:Ct:=k8 62 [.io 122 m4,.agg l6] (fun x=>Jk x.1 x.2.1) (fun r:List Int×l5=>AV.ow 2 true i64 r.1) (fun r=>r.2)
theorem o62:Ok prog k62:=by
 refine k9 [.tmp 4] func62 ?_;intro y ⟨_,a1,_⟩ r H Q hn hr;have:=hz (tc B4 (tc Z7 (tc Fo tn)));refine iA [0,3]<|iA [0,3,5]<|vQ<|vQ<|iG 4 3 [0,3,5,17] [(14,AV.ptr 500000 0),(15,I 0),(16,B false)] H (fun H=>H6 H fun H=>fQ ?_) (fun H=>H6 H fun H=>fQ ?_)
 ·refine cD H (fun H=>iA [4]<|j0<|fR<|hr H) fun H=>vK<|fQ<|iD Z7 [0,5,6] H fun V H=>iD B4 [0,5,6,7] H fun v1 H=>jN r (fun((v,m,f,s):List Int×Int×Int×List Int)=>Z [p 0 (R 500000),p 5 (O 9),p 6 (I (V.length:Int))] [(500000,bx 122 (A3 v m f)),(9,A 2 i64 s 0)]) (Qn V) (fun⟨v,m,f,s⟩ H=>?_) (fun _ n0 e0 t0=>?_)
  ·refine jN r (fun((t,E,j,d):List Int×List Int×Int×Int)=>Z [p 5 (O 9)] [(9,A 2 i64 t 0),(500000,bx 122 (A3 E j d))]) (Vc) (fun⟨t,E,j,d⟩ H=>?_) (fun _ Y e2 t2=>?_)
   ·refine iA [4]<|j0<|hr H
   refine iD B4 [0,5,6,43] H fun _ H=>cD H (fun H=>jD B4 [5] H fun _ H=>Y H) fun H=>vK<|Y H
  refine iD B4 [0,5,6,7,8] H fun P H=>vB<|lX (fun((X,v5,v6,v7,v8):Int×List Int×Int×Int×List Int)=>Z [p 0 (R 500000),p 5 (O 9),p 6 (I (V.length:Int)),p 7 (I (1+v1.1)),p 8 (I X)] [(500000,bx 122 [L b8 v5,J v6,J v7]),(9,A 2 i64 v8 0)]) (P.1,P.2.1,P.2.2.1,P.2.2.2,[]) H fun _ g1 b1 e1 t1 ⟨X,v5,v6,v7,v8⟩ H=>vQ<|iA [0,5,6,7,8,30]<|cD H (fun H=>vK<|fQ<|vQ<|vB<|jB [0,5,6,7,8] H fun H=>fK<|fQ<|jD B4 [0,5,6,7,8] H fun _ H=>b1 H) fun H=>vE<|fE<|e1<|fX rfl<|n0 H
 refine cD H (fun H=>qC (fun q=>Z [p 4 (O 9)] [(500000,K 122 m4 q.2),(9,A 2 i64 [] 0),(3,K 34 l6 a1)]) H fun q H=>j0<|fR<|hr H) fun H=>vK<|fQ<|qD (fun(a,i)=>Z [p 0 (R 500000),p 5 (O 9),p 6 (I (a.length:Int))] [(20,A 80 y80 a 0),(500000,K 122 m4 i.2),(9,A 2 i64 [] 0),(3,K 34 l6 a1)]) H fun w H=>?_
 obtain⟨a,i⟩:=w;refine iD B4 [0,5,6,7] H fun T H=>jN r (fun((x,F,c,k):List Int×Int×Int×List Int)=>Z [p 0 (R 500000),p 5 (O 9),p 6 (I (a.length:Int))] [(500000,bx 122 (A3 x F c)),(9,A 2 i64 k 0)]) (Qo a) (fun⟨x,F,c,k⟩ H=>?_) (fun _ n3 e3 t3=>?_)
 ·refine jN r (fun((e,l,n,g):List Int×List Int×Int×Int)=>Z [p 5 (O 9)] [(9,A 2 i64 e 0),(500000,bx 122 (A3 l n g))]) (Vd) (fun⟨e,l,n,g⟩ H=>?_) (fun _ W e5 t5=>?_)
  ·refine iA [4]<|j0<|hr H
  refine iD B4 [0,5,6,43] H fun _ H=>cD H (fun H=>jD B4 [5] H fun _ H=>W H) fun H=>vK<|W H
 refine iD B4 [0,5,6,7,8] H fun b H=>vB<|lX (fun((z,o,h,G,u):Int×List Int×Int×Int×List Int)=>Z [p 0 (R 500000),p 5 (O 9),p 6 (I (a.length:Int)),p 7 (I (1+T.1)),p 8 (I z)] [(500000,bx 122 (A3 o h G)),(9,A 2 i64 u 0)]) (b.1,b.2.1,b.2.2.1,b.2.2.2,[]) H fun _ g4 b4 e4 t4 ⟨z,o,h,G,u⟩ H=>vQ<|iA [0,5,6,7,8,30]<|cD H (fun H=>vK<|fQ<|vQ<|vB<|jB [0,5,6,7,8] H fun H=>fK<|fQ<|jD B4 [0,5,6,7,8] H fun _ H=>b4 H) fun H=>vE<|fE<|e4<|fX rfl<|n3 H
def A0P:Unit->Option Bool
 | _ =>
 some false
def A0O(c:List Bool)(b:List l8)(d:Int)(e:Int->Option Bool):Int->Option Bool
 | a =>
 if(decide (a < (b.length:Int))) then
  gd (ix a c.length/\(c.getD a.toNat false=true/\True->ix a b.length)/\((c.getD a.toNat false&&(b.getD a.toNat (b7 y80)).1==d)=true/\True->ix a b.length)/\True) <|
  if(c.getD a.toNat false&&(b.getD a.toNat (b7 y80)).1==d&&(b.getD a.toNat (b7 y80)).2.1==d) then
   some true
  else
   gd (c9 (a+1)/\True) <|
   e (a+1)
 else
  A0P ()
def Mp(a:List l8)(b:List Bool)(c:Int):Option Bool :=
 lp (A0O b a c) 0
def Q0S:Ct:=k8 170 [.dat y80.sl,.dat Ty.bool.sl,.dat i64] (fun x=>Mp x.1 x.2.1 x.2.2.1) (fun r:Bool=>B r) (fun _=>())
theorem P0e:Ok prog Q0S:=by
 refine k9 [.tmp 6] func170 ?_;intro y ⟨d,b,h,_⟩ r H Q hn hr;refine iA [0,1,2]<|jN r (fun(_:Unit)=>Z [] []) (A0P) (fun _ H=>?_) (fun _ e j i=>?_)
 ·refine iA [6]<|j0<|hr H
 refine iA [0,1,2,7]<|vB<|lX (fun(a:Int)=>Z [p 0 (L y80 d),p 1 (L Ty.bool b),p 2 (J h),p 7 (I a)] []) 0 H fun _ k g c f a H=>vQ<|iA [0,1,2,7,11]<|cD H (fun H=>?_) (fun H=>?_)
 ·refine vK<|fQ<|vQ<|vB<|iB [0,1,2,7,35] H fun H=>cD H (fun H=>iA [6]<|j0<|l7<|fR<|f<|l7<|i<|hr H) fun H=>vK<|fK<|fQ<|jB [0,1,2,7] H fun H=>g H
 exact vE<|fE<|c<|fX rfl<|e H
def Ve:List Bool->Option (List Bool)
 | a =>
 some a
def Vf(a:Int)(d:Bool×Int×List Bool->Option (List Bool)):List Bool×Bool->Option (List Bool)
 | (c,b) =>
 gd (c9 (a+1)/\True) <|
 d (b,a+1,c)
def Qp(b:Int)(a:List Bool)(f:Bool)(e:List Bool)(g:Bool×Int×List Bool->Option (List Bool)):Int×Int->Option (List Bool)
 | (d,c) =>
 gd (ix b e.length/\(e.getD b.toNat false=true/\True->ix d a.length)/\(e.getD b.toNat false=true/\True->d.toNat<a.length)/\((e.getD b.toNat false&&a.getD d.toNat false)=true/\True->ix c a.length)/\((e.getD b.toNat false&&a.getD d.toNat false)=true/\True->c.toNat<a.length)/\True) <|
 if(e.getD b.toNat false&&a.getD d.toNat false&&!a.getD c.toNat false) then
  gd (ix c a.length/\c.toNat<a.length/\True) <|
  Vf b g (a.set c.toNat true,true)
 else
  Vf b g (a,f)
def Vg(f:List Bool)(h:Bool)(e:List l8)(i:Bool×List Bool->Option (List Bool))(g:Bool×Int×List Bool->Option (List Bool)):Bool×Int×List Bool->Option (List Bool)
 | (d,a,c) =>
 if(decide (a < (e.length:Int))) then
  gd (ix a e.length/\ix a e.length/\True)<|lt (e.getD a.toNat (b7 y80)) fun b =>
  if(!h) then
   Qp a c d f g (b.2.1,b.1)
  else
   Qp a c d f g (b.1,b.2.1)
 else
  i (d,c)
def A0Q(e:List Bool)(d:Bool)(c:List l8)(f:Bool×List Bool->Option (List Bool)):Bool×List Bool->Option (List Bool)
 | (b,a) =>
 if b then
  lp (Vg e d c f) (false,0,a)
 else
  Ve a
def Dn(a:Int)(c:List l8)(e:List Bool)(b:Int)(d:Bool):Option (List Bool) :=
 gd ((0<=a/\a=a/\a.toNat*1<=281474976710656/\a<=9223372036854775807)/\True) <|
 gd (ix b (List.replicate a.toNat false).length/\b.toNat < (List.replicate a.toNat false).length/\True) <|
 lp (A0Q e d c) ((true,(List.replicate a.toNat false).set b.toNat true))
def Q0T:Ct:=k8 169 [.dat i64,.dat y80.sl,.dat Ty.bool.sl,.dat i64,.dat Ty.bool] (fun x=>Dn x.1 x.2.1 x.2.2.1 x.2.2.2.1 x.2.2.2.2.1) (fun r:List Bool=>AV.ow 4 true Ty.bool r) (fun _=>())
theorem P0f:Ok prog Q0T:=by
 refine k9 [.tmp 10] func169 ?_;intro y ⟨t,m,f,u,g,_⟩ r H Q hn hr;refine iA [0,1,2,3,4]<|iB [1,2,3,4,11] H fun H=>iB [1,2,4,11] H fun H=>jN r (fun(n:List Bool)=>Z [p 11 (O 17)] [(17,A 4 Ty.bool n 0)]) (Ve) (fun n H=>?_) (fun _ s E W=>?_)
 ·refine iA [10]<|j0<|hr H
 refine iA [1,2,4,11,12]<|vB<|lX (fun((k,d):Bool×List Bool)=>Z (KU m f g k []) [(17,A 4 Ty.bool d 0)]) ((true,(List.replicate t.toNat false).set u.toNat true)) H fun _ T v x X ⟨k,d⟩ H=>vQ<|iA [1,2,4,11,21]<|cD H (fun H=>?_) (fun H=>?_)
 ·refine vK<|fQ<|vB<|iA [1,2,4,11,12]<|iA [1,2,4,11,12,13]<|vB<|lX (fun((b,a,c):Bool×Int×List Bool)=>Z (KU m f g b [p 13 (I a)]) [(17,A 4 Ty.bool c 0)]) (false,0,d) H fun _ o z w G ⟨b,a,c⟩ H=>vQ<|iA [1,2,4,11,12,13,25]<|cD H (fun H=>?_) (fun H=>?_)
  ·refine vK<|fQ<|jN r (fun((i,h):List Bool×Bool)=>Z (KU m f g h [p 13 (I a)]) [(17,A 4 Ty.bool i 0)]) (Vf a o) (fun⟨i,h⟩ H=>?_) (fun _ n3 P F=>?_)
   ·refine jB [1,2,4,11,12,13] H fun H=>z H
   refine vB<|qD (fun e=>Z (KU m f g b [p 13 (I a),p 14 (J e.1),p 15 (J e.2.1)]) [(17,A 4 Ty.bool c 0)]) H fun e H=>jN r (fun((j,l):Int×Int)=>Z (KU m f g b [p 13 (I a),p 14 (J j),p 15 (J l)]) [(17,A 4 Ty.bool c 0)]) (Qp a c b f o) (fun⟨j,l⟩ H=>?_) (fun _ q V Y=>?_)
   ·refine iB [1,2,4,11,12,13,15,58] H fun H=>cD H (fun H=>iB [1,2,4,11,13] H fun H=>jA [1,2,4,11,12,13]<|fK<|n3 H) fun H=>vK<|fK<|n3 H
   refine iA [1,2,4,11,12,13,14,15,39]<|cD H (fun H=>jA [1,2,4,11,12,13,14,15]<|q H) fun H=>vK<|q H
  exact vE<|fE<|w<|fX rfl<|fK<|v H
 exact vE<|fE<|x<|fX rfl<|s H
def B0y:List (List Int)->Option (List (List Int))
 | a =>
 some a
def Jl(a:Int)(d:Int×List Bool×List (List Int)->Option (List (List Int))):List Bool×List (List Int)->Option (List (List Int))
 | (b,c) =>
 gd (c9 (a+1)/\True) <|
 d (a+1,b,c)
def Mq(b:Int)(c:List (List Int))(e:List l8)(f:List Bool)(g:Int×List Bool×List (List Int)->Option (List (List Int))):List Int×List Bool->Option (List (List Int))
 | (a,d) =>
 gd ((decide (1 < (a.length:Int))=false/\True->(Mp e f b).isSome)/\True) <|
 if(decide (1 < (a.length:Int))||vl (Mp e f b)) then
  gd ((c.length+[a].length<=9223372036854775807/\(c.length+[a].length)*24<=140737488355328)/\True) <|
  Jl b g (d,c++[a])
 else
  Jl b g (d,c)
def Vh(a:Int)(d:Int×List Int×List Bool->Option (List (List Int))):List Bool×List Int->Option (List (List Int))
 | (b,c) =>
 gd (c9 (a+1)/\True) <|
 d (a+1,c,b)
def Vi(d:List Bool)(e:List Bool)(f:Int)(g:List (List Int))(i:List l8)(k:List Bool)(j:Int)(l:Int×List Bool×List (List Int)->Option (List (List Int)))(h:Int×List Int×List Bool->Option (List (List Int))):Int×List Int×List Bool->Option (List (List Int))
 | (a,c,b) =>
 if(decide (a<j)) then
  gd (ix a d.length/\a.toNat<d.length/\(d.getD a.toNat false=true/\True->ix a e.length)/\(d.getD a.toNat false=true/\True->a.toNat<e.length)/\True) <|
  if(d.getD a.toNat false&&e.getD a.toNat false) then
   gd ((c.length+[a].length<=9223372036854775807/\(c.length+[a].length)*8<=140737488355328)/\True) <|
   gd (ix a b.length/\a.toNat<b.length/\True) <|
   Vh a h (b.set a.toNat true,c++[a])
  else
   Vh a h (b,c)
 else
  Mq f g i k l (c,b)
def Vj(e:List l8)(f:List Bool)(d:Int)(i:Int×List Bool×List (List Int)->Option (List (List Int))):Int×List Bool×List (List Int)->Option (List (List Int))
 | (a,b,c) =>
 if(decide (a<d)) then
  gd (ix a b.length/\a.toNat<b.length/\True) <|
  if(b.getD a.toNat false) then
   Jl a i (b,c)
  else
   gd ((Dn d e f a true).isSome/\(Dn d e f a false).isSome/\True)<|lt ((vl (Dn d e f a false),vl (Dn d e f a true))) fun(g,h) =>
   lp (Vi h g a c e f d i) (0,[],b)
 else
  B0y c
def Ho(a:Int)(b:List l8)(c:List Bool):Option (List (List Int)) :=
 gd ((0<=a/\a=a/\a.toNat*1<=281474976710656/\a<=9223372036854775807)/\True) <|
 lp (Vj b c a) (0,List.replicate a.toNat false,[])
def R0I:Ct:=k8 122 [.dat i64,.dat y80.sl,.dat Ty.bool.sl] (fun x=>Ho x.1 x.2.1 x.2.2.1) (fun r:List (List Int)=>AV.ow 37 true i64.sl r) (fun _=>())
theorem N0c:Ok prog R0I:=by
 refine k9 [.tmp 6] func122 ?_;intro y ⟨j,i,h,_⟩ r H Q hn hr;have:=hz (tc P0e (tc P0f tn));refine iA [0,1,2]<|iA [0,1,2,7]<|iB [0,1,2,7,8] H fun H=>jN r (fun(o:List (List Int))=>Z [p 7 (O 14)] [(14,A 37 i64.sl o 0)]) (B0y) (fun o H=>?_) (fun _ z V t0=>?_)
 ·refine iA [6]<|j0<|hr H
 refine iA [0,1,2,7,8,9]<|vB<|lX (fun((a,e,b):Int×List Bool×List (List Int))=>Z (Aw j i h [p 7 (O 14),p 8 (O 16),p 9 (I a)]) (IL e b)) (0,List.replicate j.toNat false,[]) H fun _ x G T t1 ⟨a,e,b⟩ H=>vQ<|iA [0,1,2,7,8,9,19]<|cD H (fun H=>?_) (fun H=>?_)
 ·refine vK<|fQ<|jN r (fun((l,t):List Bool×List (List Int))=>Z (Aw j i h [p 7 (O 14),p 8 (O 16),p 9 (I a)]) (IL l t)) (Jl a x) (fun⟨l,t⟩ H=>?_) (fun _ u e2 X=>?_)
  ·refine jB [0,1,2,7,8,9] H fun H=>G H
  refine vB<|vQ<|iB [0,1,2,7,8,9,25] H fun H=>cD H (fun H=>vE<|fE<|fX rfl<|u H) fun H=>vK<|fQ<|qD (fun(g,c)=>Z (Aw j i h [p 7 (O 14),p 8 (O 16),p 9 (I a),p 10 (O 30),p 11 (O 35)]) ((35,A 4 Ty.bool g 0)::(30,A 4 Ty.bool c 0)::IL e b)) H fun w H=>?_
  obtain⟨g,c⟩:=w;refine iA [0,1,2,7,8,9,10,11,12]<|jN r (fun((f,k):List Int×List Bool)=>Z (Aw j i h [p 7 (O 14),p 8 (O 16),p 9 (I a),p 12 (O 36)]) ((36,A 2 i64 f 0)::IL k b)) (Mq a b i h x) (fun⟨f,k⟩ H=>?_) (fun _ n3 Y W=>?_)
  ·refine iB [0,1,2,7,8,9,12,67] H fun H=>cD H (fun H=>fZ 36 (Z (Aw j i h [p 7 (O 14),p 8 (O 16),p 9 (I a),p 12 (M i64 f),p 67 (B (decide (1 < (f.length:Int))||vl (Mp i h a)))]) (IL k b))<|jB [0,1,2,7,8,9] H fun H=>fK<|u H) fun H=>vK<|fK<|u H
  refine iA [0,1,2,7,8,9,10,11,12,13]<|vB<|lX (fun((d,m,q):Int×List Int×List Bool)=>Z (Aw j i h [p 7 (O 14),p 8 (O 16),p 9 (I a),p 10 (O 30),p 11 (O 35),p 12 (O 36),p 13 (I d)]) ((36,A 2 i64 m 0)::(35,A 4 Ty.bool g 0)::(30,A 4 Ty.bool c 0)::IL q b)) (0,[],e) H fun _ P E F t4 ⟨d,m,q⟩ H=>vQ<|iA [0,1,2,7,8,9,10,11,12,13,39]<|cD H (fun H=>?_) (fun H=>?_)
  ·refine vK<|fQ<|jN r (fun((s,n):List Bool×List Int)=>Z (Aw j i h [p 7 (O 14),p 8 (O 16),p 9 (I a),p 10 (O 30),p 11 (O 35),p 12 (O 36),p 13 (I d)]) [(16,A 4 Ty.bool s 0),(36,A 2 i64 n 0),(35,A 4 Ty.bool g 0),(30,A 4 Ty.bool c 0),(14,A 37 i64.sl b 0)]) (Vh d P) (fun⟨s,n⟩ H=>?_) (fun _ v e5 t5=>?_)
   ·refine jB [0,1,2,7,8,9,10,11,12,13] H fun H=>E H
   refine vB<|iB [0,1,2,7,8,9,10,11,12,13,51] H fun H=>cD H (fun H=>iB [0,1,2,7,8,9,10,11,12,13] H fun H=>jB [0,1,2,7,8,9,10,11,12,13] H fun H=>fK<|v H) fun H=>vK<|fK<|v H
  exact vE<|fE<|F<|fX rfl<|n3 H
 exact vE<|fE<|T<|fX rfl<|z H
def G0F:List Int->Option (List Int)
 | a =>
 some a
def Vk(a:Int)(c:Int×List Int->Option (List Int)):List Int->Option (List Int)
 | b =>
 gd (c9 (a+1)/\True) <|
 c (a+1,b)
def G0C(c:List Bool)(d:Int×List Int->Option (List Int)):Int×List Int->Option (List Int)
 | (a,b) =>
 if(decide (a < (c.length:Int))) then
  gd (ix a c.length/\a.toNat<c.length/\True) <|
  if(!c.getD a.toNat false) then
   gd ((b.length+[a].length<=9223372036854775807/\(b.length+[a].length)*8<=140737488355328)/\True) <|
   Vk a d (b++[a])
  else
   Vk a d b
 else
  G0F b
def Mr:List Bool->Option (List Int)
 | a =>
 lp (G0C a) (0,[])
def Ms(b:List Bool)(c:List Bool->Option (List Int)):Int->Option (List Int)
 | a =>
 gd (ix a b.length/\a.toNat<b.length/\True) <|
 c (b.set a.toNat false)
def Qq(a:Int)(c:Int×Int->Option (List Int)):Int->Option (List Int)
 | b =>
 gd (c9 (a+1)/\True) <|
 c (b,a+1)
def G0D(d:List Bool)(b:List l8)(c:List (List Int))(g:List Bool->Option (List Int))(f:Int×Int->Option (List Int)):Int×Int->Option (List Int)
 | (e,a) =>
 if(decide (a < (b.length:Int))) then
  gd (ix a d.length/\a.toNat<d.length/\(d.getD a.toNat false=true/\True->ix a b.length)/\(d.getD a.toNat false=true/\True->a.toNat<b.length)/\((d.getD a.toNat false&&(b.getD a.toNat (b7 y80)).2.2.1==(1:Int))=true/\True->ix (0:Int) c.length)/\((d.getD a.toNat false&&(b.getD a.toNat (b7 y80)).2.2.1==(1:Int))=true/\True->Int.toNat (0:Int)<c.length)/\((d.getD a.toNat false&&(b.getD a.toNat (b7 y80)).2.2.1==(1:Int))=true/\True->ix a b.length)/\((d.getD a.toNat false&&(b.getD a.toNat (b7 y80)).2.2.1==(1:Int))=true/\True->a.toNat<b.length)/\((d.getD a.toNat false&&(b.getD a.toNat (b7 y80)).2.2.1==(1:Int))=true/\True->(S8 (c.getD (Int.toNat (0:Int)) []) (b.getD a.toNat (b7 y80)).1).isSome)/\((d.getD a.toNat false&&(b.getD a.toNat (b7 y80)).2.2.1==(1:Int)&&vl (S8 (c.getD (Int.toNat (0:Int)) []) (b.getD a.toNat (b7 y80)).1))=true/\True->ix (0:Int) c.length)/\((d.getD a.toNat false&&(b.getD a.toNat (b7 y80)).2.2.1==(1:Int)&&vl (S8 (c.getD (Int.toNat (0:Int)) []) (b.getD a.toNat (b7 y80)).1))=true/\True->Int.toNat (0:Int)<c.length)/\((d.getD a.toNat false&&(b.getD a.toNat (b7 y80)).2.2.1==(1:Int)&&vl (S8 (c.getD (Int.toNat (0:Int)) []) (b.getD a.toNat (b7 y80)).1))=true/\True->ix a b.length)/\((d.getD a.toNat false&&(b.getD a.toNat (b7 y80)).2.2.1==(1:Int)&&vl (S8 (c.getD (Int.toNat (0:Int)) []) (b.getD a.toNat (b7 y80)).1))=true/\True->a.toNat<b.length)/\((d.getD a.toNat false&&(b.getD a.toNat (b7 y80)).2.2.1==(1:Int)&&vl (S8 (c.getD (Int.toNat (0:Int)) []) (b.getD a.toNat (b7 y80)).1))=true/\True->(S8 (c.getD (Int.toNat (0:Int)) []) (b.getD a.toNat (b7 y80)).2.1).isSome)/\True) <|
  if(d.getD a.toNat false&&(b.getD a.toNat (b7 y80)).2.2.1==(1:Int)&&vl (S8 (c.getD (Int.toNat (0:Int)) []) (b.getD a.toNat (b7 y80)).1)&&vl (S8 (c.getD (Int.toNat (0:Int)) []) (b.getD a.toNat (b7 y80)).2.1)) then
   Qq a f a
  else
   Qq a f e
 else
  Ms d g e
def G0E(c:List l8)(d:Int)(e:List Bool->Option (List Int)):List Bool->Option (List Int)
 | b =>
 gd ((Ho d c b).isSome/\True)<|lt (vl (Ho d c b)) fun a =>
 if((a.length:Int)==0) then
  Mr b
 else
  lp (G0D b c a e) (-1,0)
def FA(a:j6):Option (List Int) :=
 gd ((u32 a).isSome/\True)<|lt (vl (u32 a)) fun b =>
 gd ((Z6 b []).isSome/\True)<|lt (vl (Z6 b [])) fun c =>
 gd ((J5 a).isSome/\True)<|lt (vl (J5 a)) fun d =>
 lp (G0E b d) c
def k63:Ct:=k8 63 [.agg l6] (fun x=>FA x.1) (fun r:List Int=>AV.ow 2 true i64 r) (fun _=>())
theorem o63:Ok prog k63:=by
 refine k9 [.tmp 2] func63 ?_;intro y ⟨_,_⟩ r H Q hn hr;have:=hz (tc ZU (tc N0c (tc Cq (tc IU (tc Z7 tn)))));refine iA [1]<|iD Z7 [1,3] H fun m H=>iD IU [1,3,4] H fun z H=>iD Cq [3,4,5] H fun l H=>jN r (fun(c:List Bool)=>Z [p 4 (O 15)] [(15,A 4 Ty.bool c 0)]) (Mr) (fun c H=>?_) (fun _ w X t0=>?_)
 ·refine iA [4,9]<|jN r (fun(g:List Int)=>Z [p 9 (O 69)] [(69,A 2 i64 g 0)]) (G0F) (fun g H=>?_) (fun _ q e5 t5=>?_)
  ·refine iA [2]<|j0<|hr H
  refine iA [4,9,10]<|vB<|lX (fun((a,e):Int×List Int)=>Z [p 4 (O 15),p 9 (O 69),p 10 (I a)] [(69,A 2 i64 e 0),(15,A 4 Ty.bool c 0)]) (0,[]) H fun _ u G t W ⟨a,e⟩ H=>vQ<|iA [4,9,10,73]<|cD H (fun H=>?_) (fun H=>?_)
  ·refine vK<|fQ<|jN r (fun(h:List Int)=>Z [p 4 (O 15),p 9 (O 69),p 10 (I a)] [(69,A 2 i64 h 0),(15,A 4 Ty.bool c 0)]) (Vk a u) (fun h H=>?_) (fun _ n e7 V=>?_)
   ·refine jB [4,9,10] H fun H=>G H
   refine vB<|iB [4,9,10,80] H fun H=>cD H (fun H=>jB [4,9,10] H fun H=>fK<|n H) fun H=>vK<|fK<|n H
  exact vE<|fE<|t<|fX rfl<|q H
 refine vB<|lX (fun(d:List Bool)=>Z [p 3 (O 12),p 4 (O 15),p 5 (I l)] [(15,A 4 Ty.bool d 0),(12,A 80 y80 m 0)]) z H fun _ E P T t1 d H=>vB<|iD N0c [3,4,5,6] H fun k H=>vQ<|iA [3,4,5,6,24]<|cD H (fun H=>vE<|fE<|n0p rfl<|T<|fX rfl<|w H) fun H=>vK<|fQ<|iA [3,4,5,6,7]<|jN r (fun(j:Int)=>Z [p 3 (O 12),p 4 (O 15),p 5 (I l),p 7 (I j)] [(15,A 4 Ty.bool d 0),(12,A 80 y80 m 0)]) (Ms d E) (fun j H=>?_) (fun _ s e2 t2=>?_)
 ·refine jB [3,4,5] H fun H=>fK<|P H
 refine iA [3,4,5,6,7,8]<|vB<|lX (fun((f,b):Int×Int)=>Z [p 3 (O 12),p 4 (O 15),p 5 (I l),p 6 (O 21),p 7 (I f),p 8 (I b)] [(21,A 37 i64.sl k 0),(15,A 4 Ty.bool d 0),(12,A 80 y80 m 0)]) (-1,0) H fun _ v F x Y ⟨f,b⟩ H=>vQ<|iA [3,4,5,6,7,8,28]<|cD H (fun H=>?_) (fun H=>?_)
 ·refine vK<|fQ<|jN r (fun(i:Int)=>Z [p 3 (O 12),p 4 (O 15),p 5 (I l),p 6 (O 21),p 7 (I i),p 8 (I b)] [(21,A 37 i64.sl k 0),(15,A 4 Ty.bool d 0),(12,A 80 y80 m 0)]) (Qq b v) (fun i H=>?_) (fun _ o e4 t4=>?_)
  ·refine jB [3,4,5,6,7,8] H fun H=>F H
  refine vB<|iB [3,4,5,6,7,8,64] H fun H=>cD H (fun H=>jA [3,4,5,6,7,8]<|fK<|o H) fun H=>vK<|fK<|o H
 exact vE<|fE<|x<|fX rfl<|s H
def Jm(a:C3)(b:List Int):Option Bool :=
 gd ((Bb a.2.2.1).isSome/\c9 (vl (Bb a.2.2.1)-1)/\(I0 b 0 (vl (Bb a.2.2.1)-1)).isSome/\(vl (I0 b 0 (vl (Bb a.2.2.1)-1))=true/\True->(Cw b).isSome)/\True) <|
 some (vl (I0 b 0 (vl (Bb a.2.2.1)-1))&&vl (Cw b))
def k65:Ct:=k8 65 [.dat y157.pt,.dat i64.sl] (fun x=>Jm x.1 x.2.1) (fun r:Bool=>B r) (fun _=>())
theorem o65:Ok prog k65:=by
 refine k9 [.tmp 4] func65 ?_;intro y ⟨_,_,_⟩ r H Q hn hr;have:=hz (tc N0b (tc LL (tc N0d tn)));refine iA [0,1]<|iB [4] H fun H=>j0<|hr H
def G0z:Unit->Option Bool
 | _ =>
 some true
def G0y(c:C3)(d:List m8)(e:Int->Option Bool):Int->Option Bool
 | b =>
 if(decide (b < (d.length:Int))) then
  gd (ix b d.length/\True)<|lt (d.getD b.toNat (b7 y53)) fun a =>
  gd ((T3 c a.1).isSome/\((!vl (T3 c a.1))=false/\True->(O3 a.2.1).isSome)/\((!vl (T3 c a.1)||!vl (O3 a.2.1))=false/\True->(Aa a.2.2).isSome)/\(decide (0<b)=true/\(!vl (T3 c a.1)||!vl (O3 a.2.1)||!vl (Aa a.2.2))=false/\True->c9 (b-1))/\(decide (0<b)=true/\(!vl (T3 c a.1)||!vl (O3 a.2.1)||!vl (Aa a.2.2))=false/\True->ix (b-1) d.length)/\True) <|
  if(!vl (T3 c a.1)||!vl (O3 a.2.1)||!vl (Aa a.2.2)||decide (0<b)&&decide (a.1<=(d.getD (b-1).toNat (b7 y53)).1)) then
   some false
  else
   gd (c9 (b+1)/\True) <|
   e (b+1)
 else
  G0z ()
def Mt(a:C3)(b:List m8):Option Bool :=
 lp (G0y a b) 0
def k66:Ct:=k8 66 [.dat y157.pt,.dat y53.sl] (fun x=>Mt x.1 x.2.1) (fun r:Bool=>B r) (fun _=>())
theorem o66:Ok prog k66:=by
 refine k9 [.tmp 4] func66 ?_;intro y ⟨c,a,_⟩ r H Q hn hr;have:=hz (tc Uk (tc Uj (tc o41 tn)));refine iA [0,1]<|jN r (fun(_:Unit)=>Z [] []) (G0z) (fun _ H=>?_) (fun _ h j f=>?_)
 ·refine iA [4]<|j0<|hr H
 refine iA [0,1,7,8,9]<|vB<|lX (fun(b:Int)=>Z [p 0 (D y157.pt c),p 1 (L y53 a),p 7 (L y53 a),p 8 (I (a.length:Int)),p 9 (I b)] []) 0 H fun _ k i e g b H=>iA [0,1,7,8,9,10]<|vQ<|cD H (fun H=>?_) (fun H=>?_)
 ·refine vK<|fQ<|vQ<|vB<|qD (fun d=>Z [p 0 (D y157.pt c),p 1 (L y53 a),p 5 (I b),p 6 (R 6),p 7 (L y53 a),p 8 (I (a.length:Int)),p 9 (I b)] [(6,K 53 y53 d)]) H fun d H=>iB [0,1,7,8,9,45] H fun H=>cD H (fun H=>iA [4]<|j0<|l7<|fR<|g<|l7<|f<|hr H) fun H=>vK<|fK<|fQ<|jB [0,1,7,8,9] H fun H=>i H
 exact vE<|fE<|e<|fX rfl<|h H
def G0x(a:C3):List Bool->Option I1
 | b =>
 some (a,b)
def G0v(b:List Int)(e:C3)(d:Int×List Bool->Option I1):Int×List Bool->Option I1
 | (a,c) =>
 if(decide (a < (b.length:Int))) then
  gd (ix a b.length/\True) <|
  gd (ix (b.getD a.toNat 0) c.length/\Int.toNat (b.getD a.toNat 0)<c.length/\True) <|
  gd (c9 (a+1)/\True) <|
  d ((a+1,c.set (Int.toNat (b.getD a.toNat 0)) false))
 else
  G0x e c
def Mu(c:List Int)(a:C3):List Bool->Option I1
 | b =>
 lp (G0v c a) (0,b)
def G0w(d:List Int)(e:C3)(c:Int)(f:Int×List Bool->Option I1):Int×List Bool->Option I1
 | (a,b) =>
 if(decide (a<c)) then
  gd (ix a b.length/\a.toNat<b.length/\True) <|
  gd (c9 (a+1)/\True) <|
  f (a+1,b.set a.toNat true)
 else
  Mu d e b
def Mv(a:C3)(b:List Int):Option I1 :=
 gd ((0<=(a.2.2.1.length:Int)/\(a.2.2.1.length:Int)=(a.2.2.1.length:Int)/\(a.2.2.1.length:Int).toNat*1<=281474976710656/\(a.2.2.1.length:Int)<=9223372036854775807)/\True) <|
 lt ((↑(List.replicate (a.2.2.1.length:Int).toNat false).length:Int)) fun c =>
 lp (G0w b a c) ((0,List.replicate (a.2.2.1.length:Int).toNat false))
def k67:Ct:=k8 67 [.dat y157.pt,.dat i64.sl] (fun x=>Mv x.1 x.2.1) (fun r:I1=>D y104.pt r) (fun _=>())
theorem o67:Ok prog k67:=by
 refine k9 [.tmp 4] func67 ?_;intro y ⟨a,b,_⟩ r H Q hn hr;refine iA [0,1]<|iB [1,5] H fun H=>jN r (fun(c:List Bool)=>Z [p 1 (L i64 b),p 5 (R 17)] (KP a c)) (Mu b a) (fun c H=>?_) (fun _ k q x=>?_)
 ·refine jN r (fun(e:List Bool)=>Z [p 5 (R 17)] (KP a e)) (G0x a) (fun e H=>?_) (fun _ j w s=>?_)
  ·refine iA [4]<|j0<|hr H
  refine iA [5,33,34,35]<|vB<|lX (fun((f,i):Int×List Bool)=>Z [p 5 (R 17),p 33 (L i64 b),p 34 (I (b.length:Int)),p 35 (I f)] (KP a i)) (0,c) H fun _ u m l t ⟨f,i⟩ H=>iA [5,33,34,35,36]<|vQ<|cD H (fun H=>vK<|fQ<|vQ<|vB<|iB [5,8,33,34,35] H fun H=>jB [5,33,34,35] H fun H=>fK<|fQ<|jB [5,33,34,35] H fun H=>m H) fun H=>vE<|fE<|l<|fX rfl<|j H
 refine qC (fun d=>Z [p 1 (L i64 b),p 5 (R 17),p 22 (I d),p 23 (I 0)] (KP a (List.replicate (a.2.2.1.length:Int).toNat false))) H fun d H=>vB<|lX (fun((g,h):Int×List Bool)=>Z [p 1 (L i64 b),p 5 (R 17),p 22 (I d),p 23 (I g)] (KP a h)) ((0,List.replicate (a.2.2.1.length:Int).toNat false)) H fun _ v n o z ⟨g,h⟩ H=>iA [1,5,22,23,24]<|vQ<|cD H (fun H=>vK<|fQ<|vQ<|vB<|iA [1,5,6,22,23]<|jB [1,5,22,23] H fun H=>fK<|fQ<|jB [1,5,22,23] H fun H=>n H) fun H=>vE<|fE<|o<|fX rfl<|k H
def Vl(a:l8)(b:Int):Option Bool :=
 some (a.1==b)
def Q0Q:Ct:=k8 173 [.agg y80,.dat (.pt i64)] (fun x=>Vl x.1 x.2.1) (fun r:Bool=>B r) (fun _=>())
theorem M0M:Ok prog Q0Q:=by
 refine k9 [.tmp 3] func173 ?_;intro y ⟨_,_,_⟩ r H Q hn hr;refine iA [1,2]<|iA [3]<|j0<|hr H
def j0W:List Int->Option (List Int)
 | a =>
 some a
def Vm(a:Int)(c:List Int×Int->Option (List Int)):List Int->Option (List Int)
 | b =>
 gd (c9 (a+1)/\True) <|
 c (b,a+1)
def j0V(b:I1)(d:Int)(f:List Int×Int->Option (List Int)):List Int×Int->Option (List Int)
 | (c,a) =>
 if(decide (a < (b.1.2.2.1.length:Int))) then
  gd (ix a b.1.2.2.1.length/\True)<|lt (b.1.2.2.1.getD a.toNat (b7 y80)) fun e =>
  gd (ix a b.2.length/\(b.2.getD a.toNat false=true/\True->(Vl e d).isSome)/\True) <|
  if(b.2.getD a.toNat false&&vl (Vl e d)) then
   gd ((c.length+[a].length<=9223372036854775807/\(c.length+[a].length)*8<=140737488355328)/\True) <|
   Vm a f (c++[a])
  else
   Vm a f c
 else
  j0W c
def Qr(a:I1)(b:Int):Option (List Int) :=
 lp (j0V a b) ([],0)
def z0p:Ct:=k8 125 [.dat y104.pt,.fn 173 (.pt i64)] (fun x=>Qr x.1 x.2.1) (fun r:List Int=>AV.ow 2 true i64 r) (fun _=>())
theorem Qs:Ok prog z0p:=by
 refine k9 [.tmp 4] func125 ?_;intro y ⟨a,c,_⟩ r H Q hn hr;have:=hz (tc M0M tn);refine iA [0,1]<|iA [0,1,5]<|jN r (fun(h:List Int)=>Z [p 5 (O 36)] [(36,A 2 i64 h 0)]) (j0W) (fun h H=>?_) (fun _ j m s=>?_)
 ·refine iA [4]<|j0<|hr H
 refine iA [0,1,5,14,15,16]<|vB<|lX (fun((d,b):List Int×Int)=>Z [p 0 (D y104.pt a),p 1 (AV.fn 173 [D i64.pt c]),p 5 (O 36),p 14 (L y80 a.1.2.2.1),p 15 (I (a.1.2.2.1.length:Int)),p 16 (I b)] [(36,A 2 i64 d 0)]) ([],0) H fun _ l k i n ⟨d,b⟩ H=>iA [0,1,5,14,15,16,17]<|vQ<|cD H (fun H=>?_) (fun H=>?_)
 ·refine vK<|fQ<|jN r (fun(e:List Int)=>Z [p 0 (D y104.pt a),p 1 (AV.fn 173 [D i64.pt c]),p 5 (O 36),p 14 (L y80 a.1.2.2.1),p 15 (I (a.1.2.2.1.length:Int)),p 16 (I b)] [(36,A 2 i64 e 0)]) (Vm b l) (fun e H=>?_) (fun _ g o q=>?_)
  ·refine jB [0,1,5,14,15,16] H fun H=>k H
  refine vB<|qD (fun f=>Z [p 0 (D y104.pt a),p 1 (AV.fn 173 [D i64.pt c]),p 5 (O 36),p 6 (I b),p 7 (R 7),p 14 (L y80 a.1.2.2.1),p 15 (I (a.1.2.2.1.length:Int)),p 16 (I b)] [(7,K 80 y80 f),(36,A 2 i64 d 0)]) H fun f H=>iB [0,1,5,6,14,15,16,32] H fun H=>cD H (fun H=>jB [0,1,5,14,15,16] H fun H=>fK<|g H) fun H=>vK<|fK<|g H
 exact vE<|fE<|i<|fX rfl<|j H
def Hp(a:I1)(b:Int):Option (List Int) :=
 gd ((Qr a b).isSome/\True)<|lt (vl (Qr a b)) fun c =>
 some c
def R0D:Ct:=k8 128 [.dat y104.pt,.dat i64] (fun x=>Hp x.1 x.2.1) (fun r:List Int=>AV.ow 2 true i64 r) (fun _=>())
theorem M0Y:Ok prog R0D:=by
 refine k9 [.tmp 4] func128 ?_;intro y ⟨_,_,_⟩ r H Q hn hr;have:=hz (tc Qs (tc M0M tn));refine iA [0,3]<|iD Qs [4] H fun _ H=>j0<|hr H
def B0v:Unit->Option Int
 | _ =>
 some (-1)
def B0u(c:Int)(b:List Int)(d:Int->Option Int):Int->Option Int
 | a =>
 if(decide (a < (b.length:Int))) then
  gd (ix a b.length/\True) <|
  if(c==b.getD a.toNat 0) then
   some a
  else
   gd (c9 (a+1)/\True) <|
   d (a+1)
 else
  B0v ()
def Qt(a:List Int)(b:Int):Option Int :=
 lp (B0u b a) 0
def R0E:Ct:=k8 127 [.dat i64.sl,.dat i64] (fun x=>Qt x.1 x.2.1) (fun r:Int=>I r) (fun _=>())
theorem M0Z:Ok prog R0E:=by
 refine k9 [.tmp 4] func127 ?_;intro y ⟨b,c,_⟩ r H Q hn hr;refine iA [0,1]<|jN r (fun(_:Unit)=>Z [] []) (B0v) (fun _ H=>?_) (fun _ e i h=>?_)
 ·refine iA [4]<|j0<|hr H
 refine iA [0,1,7,8]<|vB<|lX (fun(a:Int)=>Z [p 0 (L i64 b),p 1 (J c),p 7 (I (b.length:Int)),p 8 (I a)] []) 0 H fun _ j g d f a H=>iA [0,1,7,8,9]<|vQ<|cD H (fun H=>?_) (fun H=>?_)
 ·refine vK<|fQ<|vQ<|vB<|iA [0,1,5,7,8]<|iB [0,1,5,7,8,16] H fun H=>cD H (fun H=>iA [4]<|j0<|l7<|fR<|f<|l7<|h<|hr H) fun H=>vK<|fK<|fQ<|jB [0,1,7,8] H fun H=>g H
 exact vE<|fE<|d<|fX rfl<|e H
def Vn(_:l8):Option Bool :=
 some true
def R0F:Ct:=k8 126 [.agg y80] (fun x=>Vn x.1) (fun r:Bool=>B r) (fun _=>())
theorem N0a:Ok prog R0F:=by
 refine k9 [.tmp 2] func126 ?_;intro y ⟨_,_⟩ r H Q hn hr;refine iA []<|iA [2]<|j0<|hr H
def k0a:List Int->Option (List Int)
 | a =>
 some a
def Vo(a:Int)(c:List Int×Int->Option (List Int)):List Int->Option (List Int)
 | b =>
 gd (c9 (a+1)/\True) <|
 c (b,a+1)
def j0Z(b:I1)(e:List Int×Int->Option (List Int)):List Int×Int->Option (List Int)
 | (c,a) =>
 if(decide (a < (b.1.2.2.1.length:Int))) then
  gd (ix a b.1.2.2.1.length/\True)<|lt (b.1.2.2.1.getD a.toNat (b7 y80)) fun d =>
  gd (ix a b.2.length/\(b.2.getD a.toNat false=true/\True->(Vn d).isSome)/\True) <|
  if(b.2.getD a.toNat false&&vl (Vn d)) then
   gd ((c.length+[a].length<=9223372036854775807/\(c.length+[a].length)*8<=140737488355328)/\True) <|
   Vo a e (c++[a])
  else
   Vo a e c
 else
  k0a c
def Qu(a:I1):Option (List Int) :=
 lp (j0Z a) ([],0)
def z0r:Ct:=k8 125 [.dat y104.pt,.nof 126] (fun x=>Qu x.1) (fun r:List Int=>AV.ow 2 true i64 r) (fun _=>())
theorem Vp:Ok prog z0r:=by
 refine k9 [.tmp 4] func125 ?_;intro y ⟨a,_,_⟩ r H Q hn hr;have:=hz (tc N0a tn);refine iA [0,1]<|iA [0,1,5]<|jN r (fun(g:List Int)=>Z [p 5 (O 36)] [(36,A 2 i64 g 0)]) (k0a) (fun g H=>?_) (fun _ i l q=>?_)
 ·refine iA [4]<|j0<|hr H
 refine iA [0,1,5,14,15,16]<|vB<|lX (fun((c,b):List Int×Int)=>Z [p 0 (D y104.pt a),p 1 (AV.fn 126 []),p 5 (O 36),p 14 (L y80 a.1.2.2.1),p 15 (I (a.1.2.2.1.length:Int)),p 16 (I b)] [(36,A 2 i64 c 0)]) ([],0) H fun _ k j h m ⟨c,b⟩ H=>iA [0,1,5,14,15,16,17]<|vQ<|cD H (fun H=>?_) (fun H=>?_)
 ·refine vK<|fQ<|jN r (fun(d:List Int)=>Z [p 0 (D y104.pt a),p 1 (AV.fn 126 []),p 5 (O 36),p 14 (L y80 a.1.2.2.1),p 15 (I (a.1.2.2.1.length:Int)),p 16 (I b)] [(36,A 2 i64 d 0)]) (Vo b k) (fun d H=>?_) (fun _ f n o=>?_)
  ·refine jB [0,1,5,14,15,16] H fun H=>j H
  refine vB<|qD (fun e=>Z [p 0 (D y104.pt a),p 1 (AV.fn 126 []),p 5 (O 36),p 6 (I b),p 7 (R 7),p 14 (L y80 a.1.2.2.1),p 15 (I (a.1.2.2.1.length:Int)),p 16 (I b)] [(7,K 80 y80 e),(36,A 2 i64 c 0)]) H fun e H=>iB [0,1,5,6,14,15,16,32] H fun H=>cD H (fun H=>jB [0,1,5,14,15,16] H fun H=>fK<|f H) fun H=>vK<|fK<|f H
 exact vE<|fE<|h<|fX rfl<|i H
def G0u:List Int->Option (List Int×Bool)
 | a =>
 some (a,true)
def Qv(a:Int)(d:List Int×Int×List Int->Option (List Int×Bool)):List Int×List Int->Option (List Int×Bool)
 | (b,c) =>
 gd (c9 (a+1)/\True) <|
 d (b,a+1,c)
def Qw(d:I1)(b:List Int)(f:Int)(g:List Int)(h:Int)(i:List Int×Int×List Int->Option (List Int×Bool))(j:Int×List Int->Option (List Int×Bool)):Int×List Int->Option (List Int×Bool)
 | (a,c) =>
 if(decide (a < (b.length:Int))) then
  gd (ix a b.length/\a.toNat<b.length/\True) <|
  gd (ix (b.getD a.toNat 0) d.1.2.2.1.length/\ix (d.1.2.2.1.getD (Int.toNat (b.getD a.toNat 0)) (b7 y80)).2.1 c.length/\(d.1.2.2.1.getD (Int.toNat (b.getD a.toNat 0)) (b7 y80)).2.1.toNat<c.length/\c9 (c.getD (d.1.2.2.1.getD (Int.toNat (b.getD a.toNat 0)) (b7 y80)).2.1.toNat 0-1)/\ix (d.1.2.2.1.getD (Int.toNat (b.getD a.toNat 0)) (b7 y80)).2.1 c.length/\(d.1.2.2.1.getD (Int.toNat (b.getD a.toNat 0)) (b7 y80)).2.1.toNat<c.length/\True)<|lt (c.set (d.1.2.2.1.getD (Int.toNat (b.getD a.toNat 0)) (b7 y80)).2.1.toNat (c.getD (d.1.2.2.1.getD (Int.toNat (b.getD a.toNat 0)) (b7 y80)).2.1.toNat 0-1)) fun e =>
  gd (c9 (a+1)/\True) <|
  j (a+1,e)
 else
  Qv f i (g++[h],c)
def G0t(f:I1)(h:List Int)(g:List Int×Int×List Int->Option (List Int×Bool)):List Int×Int×List Int->Option (List Int×Bool)
 | (c,d,b) =>
 if(decide (d < (h.length:Int))) then
  gd ((Qt b 0).isSome/\True)<|lt (vl (Qt b 0)) fun a =>
  if(decide (a<0)) then
   some ([],false)
  else
   gd (ix a b.length/\a.toNat<b.length/\True) <|
   gd ((c.length+[a].length<=9223372036854775807/\(c.length+[a].length)*8<=140737488355328)/\True) <|
   gd ((Hp f a).isSome/\True)<|lt (vl (Hp f a)) fun e =>
   lp (Qw f e d c a g) ((0,b.set a.toNat (-1)))
 else
  G0u c
def Mw(b:I1):List Int->Option (List Int×Bool)
 | a =>
 lp (G0t b a) ([],0,a)
def Vq(c:I1)(b:List Int)(f:Int×List Int->Option (List Int×Bool)):Int×List Int->Option (List Int×Bool)
 | (a,d) =>
 if(decide (a < (b.length:Int))) then
  gd (ix a b.length/\a.toNat<b.length/\True) <|
  gd (ix (b.getD a.toNat 0) c.1.2.2.1.length/\ix (c.1.2.2.1.getD (Int.toNat (b.getD a.toNat 0)) (b7 y80)).2.1 d.length/\(c.1.2.2.1.getD (Int.toNat (b.getD a.toNat 0)) (b7 y80)).2.1.toNat<d.length/\c9 (d.getD (c.1.2.2.1.getD (Int.toNat (b.getD a.toNat 0)) (b7 y80)).2.1.toNat 0+1)/\ix (c.1.2.2.1.getD (Int.toNat (b.getD a.toNat 0)) (b7 y80)).2.1 d.length/\(c.1.2.2.1.getD (Int.toNat (b.getD a.toNat 0)) (b7 y80)).2.1.toNat<d.length/\True)<|lt (d.set (c.1.2.2.1.getD (Int.toNat (b.getD a.toNat 0)) (b7 y80)).2.1.toNat (d.getD (c.1.2.2.1.getD (Int.toNat (b.getD a.toNat 0)) (b7 y80)).2.1.toNat 0+1)) fun e =>
  gd (c9 (a+1)/\True) <|
  f (a+1,e)
 else
  Mw c d
def Mx(a:I1):Option (List Int×Bool) :=
 gd ((P7 a.1).isSome/\(0<=vl (P7 a.1)/\vl (P7 a.1)=vl (P7 a.1)/\(vl (P7 a.1)).toNat*8<=281474976710656/\vl (P7 a.1)<=9223372036854775807)/\True)<|lt (vl (P7 a.1)) fun b =>
 gd ((Qu a).isSome/\True)<|lt (vl (Qu a)) fun c =>
 lp (Vq a c) (0,List.replicate b.toNat 0)
def k68:Ct:=k8 68 [.dat y104.pt] (fun x=>Mx x.1) (fun r:List Int×Bool=>AV.tup [AV.ow 2 true i64 r.1,B r.2]) (fun _=>())
theorem o68:Ok prog k68:=by
 refine k9 [.tmp 2,.tmp 3] func68 ?_;intro y ⟨d,_⟩ r H Q hn hr;have:=hz (tc M0Y (tc M0Z (tc N0a (tc Qs (tc Vp (tc Ly tn))))));refine iA [0]<|iD Ly [0,4] H fun F H=>jN r (fun(e:List Int)=>Z [p 0 (D y104.pt d),p 4 (O 16)] [(16,A 3 i64 e 0)]) (Mw d) (fun e H=>?_) (fun _ x Y t0=>?_)
 ·refine iA [0,4,7]<|jN r (fun(m:List Int)=>Z [p 7 (O 55)] [(55,A 2 i64 m 0)]) (G0u) (fun m H=>?_) (fun _ t e2 u=>?_)
  ·refine iA [2,3]<|j0<|hr H
  refine iA [0,4,7,42,43]<|vB<|lX (fun((c,a,h):List Int×Int×List Int)=>Z [p 0 (D y104.pt d),p 4 (O 16),p 7 (O 55),p 42 (I (e.length:Int)),p 43 (I a)] [(16,A 3 i64 h 0),(55,A 2 i64 c 0)]) ([],0,e) H fun _ w E z v ⟨c,a,h⟩ H=>iA [0,4,7,42,43,44]<|vQ<|cD H (fun H=>?_) (fun H=>?_)
  ·refine vK<|fQ<|jN r (fun((l,j):List Int×List Int)=>Z [p 0 (D y104.pt d),p 4 (O 16),p 7 (O 55),p 42 (I (e.length:Int)),p 43 (I a)] [(55,A 2 i64 l 0),(16,A 3 i64 j 0)]) (Qv a w) (fun⟨l,j⟩ H=>?_) (fun _ X e4 W=>?_)
   ·refine jB [0,4,7,42,43] H fun H=>E H
   refine vB<|iD M0Z [0,4,7,8,42,43] H fun f H=>vQ<|iA [0,4,7,8,42,43,48]<|cD H (fun H=>iA [2,3]<|j0<|fR<|l7<|W<|v<|l7<|u<|hr H) fun H=>vK<|fQ<|iB [0,4,7,8,42,43] H fun H=>iB [0,4,7,8,42,43] H fun H=>iD M0Y [0,4,7,42,43,58,59,60] H fun b H=>vB<|lX (fun((g,i):Int×List Int)=>Z [p 0 (D y104.pt d),p 4 (O 16),p 7 (O 55),p 42 (I (e.length:Int)),p 43 (I a),p 58 (O 58),p 59 (I (b.length:Int)),p 60 (I g)] [(58,A 2 i64 b 0),(55,A 2 i64 (c++[f]) 0),(16,A 3 i64 i 0)]) ((0,h.set f.toNat (-1))) H fun _ g5 V G t5 ⟨g,i⟩ H=>iA [0,4,7,42,43,58,59,60,61]<|vQ<|cD H (fun H=>vK<|fQ<|vQ<|vB<|iB [0,4,7,10,42,43,58,59,60] H fun H=>zD (fun k=>Z [p 0 (D y104.pt d),p 4 (O 16),p 7 (O 55),p 42 (I (e.length:Int)),p 43 (I a),p 58 (O 58),p 59 (I (b.length:Int)),p 60 (I g)] [(16,A 3 i64 k 0),(58,A 2 i64 b 0),(55,A 2 i64 (c++[f]) 0)]) H fun k H=>fK<|fQ<|jB [0,4,7,42,43,58,59,60] H fun H=>V H) fun H=>vE<|fE<|G<|fX rfl<|fK<|X H
  exact vE<|fE<|z<|fX rfl<|t H
 refine iD Vp [0,4,18,19,20] H fun n H=>vB<|lX (fun((o,q):Int×List Int)=>Z [p 0 (D y104.pt d),p 4 (O 16),p 18 (O 18),p 19 (I (n.length:Int)),p 20 (I o)] [(18,A 2 i64 n 0),(16,A 3 i64 q 0)]) (0,List.replicate F.toNat 0) H fun _ g1 P T t1 ⟨o,q⟩ H=>iA [0,4,18,19,20,21]<|vQ<|cD H (fun H=>vK<|fQ<|vQ<|vB<|iB [0,4,6,18,19,20] H fun H=>zD (fun s=>Z [p 0 (D y104.pt d),p 4 (O 16),p 18 (O 18),p 19 (I (n.length:Int)),p 20 (I o)] [(16,A 3 i64 s 0),(18,A 2 i64 n 0)]) H fun s H=>fK<|fQ<|jB [0,4,18,19,20] H fun H=>P H) fun H=>vE<|fE<|T<|fX rfl<|x H
def Vr(a:m8)(b:Int):Option Bool :=
 some (a.1==b)
def R0j:Ct:=k8 150 [.agg y53,.dat (.pt i64)] (fun x=>Vr x.1 x.2.1) (fun r:Bool=>B r) (fun _=>())
theorem M0R:Ok prog R0j:=by
 refine k9 [.tmp 3] func150 ?_;intro y ⟨_,_,_⟩ r H Q hn hr;refine iA [1,2]<|iA [3]<|j0<|hr H
def j0T:Unit->Option Int
 | _ =>
 some (-1)
def j0S(b:List m8)(c:Int)(d:Int->Option Int):Int->Option Int
 | a =>
 if(decide (a < (b.length:Int))) then
  gd (ix a b.length/\(Vr (b.getD a.toNat (b7 y53)) c).isSome/\True) <|
  if(vl (Vr (b.getD a.toNat (b7 y53)) c)) then
   some a
  else
   gd (c9 (a+1)/\True) <|
   d (a+1)
 else
  j0T ()
def Qx(a:List m8)(b:Int):Option Int :=
 lp (j0S a b) 0
def z0n:Ct:=k8 149 [.dat y53.sl,.fn 150 (.pt i64)] (fun x=>Qx x.1 x.2.1) (fun r:Int=>I r) (fun _=>())
theorem q0z:Ok prog z0n:=by
 refine k9 [.tmp 4] func149 ?_;intro y ⟨b,c,_⟩ r H Q hn hr;have:=hz (tc M0R tn);refine iA [0,1]<|jN r (fun(_:Unit)=>Z [] []) (j0T) (fun _ H=>?_) (fun _ e i h=>?_)
 ·refine iA [4]<|j0<|hr H
 refine iA [0,1,7,8]<|vB<|lX (fun(a:Int)=>Z [p 0 (L y53 b),p 1 (AV.fn 150 [D i64.pt c]),p 7 (I (b.length:Int)),p 8 (I a)] []) 0 H fun _ j g d f a H=>iA [0,1,7,8,9]<|vQ<|cD H (fun H=>?_) (fun H=>?_)
 ·refine vK<|fQ<|vQ<|vB<|iA [0,1,5,7,8]<|iB [0,1,5,7,8,16] H fun H=>cD H (fun H=>iA [4]<|j0<|l7<|fR<|f<|l7<|h<|hr H) fun H=>vK<|fK<|fQ<|jB [0,1,7,8] H fun H=>g H
 exact vE<|fE<|d<|fX rfl<|e H
def My(a:List m8)(c:Int):Option (m8×Bool) :=
 gd ((Qx a c).isSome/\True)<|lt (vl (Qx a c)) fun b =>
 if(decide (0<=b)) then
  gd (ix b a.length/\True)<|lt (a.getD b.toNat (b7 y53)) fun d =>
  some (d,true)
 else
  some ((((0:Int),((0:Int),(0:Int)),(0:Int),(0:Int)),false))
def k96:Ct:=k8 96 [.dat y53.sl,.dat i64] (fun x=>My x.1 x.2.1) (fun r:m8×Bool=>AV.tup [AV.agg [I r.1.1,I r.1.2.1.1,I r.1.2.1.2,I r.1.2.2.1,I r.1.2.2.2],B r.2]) (fun _=>())
theorem o96:Ok prog k96:=by
 refine k9 [.cell 4 53,.tmp 5] func96 ?_;intro y ⟨_,b,_⟩ r H Q hn hr;have:=hz (tc q0z (tc M0R tn));refine iA [0,3,4]<|vQ<|iD q0z [0,4,6] H fun _ H=>iA [0,4,6,11]<|cD H (fun H=>qD (fun a=>Z [p 4 (R 4),p 5 (B true)] [(4,K 53 y53 a),(3,bx 2 [J b])]) H fun a H=>j0<|fR<|hr H) fun H=>vK<|fQ<|iA [4,5]<|j0<|hr H
def Vs(a:l8)(b:Int):Option Bool :=
 some (a.2.1==b)
def R0i:Ct:=k8 152 [.agg y80,.dat (.pt i64)] (fun x=>Vs x.1 x.2.1) (fun r:Bool=>B r) (fun _=>())
theorem M0Q:Ok prog R0i:=by
 refine k9 [.tmp 3] func152 ?_;intro y ⟨_,_,_⟩ r H Q hn hr;refine iA [1,2]<|iA [3]<|j0<|hr H
def j0Y:List Int->Option (List Int)
 | a =>
 some a
def Vt(a:Int)(c:List Int×Int->Option (List Int)):List Int->Option (List Int)
 | b =>
 gd (c9 (a+1)/\True) <|
 c (b,a+1)
def j0X(b:I1)(d:Int)(f:List Int×Int->Option (List Int)):List Int×Int->Option (List Int)
 | (c,a) =>
 if(decide (a < (b.1.2.2.1.length:Int))) then
  gd (ix a b.1.2.2.1.length/\True)<|lt (b.1.2.2.1.getD a.toNat (b7 y80)) fun e =>
  gd (ix a b.2.length/\(b.2.getD a.toNat false=true/\True->(Vs e d).isSome)/\True) <|
  if(b.2.getD a.toNat false&&vl (Vs e d)) then
   gd ((c.length+[a].length<=9223372036854775807/\(c.length+[a].length)*8<=140737488355328)/\True) <|
   Vt a f (c++[a])
  else
   Vt a f c
 else
  j0Y c
def Qy(a:I1)(b:Int):Option (List Int) :=
 lp (j0X a b) ([],0)
def z0q:Ct:=k8 125 [.dat y104.pt,.fn 152 (.pt i64)] (fun x=>Qy x.1 x.2.1) (fun r:List Int=>AV.ow 2 true i64 r) (fun _=>())
theorem q0A:Ok prog z0q:=by
 refine k9 [.tmp 4] func125 ?_;intro y ⟨a,c,_⟩ r H Q hn hr;have:=hz (tc M0Q tn);refine iA [0,1]<|iA [0,1,5]<|jN r (fun(h:List Int)=>Z [p 5 (O 36)] [(36,A 2 i64 h 0)]) (j0Y) (fun h H=>?_) (fun _ j m s=>?_)
 ·refine iA [4]<|j0<|hr H
 refine iA [0,1,5,14,15,16]<|vB<|lX (fun((d,b):List Int×Int)=>Z [p 0 (D y104.pt a),p 1 (AV.fn 152 [D i64.pt c]),p 5 (O 36),p 14 (L y80 a.1.2.2.1),p 15 (I (a.1.2.2.1.length:Int)),p 16 (I b)] [(36,A 2 i64 d 0)]) ([],0) H fun _ l k i n ⟨d,b⟩ H=>iA [0,1,5,14,15,16,17]<|vQ<|cD H (fun H=>?_) (fun H=>?_)
 ·refine vK<|fQ<|jN r (fun(e:List Int)=>Z [p 0 (D y104.pt a),p 1 (AV.fn 152 [D i64.pt c]),p 5 (O 36),p 14 (L y80 a.1.2.2.1),p 15 (I (a.1.2.2.1.length:Int)),p 16 (I b)] [(36,A 2 i64 e 0)]) (Vt b l) (fun e H=>?_) (fun _ g o q=>?_)
  ·refine jB [0,1,5,14,15,16] H fun H=>k H
  refine vB<|qD (fun f=>Z [p 0 (D y104.pt a),p 1 (AV.fn 152 [D i64.pt c]),p 5 (O 36),p 6 (I b),p 7 (R 7),p 14 (L y80 a.1.2.2.1),p 15 (I (a.1.2.2.1.length:Int)),p 16 (I b)] [(7,K 80 y80 f),(36,A 2 i64 d 0)]) H fun f H=>iB [0,1,5,6,14,15,16,32] H fun H=>cD H (fun H=>jB [0,1,5,14,15,16] H fun H=>fK<|g H) fun H=>vK<|fK<|g H
 exact vE<|fE<|i<|fX rfl<|j H
def Hq(a:I1)(b:Int):Option (List Int) :=
 gd ((Qy a b).isSome/\True)<|lt (vl (Qy a b)) fun c =>
 some c
def k98:Ct:=k8 98 [.dat y104.pt,.dat i64] (fun x=>Hq x.1 x.2.1) (fun r:List Int=>AV.ow 2 true i64 r) (fun _=>())
theorem o98:Ok prog k98:=by
 refine k9 [.tmp 4] func98 ?_;intro y ⟨_,_,_⟩ r H Q hn hr;have:=hz (tc Qs (tc Vp (tc q0A (tc M0Q tn))));refine iA [0,3]<|iD q0A [4] H fun _ H=>j0<|hr H
def Jn(a:w7)(b:w7):Option w7 :=
 gd (c9 (a.1+b.1)/\c9 (a.2+b.2)/\True) <|
 some (a.1+b.1,a.2+b.2)
def k99:Ct:=k8 99 [.agg y51,.agg y51] (fun x=>Jn x.1 x.2.1) (fun r:w7=>AV.agg [I r.1,I r.2]) (fun _=>())
theorem o99:Ok prog k99:=by
 refine k9 [.cell 4 51] func99 ?_;intro y ⟨_,_,_⟩ r H Q hn hr;refine iA [2,3,4]<|iB [4] H fun H=>j0<|hr H
def Dp(a:w7)(b:Int):Option Int :=
 if(b==0) then
  some a.1
 else
  some a.2
def R0h:Ct:=k8 153 [.agg y51,.dat i64] (fun x=>Dp x.1 x.2.1) (fun r:Int=>I r) (fun _=>())
theorem Qz:Ok prog R0h:=by
 refine k9 [.tmp 4] func153 ?_;intro y ⟨_,_,_⟩ r H Q hn hr;refine iA [1,2]<|vQ<|iA [2,6]<|cD H (fun H=>iA [4]<|j0<|fR<|hr H) fun H=>vK<|fQ<|iA [4]<|j0<|hr H
def B0I:Unit->Option (Int×Int)
 | _ =>
 some (((0:Int),(5:Int)))
def Vu(a:Int)(b:Int->Option (Int×Int)):Unit->Option (Int×Int)
 | _ =>
 gd (c9 (a+1)/\True) <|
 b (a+1)
def Mz(d:List Int)(k:Int)(b:u3)(i:Int)(e:I1)(h:o5)(j:Int->Option (Int×Int)):Int->Option (Int×Int)
 | a =>
 if(decide (a < (d.length:Int))) then
  gd (ix a d.length/\a.toNat<d.length/\True) <|
  gd (ix (d.getD a.toNat 0) e.1.2.2.1.length/\True)<|lt (e.1.2.2.1.getD (Int.toNat (d.getD a.toNat 0)) (b7 y80)) fun c =>
  gd (ix c.1 b.1.length/\True) <|
  if(!b.1.getD c.1.toNat false) then
   Vu a j ()
  else
   gd (ix c.1 b.2.2.length/\(Ba e.1 h (d.getD a.toNat 0) (b.2.2.getD c.1.toNat (b7 y51))).isSome/\True)<|lt (vl (Ba e.1 h (d.getD a.toNat 0) (b.2.2.getD c.1.toNat (b7 y51)))) fun g =>
   gd (ix c.1 b.2.1.length/\(Jn (b.2.1.getD c.1.toNat (b7 y51)) g.1).isSome/\(Dp (vl (Jn (b.2.1.getD c.1.toNat (b7 y51)) g.1)) i).isSome/\True)<|lt (vl (Dp (vl (Jn (b.2.1.getD c.1.toNat (b7 y51)) g.1)) i)) fun f =>
   if(f==k) then
    some ((d.getD a.toNat (0:Int),(0:Int)))
   else
    Vu a j ()
 else
  B0I ()
def Hr(b:I1)(i:o5)(g:List m8)(c:u3)(a:Int)(d:Int):Option (Int×Int) :=
 gd ((T3 b.1 a).isSome/\((!vl (T3 b.1 a))=false/\True->ix a c.1.length)/\True) <|
 if(!vl (T3 b.1 a)||!c.1.getD a.toNat false) then
  some (((0:Int),(4:Int)))
 else
  gd (ix a c.2.1.length/\(Dp (c.2.1.getD a.toNat (b7 y51)) d).isSome/\True)<|lt (vl (Dp (c.2.1.getD a.toNat (b7 y51)) d)) fun f =>
  gd ((My g a).isSome/\True)<|lt (vl (My g a)) fun e =>
  gd ((e.2=true/\True->(Dp e.1.2.1 d).isSome)/\True)<|lt (vl (Dp e.1.2.1 d)) fun j =>
  if(e.2&&j==f) then
   some (((-1:Int),(0:Int)))
  else
   gd ((Hq b a).isSome/\True)<|lt (vl (Hq b a)) fun h =>
   lp (Mz h f c d b i) 0
def R0U:Ct:=k8 106 [.dat y104.pt,.agg o8,.dat y53.sl,.agg y44,.dat i64,.dat i64] (fun x=>Hr x.1 x.2.1 x.2.2.1 x.2.2.2.1 x.2.2.2.2.1 x.2.2.2.2.2.1) (fun r:Int×Int=>AV.tup [I r.1,I r.2]) (fun _=>())
theorem P0B:Ok prog R0U:=by
 refine k9 [.tmp 12,.tmp 13] func106 ?_;intro y ⟨e,d,_,f,_,g,_⟩ r H Q hn hr;have:=hz (tc Qz (tc o99 (tc Ql (tc o98 (tc o96 (tc o41 tn))))));refine iA [0,2,4,5,7,9]<|vQ<|iB [0,2,4,5,7,9,36] H fun H=>cD H (fun H=>iA [12,13]<|j0<|fR<|hr H) fun H=>vK<|fQ<|iD Qz [0,2,4,5,7,9,14] H fun c H=>vQ<|iD o96 [0,4,5,7,9,14,15,16] H fun _ H=>iD Qz [0,4,5,7,9,14,58] H fun _ H=>cD H (fun H=>iA [12,13]<|j0<|fR<|hr H) fun H=>vK<|fQ<|jN r (fun(_:Unit)=>Z [] []) (B0I) (fun _ H=>?_) (fun _ k s o=>?_)
 ·refine iA [12,13]<|j0<|hr H
 refine iD o98 [0,5,7,9,14,61,62,63] H fun a H=>vB<|lX (fun(b:Int)=>Z [p 0 (D y104.pt e),p 5 (J g),p 7 (R 7),p 9 (R 9),p 14 (I c),p 61 (O 61),p 62 (I (a.length:Int)),p 63 (I b)] [(61,A 2 i64 a 0),(9,K 44 y44 f),(7,K 36 o8 d)]) 0 H fun _ q m j l b H=>iA [0,5,7,9,14,61,62,63,64]<|vQ<|cD H (fun H=>?_) (fun H=>?_)
 ·refine vK<|fQ<|jN r (fun(_:Unit)=>Z [p 0 (D y104.pt e),p 5 (J g),p 7 (R 7),p 9 (R 9),p 14 (I c),p 61 (O 61),p 62 (I (a.length:Int)),p 63 (I b)] [(61,A 2 i64 a 0),(9,K 44 y44 f),(7,K 36 o8 d)]) (Vu b q) (fun _ H=>?_) (fun _ h t n=>?_)
  ·refine jB [0,5,7,9,14,61,62,63] H fun H=>m H
  refine vB<|iB [0,5,7,9,14,18,61,62,63] H fun H=>qD (fun i=>Z [p 0 (D y104.pt e),p 5 (J g),p 7 (R 7),p 9 (R 9),p 14 (I c),p 18 (I (a.getD b.toNat 0)),p 19 (J i.1),p 61 (O 61),p 62 (I (a.length:Int)),p 63 (I b)] [(61,A 2 i64 a 0),(9,K 44 y44 f),(7,K 36 o8 d)]) H fun i H=>vQ<|iB [0,5,7,9,14,18,19,61,62,63,83] H fun H=>cD H (fun H=>vE<|fE<|fX rfl<|h H) fun H=>vK<|fQ<|iD Ql [0,5,7,9,14,18,19,20,61,62,63] H fun _ H=>iD Qz [0,5,7,9,14,18,61,62,63,109] H fun _ H=>cD H (fun H=>iA [12,13]<|j0<|l7<|n<|l<|l7<|o<|hr H) fun H=>vK<|fK<|h H
 exact vE<|fE<|j<|fX rfl<|k H
def A0k:List Int×Int×Int×List Int->Option (List Int×l5)
 | (c,d,b,a) =>
 some (a,c,d,b)
def A0j(g:Int)(i:Int×Int×List Int×Int×Int×List Int->Option (List Int×l5)):Int×Int×List Int×Int×Int×List Int->Option (List Int×l5)
 | (a,h,c,e,f,d) =>
 if(decide (0<h)) then
  gd ((d.length+[a].length<=9223372036854775807/\(d.length+[a].length)*8<=140737488355328)/\True) <|
  gd (c9 (a+1)/\(b9 (c,e,f) g).isSome/\c9 (a+1+(vl (b9 (c,e,f) g)).1)/\True)<|lt (vl (b9 (c,e,f) g)) fun b =>
  gd (c9 (h-1)/\True) <|
  i (a+1+b.1,h-1,b.2.1,b.2.2.1,b.2.2.2,d++[a])
 else
  A0k (c,e,f,d)
def Hs(d:l5)(c:Int):Option (List Int×l5) :=
 gd ((b9 d c).isSome/\True)<|lt (vl (b9 d c)) fun a =>
 gd ((b9 a.2 3).isSome/\c9 (1+(vl (b9 a.2 3)).1)/\True)<|lt (vl (b9 a.2 3)) fun b =>
 lp (A0j c) (a.1,1+b.1,b.2.1,b.2.2.1,b.2.2.2,[])
def P0R:Ct:=k8 245 [.io 122 m4,.dat i64] (fun x=>Hs x.1 x.2.1) (fun r:List Int×l5=>AV.ow 2 true i64 r.1) (fun r=>r.2)
theorem Vv:Ok prog P0R:=by
 refine k9 [.tmp 4] func245 ?_;intro y ⟨_,o,_⟩ r H Q hn hr;have:=hz (tc B4 tn);refine iA [0,1]<|iA [0,1,5]<|iD B4 [0,1,5,6] H fun m H=>jN r (fun((c,d,a,b):List Int×Int×Int×List Int)=>Z [p 5 (O 8)] [(500000,bx 122 (A3 c d a)),(8,A 2 i64 b 0)]) (A0k) (fun⟨c,d,a,b⟩ H=>?_) (fun _ l s u=>?_)
 ·refine iA [4]<|j0<|hr H
 refine iD B4 [0,1,5,6,7] H fun e H=>vB<|lX (fun((j,f,i,h,k,g):Int×Int×List Int×Int×Int×List Int)=>Z [p 0 (R 500000),p 1 (J o),p 5 (O 8),p 6 (I j),p 7 (I f)] [(500000,bx 122 [L b8 i,J h,J k]),(8,A 2 i64 g 0)]) (m.1,1+e.1,e.2.1,e.2.2.1,e.2.2.2,[]) H fun _ t n q v ⟨j,f,i,h,k,g⟩ H=>vQ<|iA [0,1,5,6,7,16]<|cD H (fun H=>vK<|fQ<|vQ<|vB<|iB [0,1,5,6,7] H fun H=>jD B4 [0,1,5,6,7] H fun _ H=>fK<|fQ<|jB [0,1,5,6,7] H fun H=>n H) fun H=>vE<|fE<|q<|fX rfl<|l H
def A0n(e:List Int×l5)(f:List Int×l5):List Int×List Int×Int×Int->Option (u1×l5)
 | (d,b,c,a) =>
 some (((e.1,f.1,d),b,c,a))
def MA(c:Int)(b:List Int)(g:Int×List Int×List Int×Int×Int->Option (u1×l5)):Int×List Int×Int×Int->Option (u1×l5)
 | (a,e,f,d) =>
 gd ((b.length+[a].length<=9223372036854775807/\(b.length+[a].length)*8<=140737488355328)/\True) <|
 gd (c9 (c+1)/\True) <|
 g (c+1,b++[a],e,f,d)
def MB(a:Int)(b:List Int)(g:List Int×l5)(j:Int×List Int×List Int×Int×Int->Option (u1×l5)):Int×List Int×Int×Int->Option (u1×l5)
 | (h,e,c,d) =>
 if(decide ((g.1.length:Int)<=a)) then
  gd (c9 (a-(g.1.length:Int))/\ix (a-(g.1.length:Int)) b.length/\(a-(g.1.length:Int)).toNat<b.length/\(b9 (e,c,d) 20).isSome/\c9 (b.getD (a-(g.1.length:Int)).toNat 0+(vl (b9 (e,c,d) 20)).1)/\True)<|lt ((vl (b9 (e,c,d) 20),max h (b.getD (a-(g.1.length:Int)).toNat 0+(vl (b9 (e,c,d) 20)).1))) fun(f,i) =>
  MA a b j (i,f.2.1,f.2.2.1,f.2.2.2)
 else
  MA a b j (h,e,c,d)
def A0m(h:List Int×l5)(j:Int)(i:List Int×l5)(k:Int×List Int×List Int×Int×Int->Option (u1×l5)):Int×List Int×List Int×Int×Int->Option (u1×l5)
 | (a,c,e,f,g) =>
 gd (c9 ((i.1.length:Int)*(h.1.length:Int))/\True) <|
 if(decide (a < (i.1.length:Int)*(h.1.length:Int))) then
  gd ((b9 (e,f,g) 10).isSome/\c9 (j+(vl (b9 (e,f,g) 10)).1)/\True)<|lt (vl (b9 (e,f,g) 10)) fun b =>
  gd (0 < (h.1.length:Int)/\True) <|
  if(decide (0<a.tmod (h.1.length:Int))) then
   gd (c9 (a-1)/\ix (a-1) c.length/\(a-1).toNat<c.length/\(b9 b.2 20).isSome/\c9 (c.getD (a-1).toNat 0+(vl (b9 b.2 20)).1)/\True)<|lt (vl (b9 b.2 20)) fun d =>
   MB a c h k ((max (j+b.1) (c.getD (a-1).toNat 0+d.1),d.2.1,d.2.2.1,d.2.2.2))
  else
   MB a c h k (j+b.1,b.2.1,b.2.2.1,b.2.2.2)
 else
  A0n i h (c,e,f,g)
def FB(c:l5)(d:Int):Option (u1×l5) :=
 gd ((Hs c 60).isSome/\True)<|lt (vl (Hs c 60)) fun b =>
 gd ((Hs b.2 40).isSome/\True)<|lt (vl (Hs b.2 40)) fun a =>
 lp (A0m a d b) (0,[],a.2.1,a.2.2.1,a.2.2.2)
def P0Z:Ct:=k8 233 [.io 122 m4,.dat i64] (fun x=>FB x.1 x.2.1) (fun r:u1×l5=>AV.agg [AV.ow 2 true i64 r.1.1,AV.ow 2 true i64 r.1.2.1,AV.ow 2 true i64 r.1.2.2]) (fun r=>r.2)
theorem O0J:Ok prog P0Z:=by
 refine k9 [.cell 4 70] func233 ?_;intro y ⟨_,x,_⟩ r H Q hn hr;have:=hz (tc B4 (tc Vv tn));refine iA [0,1,4]<|iD Vv [0,1,4,5] H fun d H=>iD Vv [0,1,4,5,6] H fun c H=>iA [0,1,4,5,6,7]<|iA [0,1,4,5,6,7,8]<|jN r (fun((u,q,v,e):List Int×List Int×Int×Int)=>Z [p 4 (R 4),p 5 (O 12),p 6 (O 14),p 7 (O 15)] ((15,A 2 i64 u 0)::(14,A 2 i64 c.1 0)::(500000,bx 122 (A3 q v e))::KS d.1)) (A0n d c) (fun⟨u,q,v,e⟩ H=>?_) (fun _ F T t0=>?_)
 ·refine iA [4]<|j0<|hr H
 refine iA [0,1,4,5,6,7,8,9]<|vB<|lX (fun((a,b,l,t,h):Int×List Int×List Int×Int×Int)=>Z (OS x (c.1.length:Int) a []) ((15,A 2 i64 b 0)::(14,A 2 i64 c.1 0)::(500000,bx 122 (A3 l t h))::KS d.1)) (0,[],c.2.1,c.2.2.1,c.2.2.2) H fun _ E G P t1 ⟨a,b,l,t,h⟩ H=>vQ<|iB [0,1,4,5,6,7,8,9,23] H fun H=>cD H (fun H=>?_) (fun H=>?_)
 ·refine vK<|fQ<|vQ<|vB<|iD B4 [0,1,4,5,6,7,8,9,10] H fun _ H=>jN r (fun((i,g,n,o):Int×List Int×Int×Int)=>Z (OS x (c.1.length:Int) a [p 10 (I i)]) ((500000,bx 122 (A3 g n o))::(15,A 2 i64 b 0)::(14,A 2 i64 c.1 0)::KS d.1)) (MB a b c E) (fun⟨i,g,n,o⟩ H=>?_) (fun _ z Y W=>?_)
  ·refine jN r (fun((j,f,w,m):Int×List Int×Int×Int)=>Z (OS x (c.1.length:Int) a [p 10 (I j)]) ((500000,bx 122 (A3 f w m))::(15,A 2 i64 b 0)::(14,A 2 i64 c.1 0)::KS d.1)) (MA a b E) (fun⟨j,f,w,m⟩ H=>?_) (fun _ n3 X V=>?_)
   ·refine jB [0,1,4,5,6,7,8,9] H fun H=>fK<|fQ<|jB [0,1,4,5,6,7,8,9] H fun H=>G H
   refine iA [0,1,4,5,6,7,8,9,10,46]<|cD H (fun H=>?_) (fun H=>?_)
   ·refine zD (fun(k,s)=>Z (OS x (c.1.length:Int) a [p 10 (I s)]) ((500000,K 122 m4 k.2)::(15,A 2 i64 b 0)::(14,A 2 i64 c.1 0)::KS d.1)) H fun⟨k,s⟩ H =>
     n3 H
   exact vK<|n3 H
  refine iB [0,1,4,5,6,7,8,9,10,33] H fun H=>cD H (fun H=>jD B4 [0,1,4,5,6,7,8,9,10] H fun _ H=>z H) fun H=>vK<|z H
 exact vE<|fE<|P<|fX rfl<|F H
def L0K:Ct:=k8 233 [.io 122 m4,.dat i64] (fun x=>FB x.1 x.2.1) (fun r=>frz ((fun r:u1×l5=>AV.agg [AV.ow 2 true i64 r.1.1,AV.ow 2 true i64 r.1.2.1,AV.ow 2 true i64 r.1.2.2]) r)) (fun r=>r.2)
theorem L0f:Ok prog L0K:=Up O0J
def Dq(c:l5)(a:Int):Option (List u1×l5) :=
 gd ((FB c a).isSome/\True)<|lt (vl (FB c a)) fun b =>
 gd ((FB b.2 a).isSome/\True)<|lt (vl (FB b.2 a)) fun d =>
 some ([b.1,d.1],d.2)
def Q0m:Ct:=k8 218 [.io 122 m4,.dat i64] (fun x=>Dq x.1 x.2.1) (fun r:List u1×l5=>AV.ow 70 true y70 r.1) (fun r=>r.2)
theorem QA:Ok prog Q0m:=by
 refine k9 [.tmp 4] func218 ?_;intro y ⟨_,c,_⟩ r H Q hn hr;have:=hz (tc L0f tn);refine iA [0,1]<|qD (fun a=>Z [p 0 (R 500000),p 1 (J c),p 5 (R 5)] [(5,bx 70 (p8 true y70 a.1)),(500000,K 122 m4 a.2)]) H fun a H=>qD (fun b=>Z [p 4 (O 13)] [(13,A 70 y70 [a.1,b.1] 0),(500000,K 122 m4 b.2),(5,bx 70 (p8 true y70 a.1))]) H fun b H=>j0<|hr H
def K7(a:l5)(b:Int)(g:Int)(e:Int)(h:Int):Option (A9×l5) :=
 if(decide (4<=b)) then
  gd ((b9 a 10).isSome/\c9 (5-(vl (b9 a 10)).1)/\(Dq (vl (b9 a 10)).2 (5-(vl (b9 a 10)).1)).isSome/\True)<|lt (vl (Dq (vl (b9 a 10)).2 (5-(vl (b9 a 10)).1))) fun d =>
  some (((b,g,e,(0:Int),d.1,[]),d.2))
 else
  gd ((b9 a 20).isSome/\c9 (5+(vl (b9 a 20)).1)/\(Dq (vl (b9 a 20)).2 (5+(vl (b9 a 20)).1)).isSome/\True)<|lt (vl (Dq (vl (b9 a 20)).2 (5+(vl (b9 a 20)).1))) fun c =>
  gd ((Dq c.2 10).isSome/\True)<|lt (vl (Dq c.2 10)) fun f =>
  some (((b,g,e,h,c.1,f.1),f.2))
def Q0z:Ct:=k8 199 [.io 122 m4,.dat i64,.dat i64,.dat i64,.dat i64] (fun x=>K7 x.1 x.2.1 x.2.2.1 x.2.2.2.1 x.2.2.2.2.1) (fun r:A9×l5=>AV.agg [I r.1.1,I r.1.2.1,I r.1.2.2.1,I r.1.2.2.2.1,AV.ow 70 true y70 r.1.2.2.2.2.1,AV.ow 70 true y70 r.1.2.2.2.2.2]) (fun r=>r.2)
theorem O0Y:Ok prog Q0z:=by
 refine k9 [.cell 10 67] func199 ?_;intro y ⟨_,_,_,_,_,_⟩ r H Q hn hr;have:=hz (tc QA (tc B4 tn));refine iA [0,1,2,3,4,10]<|vQ<|iA [0,1,2,3,4,10,13]<|cD H (fun H=>iD QA [10] H fun _ H=>j0<|fR<|hr H) fun H=>vK<|fQ<|iD QA [0,1,2,3,4,10,11] H fun _ H=>iD QA [10] H fun _ H=>j0<|hr H
def L0L:Ct:=k8 199 [.io 122 m4,.dat i64,.dat i64,.dat i64,.dat i64] (fun x=>K7 x.1 x.2.1 x.2.2.1 x.2.2.2.1 x.2.2.2.2.1) (fun r=>frz ((fun r:A9×l5=>AV.agg [I r.1.1,I r.1.2.1,I r.1.2.2.1,I r.1.2.2.2.1,AV.ow 70 true y70 r.1.2.2.2.2.1,AV.ow 70 true y70 r.1.2.2.2.2.2]) r)) (fun r=>r.2)
theorem I0j:Ok prog L0L:=Up O0Y
def MC(f:ByteArray)(h:Int)(g:List H9)(d:Int×l5)(i:Int×l5):List A9×List Int×Int×Int->Option ((ByteArray×Int×List H9×List A9×Int×Int)×l5)
 | (e,a,c,b) =>
 some (((f,h,g,e,d.1,i.1),a,c,b))
def Dr(f:l5)(k:ByteArray)(i:Int)(d:Int):Option ((ByteArray×Int×List H9×List A9×Int×Int)×l5) :=
 gd ((b9 f 50).isSome/\(b9 (vl (b9 f 50)).2 80).isSome/\True)<|lt ((vl (b9 f 50),vl (b9 (vl (b9 f 50)).2 80))) fun(j,b) =>
 gd ((b9 b.2 9).isSome/\c9 (1+(vl (b9 b.2 9)).1)/\(b9 (vl (b9 b.2 9)).2 9).isSome/\c9 (1+(vl (b9 (vl (b9 b.2 9)).2 9)).1)/\True)<|lt ((vl (b9 b.2 9),vl (b9 (vl (b9 b.2 9)).2 9),[(ByteArray.mk #[(100:UInt8)],(1:Int),(1:Int)+(vl (b9 b.2 (9:Int))).1,false),(ByteArray.mk #[(99:UInt8),(107:UInt8)],(1:Int),(1:Int)+(vl (b9 (vl (b9 b.2 (9:Int))).2 (9:Int))).1,true),(ByteArray.mk #[(113:UInt8)],(2:Int),(0:Int),false)])) fun(_,c,l) =>
 gd ((K7 c.2 d 1 2 0).isSome/\(K7 (vl (K7 c.2 d 1 2 0)).2 4 1 0 0).isSome/\(K7 (vl (K7 (vl (K7 c.2 d 1 2 0)).2 4 1 0 0)).2 5 1 0 0).isSome/\True)<|lt ((vl (K7 c.2 d 1 2 0),vl (K7 (vl (K7 c.2 d 1 2 0)).2 4 1 0 0),vl (K7 (vl (K7 (vl (K7 c.2 d 1 2 0)).2 4 1 0 0)).2 5 1 0 0))) fun(e,h,a) =>
 if(i==3) then
  gd ((K7 a.2 1 0 2 1).isSome/\([e.1,h.1,a.1].length+[(vl (K7 a.2 1 0 2 1)).1].length<=9223372036854775807/\([e.1,h.1,a.1].length+[(vl (K7 a.2 1 0 2 1)).1].length)*80<=140737488355328)/\True)<|lt (vl (K7 a.2 1 0 2 1)) fun g =>
  MC k i l j b ([e.1,h.1,a.1]++[g.1],g.2.1,g.2.2.1,g.2.2.2)
 else
  MC k i l j b ([e.1,h.1,a.1],a.2.1,a.2.2.1,a.2.2.2)
def Q0W:Ct:=k8 166 [.io 122 m4,.dat Ty.str,.dat i64,.dat i64] (fun x=>Dr x.1 x.2.1 x.2.2.1 x.2.2.2.1) (fun r:(ByteArray×Int×List H9×List A9×Int×Int)×l5=>AV.agg [S r.1.1,I r.1.2.1,AV.ow 233 true y233 r.1.2.2.1,AV.ow 67 true y67 r.1.2.2.2.1,AV.v (Value.slice none 0 0),I r.1.2.2.2.2.1,I r.1.2.2.2.2.2]) (fun r=>r.2)
theorem Vw:Ok prog Q0W:=by
 refine k9 [.cell 8 64] func166 ?_;intro y ⟨_,e,a,o,_⟩ r H Q hn hr;have:=hz (tc I0j (tc B4 tn));refine iA [0,1,2,3,8]<|qD (fun(c,b)=>Z [p 0 (R 500000),p 2 (J a),p 3 (J o),p 8 (R 8),p 9 (R 9)] [(9,bx 64 [U e,J a,nil,nil,nil,I c.1,I b.1]),(500000,K 122 m4 b.2),(8,bx 64 (Ck (ByteArray.mk #[]) 0 0 0))]) H fun⟨c,b⟩ H =>
  qD (fun(s,q,d)=>Z [p 0 (R 500000),p 2 (J a),p 3 (J o),p 8 (R 8),p 9 (R 9)] [(9,bx 64 [U e,J a,AV.os 27 0,nil,nil,I c.1,I b.1]),(27,A 233 y233 d 0),(500000,K 122 m4 q.2),(8,bx 64 (Ck (ByteArray.mk #[]) 0 0 0))]) H fun⟨s,q,d⟩ H =>
  qD (fun(l,k,j)=>Z [p 0 (R 500000),p 2 (J a),p 8 (R 8),p 9 (R 9),p 10 (O 36)] ((36,A 67 y67 [l.1,k.1,j.1] 0)::(500000,K 122 m4 j.2)::TJ e a c.1 b.1 d)) H fun⟨l,k,j⟩ H =>
  jN r (fun((m,g,h,f):List A9×List Int×Int×Int)=>Z [p 8 (R 8),p 9 (R 9),p 10 (O 36)] ((36,A 67 y67 m 0)::(500000,bx 122 (A3 g h f))::TJ e a c.1 b.1 d)) (MC e a d c b) (fun⟨m,g,h,f⟩ H=>?_) (fun _ n t u=>?_)
 ·refine iA [8,9]<|iA [8]<|j0<|hr H
 refine iA [0,8,9,10,38]<|cD H (fun H=>zD (fun i=>Z [p 8 (R 8),p 9 (R 9),p 10 (AV.os 36 1)] ((36,A 67 y67 ([l.1,k.1,j.1]++[i.1]) 1)::(42,A 67 y67 [i.1] 0)::(500000,K 122 m4 i.2)::TJ e a c.1 b.1 d)) H fun i H=>n H) fun H=>vK<|n H
def Vx:Bool×Bool->Option Int
 | (a,b) =>
 if(a&&b) then
  some 3
 else
  if a then
   some 1
  else
   if b then
    some 2
   else
    some 0
def MD(a:Int)(d:Bool×Bool×Int->Option Int):Bool×Bool->Option Int
 | (c,b) =>
 gd (c9 (a+1)/\True) <|
 d (c,b,a+1)
def A0C(b:m6)(c:Int)(f:Bool×Bool×Int->Option Int):Bool×Bool×Int->Option Int
 | (e,d,a) =>
 if(decide (a < (b.2.2.2.2.1.length:Int))) then
  gd (((0:Int)<=a/\(0:Int)<=(1:Int)*(2:j7 i64) ^ c.toNat)/\True) <|
  if((↑(a.toNat &&& ((1:Int)*(2:j7 i64) ^ c.toNat).toNat):Int) != (0:Int)) then
   MD a f (e,d)
  else
   gd ((e=false/\True->ix a b.2.2.2.2.1.length)/\(e=false/\True->c9 (a+(1:Int)*(2:j7 i64) ^ c.toNat))/\(e=false/\True->ix (a+(1:Int)*(2:j7 i64) ^ c.toNat) b.2.2.2.2.1.length)/\True) <|
   gd ((d=false/\True->ix a b.2.2.2.2.1.length)/\(d=false/\True->c9 (a+(1:Int)*(2:j7 i64) ^ c.toNat))/\(d=false/\True->ix (a+(1:Int)*(2:j7 i64) ^ c.toNat) b.2.2.2.2.1.length)/\True) <|
   MD a f ((e||decide (b.2.2.2.2.1.getD a.toNat (0:Int)<b.2.2.2.2.1.getD (a+(1:Int)*(2:j7 i64) ^ c.toNat).toNat (0:Int)),d||decide (b.2.2.2.2.1.getD (a+(1:Int)*(2:j7 i64) ^ c.toNat).toNat (0:Int)<b.2.2.2.2.1.getD a.toNat (0:Int))))
 else
  Vx (e,d)
def ME(b:m6)(a:Int):Option Int :=
 gd (((0:Int)<=a/\a<=(18446744073709551615:Int))/\(((0:Int)<=a/\a<=(62:Int))/\c9 ((1:Int)*(2:Int) ^ a.toNat))/\True) <|
 lp (A0C b a) (false,false,0)
def Q0A:Ct:=k8 198 [.agg y64,.dat i64] (fun x=>ME x.1 x.2.1) (fun r:Int=>I r) (fun _=>())
theorem M0H:Ok prog Q0A:=by
 refine k9 [.tmp 4] func198 ?_;intro y ⟨g,i,_⟩ r H Q hn hr;refine iA [1,2]<|iA [1,2,5,6]<|iB [2,5,6,7] H fun H=>jN r (fun((j,c):Bool×Bool)=>Z [p 5 (B j),p 6 (B c)] []) (Vx) (fun⟨j,c⟩ H=>?_) (fun _ k o t=>?_)
 ·refine vQ<|vB<|iA [5,6,55]<|cD H (fun H=>iA [4]<|j0<|l7<|fR<|hr H) fun H=>iA [6,60]<|cD H (fun H=>iA [4]<|j0<|l7<|fR<|hr H) fun H=>iA [62]<|cD H (fun H=>iA [4]<|j0<|l7<|fR<|hr H) fun H=>vK<|fK<|fQ<|iA [4]<|j0<|hr H
 refine iA [2,5,6,7,8]<|vB<|lX (fun((f,h,a):Bool×Bool×Int)=>Z [p 2 (R 2),p 5 (B f),p 6 (B h),p 7 (I ((1:Int)*(2:j7 i64) ^ i.toNat)),p 8 (I a)] [(2,K 64 y64 g)]) (false,false,0) H fun _ l m n u ⟨f,h,a⟩ H=>vQ<|iA [2,5,6,7,8,16]<|cD H (fun H=>?_) (fun H=>?_)
 ·refine vK<|fQ<|jN r (fun((e,d):Bool×Bool)=>Z [p 2 (R 2),p 5 (B e),p 6 (B d),p 7 (I ((1:Int)*(2:j7 i64) ^ i.toNat)),p 8 (I a)] [(2,K 64 y64 g)]) (MD a l) (fun⟨e,d⟩ H=>?_) (fun _ b s q=>?_)
  ·refine jB [2,5,6,7,8] H fun H=>m H
  refine vB<|vQ<|iB [2,5,6,7,8,22] H fun H=>cD H (fun H=>vE<|fE<|fX rfl<|b H) fun H=>vK<|fQ<|iB [2,5,6,7,8] H fun H=>jB [2,5,6,7,8] H fun H=>fK<|b H
 exact vE<|fE<|n<|fX rfl<|k H
def Vy(g:ByteArray)(d:List H9)(i:List Int)(f:Int×l5)(h:Int×l5):List A9×List Int×Int×Int->Option (m6×l5)
 | (c,a,e,b) =>
 some (((g,(1:Int),d,c,i,f.1,h.1),a,e,b))
def MF(a:Int)(f:Int×List A9×List Int×Int×Int->Option (m6×l5)):List A9×List Int×Int×Int->Option (m6×l5)
 | (d,b,e,c) =>
 gd (c9 (a+1)/\True) <|
 f (a+1,d,b,e,c)
def A0R(f:List H9)(j:ByteArray)(i:List H9)(l:List Int)(m:Int×l5)(k:Int×l5)(n:Int×List A9×List Int×Int×Int->Option (m6×l5)):Int×List A9×List Int×Int×Int->Option (m6×l5)
 | (a,e,c,d,b) =>
 if(decide (a < (f.length:Int))) then
  gd ((ME (j,(1:Int),i,[],l,m.1,k.1) a).isSome/\True)<|lt (vl (ME (j,(1:Int),i,[],l,m.1,k.1) a)) fun g =>
  if(g != 0) then
   gd ((K7 (c,d,b) 1 a (f.length:Int) g).isSome/\(e.length+[(vl (K7 (c,d,b) 1 a (f.length:Int) g)).1].length<=9223372036854775807/\(e.length+[(vl (K7 (c,d,b) 1 a (f.length:Int) g)).1].length)*80<=140737488355328)/\True)<|lt (vl (K7 (c,d,b) 1 a (f.length:Int) g)) fun h =>
   MF a n (e++[h.1],h.2.1,h.2.2.1,h.2.2.2)
  else
   MF a n (e,c,d,b)
 else
  Vy j i l m k (e,c,d,b)
def QB(f:ByteArray)(h:List Int)(i:Int×l5)(g:Int×l5):List H9×List Int×Int×Int->Option (m6×l5)
 | (a,d,b,c) =>
 gd ((a.length+[(ByteArray.mk #[(121:UInt8)],(2:Int),(0:Int),false)].length<=9223372036854775807/\(a.length+[(ByteArray.mk #[(121:UInt8)],(2:Int),(0:Int),false)].length)*40<=140737488355328)/\True)<|lt ((a++[(ByteArray.mk #[(121:UInt8)],(2:Int),(0:Int),false)],[(ByteArray.mk #[(121:UInt8)],(2:Int),(0:Int),false)])) fun(e,_) =>
 lp (A0R a f e h i g) (0,[],d,b,c)
def A0S(f:List ByteArray)(j:ByteArray)(i:List Int)(l:Int×l5)(k:Int×l5)(m:Int×List H9×List Int×Int×Int->Option (m6×l5)):Int×List H9×List Int×Int×Int->Option (m6×l5)
 | (h,b,d,c,a) =>
 if(decide (h < (i.length:Int))) then
  gd (ix (b.length:Int) f.length/\(b.length:Int).toNat<f.length/\(b9 (d,c,a) (9:Int)).isSome/\c9 ((1:Int)+(vl (b9 (d,c,a) (9:Int))).1)/\(b.length+[(f.getD (b.length:Int).toNat (b7 Ty.str),(1:Int),(1:Int)+(vl (b9 (d,c,a) (9:Int))).1,false)].length<=9223372036854775807/\(b.length+[(f.getD (b.length:Int).toNat (b7 Ty.str),(1:Int),(1:Int)+(vl (b9 (d,c,a) (9:Int))).1,false)].length)*40<=140737488355328)/\True)<|lt ((vl (b9 (d,c,a) 9),b++[(f.getD (b.length:Int).toNat (b7 Ty.str),(1:Int),(1:Int)+(vl (b9 (d,c,a) (9:Int))).1,false)],[(f.getD (b.length:Int).toNat (b7 Ty.str),(1:Int),(1:Int)+(vl (b9 (d,c,a) (9:Int))).1,false)])) fun(e,g,_) =>
  gd (c9 (2*h)/\True) <|
  m (2*h,g,e.2.1,e.2.2.1,e.2.2.2)
 else
  QB j i l k (b,d,c,a)
def C4(a:l5)(d:ByteArray)(e:List Int):Option (m6×l5) :=
 lt ([ByteArray.mk #[97],ByteArray.mk #[98],ByteArray.mk #[99],ByteArray.mk #[100]]) fun c =>
 gd ((b9 a 50).isSome/\(b9 (vl (b9 a 50)).2 80).isSome/\True)<|lt ((vl (b9 a 50),vl (b9 (vl (b9 a 50)).2 80))) fun(f,b) =>
 lp (A0S c d e f b) (1,[],b.2.1,b.2.2.1,b.2.2.2)
def Q0X:Ct:=k8 165 [.io 122 m4,.dat Ty.str,.dat i64.sl] (fun x=>C4 x.1 x.2.1 x.2.2.1) (fun r:m6×l5=>AV.agg [S r.1.1,I r.1.2.1,AV.ow 233 true y233 r.1.2.2.1,AV.ow 67 true y67 r.1.2.2.2.1,L i64 r.1.2.2.2.2.1,I r.1.2.2.2.2.2.1,I r.1.2.2.2.2.2.2]) (fun r=>r.2)
theorem P0h:Ok prog Q0X:=by
 refine k9 [.cell 6 64] func165 ?_;intro y ⟨a0,f,c,_⟩ r H Q hn hr;have:=hz (tc I0j (tc M0H (tc B4 tn)));refine iA [0,1,2,6]<|qC (fun G=>Z [p 0 (R 500000),p 1 (U f),p 2 (L i64 c),p 6 (R 6),p 7 (O 15)] [(15,A 9 Ty.str G 0),(6,bx 64 (Ck (ByteArray.mk #[]) 0 0 0)),(500000,K 122 m4 a0)]) H fun G H=>qD (fun(e,a)=>Z [p 0 (R 500000),p 2 (L i64 c),p 6 (R 6),p 7 (O 15),p 8 (R 8)] [(8,bx 64 [U f,I 1,nil,nil,L i64 c,I e.1,I a.1]),(500000,K 122 m4 a.2),(15,A 9 Ty.str G 0),(6,bx 64 (Ck (ByteArray.mk #[]) 0 0 0))]) H fun w H=>?_
 obtain⟨e,a⟩:=w;refine iA [0,2,6,7,8,9]<|jN r (fun((d,i,h,k):List H9×List Int×Int×Int)=>Z (Cn [p 8 (R 8),p 9 (O 23)]) ((23,A 233 y233 d 0)::(8,bx 64 [U f,I 1,nil,nil,L i64 c,I e.1,I a.1])::OU i h k)) (QB f c e a) (fun⟨d,i,h,k⟩ H=>?_) (fun _ n0 e0 t0=>?_)
 ·refine iA [0,6,8,9,11]<|qD (fun(b,n)=>Z (Cn [p 8 (R 8),p 11 (I (d.length:Int))]) ((8,bx 64 [U f,I 1,AV.os 23 1,nil,L i64 c,I e.1,I a.1])::(23,A 233 y233 b 1)::(46,A 233 y233 n 0)::OU i h k)) H fun w H=>?_
  obtain⟨b,n⟩:=w;refine iA [0,6,8,11,12]<|jN r (fun((F,o,u,v):List A9×List Int×Int×Int)=>Z [p 6 (R 6),p 8 (R 8),p 12 (O 49)] ((49,A 67 y67 F 0)::(8,bx 64 [U f,I 1,AV.os 23 0,nil,L i64 c,I e.1,I a.1])::(23,A 233 y233 b 0)::OU o u v)) (Vy f b c e a) (fun⟨F,o,u,v⟩ H=>?_) (fun _ n2 e2 t2=>?_)
  ·refine iA [6,8]<|iA [6]<|j0<|hr H
  refine iA [0,6,8,11,12,13]<|vB<|lX (fun((g,l,s,V,z):Int×List A9×List Int×Int×Int)=>Z (Cn [p 8 (R 8),p 11 (I (d.length:Int)),p 12 (O 49),p 13 (I g)]) ((49,A 67 y67 l 0)::(8,bx 64 [U f,I 1,AV.os 23 0,nil,L i64 c,I e.1,I a.1])::(23,A 233 y233 b 0)::OU s V z)) (0,[],i,h,k) H fun _ g3 b3 e3 t3 ⟨g,l,s,V,z⟩ H=>vQ<|iA [0,6,8,11,12,13,52]<|cD H (fun H=>?_) (fun H=>?_)
  ·refine vK<|fQ<|jN r (fun((T,m,t,E):List A9×List Int×Int×Int)=>Z (Cn [p 8 (R 8),p 11 (I (d.length:Int)),p 12 (O 49),p 13 (I g)]) [(49,A 67 y67 T 0),(500000,bx 122 (A3 m t E)),(8,bx 64 [U f,I 1,AV.os 23 0,nil,L i64 c,I e.1,I a.1]),(23,A 233 y233 b 0),(6,bx 64 (Ck (ByteArray.mk #[]) 0 0 0))]) (MF g g3) (fun⟨T,m,t,E⟩ H=>?_) (fun _ n4 e4 t4=>?_)
   ·refine jB [0,6,8,11,12,13] H fun H=>b3 H
   refine vB<|iD M0H [0,6,8,11,12,13,14] H fun _ H=>iA [0,6,8,11,12,13,14,59]<|cD H (fun H=>zD (fun j=>Z (Cn [p 8 (R 8),p 11 (I (d.length:Int)),p 12 (AV.os 49 1),p 13 (I g)]) [(49,A 67 y67 (l++[j.1]) 1),(66,A 67 y67 [j.1] 0),(500000,K 122 m4 j.2),(8,bx 64 [U f,I 1,AV.os 23 0,nil,L i64 c,I e.1,I a.1]),(23,A 233 y233 b 0),(6,bx 64 (Ck (ByteArray.mk #[]) 0 0 0))]) H fun j H=>fK<|n4 H) fun H=>vK<|fK<|n4 H
  exact vE<|fE<|e3<|fX rfl<|n2 H
 refine iA [0,2,6,7,8,9,10]<|vB<|lX (fun((X,v7,v8,Y,P):Int×List H9×List Int×Int×Int)=>Z [p 0 (R 500000),p 2 (L i64 c),p 6 (R 6),p 7 (O 15),p 8 (R 8),p 9 (O 23),p 10 (I X)] [(23,A 233 y233 v7 0),(8,bx 64 [U f,I 1,nil,nil,L i64 c,I e.1,I a.1]),(500000,bx 122 [L b8 v8,J Y,J P]),(15,A 9 Ty.str G 0),(6,bx 64 (Ck (ByteArray.mk #[]) 0 0 0))]) (1,[],a.2.1,a.2.2.1,a.2.2.2) H fun _ g1 b1 e1 t1 ⟨X,v7,v8,Y,P⟩ H=>vQ<|iA [0,2,6,7,8,9,10,27]<|cD H (fun H=>?_) (fun H=>?_)
 ·refine vK<|fQ<|vQ<|vB<|zD (fun(W,q,x)=>Z [p 0 (R 500000),p 2 (L i64 c),p 6 (R 6),p 7 (O 15),p 8 (R 8),p 9 (AV.os 23 1),p 10 (I X)] [(23,A 233 y233 q 1),(40,A 233 y233 x 0),(500000,K 122 m4 W.2),(8,bx 64 [U f,I 1,nil,nil,L i64 c,I e.1,I a.1]),(15,A 9 Ty.str G 0),(6,bx 64 (Ck (ByteArray.mk #[]) 0 0 0))]) H fun⟨W,q,x⟩ H =>
   fK<|fQ <|
   jB [0,2,6,7,8,9,10] H fun H =>
   b1 H
 exact vE<|fE<|e1<|fX rfl<|n0 H
def MG(a:l5):Option (List m6×l5) :=
 gd (True/\(C4 a (ByteArray.mk #[105,110,118]) [1,0]).isSome/\True) <|
 gd (True/\(C4 (vl (C4 a (ByteArray.mk #[105,110,118]) [1,0])).2 (ByteArray.mk #[98,117,102]) [0,1]).isSome/\True) <|
 gd (True/\(C4 (vl (C4 (vl (C4 a (ByteArray.mk #[105,110,118]) [1,0])).2 (ByteArray.mk #[98,117,102]) [0,1])).2 (ByteArray.mk #[110,97,110,100]) [1,1,1,0]).isSome/\True) <|
 gd (True/\(C4 (vl (C4 (vl (C4 (vl (C4 a (ByteArray.mk #[105,110,118]) [1,0])).2 (ByteArray.mk #[98,117,102]) [0,1])).2 (ByteArray.mk #[110,97,110,100]) [1,1,1,0])).2 (ByteArray.mk #[120,111,114]) [0,1,1,0]).isSome/\True) <|
 gd (True/\(C4 (vl (C4 (vl (C4 (vl (C4 (vl (C4 a (ByteArray.mk #[105,110,118]) [1,0])).2 (ByteArray.mk #[98,117,102]) [0,1])).2 (ByteArray.mk #[110,97,110,100]) [1,1,1,0])).2 (ByteArray.mk #[120,111,114]) [0,1,1,0])).2 (ByteArray.mk #[109,117,120]) [0,1,0,1,0,0,1,1]).isSome/\True) <|
 gd ((Dr (vl (C4 (vl (C4 (vl (C4 (vl (C4 (vl (C4 a (ByteArray.mk #[105,110,118]) [1,0])).2 (ByteArray.mk #[98,117,102]) [0,1])).2 (ByteArray.mk #[110,97,110,100]) [1,1,1,0])).2 (ByteArray.mk #[120,111,114]) [0,1,1,0])).2 (ByteArray.mk #[109,117,120]) [0,1,0,1,0,0,1,1])).2 (ByteArray.mk #[102,108,111,112]) 2 2).isSome/\True)<|lt ((vl (Dr (vl (C4 (vl (C4 (vl (C4 (vl (C4 (vl (C4 a (ByteArray.mk #[105,110,118]) [1,0])).2 (ByteArray.mk #[98,117,102]) [0,1])).2 (ByteArray.mk #[110,97,110,100]) [1,1,1,0])).2 (ByteArray.mk #[120,111,114]) [0,1,1,0])).2 (ByteArray.mk #[109,117,120]) [0,1,0,1,0,0,1,1])).2 (ByteArray.mk #[102,108,111,112]) 2 2),vl (C4 (vl (C4 (vl (C4 (vl (C4 (vl (C4 a (ByteArray.mk #[105,110,118]) [1,0])).2 (ByteArray.mk #[98,117,102]) [0,1])).2 (ByteArray.mk #[110,97,110,100]) [1,1,1,0])).2 (ByteArray.mk #[120,111,114]) [0,1,1,0])).2 (ByteArray.mk #[109,117,120]) [0,1,0,1,0,0,1,1]),vl (C4 (vl (C4 (vl (C4 (vl (C4 a (ByteArray.mk #[105,110,118]) [1,0])).2 (ByteArray.mk #[98,117,102]) [0,1])).2 (ByteArray.mk #[110,97,110,100]) [1,1,1,0])).2 (ByteArray.mk #[120,111,114]) [0,1,1,0]),vl (C4 (vl (C4 (vl (C4 a (ByteArray.mk #[105,110,118]) [1,0])).2 (ByteArray.mk #[98,117,102]) [0,1])).2 (ByteArray.mk #[110,97,110,100]) [1,1,1,0]),vl (C4 (vl (C4 a (ByteArray.mk #[105,110,118]) [1,0])).2 (ByteArray.mk #[98,117,102]) [0,1]),vl (C4 a (ByteArray.mk #[105,110,118]) [1,0]))) fun(b,j,h,e,g,f) =>
 gd ((Dr b.2 (ByteArray.mk #[102,108,111,112,110]) 2 3).isSome/\True)<|lt (vl (Dr b.2 (ByteArray.mk #[102,108,111,112,110]) 2 3)) fun c =>
 gd ((Dr c.2 (ByteArray.mk #[108,97,116,99,104]) 3 2).isSome/\True)<|lt (vl (Dr c.2 (ByteArray.mk #[108,97,116,99,104]) 3 2)) fun d =>
 lt ([f.1,g.1,e.1,h.1,j.1,(b.1.1,b.1.2.1,b.1.2.2.1,b.1.2.2.2.1,[],b.1.2.2.2.2),(c.1.1,c.1.2.1,c.1.2.2.1,c.1.2.2.2.1,[],c.1.2.2.2.2),(d.1.1,d.1.2.1,d.1.2.2.1,d.1.2.2.2.1,[],d.1.2.2.2.2)]) fun i =>
 some (i,d.2)
def R0J:Ct:=k8 119 [.io 122 m4] (fun x=>MG x.1) (fun r:List m6×l5=>AV.agg [AV.ow 64 false y64 r.1]) (fun r=>r.2)
theorem P0v:Ok prog R0J:=by
 refine k9 [.cell 2 26] func119 ?_;intro y ⟨_,_⟩ r H Q hn hr;have:=hz (tc Vw (tc P0h tn));refine iA [0,2]<|iA [0,2,3]<|vQ<|iF 2 [14] [0,2,3,4] H fun H=>fQ<|vQ<|iF 2 [17] [0,2,3,4,5] H fun H=>fQ<|vQ<|iF 2 [20] [0,2,3,4,5,6] H fun H=>fQ<|vQ<|iF 2 [23] [0,2,3,4,5,6,7] H fun H=>fQ<|vQ<|iF 2 [26] [0,2,3,4,5,6,7,8] H fun H=>fQ<|qD (fun(a,f,e,b,d,c)=>Z [p 0 (R 500000),p 2 (R 2),p 3 (R 3),p 4 (R 4),p 5 (R 5),p 6 (R 6),p 7 (R 7),p 8 (R 8),p 9 (R 9)] [(9,bx 64 [S a.1.1,I a.1.2.1,AV.os 29 0,AV.os 1029 0,nil,I a.1.2.2.2.2.1,I a.1.2.2.2.2.2]),(1029,A 67 y67 a.1.2.2.2.1 0),(29,A 233 y233 a.1.2.2.1 0),(500000,K 122 m4 a.2),(8,bx 64 [S f.1.1,I f.1.2.1,AV.os 27 0,AV.os 1027 0,L i64 f.1.2.2.2.2.1,I f.1.2.2.2.2.2.1,I f.1.2.2.2.2.2.2]),(1027,A 67 y67 f.1.2.2.2.1 0),(27,A 233 y233 f.1.2.2.1 0),(7,bx 64 [S e.1.1,I e.1.2.1,AV.os 24 0,AV.os 1024 0,L i64 e.1.2.2.2.2.1,I e.1.2.2.2.2.2.1,I e.1.2.2.2.2.2.2]),(1024,A 67 y67 e.1.2.2.2.1 0),(24,A 233 y233 e.1.2.2.1 0),(6,bx 64 [S b.1.1,I b.1.2.1,AV.os 21 0,AV.os 1021 0,L i64 b.1.2.2.2.2.1,I b.1.2.2.2.2.2.1,I b.1.2.2.2.2.2.2]),(1021,A 67 y67 b.1.2.2.2.1 0),(21,A 233 y233 b.1.2.2.1 0),(5,bx 64 [S d.1.1,I d.1.2.1,AV.os 18 0,AV.os 1018 0,L i64 d.1.2.2.2.2.1,I d.1.2.2.2.2.2.1,I d.1.2.2.2.2.2.2]),(1018,A 67 y67 d.1.2.2.2.1 0),(18,A 233 y233 d.1.2.2.1 0),(4,bx 64 [S c.1.1,I c.1.2.1,AV.os 15 0,AV.os 1015 0,L i64 c.1.2.2.2.2.1,I c.1.2.2.2.2.2.1,I c.1.2.2.2.2.2.2]),(1015,A 67 y67 c.1.2.2.2.1 0),(15,A 233 y233 c.1.2.2.1 0),(3,bx 26 [nil]),(2,bx 26 [nil])]) H fun⟨a,f,e,b,d,c⟩ H =>
  iD Vw [0,2,3,4,5,6,7,8,9,10] H fun i H =>
  iD Vw [2,3,4,5,6,7,8,9,10,11] H fun g H=>?_
 refine Vz [33,1033,31,1031,29,1029,27,1027,24,1024,21,1021,18,1018,15,1015] (Z (G8 [p 4 (R 4),p 5 (R 5),p 6 (R 6),p 7 (R 7),p 8 (R 8),p 9 (R 9),p 10 (R 10),p 11 (R 11)]) [(11,bx 64 (Q4 g.1)),(500000,K 122 m4 g.2),(10,bx 64 (Q4 i.1)),(9,bx 64 (Q4 a.1)),(8,bx 64 (Q1 f.1)),(7,bx 64 (Q1 e.1)),(6,bx 64 (Q1 b.1)),(5,bx 64 (Q1 d.1)),(4,bx 64 (Q1 c.1)),(3,bx 26 [nil]),(2,bx 26 [nil])])<|qC (fun h=>Z (G8 []) [(3,bx 26 [AV.os 42 0]),(42,Ob.arr 64 false y64 h 0),(11,bx 64 (Q4 g.1)),(500000,K 122 m4 g.2),(10,bx 64 (Q4 i.1)),(9,bx 64 (Q4 a.1)),(8,bx 64 (Q1 f.1)),(7,bx 64 (Q1 e.1)),(6,bx 64 (Q1 b.1)),(5,bx 64 (Q1 d.1)),(4,bx 64 (Q1 c.1)),(2,bx 26 [nil])]) H fun h H=>iA [2]<|j0<|hr H
def MH(a:Int)(b:Int):Option x9 :=
 gd ((0<=a/\a=a/\a.toNat*8<=281474976710656/\a<=9223372036854775807)/\True) <|
 some ([-1],[0],[b],List.replicate a.toNat 0)
def Q0U:Ct:=k8 168 [.dat i64,.dat i64] (fun x=>MH x.1 x.2.1) (fun r:x9=>AV.agg [AV.ow 2 true i64 r.1,AV.ow 2 true i64 r.2.1,AV.ow 2 true i64 r.2.2.1,AV.ow 2 true i64 r.2.2.2]) (fun _=>())
theorem P0g:Ok prog Q0U:=by
 refine k9 [.cell 4 153] func168 ?_;intro y ⟨_,_,_⟩ r H Q hn hr;refine iA [0,1,4]<|iB [4] H fun H=>j0<|hr H
end Go.Proofs.YtdjgagoledoaaaaGreatDoor
end
