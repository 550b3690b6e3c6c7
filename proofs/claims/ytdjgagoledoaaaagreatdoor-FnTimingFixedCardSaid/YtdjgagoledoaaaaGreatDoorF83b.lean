/- Functions of this program as plain functions of data, and that they are so: printed by program. -/
import Derived.Test.YtdjgagoledoaaaaGreatDoorF83a
section
namespace Go.Proofs.YtdjgagoledoaaaaGreatDoor
open Go Go.Proofs Go.Proofs.Sv Go.Proofs.Xv Go.Proofs.Xl Go.RowKit
open Tryz
def Hd(a:u6):Option Bool :=
 gd ((Bi a.1).isSome/\(vl (Bi a.1)=true/\True->(Bi a.2.1).isSome)/\((vl (Bi a.1)&&vl (Bi a.2.1))=true/\True->c9 ((a.1.length:Int)*(a.2.1.length:Int)))/\((vl (Bi a.1)&&vl (Bi a.2.1)&&(a.2.2.length:Int)==(a.1.length:Int)*(a.2.1.length:Int))=true/\True->(I0 a.2.2 (-1000000) 1000000).isSome)/\True) <|
 some (vl (Bi a.1)&&vl (Bi a.2.1)&&(a.2.2.length:Int)==(a.1.length:Int)*(a.2.1.length:Int)&&vl (I0 a.2.2 (-1000000) 1000000))
def P0l:Ct:=j9 248 [.agg y70] (fun x=>Hd x.1) (fun r:Bool=>B r) (fun _=>())
theorem N0z:Ok prog P0l:=by
 refine k6 [.tmp 2] func248 ?_;intro y ⟨_,_⟩ r H Q hn hr;have:=hz (tc LN (tc N0x tn));refine iA [1]<|iB [2] H fun H=>j0<|hr H
def LU(a:u6)(b:Bool):Option Bool :=
 gd ((Hd a).isSome/\(b=true/\(!vl (Hd a))=false/\True->(Jh a.2.2).isSome)/\True)<|lt (vl (Jh a.2.2)) fun c =>
 some (!vl (Hd a)||b&&decide (c<0))
def P0m:Ct:=j9 247 [.agg y70,.dat (.pt Ty.bool)] (fun x=>LU x.1 x.2.1) (fun r:Bool=>B r) (fun _=>())
theorem UE:Ok prog P0m:=by
 refine k6 [.tmp 3] func247 ?_;intro y ⟨a,c,_⟩ r H Q hn hr;have:=hz (tc N0y (tc N0z tn));refine iA [1,2]<|qD (fun b=>Z [p 3 (B (!vl (Hd a)||c&&decide (b<0)))] [(2,K 70 y70 a)]) H fun b H=>j0<|hr H
def j0B:Unit->Option Int
 | _ =>
 some (-1)
def r0E(b:List u6)(c:Bool)(d:Int->Option Int):Int->Option Int
 | a =>
 if(decide (a < (b.length:Int))) then
  gd (ix a b.length/\(LU (b.getD a.toNat (b7 y70)) c).isSome/\True) <|
  if(vl (LU (b.getD a.toNat (b7 y70)) c)) then
   some a
  else
   gd (c9 (a+1)/\True) <|
   d (a+1)
 else
  j0B ()
def PI(a:List u6)(b:Bool):Option Int :=
 lp (r0E a b) 0
def y0V:Ct:=j9 252 [.dat y70.sl,.fn 247 Ty.bool.pt] (fun x=>PI x.1 x.2.1) (fun r:Int=>I r) (fun _=>())
theorem y0v:Ok prog y0V:=by
 refine k6 [.tmp 4] func252 ?_;intro y ⟨a,d,_⟩ r H Q hn hr;have:=hz (tc UE tn);refine iA [0,1]<|jN r (fun(_:Unit)=>Z [] []) (j0B) (fun _ H=>?_) (fun _ c j g=>?_)
 ·refine iA [4]<|j0<|hr H
 refine iA [0,1,7,8]<|vB<|lX (fun(b:Int)=>Z [p 0 (L y70 a),p 1 (AV.fn 247 [D Ty.bool.pt d]),p 7 (I (a.length:Int)),p 8 (I b)] []) 0 H fun _ i f e h b H=>iA [0,1,7,8,9]<|vQ<|cD H (fun H=>?_) (fun H=>?_)
 ·refine vK<|fQ<|vQ<|vB<|iA [0,1,5,7,8]<|iB [0,1,5,7,8,16] H fun H=>cD H (fun H=>iA [4]<|j0<|l9<|fR<|h<|l9<|g<|hr H) fun H=>vK<|fK<|fQ<|jB [0,1,7,8] H fun H=>f H
 exact vE<|fE<|e<|fX rfl<|c H
def PJ(a:List u6)(b:Bool):Option Bool :=
 gd ((PI a b).isSome/\True)<|lt (vl (PI a b)) fun c =>
 some (decide (0<=c))
def y0X:Ct:=j9 246 [.dat y70.sl,.fn 247 (.pt Ty.bool)] (fun x=>PJ x.1 x.2.1) (fun r:Bool=>B r) (fun _=>())
theorem y0x:Ok prog y0X:=by
 refine k6 [.tmp 4] func246 ?_;intro y ⟨_,_,_⟩ r H Q hn hr;have:=hz (tc y0v (tc UE tn));refine iA [0,1]<|qD (fun a=>Z [p 4 (B (decide (0<=a)))] []) H fun a H=>j0<|hr H
def P6(a:List u6)(b:Bool):Option Bool :=
 gd ((((a.length:Int)==2)=true/\True->(PJ a b).isSome)/\True) <|
 some ((a.length:Int)==2&&!vl (PJ a b))
def P0t:Ct:=j9 235 [.dat y70.sl,.dat Ty.bool] (fun x=>P6 x.1 x.2.1) (fun r:Bool=>B r) (fun _=>())
theorem N0F:Ok prog P0t:=by
 refine k6 [.tmp 4] func235 ?_;intro y ⟨_,_,_⟩ r H Q hn hr;have:=hz (tc y0x (tc UE tn));refine iA [0,3]<|iB [4] H fun H=>j0<|hr H
def UG(a:I3):Option Bool :=
 some a.2.2.2
def P0j:Ct:=j9 251 [.agg y233] (fun x=>UG x.1) (fun r:Bool=>B r) (fun _=>())
theorem L0T:Ok prog P0j:=by
 refine k6 [.tmp 2] func251 ?_;intro y ⟨_,_⟩ r H Q hn hr;refine iA [1]<|iA [2]<|j0<|hr H
def j0C:Unit->Option Int
 | _ =>
 some (-1)
def r0F(b:List I3)(c:Int->Option Int):Int->Option Int
 | a =>
 if(decide (a < (b.length:Int))) then
  gd (ix a b.length/\(UG (b.getD a.toNat (b7 y233))).isSome/\True) <|
  if(vl (UG (b.getD a.toNat (b7 y233)))) then
   some a
  else
   gd (c9 (a+1)/\True) <|
   c (a+1)
 else
  j0C ()
def PK(a:List I3):Option Int :=
 lp (r0F a) 0
def y0W:Ct:=j9 250 [.dat y233.sl,.nof 251] (fun x=>PK x.1) (fun r:Int=>I r) (fun _=>())
theorem y0w:Ok prog y0W:=by
 refine k6 [.tmp 4] func250 ?_;intro y ⟨a,_,_⟩ r H Q hn hr;have:=hz (tc L0T tn);refine iA [0,1]<|jN r (fun(_:Unit)=>Z [] []) (j0C) (fun _ H=>?_) (fun _ c i f=>?_)
 ·refine iA [4]<|j0<|hr H
 refine iA [0,1,7,8]<|vB<|lX (fun(b:Int)=>Z [p 0 (L y233 a),p 1 (AV.fn 251 []),p 7 (I (a.length:Int)),p 8 (I b)] []) 0 H fun _ h e d g b H=>iA [0,1,7,8,9]<|vQ<|cD H (fun H=>?_) (fun H=>?_)
 ·refine vK<|fQ<|vQ<|vB<|iA [0,1,5,7,8]<|iB [0,1,5,7,8,16] H fun H=>cD H (fun H=>iA [4]<|j0<|l9<|fR<|g<|l9<|f<|hr H) fun H=>vK<|fK<|fQ<|jB [0,1,7,8] H fun H=>e H
 exact vE<|fE<|d<|fX rfl<|c H
def Ji(a:m5):Option Int :=
 gd ((PK a.2.2.1).isSome/\True)<|lt (vl (PK a.2.2.1)) fun b =>
 some b
def P0s:Ct:=j9 236 [.agg y64] (fun x=>Ji x.1) (fun r:Int=>I r) (fun _=>())
theorem N0E:Ok prog P0s:=by
 refine k6 [.tmp 2] func236 ?_;intro y ⟨b,_⟩ r H Q hn hr;have:=hz (tc L0T (tc y0w tn));refine iA [1]<|qD (fun a=>Z [p 2 (I a)] [(1,K 64 y64 b)]) H fun a H=>j0<|hr H
def PL(a:Int):Option Bool :=
 some (a==4||a==5)
def P0u:Ct:=j9 234 [.dat i64] (fun x=>PL x.1) (fun r:Bool=>B r) (fun _=>())
theorem N0G:Ok prog P0u:=by
 refine k6 [.tmp 2] func234 ?_;intro y ⟨_,_⟩ r H Q hn hr;refine iA [0]<|iA [2]<|j0<|hr H
def LV(b:m5)(a:A8):Bool->Option Bool
 | c =>
 if c then
  gd (ix a.2.1 b.2.2.1.length/\True) <|
  some ((b.2.2.1.getD a.2.1.toNat (b7 y233)).2.2.2&&a.2.2.2.1==0)
 else
  some false
def He(b:m5)(a:A8):Option Bool :=
 gd ((PL a.1).isSome/\True) <|
 if(vl (PL a.1)) then
  gd (((a.2.2.2.1==0&&(a.2.2.2.2.2.length:Int)==0)=true/\True->(P6 a.2.2.2.2.1 false).isSome)/\((a.2.2.2.1==0&&(a.2.2.2.2.2.length:Int)==0&&vl (P6 a.2.2.2.2.1 false))=true/\True->(Ji b).isSome)/\((a.2.2.2.1==0&&(a.2.2.2.2.2.length:Int)==0&&vl (P6 a.2.2.2.2.1 false)&&a.2.1==vl (Ji b)&&decide (0<=a.2.1))=true/\True->(Du b a.2.2.1).isSome)/\True)<|lt (vl (Ji b)) fun d =>
  some (a.2.2.2.1==0&&(a.2.2.2.2.2.length:Int)==0&&vl (P6 a.2.2.2.2.1 false)&&a.2.1==d&&decide (0<=a.2.1)&&vl (Du b a.2.2.1)&&a.2.2.1 != a.2.1)
 else
  gd ((P6 a.2.2.2.2.1 true).isSome/\((!vl (P6 a.2.2.2.2.1 true))=false/\True->(P6 a.2.2.2.2.2 true).isSome)/\((!vl (P6 a.2.2.2.2.1 true)||!vl (P6 a.2.2.2.2.2 true))=false/\True->(W5 b).isSome)/\((!vl (P6 a.2.2.2.2.1 true)||!vl (P6 a.2.2.2.2.2 true)||a.2.2.1 != vl (W5 b))=false/\True->(Du b a.2.1).isSome)/\True)<|lt (vl (W5 b)) fun c =>
  if(!vl (P6 a.2.2.2.2.1 true)||!vl (P6 a.2.2.2.2.2 true)||a.2.2.1 != c||!vl (Du b a.2.1)) then
   some false
  else
   if(a.1==1) then
    gd (ix a.2.1 b.2.2.1.length/\((!(b.2.2.1.getD a.2.1.toNat (b7 y233)).2.2.2)=true/\True->(A9 a.2.2.2.1 1 3).isSome)/\True) <|
    some (!(b.2.2.1.getD a.2.1.toNat (b7 y233)).2.2.2&&vl (A9 a.2.2.2.1 1 3))
   else
    if(a.1==2) then
     LV b a (a.1==2)
    else
     LV b a (a.1==3)
def P0E:Ct:=j9 220 [.agg y64,.agg y67] (fun x=>He x.1 x.2.1) (fun r:Bool=>B r) (fun _=>())
theorem N0O:Ok prog P0E:=by
 refine k6 [.tmp 4] func220 ?_;intro y ⟨b,a,_⟩ r H Q hn hr;have:=hz (tc Ae (tc N0D (tc UA (tc N0F (tc N0E (tc N0G tn))))));refine iA [2,3]<|vQ<|iB [2,3,7] H fun H=>cD H (fun H=>qD (fun e=>Z [p 4 (B (a.2.2.2.1==0&&(a.2.2.2.2.2.length:Int)==0&&vl (P6 a.2.2.2.2.1 false)&&a.2.1==e&&decide (0<=a.2.1)&&vl (Du b a.2.2.1)&&a.2.2.1 != a.2.1))] [(3,K 67 y67 a),(2,K 64 y64 b)]) H fun e H=>j0<|fR<|hr H) fun H=>vK<|fQ<|vQ<|qD (fun c=>Z (G9 [p 70 (B (!vl (P6 a.2.2.2.2.1 true)||!vl (P6 a.2.2.2.2.2 true)||a.2.2.1 != c||!vl (Du b a.2.1)))]) [(3,K 67 y67 a),(2,K 64 y64 b)]) H fun c H=>cD H (fun H=>iA [4]<|j0<|fR<|hr H) fun H=>vK<|fQ<|vQ<|iA [2,3,72]<|vB<|iA [2,3,72,73]<|cD H (fun H=>iB [4] H fun H=>j0<|l9<|fR<|hr H) fun H=>jN r (fun(d:Bool)=>Z (G9 [p 88 (B d)]) [(3,K 67 y67 a),(2,K 64 y64 b)]) (LV b a) (fun d H=>?_) (fun _ f g h=>?_)
 ·refine cD H (fun H=>iB [4] H fun H=>j0<|l9<|fR<|hr H) fun H=>vK<|fK<|fQ<|iA [4]<|j0<|hr H
 refine iA [2,3,72,88]<|cD H (fun H=>vK<|f H) fun H=>jA [2,3,88]<|f H
def UH(a:A8)(b:A8):Option Bool :=
 some (a.1==b.1&&a.2.1==b.2.1&&a.2.2.1==b.2.2.1)
def P0D:Ct:=j9 222 [.agg y67,.dat (.pt y67)] (fun x=>UH x.1 x.2.1) (fun r:Bool=>B r) (fun _=>())
theorem UI:Ok prog P0D:=by
 refine k6 [.tmp 3] func222 ?_;intro y ⟨_,_,_⟩ r H Q hn hr;refine iA [1,2]<|iA [3]<|j0<|hr H
def j0E:Unit->Option Int
 | _ =>
 some (-1)
def r0H(b:List A8)(c:A8)(d:Int->Option Int):Int->Option Int
 | a =>
 if(decide (a < (b.length:Int))) then
  gd (ix a b.length/\(UH (b.getD a.toNat (b7 y67)) c).isSome/\True) <|
  if(vl (UH (b.getD a.toNat (b7 y67)) c)) then
   some a
  else
   gd (c9 (a+1)/\True) <|
   d (a+1)
 else
  j0E ()
def PM(a:List A8)(b:A8):Option Int :=
 lp (r0H a b) 0
def y0Z:Ct:=j9 238 [.dat y67.sl,.fn 222 y67.pt] (fun x=>PM x.1 x.2.1) (fun r:Int=>I r) (fun _=>())
theorem y0y:Ok prog y0Z:=by
 refine k6 [.tmp 4] func238 ?_;intro y ⟨a,d,_⟩ r H Q hn hr;have:=hz (tc UI tn);refine iA [0,1]<|jN r (fun(_:Unit)=>Z [] []) (j0E) (fun _ H=>?_) (fun _ c j g=>?_)
 ·refine iA [4]<|j0<|hr H
 refine iA [0,1,7,8]<|vB<|lX (fun(b:Int)=>Z [p 0 (L y67 a),p 1 (AV.fn 222 [D y67.pt d]),p 7 (I (a.length:Int)),p 8 (I b)] []) 0 H fun _ i f e h b H=>iA [0,1,7,8,9]<|vQ<|cD H (fun H=>?_) (fun H=>?_)
 ·refine vK<|fQ<|vQ<|vB<|iA [0,1,5,7,8]<|iB [0,1,5,7,8,16] H fun H=>cD H (fun H=>iA [4]<|j0<|l9<|fR<|h<|l9<|g<|hr H) fun H=>vK<|fK<|fQ<|jB [0,1,7,8] H fun H=>f H
 exact vE<|fE<|e<|fX rfl<|c H
def LW(a:List A8)(b:A8):Option Bool :=
 gd ((PM a b).isSome/\True)<|lt (vl (PM a b)) fun c =>
 some (decide (0<=c))
def z0b:Ct:=j9 221 [.dat y67.sl,.fn 222 (.pt y67)] (fun x=>LW x.1 x.2.1) (fun r:Bool=>B r) (fun _=>())
theorem y0z:Ok prog z0b:=by
 refine k6 [.tmp 4] func221 ?_;intro y ⟨_,_,_⟩ r H Q hn hr;have:=hz (tc q0p (tc y0y (tc UI tn)));refine iA [0,1]<|qD (fun a=>Z [p 4 (B (decide (0<=a)))] []) H fun a H=>j0<|hr H
def PN(a:m5):Unit->Option Bool
 | _ =>
 some (decide ((a.2.2.2.1.length:Int)<=8))
def A0s(a:m5)(d:Int->Option Bool):Int->Option Bool
 | b =>
 if(decide (b < (a.2.2.2.1.length:Int))) then
  gd (ix b a.2.2.2.1.length/\True)<|lt (a.2.2.2.1.getD b.toNat (b7 y67)) fun c =>
  gd ((He a c).isSome/\((!vl (He a c))=false/\True->(0:Int)<=(0:Int)/\(0:Int)<=b/\b<=(a.2.2.2.1.length:Int))/\((!vl (He a c))=false/\True->(LW (List.take b.toNat a.2.2.2.1) c).isSome)/\True) <|
  if(!vl (He a c)||vl (LW (List.take b.toNat a.2.2.2.1) c)) then
   some false
  else
   gd (c9 (b+1)/\True) <|
   d (b+1)
 else
  PN a ()
def Hf(a:m5):Option Bool :=
 lp (A0s a) 0
def P0R:Ct:=j9 202 [.agg y64] (fun x=>Hf x.1) (fun r:Bool=>B r) (fun _=>())
theorem N0Y:Ok prog P0R:=by
 refine k6 [.tmp 2] func202 ?_;intro y ⟨a,_⟩ r H Q hn hr;have:=hz (tc q0q (tc y0z (tc UI (tc N0O tn))));refine iA [1]<|jN r (fun(_:Unit)=>Z [p 1 (R 1)] [(1,K 64 y64 a)]) (PN a) (fun _ H=>?_) (fun _ d j g=>?_)
 ·refine iA [2]<|j0<|hr H
 refine iA [1,6,7,8]<|vB<|lX (fun(b:Int)=>Z [p 1 (R 1),p 6 (L y67 a.2.2.2.1),p 7 (I (a.2.2.2.1.length:Int)),p 8 (I b)] [(1,K 64 y64 a)]) 0 H fun _ i f e h b H=>iA [1,6,7,8,9]<|vQ<|cD H (fun H=>?_) (fun H=>?_)
 ·refine vK<|fQ<|vQ<|vB<|qD (fun c=>Z (O6 b [p 4 (R 4),p 6 (L y67 a.2.2.2.1),p 7 (I (a.2.2.2.1.length:Int)),p 8 (I b)]) [(4,K 67 y67 c),(1,K 64 y64 a)]) H fun c H=>iB [1,6,7,8,24] H fun H=>cD H (fun H=>iA [2]<|j0<|l9<|fR<|h<|l9<|g<|hr H) fun H=>vK<|fK<|fQ<|jB [1,6,7,8] H fun H=>f H
 exact vE<|fE<|e<|fX rfl<|d H
def LX(a:List I3):List ByteArray->Option Bool
 | b =>
 gd ((CC a).isSome/\(A9 (vl (CC a)) 2 5).isSome/\(vl (A9 (vl (CC a)) 2 5)=true/\True->(Y3 b).isSome)/\True) <|
 some (vl (A9 (vl (CC a)) 2 5)&&vl (Y3 b))
def PO(a:Int)(b:List ByteArray×Int->Option Bool):List ByteArray->Option Bool
 | c =>
 gd (c9 (a+1)/\True) <|
 b (c,a+1)
def A0t(b:List I3)(e:List ByteArray×Int->Option Bool):List ByteArray×Int->Option Bool
 | (d,c) =>
 if(decide (c < (b.length:Int))) then
  gd (ix c b.length/\True)<|lt (b.getD c.toNat (b7 y233)) fun a =>
  gd ((d.length+[a.1].length<=9223372036854775807/\(d.length+[a.1].length)*16<=140737488355328)/\True) <|
  gd (c9 ((b.length:Int)-1)/\True) <|
  if(c==(b.length:Int)-1) then
   if(a.2.1 != 2||a.2.2.1 != 0||a.2.2.2) then
    some false
   else
    PO c e (d++[a.1])
  else
   gd (((a.2.1 != 1)=false/\True->(A9 a.2.2.1 0 500).isSome)/\True) <|
   if(a.2.1 != 1||!vl (A9 a.2.2.1 0 500)) then
    some false
   else
    PO c e (d++[a.1])
 else
  LX b d
def FC(a:List I3):Option Bool :=
 lp (A0t a) ([],0)
def P0S:Ct:=j9 201 [.dat y233.sl] (fun x=>FC x.1) (fun r:Bool=>B r) (fun _=>())
theorem N0Z:Ok prog P0S:=by
 refine k6 [.tmp 2] func201 ?_;intro y ⟨a,_⟩ r H Q hn hr;have:=hz (tc Ux (tc Ae (tc L0U tn)));refine iA [0]<|iA [0,3]<|jN r (fun(e:List ByteArray)=>Z [p 0 (L y233 a),p 3 (O 17)] [(17,A 9 Ty.str e 0)]) (LX a) (fun e H=>?_) (fun _ l q i=>?_)
 ·refine iB [2] H fun H=>j0<|hr H
 refine iA [0,3,6,7,8]<|vB<|lX (fun((c,b):List ByteArray×Int)=>Z [p 0 (L y233 a),p 3 (O 17),p 6 (L y233 a),p 7 (I (a.length:Int)),p 8 (I b)] [(17,A 9 Ty.str c 0)]) ([],0) H fun _ k n m j ⟨c,b⟩ H=>iA [0,3,6,7,8,9]<|vQ<|cD H (fun H=>?_) (fun H=>?_)
 ·refine vK<|fQ<|jN r (fun(d:List ByteArray)=>Z [p 0 (L y233 a),p 3 (O 17),p 6 (L y233 a),p 7 (I (a.length:Int)),p 8 (I b)] [(17,A 9 Ty.str d 0)]) (PO b k) (fun d H=>?_) (fun _ f o h=>?_)
  ·refine jB [0,3,6,7,8] H fun H=>n H
  refine vB<|qD (fun g=>Z [p 0 (L y233 a),p 3 (O 17),p 4 (I b),p 5 (R 5),p 6 (L y233 a),p 7 (I (a.length:Int)),p 8 (I b)] [(5,K 233 y233 g),(17,A 9 Ty.str c 0)]) H fun g H=>iB [0,3,4,5,6,7,8] H fun H=>iB [0,3,5,6,7,8,22] H fun H=>cD H (fun H=>?_) (fun H=>?_)
  ·refine iA [0,3,6,7,8,34]<|cD H (fun H=>iA [2]<|j0<|l9<|h<|j<|l9<|i<|hr H) fun H=>vK<|fK<|f H
  refine iB [0,3,6,7,8,43] H fun H=>cD H (fun H=>iA [2]<|j0<|l9<|h<|j<|l9<|i<|hr H) fun H=>vK<|fK<|f H
 exact vE<|fE<|m<|fX rfl<|l H
def LY(a:m5):Option Bool :=
 gd ((R9 a.1).isSome/\(vl (R9 a.1)=true/\True->(FC a.2.2.1).isSome)/\((vl (R9 a.1)&&vl (FC a.2.2.1))=true/\True->(Hf a).isSome)/\((vl (R9 a.1)&&vl (FC a.2.2.1)&&vl (Hf a))=true/\True->(A9 a.2.2.2.2.2.1 0 100000).isSome)/\((vl (R9 a.1)&&vl (FC a.2.2.1)&&vl (Hf a)&&vl (A9 a.2.2.2.2.2.1 0 100000))=true/\True->(A9 a.2.2.2.2.2.2 0 100000).isSome)/\((vl (R9 a.1)&&vl (FC a.2.2.1)&&vl (Hf a)&&vl (A9 a.2.2.2.2.2.1 0 100000)&&vl (A9 a.2.2.2.2.2.2 0 100000))=true/\True->(PH a).isSome)/\True) <|
 some (vl (R9 a.1)&&vl (FC a.2.2.1)&&vl (Hf a)&&vl (A9 a.2.2.2.2.2.1 0 100000)&&vl (A9 a.2.2.2.2.2.2 0 100000)&&vl (PH a))
def Q0j:Ct:=j9 174 [.agg y64] (fun x=>LY x.1) (fun r:Bool=>B r) (fun _=>())
theorem O0k:Ok prog Q0j:=by
 refine k6 [.tmp 2] func174 ?_;intro y ⟨_,_⟩ r H Q hn hr;have:=hz (tc N0X (tc Ae (tc N0Y (tc N0Z (tc Uw tn)))));refine iA [1]<|iB [2] H fun H=>j0<|hr H
def LZ(b:List m5):List ByteArray->Option Bool
 | a =>
 gd ((decide ((b.length:Int)<=8)=true/\True->(Y3 a).isSome)/\True) <|
 some (decide ((b.length:Int)<=8)&&vl (Y3 a))
def B0f(d:List m5)(e:List ByteArray×Int->Option Bool):List ByteArray×Int->Option Bool
 | (c,b) =>
 if(decide (b < (d.length:Int))) then
  gd (ix b d.length/\True)<|lt (d.getD b.toNat (b7 y64)) fun a =>
  gd ((LY a).isSome/\True) <|
  if(!vl (LY a)) then
   some false
  else
   gd ((c.length+[a.1].length<=9223372036854775807/\(c.length+[a.1].length)*16<=140737488355328)/\True) <|
   gd (c9 (b+1)/\True) <|
   e (c++[a.1],b+1)
 else
  LZ d c
def Ma(a:List m5):Option Bool :=
 lp (B0f a) ([],0)
def Q0S:Ct:=j9 133 [.agg y64.sl] (fun x=>Ma x.1) (fun r:Bool=>B r) (fun _=>())
theorem O0K:Ok prog Q0S:=by
 refine k6 [.tmp 2] func133 ?_;intro y ⟨a,_⟩ r H Q hn hr;have:=hz (tc Ux (tc O0k tn));refine iA [1]<|iA [1,3]<|jN r (fun(e:List ByteArray)=>Z (Dn []) [(1,bx 26 [L y64 a]),(20,A 9 Ty.str e 0)]) (LZ a) (fun e H=>?_) (fun _ f l i=>?_)
 ·refine iB [2] H fun H=>j0<|hr H
 refine iA [1,3,7,8,9]<|vB<|lX (fun((b,c):List ByteArray×Int)=>Z (Dn [p 7 (L y64 a),p 8 (I (a.length:Int)),p 9 (I c)]) [(1,bx 26 [L y64 a]),(20,A 9 Ty.str b 0)]) ([],0) H fun _ k h g j ⟨b,c⟩ H=>iA [1,3,7,8,9,10]<|vQ<|cD H (fun H=>?_) (fun H=>?_)
 ·refine vK<|fQ<|vQ<|vB<|qD (fun d=>Z (Dn [p 5 (R 5),p 7 (L y64 a),p 8 (I (a.length:Int)),p 9 (I c)]) [(5,K 64 y64 d),(1,bx 26 [L y64 a]),(20,A 9 Ty.str b 0)]) H fun d H=>vQ<|iB [1,3,5,7,8,9,15] H fun H=>cD H (fun H=>iA [2]<|j0<|fR<|l9<|fR<|j<|l9<|i<|hr H) fun H=>vK<|fQ<|jB [1,3,7,8,9] H fun H=>fK<|fQ<|jB [1,3,7,8,9] H fun H=>h H
 exact vE<|fE<|g<|fX rfl<|f H
def j0N:Unit->Option Int
 | _ =>
 some (-1)
def r0L(b:List Int)(c:Int->Option Int):Int->Option Int
 | a =>
 if(decide (a < (b.length:Int))) then
  gd (ix a b.length/\(Ut (b.getD a.toNat 0)).isSome/\True) <|
  if(vl (Ut (b.getD a.toNat 0))) then
   some a
  else
   gd (c9 (a+1)/\True) <|
   c (a+1)
 else
  j0N ()
def PQ(a:List Int):Option Int :=
 lp (r0L a) 0
def z0e:Ct:=j9 179 [.dat i64.sl,.nof 138] (fun x=>PQ x.1) (fun r:Int=>I r) (fun _=>())
theorem y0B:Ok prog z0e:=by
 refine k6 [.tmp 4] func179 ?_;intro y ⟨a,_,_⟩ r H Q hn hr;have:=hz (tc Uu tn);refine iA [0,1]<|jN r (fun(_:Unit)=>Z [] []) (j0N) (fun _ H=>?_) (fun _ c i f=>?_)
 ·refine iA [4]<|j0<|hr H
 refine iA [0,1,7,8]<|vB<|lX (fun(b:Int)=>Z [p 0 (L i64 a),p 1 (AV.fn 138 []),p 7 (I (a.length:Int)),p 8 (I b)] []) 0 H fun _ h e d g b H=>iA [0,1,7,8,9]<|vQ<|cD H (fun H=>?_) (fun H=>?_)
 ·refine vK<|fQ<|vQ<|vB<|iA [0,1,5,7,8]<|iB [0,1,5,7,8,16] H fun H=>cD H (fun H=>iA [4]<|j0<|l9<|fR<|g<|l9<|f<|hr H) fun H=>vK<|fK<|fQ<|jB [0,1,7,8] H fun H=>e H
 exact vE<|fE<|d<|fX rfl<|c H
def PR(a:List Int):Option Bool :=
 gd ((PQ a).isSome/\True)<|lt (vl (PQ a)) fun b =>
 some (decide (0<=b))
def z0i:Ct:=j9 137 [.dat i64.sl,.nof 138] (fun x=>PR x.1) (fun r:Bool=>B r) (fun _=>())
theorem y0E:Ok prog z0i:=by
 refine k6 [.tmp 4] func137 ?_;intro y ⟨_,_,_⟩ r H Q hn hr;have:=hz (tc y0B (tc Uu tn));refine iA [0,1]<|qD (fun a=>Z [p 4 (B (decide (0<=a)))] []) H fun a H=>j0<|hr H
def Mb:List Int->Option Bool
 | a =>
 gd ((PR a).isSome/\True) <|
 some (!vl (PR a))
def PS(b:Int)(c:Int×List Int->Option Bool):List Int->Option Bool
 | a =>
 gd (c9 (b+1)/\True) <|
 c (b+1,a)
def F0M(d:r8)(e:Int×List Int->Option Bool):Int×List Int->Option Bool
 | (c,b) =>
 if(decide (c < (d.2.2.length:Int))) then
  gd (ix c d.2.2.length/\True)<|lt (d.2.2.getD c.toNat (b7 y202)) fun a =>
  gd (((a.2.1 != 1&&a.2.1 != 2)=false/\True->(Hc d a.2.2).isSome)/\True) <|
  if(a.2.1 != 1&&a.2.1 != 2||!vl (Hc d a.2.2)) then
   some false
  else
   if(a.2.1==1) then
    gd (ix a.2.2 b.length/\a.2.2.toNat<b.length/\c9 (b.getD a.2.2.toNat 0+1)/\ix a.2.2 b.length/\a.2.2.toNat<b.length/\True) <|
    PS c e (b.set a.2.2.toNat (b.getD a.2.2.toNat 0+1))
   else
    PS c e b
 else
  Mb b
def PT(a:r8):List Int->Option Bool
 | b =>
 lp (F0M a) (0,b)
def F0N(c:r8)(e:List m5)(f:Int×List Int->Option Bool):Int×List Int->Option Bool
 | (d,b) =>
 if(decide (d < (c.1.length:Int))) then
  gd (ix d c.1.length/\True)<|lt (c.1.getD d.toNat (b7 y139)) fun a =>
  gd ((LQ c e a).isSome/\True) <|
  if(!vl (LQ c e a)) then
   some false
  else
   gd (c9 ((a.2.2.length:Int)-1)/\ix ((a.2.2.length:Int)-1) a.2.2.length/\ix (a.2.2.getD ((a.2.2.length:Int)-1).toNat 0) b.length/\Int.toNat (a.2.2.getD ((a.2.2.length:Int)-1).toNat 0)<b.length/\c9 (b.getD (Int.toNat (a.2.2.getD ((a.2.2.length:Int)-1).toNat 0)) 0+1)/\ix (a.2.2.getD ((a.2.2.length:Int)-1).toNat 0) b.length/\Int.toNat (a.2.2.getD ((a.2.2.length:Int)-1).toNat 0)<b.length/\True)<|lt (b.set (Int.toNat (a.2.2.getD ((a.2.2.length:Int)-1).toNat 0)) (b.getD (Int.toNat (a.2.2.getD ((a.2.2.length:Int)-1).toNat 0)) 0+1)) fun g =>
   gd (c9 (d+1)/\True) <|
   f (d+1,g)
 else
  PT c b
def Mc(b:List m5)(a:r8):Option Bool :=
 gd ((Ma b).isSome/\((!vl (Ma b))=false/\True->(PD a).isSome)/\True) <|
 if(!vl (Ma b)||!vl (PD a)) then
  some false
 else
  gd ((0<=(a.2.1.length:Int)/\(a.2.1.length:Int)=(a.2.1.length:Int)/\(a.2.1.length:Int).toNat*8<=281474976710656/\(a.2.1.length:Int)<=9223372036854775807)/\True) <|
  lp (F0N a b) ((0,List.replicate (a.2.1.length:Int).toNat 0))
def k82:Ct:=j9 82 [.agg y64.sl,.agg y31] (fun x=>Mc x.1 x.2.1) (fun r:Bool=>B r) (fun _=>())
theorem o82:Ok prog k82:=by
 refine k6 [.tmp 4] func82 ?_;intro y ⟨j,a,_⟩ r H Q hn hr;have:=hz (tc Uu (tc y0E (tc M0f (tc O0I (tc O0J (tc O0K tn))))));refine iA [2,3]<|vQ<|iB [2,3,17] H fun H=>cD H (fun H=>iA [4]<|j0<|fR<|hr H) fun H=>vK<|fQ<|iB [2,3,5] H fun H=>jN r (fun(k:List Int)=>Z [p 3 (R 3),p 5 (O 21)] [(21,A 3 i64 k 0),(3,K 31 y31 a)]) (PT a) (fun k H=>?_) (fun _ w G q=>?_)
 ·refine jN r (fun(f:List Int)=>Z [p 5 (O 21)] [(21,A 3 i64 f 0)]) (Mb) (fun f H=>?_) (fun _ x V s=>?_)
  ·refine iB [4] H fun H=>j0<|hr H
  refine iA [3,5,49,50,51]<|vB<|lX (fun((e,b):Int×List Int)=>Z [p 3 (R 3),p 5 (O 21),p 49 (L y202 a.2.2),p 50 (I (a.2.2.length:Int)),p 51 (I e)] [(21,A 3 i64 b 0),(3,K 31 y31 a)]) (0,k) H fun _ n v u z ⟨e,b⟩ H=>iA [3,5,49,50,51,52]<|vQ<|cD H (fun H=>?_) (fun H=>?_)
  ·refine vK<|fQ<|jN r (fun(d:List Int)=>Z [p 3 (R 3),p 5 (O 21),p 49 (L y202 a.2.2),p 50 (I (a.2.2.length:Int)),p 51 (I e)] [(21,A 3 i64 d 0),(3,K 31 y31 a)]) (PS e n) (fun d H=>?_) (fun _ m P o=>?_)
   ·refine jB [3,5,49,50,51] H fun H=>v H
   refine vB<|qD (fun c=>Z [p 3 (R 3),p 5 (O 21),p 9 (R 9),p 49 (L y202 a.2.2),p 50 (I (a.2.2.length:Int)),p 51 (I e)] [(9,K 202 y202 c),(21,A 3 i64 b 0),(3,K 31 y31 a)]) H fun c H=>vQ<|iB [3,5,9,49,50,51,69] H fun H=>cD H (fun H=>iA [4]<|j0<|fR<|l9<|o<|z<|l9<|s<|hr H) fun H=>vK<|fQ<|iA [3,5,9,49,50,51,72]<|cD H (fun H=>jB [3,5,49,50,51] H fun H=>fK<|m H) fun H=>vK<|fK<|m H
  exact vE<|fE<|u<|fX rfl<|x H
 refine iA [2,3,5,23,24,25]<|vB<|lX (fun((g,h):Int×List Int)=>Z (G9 [p 5 (O 21),p 23 (L y139 a.1),p 24 (I (a.1.length:Int)),p 25 (I g)]) ((21,A 3 i64 h 0)::GL a j)) ((0,List.replicate (a.2.1.length:Int).toNat 0)) H fun _ T F E t ⟨g,h⟩ H=>iA [2,3,5,23,24,25,26]<|vQ<|cD H (fun H=>?_) (fun H=>?_)
 ·refine vK<|fQ<|vQ<|vB<|qD (fun i=>Z (G9 [p 5 (O 21),p 7 (R 7),p 23 (L y139 a.1),p 24 (I (a.1.length:Int)),p 25 (I g)]) ((7,K 139 y139 i)::(21,A 3 i64 h 0)::GL a j)) H fun i H=>vQ<|iB [2,3,5,7,23,24,25,33] H fun H=>cD H (fun H=>iA [4]<|j0<|fR<|l9<|fR<|t<|l9<|q<|hr H) fun H=>vK<|fQ<|zD (fun l=>Z (G9 [p 5 (O 21),p 23 (L y139 a.1),p 24 (I (a.1.length:Int)),p 25 (I g)]) ((21,A 3 i64 l 0)::(7,K 139 y139 i)::GL a j)) H fun l H=>fK<|fQ<|jB [2,3,5,23,24,25] H fun H=>F H
 exact vE<|fE<|E<|fX rfl<|w H
def G0C:Unit->Option Bool
 | _ =>
 some true
def G0A(c:List Int)(d:j7)(e:Int->Option Bool):Int->Option Bool
 | a =>
 if(decide (a < (d.2.2.length:Int))) then
  gd (ix a d.2.2.length/\True)<|lt (d.2.2.getD a.toNat (b7 l7)) fun b =>
  gd (ix a c.length/\a.toNat<c.length/\(LO b (c.getD a.toNat 0)).isSome/\True) <|
  if(!vl (LO b (c.getD a.toNat 0))) then
   some false
  else
   gd (c9 (a+1)/\True) <|
   e (a+1)
 else
  G0C ()
def PU(a:j7):List Int->Option Bool
 | b =>
 lp (G0A b a) 0
def PV(a:Int)(c:Int×List Int->Option Bool):List Int->Option Bool
 | b =>
 gd (c9 (a+1)/\True) <|
 c (a+1,b)
def G0B(d:List B9)(f:j7)(e:Int×List Int->Option Bool):Int×List Int->Option Bool
 | (c,a) =>
 if(decide (c < (d.length:Int))) then
  gd (ix c d.length/\c.toNat<d.length/\True)<|lt (d.getD c.toNat (b7 y151)) fun b =>
  if(!b.2.2.2) then
   gd (ix b.2.2.1 a.length/\b.2.2.1.toNat<a.length/\c9 (a.getD b.2.2.1.toNat 0+1)/\ix b.2.2.1 a.length/\b.2.2.1.toNat<a.length/\True)<|lt (a.set b.2.2.1.toNat (a.getD b.2.2.1.toNat 0+1)) fun g =>
   PV c e g
  else
   PV c e a
 else
  PU f a
def AF(a:j7):Option Bool :=
 gd ((Mc a.1 a.2.1).isSome/\True) <|
 if(!vl (Mc a.1 a.2.1)||(a.2.2.length:Int) != (a.2.1.2.1.length:Int)) then
  some false
 else
  gd ((0<=(a.2.2.length:Int)/\(a.2.2.length:Int)=(a.2.2.length:Int)/\(a.2.2.length:Int).toNat*8<=281474976710656/\(a.2.2.length:Int)<=9223372036854775807)/\True) <|
  gd ((BO a.2.1).isSome/\True)<|lt (vl (BO a.2.1)) fun b =>
  lp (G0B b a) ((0,List.replicate (a.2.2.length:Int).toNat 0))
def k36:Ct:=j9 36 [.agg k8] (fun x=>AF x.1) (fun r:Bool=>B r) (fun _=>())
theorem UJ:Ok prog k36:=by
 refine k6 [.tmp 2] func36 ?_;intro y ⟨a,_⟩ r H Q hn hr;have:=hz (tc o84 (tc Pr (tc o82 tn)));refine iA [1]<|vQ<|iB [1,23] H fun H=>cD H (fun H=>iA [2]<|j0<|fR<|hr H) fun H=>vK<|fQ<|iB [1,3] H fun H=>jN r (fun(f:List Int)=>Z [p 1 (R 1),p 3 (O 27)] [(27,A 2 i64 f 0),(1,K 34 k8 a)]) (PU a) (fun f H=>?_) (fun _ q v w=>?_)
 ·refine jN r (fun(_:Unit)=>Z [] []) (G0C) (fun _ H=>?_) (fun _ n3 F s=>?_)
  ·refine iA [2]<|j0<|hr H
  refine iA [3,48,49,50]<|vB<|lX (fun(c:Int)=>Z [p 3 (O 27),p 48 (L l7 a.2.2),p 49 (I (a.2.2.length:Int)),p 50 (I c)] [(27,A 2 i64 f 0)]) 0 H fun _ G n m l c H=>iA [3,48,49,50,51]<|vQ<|cD H (fun H=>?_) (fun H=>?_)
  ·refine vK<|fQ<|vQ<|vB<|qD (fun e=>Z [p 3 (O 27),p 6 (I c),p 7 (R 7),p 48 (L l7 a.2.2),p 49 (I (a.2.2.length:Int)),p 50 (I c)] [(7,K 153 l7 e),(27,A 2 i64 f 0)]) H fun e H=>iB [3,48,49,50,61] H fun H=>cD H (fun H=>iA [2]<|j0<|l9<|fR<|l<|l9<|s<|hr H) fun H=>vK<|fK<|fQ<|jB [3,48,49,50] H fun H=>n H
  exact vE<|fE<|m<|fX rfl<|n3 H
 refine qD (fun b=>Z [p 1 (R 1),p 3 (O 27),p 30 (O 30),p 31 (I (b.length:Int)),p 32 (I 0)] [(30,A 151 y151 b 0),(27,A 2 i64 (List.replicate (a.2.2.length:Int).toNat 0) 0),(1,K 34 k8 a)]) H fun b H=>vB<|lX (fun((d,g):Int×List Int)=>Z [p 1 (R 1),p 3 (O 27),p 30 (O 30),p 31 (I (b.length:Int)),p 32 (I d)] [(30,A 151 y151 b 0),(27,A 2 i64 g 0),(1,K 34 k8 a)]) ((0,List.replicate (a.2.2.length:Int).toNat 0)) H fun _ o u t z ⟨d,g⟩ H=>iA [1,3,30,31,32,33]<|vQ<|cD H (fun H=>?_) (fun H=>?_)
 ·refine vK<|fQ<|jN r (fun(k:List Int)=>Z [p 1 (R 1),p 3 (O 27),p 30 (O 30),p 31 (I (b.length:Int)),p 32 (I d)] [(27,A 2 i64 k 0),(30,A 151 y151 b 0),(1,K 34 k8 a)]) (PV d o) (fun k H=>?_) (fun _ j E x=>?_)
  ·refine jB [1,3,30,31,32] H fun H=>u H
  refine vB<|qD (fun h=>Z [p 1 (R 1),p 3 (O 27),p 5 (R 5),p 30 (O 30),p 31 (I (b.length:Int)),p 32 (I d)] [(5,bx 151 (o8 true y151 h)),(30,A 151 y151 b 0),(27,A 2 i64 g 0),(1,K 34 k8 a)]) H fun h H=>iA [1,3,5,30,31,32,38]<|cD H (fun H=>zD (fun i=>Z [p 1 (R 1),p 3 (O 27),p 30 (O 30),p 31 (I (b.length:Int)),p 32 (I d)] [(27,A 2 i64 i 0),(5,bx 151 (o8 true y151 h)),(30,A 151 y151 b 0),(1,K 34 k8 a)]) H fun i H=>fK<|j H) fun H=>vK<|fK<|j H
 exact vE<|fE<|t<|fX rfl<|q H
def Md(a:j7)(b:B3):Option Bool :=
 gd ((AF a).isSome/\(vl (AF a)=true/\True->(CA a).isSome)/\(vl (AF a)=true/\True->(GZ (vl (CA a)) b).isSome)/\True) <|
 some (vl (AF a)&&vl (GZ (vl (CA a)) b))
def k12:Ct:=j9 12 [.agg k8,.agg y44] (fun x=>Md x.1 x.2.1) (fun r:Bool=>B r) (fun _=>())
theorem o12:Ok prog k12:=by
 refine k6 [.tmp 4] func12 ?_;intro y ⟨_,_,_⟩ r H Q hn hr;have:=hz (tc Uc (tc Uq (tc UJ tn)));refine iA [2,3]<|iB [4] H fun H=>j0<|hr H
def Me(a:j7):Option Int :=
 gd ((U7 a).isSome/\True) <|
 if(!vl (U7 a)) then
  some (-1)
 else
  gd ((U5 a).isSome/\True)<|lt (vl (U5 a)) fun b =>
  some b
def k13:Ct:=j9 13 [.agg k8] (fun x=>Me x.1) (fun r:Int=>I r) (fun _=>())
theorem o13:Ok prog k13:=by
 refine k6 [.tmp 2] func13 ?_;intro y ⟨b,_⟩ r H Q hn hr;have:=hz (tc Lc (tc Ja tn));refine iA [1]<|vQ<|iB [1,5] H fun H=>cD H (fun H=>iA [2]<|j0<|fR<|hr H) fun H=>vK<|fQ<|qD (fun a=>Z [p 2 (I a)] [(1,K 34 k8 b)]) H fun a H=>j0<|hr H
def BQ(b:Int)(a:Int)(c:Int):Option Int :=
 gd (0<a/\0<a/\True) <|
 if(c==0&&decide (b.tmod a<0)) then
  gd (c9 (b.tdiv a-1)/\True) <|
  some (b.tdiv a-1)
 else
  if(c==1&&decide (0<b.tmod a)) then
   gd (c9 (b.tdiv a+1)/\True) <|
   some (b.tdiv a+1)
  else
   some (b.tdiv a)
def Q0w:Ct:=j9 160 [.dat i64,.dat i64,.dat i64] (fun x=>BQ x.1 x.2.1 x.2.2.1) (fun r:Int=>I r) (fun _=>())
theorem PW:Ok prog Q0w:=by
 refine k6 [.tmp 6] func160 ?_;intro y ⟨_,_,_,_⟩ r H Q hn hr;refine iA [0,1,2]<|iB [2,7,8] H fun H=>vQ<|vB<|iA [2,7,8,15]<|cD H (fun H=>iB [6] H fun H=>j0<|l9<|fR<|hr H) fun H=>iA [7,24]<|cD H (fun H=>iB [6] H fun H=>j0<|l9<|fR<|hr H) fun H=>vK<|fK<|fQ<|iA [6]<|j0<|hr H
def A0w:Int->Option Int
 | a =>
 some a
def UK(d:Int)(c:Int×Int->Option Int):Int×Int->Option Int
 | (a,b) =>
 if(decide (a<b)) then
  gd (c9 (a+b)/\c9 (a+b+(1:Int))/\(0:Int) < (2:Int)/\True) <|
  gd (c9 ((a+b+1).tdiv 2*(a+b+1).tdiv 2)/\True) <|
  if(decide ((a+b+1).tdiv 2*(a+b+1).tdiv 2<=d)) then
   c (((a+b+1).tdiv 2,b))
  else
   gd (c9 ((a+b+1).tdiv 2-1)/\True) <|
   c ((a,(a+b+1).tdiv 2-1))
 else
  A0w a
def Mf(a:Int):Option Int :=
 lp (UK a) (0,3000000000)
def P0V:Ct:=j9 197 [.dat i64] (fun x=>Mf x.1) (fun r:Int=>I r) (fun _=>())
theorem O0c:Ok prog P0V:=by
 refine k6 [.tmp 2] func197 ?_;intro y ⟨e,_⟩ r H Q hn hr;refine iA [0]<|iA [0,3,4]<|jN r (fun(b:Int)=>Z [p 3 (I b)] []) (A0w) (fun b H=>?_) (fun _ f i j=>?_)
 ·refine iA [2]<|j0<|hr H
 refine vB<|lX (fun((c,a):Int×Int)=>Z [p 0 (J e),p 3 (I c),p 4 (I a)] []) (0,3000000000) H fun _ h d g k ⟨c,a⟩ H=>vQ<|iA [0,3,4,8]<|cD H (fun H=>?_) (fun H=>?_)
 ·refine vK<|fQ<|vB<|iB [0,3,4,5] H fun H=>iB [0,3,4,5,18] H fun H=>cD H (fun H=>jA [0,3,4]<|fK<|d H) fun H=>jB [0,3,4] H fun H=>fK<|d H
 exact vE<|fE<|g<|fX rfl<|f H
def W7(a:Int)(b:Int)(d:Int):Option Int :=
 gd (c9 (500*a)/\c9 (500*a*500)/\c9 (500*a*500*a)/\c9 (b*b)/\c9 (500*a*500*a+b*b)/\True) <|
 gd ((Mf (500*a*500*a+b*b)).isSome/\True)<|lt (vl (Mf (500*a*500*a+b*b))) fun c =>
 gd (((d==1)=true/\True->c9 (c*c))/\True) <|
 if(d==1&&decide (c*c<500*a*500*a+b*b)) then
  gd ((0:Int) < (500:Int)/\c9 (c.tdiv (500:Int)+(1:Int))/\True) <|
  some (c.tdiv 500+1)
 else
  gd ((BQ c 500 d).isSome/\True)<|lt (vl (BQ c 500 d)) fun e =>
  some e
def Q0t:Ct:=j9 163 [.dat i64,.dat i64,.dat i64] (fun x=>W7 x.1 x.2.1 x.2.2.1) (fun r:Int=>I r) (fun _=>())
theorem O0q:Ok prog Q0t:=by
 refine k6 [.tmp 6] func163 ?_;intro y ⟨b,d,e,_⟩ r H Q hn hr;have:=hz (tc PW (tc O0c tn));refine iA [0,1,2]<|iB [2,7] H fun H=>qD (fun c=>Z [p 2 (J e),p 7 (I (500*b*500*b+d*d)),p 8 (I c)] []) H fun c H=>vQ<|iB [2,8,28] H fun H=>cD H (fun H=>iB [6] H fun H=>j0<|fR<|hr H) fun H=>vK<|fQ<|qD (fun a=>Z [p 6 (I a)] []) H fun a H=>j0<|hr H
def Hg(a:Int):Option Bool :=
 some (a != a)
def P0w:Ct:=j9 232 [.dat i64] (fun x=>Hg x.1) (fun r:Bool=>B r) (fun _=>())
theorem N0I:Ok prog P0w:=by
 refine k6 [.tmp 2] func232 ?_;intro y ⟨_,_⟩ r H Q hn hr;refine iA [0]<|iA [2]<|j0<|hr H
def Hh(a:Int):Option Bool :=
 some (a != a)
def P0o:Ct:=j9 244 [.dat i64] (fun x=>Hh x.1) (fun r:Bool=>B r) (fun _=>())
theorem N0B:Ok prog P0o:=by
 refine k6 [.tmp 2] func244 ?_;intro y ⟨_,_⟩ r H Q hn hr;refine iA [0]<|iA [2]<|j0<|hr H
def Mg(a:Int)(b:Int):Option Bool :=
 gd ((Hh a).isSome/\(vl (Hh a)=true/\True->(Hh b).isSome)/\True) <|
 some (vl (Hh a)&&!vl (Hh b)||decide (a<b))
def P0x:Ct:=j9 231 [.dat i64,.dat i64] (fun x=>Mg x.1 x.2.1) (fun r:Bool=>B r) (fun _=>())
theorem N0J:Ok prog P0x:=by
 refine k6 [.tmp 4] func231 ?_;intro y ⟨_,_,_⟩ r H Q hn hr;have:=hz (tc N0B tn);refine iA [0,1]<|iB [4] H fun H=>j0<|hr H
def UL(b:List Int)(c:Int):Int->Option (Int×Bool)
 | a =>
 gd ((decide (a < (b.length:Int))=true/\True->ix a b.length)/\((b.getD a.toNat 0==c)=false/\decide (a < (b.length:Int))=true/\True->ix a b.length)/\((b.getD a.toNat 0==c)=false/\decide (a < (b.length:Int))=true/\True->(Hg (b.getD a.toNat 0)).isSome)/\(vl (Hg (b.getD a.toNat 0))=true/\(b.getD a.toNat 0==c)=false/\decide (a < (b.length:Int))=true/\True->(Hg c).isSome)/\True) <|
 some ((a,decide (a < (b.length:Int))&&(b.getD a.toNat 0==c||vl (Hg (b.getD a.toNat 0))&&vl (Hg c))))
def Mh(c:List Int)(d:Int)(e:Int×Int->Option (Int×Bool)):Int×Int->Option (Int×Bool)
 | (a,b) =>
 if(decide (a<b)) then
  gd (c9 (a+b)/\((0:Int)<=a+b/\a+b<=(18446744073709551615:Int))/\(((0:Int)<=(1:Int)/\(1:Int)<=(62:Int))/\(0:Int)<=(a+b).fdiv ((2:Int) ^ Int.toNat (1:Int))/\(a+b).fdiv ((2:Int) ^ Int.toNat (1:Int))<=(18446744073709551615:Int))/\c9 ((a+b).fdiv ((2:Int) ^ Int.toNat (1:Int)))/\True) <|
  gd (ix ((a+b).fdiv ((2:Int) ^ Int.toNat (1:Int))) c.length/\(Mg (c.getD ((a+b).fdiv ((2:Int) ^ Int.toNat (1:Int))).toNat (0:Int)) d).isSome/\True) <|
  if(vl (Mg (c.getD ((a+b).fdiv ((2:Int) ^ Int.toNat (1:Int))).toNat (0:Int)) d)) then
   gd (c9 ((a+b).fdiv ((2:Int) ^ Int.toNat (1:Int))+(1:Int))/\True) <|
   e (((a+b).fdiv ((2:Int) ^ Int.toNat (1:Int))+(1:Int),b))
  else
   e ((a,(a+b).fdiv ((2:Int) ^ Int.toNat (1:Int))))
 else
  UL c d a
def Mi(a:List Int)(b:Int):Option (Int×Bool) :=
 lp (Mh a b) ((0,(a.length:Int)))
def P0H:Ct:=j9 217 [.dat i64.sl,.dat i64] (fun x=>Mi x.1 x.2.1) (fun r:Int×Bool=>AV.tup [I r.1,B r.2]) (fun _=>())
theorem N0Q:Ok prog P0H:=by
 refine k6 [.tmp 4,.tmp 5] func217 ?_;intro y ⟨a,b,_⟩ r H Q hn hr;have:=hz (tc N0I (tc N0J tn));refine iA [0,1]<|iA [0,1,6]<|iA [0,1,6,7,8]<|jN r (fun(d:Int)=>Z [p 0 (L i64 a),p 1 (J b),p 6 (I (a.length:Int)),p 7 (I d)] []) (UL a b) (fun d H=>?_) (fun _ g j k=>?_)
 ·refine iB [4,5] H fun H=>j0<|hr H
 refine vB<|lX (fun((c,e):Int×Int)=>Z [p 0 (L i64 a),p 1 (J b),p 6 (I (a.length:Int)),p 7 (I c),p 8 (I e)] []) ((0,(a.length:Int))) H fun _ i f h l ⟨c,e⟩ H=>vQ<|iA [0,1,6,7,8,15]<|cD H (fun H=>?_) (fun H=>?_)
 ·refine vK<|fQ<|vB<|iB [0,1,6,7,8,9] H fun H=>iB [0,1,6,7,8,9,27] H fun H=>cD H (fun H=>jB [0,1,6,7,8] H fun H=>fK<|f H) fun H=>jA [0,1,6,7,8]<|fK<|f H
 exact vE<|fE<|h<|fX rfl<|g H
def O9(a:List Int)(e:Int):Option (List BR×Int) :=
 gd (ix 0 a.length/\c9 ((a.length:Int)-1)/\ix ((a.length:Int)-1) a.length/\True)<|lt (min (max e (a.getD (Int.toNat (0:Int)) (0:Int))) (a.getD ((a.length:Int)-(1:Int)).toNat (0:Int))) fun c =>
 gd ((Mi a c).isSome/\True)<|lt (vl (Mi a c)) fun b =>
 if b.2 then
  some (([(b.1,(1:Int))],(1:Int)))
 else
  gd (c9 (b.1-1)/\ix b.1 a.length/\c9 (a.getD b.1.toNat 0-c)/\c9 (b.1-1)/\ix (b.1-1) a.length/\c9 (c-a.getD (b.1-1).toNat 0)/\ix b.1 a.length/\c9 (b.1-1)/\ix (b.1-1) a.length/\c9 (a.getD b.1.toNat 0-a.getD (b.1-1).toNat 0)/\True)<|lt ([(b.1-1,a.getD b.1.toNat 0-c),(b.1,c-a.getD (b.1-1).toNat 0)]) fun d =>
  some ((d,a.getD b.1.toNat 0-a.getD (b.1-1).toNat 0))
def P0W:Ct:=j9 196 [.dat i64.sl,.dat i64] (fun x=>O9 x.1 x.2.1) (fun r:List BR×Int=>AV.tup [AV.ow 252 true R7 r.1,I r.2]) (fun _=>())
theorem O0d:Ok prog P0W:=by
 refine k6 [.tmp 4,.tmp 5] func196 ?_;intro y ⟨b,_,_⟩ r H Q hn hr;have:=hz (tc N0Q tn);refine iA [0,1]<|qD (fun c=>Z [p 0 (L i64 b),p 1 (I c)] []) H fun c H=>qD (fun a=>Z [p 0 (L i64 b),p 1 (I c),p 6 (I a.1),p 7 (B a.2)] []) H fun a H=>vQ<|iA [0,1,6,26]<|cD H (fun H=>iA [4,5]<|j0<|fR<|hr H) fun H=>vK<|fQ<|qD (fun d=>Z [p 4 (O 48),p 5 (I (b.getD a.1.toNat 0-b.getD (a.1-1).toNat 0))] [(48,A 252 R7 d 0)]) H fun d H=>j0<|hr H
def Jj(d:List BR×Int)(b:List BR×Int)(e:Int):Int->Option Int
 | a =>
 gd (c9 (d.2*b.2)/\(BQ a (d.2*b.2) e).isSome/\True)<|lt (vl (BQ a (d.2*b.2) e)) fun c =>
 some c
def UM(a:Int)(c:Int×Int->Option Int):Int->Option Int
 | b =>
 gd (c9 (a+1)/\True) <|
 c (b,a+1)
def Jk(d:u6)(a:BR)(f:List BR×Int)(h:Int)(i:Int×Int->Option Int)(j:Int×Int->Option Int):Int×Int->Option Int
 | (e,c) =>
 if(decide (c < (f.1.length:Int))) then
  gd (ix c f.1.length/\c.toNat<f.1.length/\True)<|lt (f.1.getD c.toNat (b7 R7)) fun b =>
  gd (c9 (a.1*(d.2.1.length:Int))/\c9 (a.1*(d.2.1.length:Int)+b.1)/\ix (a.1*(d.2.1.length:Int)+b.1) d.2.2.length/\c9 (d.2.2.getD (a.1*(d.2.1.length:Int)+b.1).toNat 0*a.2)/\c9 (d.2.2.getD (a.1*(d.2.1.length:Int)+b.1).toNat 0*a.2*b.2)/\c9 (e+d.2.2.getD (a.1*(d.2.1.length:Int)+b.1).toNat 0*a.2*b.2)/\True)<|lt (e+d.2.2.getD (a.1*(d.2.1.length:Int)+b.1).toNat 0*a.2*b.2) fun g =>
  gd (c9 (c+1)/\True) <|
  j (g,c+1)
 else
  UM h i e
def Hi(f:u6)(e:List BR×Int)(b:List BR×Int)(h:Int)(g:Int×Int->Option Int):Int×Int->Option Int
 | (c,a) =>
 if(decide (a < (b.1.length:Int))) then
  gd (ix a b.1.length/\a.toNat<b.1.length/\True)<|lt (b.1.getD a.toNat (b7 R7)) fun d =>
  lp (Jk f d e a g) (c,0)
 else
  Jj b e h c
def J5(a:u6)(c:Int)(b:Int)(e:Int):Option Int :=
 gd ((O9 a.1 c).isSome/\True)<|lt (vl (O9 a.1 c)) fun f =>
 gd ((O9 a.2.1 b).isSome/\True)<|lt (vl (O9 a.2.1 b)) fun d =>
 lp (Hi a d f e) (0,0)
def Q0x:Ct:=j9 159 [.agg y70,.dat i64,.dat i64,.dat i64] (fun x=>J5 x.1 x.2.1 x.2.2.1 x.2.2.2.1) (fun r:Int=>I r) (fun _=>())
theorem M0b:Ok prog Q0x:=by
 refine k6 [.tmp 8] func159 ?_;intro y ⟨h,_,q,e,_⟩ r H Q hn hr;have:=hz (tc PW (tc O0d tn));refine iA [1,2,3,4]<|qD (fun a=>Z [p 2 (J q),p 3 (J e),p 4 (R 4),p 9 (O 22),p 10 (I a.2)] [(22,A 252 R7 a.1 0),(4,K 70 y70 h)]) H fun a H=>qD (fun b=>Z [p 3 (J e),p 4 (R 4),p 9 (O 22),p 10 (I a.2),p 11 (O 29),p 12 (I b.2)] (GK b.1 a.1 h)) H fun b H=>iA [3,4,9,10,11,12,13]<|jN r (fun(l:Int)=>Z [p 3 (J e),p 10 (I a.2),p 12 (I b.2),p 13 (I l)] []) (Jj a b e) (fun l H=>?_) (fun _ u E F=>?_)
 ·refine qD (fun k=>Z [p 8 (I k)] []) H fun k H=>j0<|hr H
 refine iA [3,4,10,11,12,13,32,33,34]<|vB<|lX (fun((f,c):Int×Int)=>Z (IL e a.2 b.2 f [p 32 (O 22),p 33 (I (a.1.length:Int)),p 34 (I c)]) (GK b.1 a.1 h)) (0,0) H fun _ o x w P ⟨f,c⟩ H=>iA [3,4,10,11,12,13,32,33,34,35]<|vQ<|cD H (fun H=>?_) (fun H=>?_)
 ·refine vK<|fQ<|jN r (fun(m:Int)=>Z (IL e a.2 b.2 m [p 32 (O 22),p 33 (I (a.1.length:Int)),p 34 (I c)]) (GK b.1 a.1 h)) (UM c o) (fun m H=>?_) (fun _ v T G=>?_)
  ·refine jB [3,4,10,11,12,13,32,33,34] H fun H=>x H
  refine vB<|qD (fun d=>Z (IL e a.2 b.2 f [p 15 (R 15),p 32 (O 22),p 33 (I (a.1.length:Int)),p 34 (I c)]) ((15,bx 252 (o8 true R7 d))::GK b.1 a.1 h)) H fun d H=>iA [3,4,10,11,12,13,15,32,33,34,38,39,40]<|vB<|lX (fun((j,g):Int×Int)=>Z (IL e a.2 b.2 j [p 15 (R 15),p 32 (O 22),p 33 (I (a.1.length:Int)),p 34 (I c),p 38 (O 29),p 39 (I (b.1.length:Int)),p 40 (I g)]) ((15,bx 252 (o8 true R7 d))::GK b.1 a.1 h)) (f,0) H fun _ z t s V ⟨j,g⟩ H=>iA [3,4,10,11,12,13,15,32,33,34,38,39,40,41]<|vQ<|cD H (fun H=>vK<|fQ<|vQ<|vB<|qD (fun i=>Z (IL e a.2 b.2 j [p 15 (R 15),p 17 (R 17),p 32 (O 22),p 33 (I (a.1.length:Int)),p 34 (I c),p 38 (O 29),p 39 (I (b.1.length:Int)),p 40 (I g)]) ((17,bx 252 (o8 true R7 i))::(15,bx 252 (o8 true R7 d))::GK b.1 a.1 h)) H fun i H=>zD (fun n=>Z (IL e a.2 b.2 n [p 15 (R 15),p 32 (O 22),p 33 (I (a.1.length:Int)),p 34 (I c),p 38 (O 29),p 39 (I (b.1.length:Int)),p 40 (I g)]) ((17,bx 252 (o8 true R7 i))::(15,bx 252 (o8 true R7 d))::GK b.1 a.1 h)) H fun n H=>fK<|fQ<|jB [3,4,10,11,12,13,15,32,33,34,38,39,40] H fun H=>t H) fun H=>vE<|fE<|s<|fX rfl<|fK<|v H
 exact vE<|fE<|w<|fX rfl<|u H
def BS(a:C6)(b:l8):Option A8 :=
 gd ((0:Int) < (2:Int)/\ix (b.2.1.tdiv (2:Int)) a.2.1.length/\ix (a.2.1.getD (b.2.1.tdiv (2:Int)).toNat (b7 y151)).1 a.1.2.1.1.length/\True)<|lt (a.1.2.1.1.getD (a.2.1.getD (b.2.1.tdiv 2).toNat (b7 y151)).1.toNat (b7 y139)) fun c =>
 gd (ix c.2.1 a.1.1.length/\ix b.2.2.2 (a.1.1.getD c.2.1.toNat (b7 y64)).2.2.2.1.length/\True)<|lt ((a.1.1.getD c.2.1.toNat (b7 y64)).2.2.2.1.getD b.2.2.2.toNat (b7 y67)) fun d =>
 some d
def Q0y:Ct:=j9 158 [.dat y157.pt,.agg y80] (fun x=>BS x.1 x.2.1) (fun r:A8=>AV.agg (Q6 r)) (fun _=>())
theorem M0c:Ok prog Q0y:=by
 refine k6 [.cell 4 67] func158 ?_;intro y ⟨d,c,_⟩ r H Q hn hr;refine iA [0,3,4]<|qD (fun a=>Z [p 0 (D y157.pt d),p 3 (R 3),p 4 (R 4),p 5 (R 5)] [(5,K 139 y139 a),(4,bx 67 [I 0,I 0,I 0,I 0,nil,nil]),(3,K 80 y80 c)]) H fun a H=>qD (fun b=>Z [p 4 (R 4)] [(4,K 67 y67 b),(5,K 139 y139 a),(3,K 80 y80 c)]) H fun b H=>j0<|hr H
def CE(a:C6)(b:l8):Option Int :=
 gd ((0:Int) < (2:Int)/\ix (b.2.1.tdiv (2:Int)) a.2.1.length/\True)<|lt (a.2.1.getD (b.2.1.tdiv 2).toNat (b7 y151)) fun c =>
 some c.2.2.1
def R0f:Ct:=j9 116 [.dat y157.pt,.agg y80] (fun x=>CE x.1 x.2.1) (fun r:Int=>I r) (fun _=>())
theorem UN:Ok prog R0f:=by
 refine k6 [.tmp 4] func116 ?_;intro y ⟨_,b,_⟩ r H Q hn hr;refine iA [0,3]<|qD (fun a=>Z [p 4 (J a.2.2.1)] [(3,K 80 y80 b)]) H fun a H=>j0<|hr H
def F7(a:C6)(f:Int)(d:Int)(e:Int):Option Int :=
 gd (ix f a.2.2.1.length/\True)<|lt (a.2.2.1.getD f.toNat (b7 y80)) fun b =>
 gd ((CE a b).isSome/\True)<|lt (vl (CE a b)) fun c =>
 if(b.2.2.1==1) then
  gd ((BS a b).isSome/\(0:Int) < (2:Int)/\ix (b.2.1.tmod (2:Int)) (vl (BS a b)).2.2.2.2.2.length/\ix c a.2.2.2.1.length/\(J5 ((vl (BS a b)).2.2.2.2.2.getD (b.2.1.tmod (2:Int)).toNat (b7 y70)) d (a.2.2.2.1.getD c.toNat (0:Int)) e).isSome/\True)<|lt (vl (J5 ((vl (BS a b)).2.2.2.2.2.getD (b.2.1.tmod 2).toNat (b7 y70)) d (a.2.2.2.1.getD c.toNat 0) e)) fun g =>
  some (min g 1000000)
 else
  gd (ix c a.2.2.2.2.1.length/\ix b.2.2.2 (List.length (a.2.2.2.2.1.getD c.toNat []))/\(W7 d (List.getD (a.2.2.2.2.1.getD c.toNat []) b.2.2.2.toNat 0) e).isSome/\True)<|lt (vl (W7 d (List.getD (a.2.2.2.2.1.getD c.toNat []) b.2.2.2.toNat 0) e)) fun h =>
  some (min h 1000000)
def R0e:Ct:=j9 117 [.dat y157.pt,.dat i64,.dat i64,.dat i64] (fun x=>F7 x.1 x.2.1 x.2.2.1 x.2.2.2.1) (fun r:Int=>I r) (fun _=>())
theorem O0S:Ok prog R0e:=by
 refine k6 [.tmp 8] func117 ?_;intro y ⟨c,_,d,e,_⟩ r H Q hn hr;have:=hz (tc O0q (tc M0b (tc M0c (tc UN tn))));refine iA [0,1,2,3]<|qD (fun a=>Z [p 0 (D y157.pt c),p 2 (J d),p 3 (J e),p 9 (R 9)] [(9,K 80 y80 a)]) H fun a H=>qD (fun b=>Z [p 0 (D y157.pt c),p 2 (J d),p 3 (J e),p 9 (R 9),p 10 (I b)] [(9,K 80 y80 a)]) H fun b H=>vQ<|iA [0,2,3,9,10,23]<|cD H (fun H=>qD (fun f=>Z [p 8 (I (min f 1000000))] [(9,K 80 y80 a)]) H fun f H=>j0<|fR<|hr H) fun H=>vK<|fQ<|qD (fun g=>Z [p 8 (I (min g 1000000))] [(9,K 80 y80 a)]) H fun g H=>j0<|hr H
def AG(a:Int)(b:Int)(c:Int):Option Int :=
 gd (c9 (a*b)/\(BQ (a*b) 1000 c).isSome/\True)<|lt (vl (BQ (a*b) 1000 c)) fun d =>
 some d
def Q0v:Ct:=j9 161 [.dat i64,.dat i64,.dat i64] (fun x=>AG x.1 x.2.1 x.2.2.1) (fun r:Int=>I r) (fun _=>())
theorem O0s:Ok prog Q0v:=by
 refine k6 [.tmp 6] func161 ?_;intro y ⟨_,_,_,_⟩ r H Q hn hr;have:=hz (tc PW tn);refine iA [0,1,2]<|qD (fun a=>Z [p 6 (I a)] []) H fun a H=>j0<|hr H
def Jl(a:p7)(c:Int)(b:Int):Option Int :=
 if(c==1&&b==0) then
  some a.2.1
 else
  if(c==1) then
   some a.2.2.1
  else
   if(b==0) then
    some a.2.2.2.1
   else
    some a.2.2.2.2
def Q0u:Ct:=j9 162 [.agg p5,.dat i64,.dat i64] (fun x=>Jl x.1 x.2.1 x.2.2.1) (fun r:Int=>I r) (fun _=>())
theorem O0r:Ok prog Q0u:=by
 refine k6 [.tmp 6] func162 ?_;intro y ⟨_,_,_,_⟩ r H Q hn hr;refine iA [1,2,3]<|vQ<|vB<|iA [1,2,3,7]<|cD H (fun H=>iA [6]<|j0<|l9<|fR<|hr H) fun H=>iA [2,3,16]<|cD H (fun H=>iA [6]<|j0<|l9<|fR<|hr H) fun H=>iA [3,21]<|cD H (fun H=>iA [6]<|j0<|l9<|fR<|hr H) fun H=>vK<|fK<|fQ<|iA [6]<|j0<|hr H
def AH(c:p7)(b:l8)(a:Int):Int->Option Int
 | d =>
 gd ((Jl c b.2.2.1 a).isSome/\(AG d (vl (Jl c b.2.2.1 a)) a).isSome/\True)<|lt (vl (AG d (vl (Jl c b.2.2.1 a)) a)) fun e =>
 some e
def L6(a:C6)(g:p7)(e:Int)(f:Int)(d:Int):Option Int :=
 gd (ix e a.2.2.1.length/\True)<|lt (a.2.2.1.getD e.toNat (b7 y80)) fun b =>
 gd ((CE a b).isSome/\True)<|lt (vl (CE a b)) fun c =>
 if(b.2.2.1==1) then
  gd ((BS a b).isSome/\(0:Int) < (2:Int)/\ix (b.2.1.tmod (2:Int)) (vl (BS a b)).2.2.2.2.1.length/\ix c a.2.2.2.1.length/\(J5 ((vl (BS a b)).2.2.2.2.1.getD (b.2.1.tmod (2:Int)).toNat (b7 y70)) f (a.2.2.2.1.getD c.toNat (0:Int)) d).isSome/\True)<|lt (vl (J5 ((vl (BS a b)).2.2.2.2.1.getD (b.2.1.tmod 2).toNat (b7 y70)) f (a.2.2.2.1.getD c.toNat 0) d)) fun h =>
  AH g b d h
 else
  gd (ix c a.2.2.2.2.1.length/\ix b.2.2.2 (List.length (a.2.2.2.2.1.getD c.toNat []))/\(BQ (List.getD (a.2.2.2.2.1.getD c.toNat []) b.2.2.2.toNat 0) 1000 d).isSome/\True)<|lt (vl (BQ (List.getD (a.2.2.2.2.1.getD c.toNat []) b.2.2.2.toNat 0) 1000 d)) fun i =>
  AH g b d i
def R0g:Ct:=j9 115 [.dat y157.pt,.agg p5,.dat i64,.dat i64,.dat i64] (fun x=>L6 x.1 x.2.1 x.2.2.1 x.2.2.2.1 x.2.2.2.2.1) (fun r:Int=>I r) (fun _=>())
theorem O0T:Ok prog R0g:=by
 refine k6 [.tmp 10] func115 ?_;intro y ⟨e,b,_,g,c,_⟩ r H Q hn hr;have:=hz (tc O0s (tc O0r (tc PW (tc M0b (tc M0c (tc UN tn))))));refine iA [0,2,3,4,6]<|qD (fun a=>Z [p 0 (D y157.pt e),p 3 (J g),p 4 (J c),p 6 (R 6),p 11 (R 11)] [(11,K 80 y80 a),(6,K 36 p5 b)]) H fun a H=>qD (fun d=>Z [p 0 (D y157.pt e),p 3 (J g),p 4 (J c),p 6 (R 6),p 11 (R 11),p 12 (I d)] [(11,K 80 y80 a),(6,K 36 p5 b)]) H fun d H=>iA [0,3,4,6,11,12]<|jN r (fun(k:Int)=>Z [p 4 (J c),p 6 (R 6),p 11 (R 11),p 13 (I k)] [(11,K 80 y80 a),(6,K 36 p5 b)]) (AH b a c) (fun k H=>?_) (fun _ j l m=>?_)
 ·refine qD (fun h=>Z [p 10 (I h)] [(11,K 80 y80 a),(6,K 36 p5 b)]) H fun h H=>j0<|hr H
 refine iA [0,3,4,6,11,12,26]<|cD H (fun H=>zD (fun i=>Z [p 4 (J c),p 6 (R 6),p 11 (R 11),p 13 (I i)] [(11,K 80 y80 a),(6,K 36 p5 b)]) H fun i H=>j H) fun H=>zD (fun f=>Z [p 4 (J c),p 6 (R 6),p 11 (R 11),p 13 (I f)] [(11,K 80 y80 a),(6,K 36 p5 b)]) H fun f H=>j H
def Hj(a:C6)(b:Int)(c:s9):Int×Int->Option (s9×s9)
 | (f,h) =>
 gd ((F7 a b c.1 0).isSome/\(F7 a b c.2 0).isSome/\(F7 a b c.1 1).isSome/\(F7 a b c.2 1).isSome/\True)<|lt ((vl (F7 a b c.1 0),vl (F7 a b c.2 0),vl (F7 a b c.1 1),vl (F7 a b c.2 1))) fun(i,g,d,e) =>
 some (((f,h),min i g,max d e))
def Dv(a:C6)(d:p7)(b:Int)(c:s9):Option (s9×s9) :=
 gd ((L6 a d b c.1 0).isSome/\(L6 a d b c.2 0).isSome/\(L6 a d b c.1 1).isSome/\(L6 a d b c.2 1).isSome/\True)<|lt ((vl (L6 a d b c.1 0),vl (L6 a d b c.2 0),vl (L6 a d b c.1 1),vl (L6 a d b c.2 1))) fun(i,g,h,j) =>
 gd (ix b a.2.2.1.length/\True)<|lt (a.2.2.1.getD b.toNat (b7 y80)) fun f =>
 if(decide (0 < (a.2.2.2.2.2.length:Int))&&f.2.2.1==2) then
  gd ((CE a f).isSome/\ix (vl (CE a f)) a.2.2.2.2.2.length/\True)<|lt (vl (CE a f)) fun e =>
  gd (c9 (min i g-a.2.2.2.2.2.getD e.toNat 0)/\c9 (max h j+a.2.2.2.2.2.getD e.toNat 0)/\True) <|
  Hj a b c (min i g-a.2.2.2.2.2.getD e.toNat 0,max h j+a.2.2.2.2.2.getD e.toNat 0)
 else
  Hj a b c (min i g,max h j)
def k57:Ct:=j9 57 [.dat y157.pt,.agg p5,.dat i64,.agg y51] (fun x=>Dv x.1 x.2.1 x.2.2.1 x.2.2.2.1) (fun r:s9×s9=>AV.tup [AV.agg [I r.1.1,I r.1.2],AV.agg [I r.2.1,I r.2.2]]) (fun _=>())
theorem o57:Ok prog k57:=by
 refine k6 [.cell 8 51,.cell 9 51] func57 ?_;intro y ⟨b,m,e,a,_⟩ r H Q hn hr;have:=hz (tc O0S (tc UN (tc O0T tn)));refine iA [0,2,5,7,8,9]<|iA [0,2,5,8,9,10,11]<|qD (fun(h,i,g,f)=>Z (OQ b e a.1 a.2 []) (TE (min h i) (max g f) a m)) H fun⟨h,i,g,f⟩ H =>
  jN r (fun((l,k):Int×Int)=>Z (OQ b e a.1 a.2 []) [(12,bx 51 [I l,I k]),(9,bx 51 [I 0,I 0]),(8,bx 51 [I 0,I 0])]) (Hj b e a) (fun⟨l,k⟩ H=>?_) (fun _ q t u=>?_)
 ·refine qD (fun(s,o,c,d)=>Z [p 8 (R 8),p 9 (R 9),p 12 (R 12),p 15 (R 15)] [(15,bx 51 [I (min s o),I (max c d)]),(12,bx 51 [I l,I k]),(9,bx 51 [I 0,I 0]),(8,bx 51 [I 0,I 0])]) H fun⟨s,o,c,d⟩ H =>
   iA [8,9] <|
   j0<|hr H
 refine qD (fun j=>Z (OQ b e a.1 a.2 [p 13 (R 13)]) ((13,K 80 y80 j)::TE (min h i) (max g f) a m)) H fun j H=>iA [0,2,8,9,10,11,12,13,60]<|cD H (fun H=>qD (fun n=>Z (OQ b e a.1 a.2 [p 14 (J (b.2.2.2.2.2.getD n.toNat 0))]) ((13,K 80 y80 j)::TE (min h i) (max g f) a m)) H fun n H=>jB [0,2,8,9,10,11,12] H fun H=>q H) fun H=>vK<|q H
def Hk(a:List l8):Option Int :=
 some (a.length:Int)
def R0i:Ct:=j9 113 [.dat y80.sl] (fun x=>Hk x.1) (fun r:Int=>I r) (fun _=>())
theorem O0V:Ok prog R0i:=by
 refine k6 [.tmp 2] func113 ?_;intro y ⟨_,_⟩ r H Q hn hr;refine iA [0]<|iA [2]<|j0<|hr H
def Hl(a:Int)(b:Int):Option Bool :=
 some (decide (100<=a)&&decide (a<=b)&&decide (b<=5000))
def R0j:Ct:=j9 112 [.dat i64,.dat i64] (fun x=>Hl x.1 x.2.1) (fun r:Bool=>B r) (fun _=>())
theorem O0W:Ok prog R0j:=by
 refine k6 [.tmp 4] func112 ?_;intro y ⟨_,_,_⟩ r H Q hn hr;refine iA [0,1]<|iA [4]<|j0<|hr H
def Hm(a:p7):Option Bool :=
 gd ((R9 a.1).isSome/\(vl (R9 a.1)=true/\True->(Hl a.2.1 a.2.2.1).isSome)/\((vl (R9 a.1)&&vl (Hl a.2.1 a.2.2.1))=true/\True->(Hl a.2.2.2.1 a.2.2.2.2).isSome)/\True) <|
 some (vl (R9 a.1)&&vl (Hl a.2.1 a.2.2.1)&&vl (Hl a.2.2.2.1 a.2.2.2.2))
def k54:Ct:=j9 54 [.agg p5] (fun x=>Hm x.1) (fun r:Bool=>B r) (fun _=>())
theorem o54:Ok prog k54:=by
 refine k6 [.tmp 2] func54 ?_;intro y ⟨_,_⟩ r H Q hn hr;have:=hz (tc O0W (tc Uw tn));refine iA [1]<|iB [2] H fun H=>j0<|hr H
def G0R(a:List Int):Int->Option (List Int×Int×Int)
 | b =>
 some ((a,(0:Int),b))
def G0Q(b:List Int)(d:Int×Int->Option (List Int×Int×Int)):Int×Int->Option (List Int×Int×Int)
 | (a,c) =>
 if(decide (a < (b.length:Int))&&decide (a<64)) then
  gd (c9 (c*(31:Int))/\ix a b.length/\True/\c9 (c*(31:Int)+b.getD a.toNat (0:Int))/\(0:Int) < (2147483647:Int)/\True) <|
  gd (c9 (a+1)/\True) <|
  d ((a+1,(c*31+b.getD a.toNat 0).tmod 2147483647))
 else
  G0R b c
def Mj(a:List Int):Option (List Int×Int×Int) :=
 lp (G0Q a) (0,12345)
def k27:Ct:=j9 27 [.dat (b8.sl)] (fun x=>Mj x.1) (fun r:List Int×Int×Int=>AV.ob 122 [L b8 r.1,I r.2.1,I r.2.2]) (fun _=>())
theorem o27:Ok prog k27:=by
 refine k6 [.tmp 2] func27 ?_;intro y ⟨a,_⟩ r H Q hn hr;refine iA [0]<|iA [0,3]<|jN r (fun(c:Int)=>Z [p 3 (R 7)] [(7,bx 122 [L b8 a,I 0,I c])]) (G0R a) (fun c H=>?_) (fun _ e i j=>?_)
 ·refine iA [2]<|j0<|hr H
 refine iA [0,3,4]<|vB<|lX (fun((b,d):Int×Int)=>Z [p 0 (L b8 a),p 3 (R 7),p 4 (I b)] [(7,bx 122 [L b8 a,I 0,I d])]) (0,12345) H fun _ h g f k ⟨b,d⟩ H=>vQ<|iA [0,3,4,15]<|cD H (fun H=>vK<|fQ<|vQ<|vB<|jB [0,3,4] H fun H=>fK<|fQ<|jB [0,3,4] H fun H=>g H) fun H=>vE<|fE<|f<|fX rfl<|e H
def Y4(a:C6)(b:Int):Option Bool :=
 gd ((O7 a).isSome/\c9 (vl (O7 a)-1)/\(A9 b 0 (vl (O7 a)-1)).isSome/\True) <|
 some (vl (A9 b 0 (vl (O7 a)-1)))
def k41:Ct:=j9 41 [.dat y157.pt,.dat i64] (fun x=>Y4 x.1 x.2.1) (fun r:Bool=>B r) (fun _=>())
theorem o41:Ok prog k41:=by
 refine k6 [.tmp 4] func41 ?_;intro y ⟨_,_,_⟩ r H Q hn hr;have:=hz (tc Ae (tc Pq tn));refine iA [0,1]<|iB [4] H fun H=>j0<|hr H
def c8(a:l6)(b:Int):Option (Int×l6) :=
 if(decide (b<=1)) then
  some (((0:Int),a))
 else
  if(decide (a.2.1 < (a.1.length:Int))) then
   gd (ix a.2.1 a.1.length/\True/\True) <|
   gd (c9 (a.2.1+1)/\True) <|
   if(decide (b<=256)) then
    gd (0<b/\True) <|
    some ((Int.tmod (a.1.getD a.2.1.toNat 0) b,a.1,a.2.1+1,a.2.2))
   else
    gd (c9 (a.2.2*(48271:Int))/\c9 (a.2.2*(48271:Int)+a.1.getD a.2.1.toNat (0:Int))/\c9 (a.2.2*(48271:Int)+a.1.getD a.2.1.toNat (0:Int)+(1:Int))/\(0:Int) < (2147483647:Int)/\True)<|lt ((a.2.2*48271+a.1.getD a.2.1.toNat 0+1).tmod 2147483647) fun c =>
    gd (0<b/\True) <|
    some (c.tmod b,a.1,a.2.1+1,c)
  else
   gd (c9 (a.2.2*(48271:Int))/\c9 (a.2.2*(48271:Int)+(11:Int))/\(0:Int) < (2147483647:Int)/\True) <|
   gd ((0:Int) < (7:Int)/\(0:Int)<b/\True) <|
   some (((((a.2.2*48271+11).tmod 2147483647).tdiv 7).tmod b,a.1,a.2.1,(a.2.2*48271+11).tmod 2147483647))
def k60:Ct:=j9 60 [.io 122 m4,.dat i64] (fun x=>c8 x.1 x.2.1) (fun r:Int×l6=>I r.1) (fun r=>r.2)
theorem AI:Ok prog k60:=by
 refine k6 [.tmp 4] func60 ?_;intro y ⟨a,c,_⟩ r H Q hn hr;refine iA [0,1]<|vQ<|iA [0,1,7]<|cD H (fun H=>iA [4]<|j0<|fR<|hr H) fun H=>vK<|fQ<|vQ<|iA [0,1,17]<|cD H (fun H=>?_) (fun H=>?_)
 ·refine iB [0,1,5] H fun H=>iB [0,1,5] H fun H=>vQ<|iA [0,1,5,37]<|cD H (fun H=>iB [4] H fun H=>j0<|fR<|fR<|hr H) fun H=>vK<|fQ<|qD (fun b=>Z (Bd c []) [(500000,bx 122 [L b8 a.1,I (a.2.1+1),I b])]) H fun b H=>iB [4] H fun H=>j0<|fR<|hr H
 refine vK<|fQ<|iB [0,1] H fun H=>iB [4] H fun H=>j0<|hr H
def Jm(h:Int×l6):List Int×Int×Int×Int×Int×Int×ByteArray->Option (p7×l6)
 | (f,a,e,d,c,g,b) =>
 some (((b,800+10*h.1,d,c,g),f,a,e))
def Mm(b:l6):Option (p7×l6) :=
 gd ((c8 b 3).isSome/\ix (vl (c8 b 3)).1 [ByteArray.mk #[115,108,111,119],ByteArray.mk #[102,97,115,116],ByteArray.mk #[116,121,112]].length/\(vl (c8 b 3)).1.toNat<[ByteArray.mk #[115,108,111,119],ByteArray.mk #[102,97,115,116],ByteArray.mk #[116,121,112]].length/\(c8 (vl (c8 b 3)).2 20).isSome/\c9 (10*(vl (c8 (vl (c8 b 3)).2 20)).1)/\c9 (800+10*(vl (c8 (vl (c8 b 3)).2 20)).1)/\(c8 (vl (c8 (vl (c8 b 3)).2 20)).2 20).isSome/\c9 (10*(vl (c8 (vl (c8 (vl (c8 b 3)).2 20)).2 20)).1)/\c9 (900+10*(vl (c8 (vl (c8 (vl (c8 b 3)).2 20)).2 20)).1)/\True)<|lt ((vl (c8 b 3),vl (c8 (vl (c8 b 3)).2 20),vl (c8 (vl (c8 (vl (c8 b 3)).2 20)).2 20),[ByteArray.mk #[115,108,111,119],ByteArray.mk #[102,97,115,116],ByteArray.mk #[116,121,112]].getD (vl (c8 b 3)).1.toNat (b7 Ty.str),[ByteArray.mk #[115,108,111,119],ByteArray.mk #[102,97,115,116],ByteArray.mk #[116,121,112]])) fun(_,d,c,h,_) =>
 gd ((c8 c.2 60).isSome/\c9 (7*(vl (c8 c.2 60)).1)/\c9 (800+10*d.1+7*(vl (c8 c.2 60)).1)/\True)<|lt (vl (c8 c.2 60)) fun f =>
 gd ((c8 f.2 40).isSome/\c9 (9*(vl (c8 f.2 40)).1)/\c9 (900+10*c.1+9*(vl (c8 f.2 40)).1)/\True)<|lt (vl (c8 f.2 40)) fun g =>
 gd ((c8 g.2 30).isSome/\True)<|lt (vl (c8 g.2 30)) fun a =>
 if(a.1==0) then
  gd (c9 (800+10*d.1-1)/\True) <|
  Jm d (a.2.1,a.2.2.1,a.2.2.2,800+10*d.1-1,900+10*c.1,900+10*c.1+9*g.1,h)
 else
  if(a.1==1) then
   gd ((c8 a.2 3).isSome/\ix (vl (c8 a.2 3)).1 [99,100,-1].length/\(vl (c8 a.2 3)).1.toNat<[99,100,-1].length/\True)<|lt ((vl (c8 a.2 3),[(99:Int),(100:Int),(-1:Int)].getD (vl (c8 a.2 (3:Int))).1.toNat (0:Int))) fun(i,j) =>
   Jm d (i.2.1,i.2.2.1,i.2.2.2,800+10*d.1+7*f.1,j,900+10*c.1+9*g.1,h)
  else
   if(a.1==2) then
    gd ((c8 a.2 2).isSome/\c9 (5000+(vl (c8 a.2 2)).1)/\True)<|lt (vl (c8 a.2 2)) fun e =>
    Jm d (e.2.1,e.2.2.1,e.2.2.2,800+10*d.1+7*f.1,900+10*c.1,5000+e.1,h)
   else
    if(a.1==3) then
     Jm d (a.2.1,a.2.2.1,a.2.2.2,800+10*d.1+7*f.1,900+10*c.1,900+10*c.1+9*g.1,ByteArray.mk #[])
    else
     Jm d (a.2.1,a.2.2.1,a.2.2.2,800+10*d.1+7*f.1,900+10*c.1,900+10*c.1+9*g.1,h)
def k59:Ct:=j9 59 [.io 122 m4] (fun x=>Mm x.1) (fun r:p7×l6=>AV.agg (AB r.1.1 r.1.2.1 r.1.2.2.1 r.1.2.2.2.1 r.1.2.2.2.2)) (fun r=>r.2)
theorem o59:Ok prog k59:=by
 refine k6 [.cell 2 36] func59 ?_;intro y ⟨_,_⟩ r H Q hn hr;have:=hz (tc AI tn);refine iA [0,2]<|qD (fun(u,a,b,c,f)=>Z (Fp []) ((3,bx 36 (AB c (800+10*a.1) 0 (900+10*b.1) 0))::(500000,K 122 m4 b.2)::IK f)) H fun⟨u,a,b,c,f⟩ H =>
  qD (fun d=>Z (Fp []) ((3,bx 36 (AB c (800+10*a.1) (800+10*a.1+7*d.1) (900+10*b.1) 0))::(500000,K 122 m4 d.2)::IK f)) H fun d H =>
  qD (fun l=>Z (Fp []) ((3,bx 36 (AB c (800+10*a.1) (800+10*a.1+7*d.1) (900+10*b.1) (900+10*b.1+9*l.1)))::(500000,K 122 m4 l.2)::IK f)) H fun l H =>
  jN r (fun((g,j,m,i,n,h,k):List Int×Int×Int×Int×Int×Int×ByteArray)=>Z (G9 []) [(3,bx 36 (AB k (800+10*a.1) i n h)),(500000,bx 122 (A5 g j m)),(2,bx 36 (AB (ByteArray.mk #[]) 0 0 0 0))]) (Jm a) (fun⟨g,j,m,i,n,h,k⟩ H=>?_) (fun _ o v w=>?_)
 ·refine iA [2]<|j0<|hr H
 refine qD (fun q=>Z (Fp [p 33 (I q.1)]) ((500000,K 122 m4 q.2)::(3,bx 36 (AB c (800+10*a.1) (800+10*a.1+7*d.1) (900+10*b.1) (900+10*b.1+9*l.1)))::IK f)) H fun q H=>vB<|iA [0,2,3,33,34]<|cD H (fun H=>jB [2,3] H fun H=>fK<|o H) fun H=>iA [0,2,3,33,40]<|cD H (fun H=>?_) (fun H=>?_)
 ·refine zD (fun(t,s)=>Z (G9 []) ((3,bx 36 (AB c (800+10*a.1) (800+10*a.1+7*d.1) s (900+10*b.1+9*l.1)))::(500000,K 122 m4 t.2)::(42,A 2 i64 [99,100,-1] 0)::IK f)) H fun⟨t,s⟩ H =>
   fK<|o H
 refine iA [0,2,3,33,48]<|cD H (fun H=>zD (fun e=>Z (G9 []) ((3,bx 36 (AB c (800+10*a.1) (800+10*a.1+7*d.1) (900+10*b.1) (5000+e.1)))::(500000,K 122 m4 e.2)::IK f)) H fun e H=>fK<|o H) fun H=>iA [2,3,54]<|cD H (fun H=>jA [2,3]<|fK<|o H) fun H=>vK<|fK<|o H
def UO:List Int×List Int×Int×Int->Option (List Int×l6)
 | (c,d,b,a) =>
 some (c,d,b,a)
def PX(g:List l8):List Int×Int×Int×List Int->Option (List Int×l6)
 | (e,f,d,c) =>
 gd ((c8 (e,f,d) 12).isSome/\True)<|lt (vl (c8 (e,f,d) 12)) fun a =>
 if(a.1==0) then
  gd ((c8 a.2 2).isSome/\c9 ((g.length:Int)*(vl (c8 a.2 2)).1)/\(c.length+[(g.length:Int)*(vl (c8 a.2 2)).1].length<=9223372036854775807/\(c.length+[(g.length:Int)*(vl (c8 a.2 2)).1].length)*8<=140737488355328)/\True)<|lt (vl (c8 a.2 2)) fun b =>
  UO ((c++[(g.length:Int)*b.1],b.2.1,b.2.2.1,b.2.2.2))
 else
  UO (c,a.2.1,a.2.2.1,a.2.2.2)
def J0U(e:Int×l6)(h:List l8)(i:Int×List Int×Int×Int×List Int->Option (List Int×l6)):Int×List Int×Int×Int×List Int->Option (List Int×l6)
 | (a,b,c,d,g) =>
 if(decide (a < (h.length:Int))) then
  gd ((g.length+[a].length<=9223372036854775807/\(g.length+[a].length)*8<=140737488355328)/\True) <|
  gd ((c8 (b,c,d) (1+e.1)).isSome/\c9 (1+(vl (c8 (b,c,d) (1+e.1))).1)/\c9 (a+(1+(vl (c8 (b,c,d) (1+e.1))).1))/\True)<|lt (vl (c8 (b,c,d) (1+e.1))) fun f =>
  i ((a+(1+f.1),f.2.1,f.2.2.1,f.2.2.2,g++[a]))
 else
  PX h (b,c,d,g)
def UP:List Int×List Int×Int×Int->Option (List Int×l6)
 | (a,b,c,d) =>
 some (a,b,c,d)
def PY(b:List l8):List Int×Int×Int×List Int->Option (List Int×l6)
 | (g,f,e,c) =>
 gd ((c8 (g,f,e) 12).isSome/\True)<|lt (vl (c8 (g,f,e) 12)) fun a =>
 if(a.1==0) then
  gd ((c8 a.2 2).isSome/\c9 ((b.length:Int)*(vl (c8 a.2 2)).1)/\(c.length+[(b.length:Int)*(vl (c8 a.2 2)).1].length<=9223372036854775807/\(c.length+[(b.length:Int)*(vl (c8 a.2 2)).1].length)*8<=140737488355328)/\True)<|lt (vl (c8 a.2 2)) fun d =>
  UP ((c++[(b.length:Int)*d.1],d.2.1,d.2.2.1,d.2.2.2))
 else
  UP (c,a.2.1,a.2.2.1,a.2.2.2)
def G0m(f:Int×l6)(h:List l8)(i:Int×List Int×Int×Int×List Int->Option (List Int×l6)):Int×List Int×Int×Int×List Int->Option (List Int×l6)
 | (a,d,c,b,g) =>
 if(decide (a < (h.length:Int))) then
  gd ((g.length+[a].length<=9223372036854775807/\(g.length+[a].length)*8<=140737488355328)/\True) <|
  gd ((c8 (d,c,b) (1+f.1)).isSome/\c9 (1+(vl (c8 (d,c,b) (1+f.1))).1)/\c9 (a+(1+(vl (c8 (d,c,b) (1+f.1))).1))/\True)<|lt (vl (c8 (d,c,b) (1+f.1))) fun e =>
  i ((a+(1+e.1),e.2.1,e.2.2.1,e.2.2.2,g++[a]))
 else
  PY h (d,c,b,g)
def Jn(c:l6)(e:j7):Option (List Int×l6) :=
 gd ((U7 e).isSome/\True)<|if(!vl (U7 e)) then
  gd (True)<|if(true||false) then
   some ([],c)
  else
   gd ((u32 e).isSome/\True)<|lt (vl (u32 e)) fun j =>
   gd ((c8 c 8).isSome/\c9 (1+(vl (c8 c 8)).1)/\True)<|lt (vl (c8 c 8)) fun f =>
   gd ((c8 f.2 (1+f.1)).isSome/\True)<|lt (vl (c8 f.2 (1+f.1))) fun g =>
   lp (J0U f j) (g.1,g.2.1,g.2.2.1,g.2.2.2,[])
 else
  gd (((c8 c 3).isSome/\True)/\True)<|if(false||decide (0 < (vl (c8 c 3)).1)) then
   lt (vl (c8 c 3)) fun i =>
   some ([],i.2)
  else
   gd ((u32 e).isSome/\True)<|lt ((vl (u32 e),vl (c8 c 3))) fun(h,d) =>
   gd ((c8 d.2 8).isSome/\c9 (1+(vl (c8 d.2 8)).1)/\True)<|lt (vl (c8 d.2 8)) fun a =>
   gd ((c8 a.2 (1+a.1)).isSome/\True)<|lt (vl (c8 a.2 (1+a.1))) fun b =>
   lp (G0m a h) (b.1,b.2.1,b.2.2.1,b.2.2.2,[])
def k62:Ct:=j9 62 [.io 122 m4,.agg k8] (fun x=>Jn x.1 x.2.1) (fun r:List Int×l6=>AV.ow 2 true i64 r.1) (fun r=>r.2)
theorem o62:Ok prog k62:=by
 refine k6 [.tmp 4] func62 ?_;intro y ⟨a0,n,_⟩ r H Q hn hr;have:=hz (tc AI (tc Lf (tc Ja tn)));refine iA [0,3]<|iA [0,3,5]<|vQ<|vQ<|iG 4 3 [0,3,5,17] [(14,AV.ptr 500000 0),(15,I 0),(16,B false)] H (fun H=>J4 H fun H=>fQ ?_) (fun H=>J4 H fun H=>fQ ?_)
 ·refine cD H (fun H=>iA [4]<|j0<|fR<|hr H) fun H=>vK<|fQ<|qD (fun c=>Z (Bc (c.length:Int) []) [(20,A 80 y80 c 0),(9,A 2 i64 [] 0),(3,K 34 k8 n),(500000,K 122 m4 a0)]) H fun c H=>qD (fun q=>Z (Bc (c.length:Int) [p 7 (I (1+q.1))]) (OP q.2 c n)) H fun q H=>jN r (fun((s,v,T,h):List Int×Int×Int×List Int)=>Z (Bc (c.length:Int) []) [(500000,bx 122 (A5 s v T)),(9,A 2 i64 h 0)]) (PX c) (fun⟨s,v,T,h⟩ H=>?_) (fun _ n0 e0 t0=>?_)
  ·refine jN r (fun((z,V,aC,aA):List Int×List Int×Int×Int)=>Z [p 5 (O 9)] [(9,A 2 i64 z 0),(500000,bx 122 (A5 V aC aA))]) (UO) (fun⟨z,V,aC,aA⟩ H=>?_) (fun _ n2 e2 t2=>?_)
   ·refine iA [4]<|j0<|hr H
   refine qD (fun l=>Z (Bc (c.length:Int) [p 43 (B (l.1==0))]) [(500000,K 122 m4 l.2),(9,A 2 i64 h 0)]) H fun l H=>cD H (fun H=>zD (fun i=>Z [p 5 (AV.os 9 1)] [(9,A 2 i64 (h++[(c.length:Int)*i.1]) 1),(49,A 2 i64 [(c.length:Int)*i.1] 0),(500000,K 122 m4 i.2)]) H fun i H=>n2 H) fun H=>vK<|n2 H
  refine qD (fun j=>Z (Bc (c.length:Int) [p 7 (I (1+q.1)),p 8 (I j.1)]) (OP j.2 c n)) H fun j H=>vB<|lX (fun((t,v5,v6,v7,v8):Int×List Int×Int×Int×List Int)=>Z (Bc (c.length:Int) [p 7 (I (1+q.1)),p 8 (I t)]) [(500000,bx 122 [L b8 v5,J v6,J v7]),(9,A 2 i64 v8 0)]) (j.1,j.2.1,j.2.2.1,j.2.2.2,[]) H fun _ g1 b1 e1 t1 ⟨t,v5,v6,v7,v8⟩ H=>vQ<|iA [0,5,6,7,8,30]<|cD H (fun H=>vK<|fQ<|vQ<|vB<|jB [0,5,6,7,8] H fun H=>fK<|fQ<|zD (fun v9=>Z [p 0 (R 500000),p 5 (AV.os 9 1),p 6 (I (c.length:Int)),p 7 (I (1+q.1)),p 8 (I (t+(1+v9.1)))] [(500000,K 122 m4 v9.2),(9,A 2 i64 (v8++[t]) 1),(39,A 2 i64 [t] 0)]) H fun v9 H=>b1 H) fun H=>vE<|fE<|e1<|fX rfl<|n0 H
 refine cD H (fun H=>qC (fun X=>Z [p 4 (O 9)] [(500000,K 122 m4 X.2),(9,A 2 i64 [] 0),(3,K 34 k8 n)]) H fun X H=>j0<|fR<|hr H) fun H=>vK<|fQ<|qD (fun(a,u)=>Z (Bc (a.length:Int) []) [(20,A 80 y80 a 0),(500000,K 122 m4 u.2),(9,A 2 i64 [] 0),(3,K 34 k8 n)]) H fun w H=>?_
 obtain⟨a,u⟩:=w;refine qD (fun d=>Z (Bc (a.length:Int) [p 7 (I (1+d.1))]) (OP d.2 a n)) H fun d H=>jN r (fun((E,G,aB,g):List Int×Int×Int×List Int)=>Z (Bc (a.length:Int) []) [(500000,bx 122 (A5 E G aB)),(9,A 2 i64 g 0)]) (PY a) (fun⟨E,G,aB,g⟩ H=>?_) (fun _ n3 e3 t3=>?_)
 ·refine jN r (fun((Y,F,P,aD):List Int×List Int×Int×Int)=>Z [p 5 (O 9)] [(9,A 2 i64 Y 0),(500000,bx 122 (A5 F P aD))]) (UP) (fun⟨Y,F,P,aD⟩ H=>?_) (fun _ n5 e5 t5=>?_)
  ·refine iA [4]<|j0<|hr H
  refine qD (fun k=>Z (Bc (a.length:Int) [p 43 (B (k.1==0))]) [(500000,K 122 m4 k.2),(9,A 2 i64 g 0)]) H fun k H=>cD H (fun H=>zD (fun f=>Z [p 5 (AV.os 9 1)] [(9,A 2 i64 (g++[(a.length:Int)*f.1]) 1),(49,A 2 i64 [(a.length:Int)*f.1] 0),(500000,K 122 m4 f.2)]) H fun f H=>n5 H) fun H=>vK<|n5 H
 refine qD (fun b=>Z (Bc (a.length:Int) [p 7 (I (1+d.1)),p 8 (I b.1)]) (OP b.2 a n)) H fun b H=>vB<|lX (fun((e,x,aF,W,o):Int×List Int×Int×Int×List Int)=>Z (Bc (a.length:Int) [p 7 (I (1+d.1)),p 8 (I e)]) [(500000,bx 122 (A5 x aF W)),(9,A 2 i64 o 0)]) (b.1,b.2.1,b.2.2.1,b.2.2.2,[]) H fun _ g4 b4 e4 t4 ⟨e,x,aF,W,o⟩ H=>vQ<|iA [0,5,6,7,8,30]<|cD H (fun H=>vK<|fQ<|vQ<|vB<|jB [0,5,6,7,8] H fun H=>fK<|fQ<|zD (fun m=>Z [p 0 (R 500000),p 5 (AV.os 9 1),p 6 (I (a.length:Int)),p 7 (I (1+d.1)),p 8 (I (e+(1+m.1)))] [(500000,K 122 m4 m.2),(9,A 2 i64 (o++[e]) 1),(39,A 2 i64 [e] 0)]) H fun m H=>b4 H) fun H=>vE<|fE<|e4<|fX rfl<|n3 H
def A0I:Unit->Option Bool
 | _ =>
 some false
def A0H(c:List Bool)(b:List l8)(d:Int)(e:Int->Option Bool):Int->Option Bool
 | a =>
 if(decide (a < (b.length:Int))) then
  gd (ix a c.length/\(c.getD a.toNat false=true/\True->ix a b.length)/\((c.getD a.toNat false&&(b.getD a.toNat (b7 y80)).1==d)=true/\True->ix a b.length)/\True) <|
  if(c.getD a.toNat false&&(b.getD a.toNat (b7 y80)).1==d&&(b.getD a.toNat (b7 y80)).2.1==d) then
   some true
  else
   gd (c9 (a+1)/\True) <|
   e (a+1)
 else
  A0I ()
def Mn(a:List l8)(c:List Bool)(b:Int):Option Bool :=
 lp (A0H c a b) 0
def Q0m:Ct:=j9 170 [.dat y80.sl,.dat Ty.bool.sl,.dat i64] (fun x=>Mn x.1 x.2.1 x.2.2.1) (fun r:Bool=>B r) (fun _=>())
theorem O0l:Ok prog Q0m:=by
 refine k6 [.tmp 6] func170 ?_;intro y ⟨b,e,c,_⟩ r H Q hn hr;refine iA [0,1,2]<|jN r (fun(_:Unit)=>Z [] []) (A0I) (fun _ H=>?_) (fun _ d k h=>?_)
 ·refine iA [6]<|j0<|hr H
 refine iA [0,1,2,7]<|vB<|lX (fun(a:Int)=>Z [p 0 (L y80 b),p 1 (L Ty.bool e),p 2 (J c),p 7 (I a)] []) 0 H fun _ j g f i a H=>vQ<|iA [0,1,2,7,11]<|cD H (fun H=>?_) (fun H=>?_)
 ·refine vK<|fQ<|vQ<|vB<|iB [0,1,2,7,35] H fun H=>cD H (fun H=>iA [6]<|j0<|l9<|fR<|i<|l9<|h<|hr H) fun H=>vK<|fK<|fQ<|jB [0,1,2,7] H fun H=>g H
 exact vE<|fE<|f<|fX rfl<|d H
def UQ:List Bool->Option (List Bool)
 | a =>
 some a
def UR(a:Int)(d:Bool×Int×List Bool->Option (List Bool)):List Bool×Bool->Option (List Bool)
 | (b,c) =>
 gd (c9 (a+1)/\True) <|
 d (c,a+1,b)
def PZ(b:Int)(a:List Bool)(f:Bool)(e:List Bool)(g:Bool×Int×List Bool->Option (List Bool)):Int×Int->Option (List Bool)
 | (d,c) =>
 gd (ix b e.length/\(e.getD b.toNat false=true/\True->ix d a.length)/\(e.getD b.toNat false=true/\True->d.toNat<a.length)/\((e.getD b.toNat false&&a.getD d.toNat false)=true/\True->ix c a.length)/\((e.getD b.toNat false&&a.getD d.toNat false)=true/\True->c.toNat<a.length)/\True) <|
 if(e.getD b.toNat false&&a.getD d.toNat false&&!a.getD c.toNat false) then
  gd (ix c a.length/\c.toNat<a.length/\True) <|
  UR b g (a.set c.toNat true,true)
 else
  UR b g (a,f)
def US(f:List Bool)(i:Bool)(e:List l8)(h:Bool×List Bool->Option (List Bool))(g:Bool×Int×List Bool->Option (List Bool)):Bool×Int×List Bool->Option (List Bool)
 | (c,a,d) =>
 if(decide (a < (e.length:Int))) then
  gd (ix a e.length/\ix a e.length/\True)<|lt (e.getD a.toNat (b7 y80)) fun b =>
  if(!i) then
   PZ a d c f g (b.2.1,b.1)
  else
   PZ a d c f g (b.1,b.2.1)
 else
  h (c,d)
def A0J(d:List Bool)(f:Bool)(e:List l8)(c:Bool×List Bool->Option (List Bool)):Bool×List Bool->Option (List Bool)
 | (b,a) =>
 if b then
  lp (US d f e c) (false,0,a)
 else
  UQ a
def Dw(a:Int)(d:List l8)(c:List Bool)(b:Int)(e:Bool):Option (List Bool) :=
 gd ((0<=a/\a=a/\a.toNat*1<=281474976710656/\a<=9223372036854775807)/\True) <|
 gd (ix b (List.replicate a.toNat false).length/\b.toNat < (List.replicate a.toNat false).length/\True) <|
 lp (A0J c e d) ((true,(List.replicate a.toNat false).set b.toNat true))
def Q0n:Ct:=j9 169 [.dat i64,.dat y80.sl,.dat Ty.bool.sl,.dat i64,.dat Ty.bool] (fun x=>Dw x.1 x.2.1 x.2.2.1 x.2.2.2.1 x.2.2.2.2.1) (fun r:List Bool=>AV.ow 4 true Ty.bool r) (fun _=>())
theorem O0m:Ok prog Q0n:=by
 refine k6 [.tmp 10] func169 ?_;intro y ⟨s,l,f,t,n,_⟩ r H Q hn hr;refine iA [0,1,2,3,4]<|iB [1,2,3,4,11] H fun H=>iB [1,2,4,11] H fun H=>jN r (fun(k:List Bool)=>Z [p 11 (O 17)] [(17,A 4 Ty.bool k 0)]) (UQ) (fun k H=>?_) (fun _ w F P=>?_)
 ·refine iA [10]<|j0<|hr H
 refine iA [1,2,4,11,12]<|vB<|lX (fun((j,e):Bool×List Bool)=>Z (KW l f n j []) [(17,A 4 Ty.bool e 0)]) ((true,(List.replicate s.toNat false).set t.toNat true)) H fun _ W z x V ⟨j,e⟩ H=>vQ<|iA [1,2,4,11,21]<|cD H (fun H=>?_) (fun H=>?_)
 ·refine vK<|fQ<|vB<|iA [1,2,4,11,12]<|iA [1,2,4,11,12,13]<|vB<|lX (fun((b,a,c):Bool×Int×List Bool)=>Z (KW l f n b [p 13 (I a)]) [(17,A 4 Ty.bool c 0)]) (false,0,e) H fun _ o u v T ⟨b,a,c⟩ H=>vQ<|iA [1,2,4,11,12,13,25]<|cD H (fun H=>?_) (fun H=>?_)
  ·refine vK<|fQ<|jN r (fun((i,m):List Bool×Bool)=>Z (KW l f n m [p 13 (I a)]) [(17,A 4 Ty.bool i 0)]) (UR a o) (fun⟨i,m⟩ H=>?_) (fun _ n3 X Y=>?_)
   ·refine jB [1,2,4,11,12,13] H fun H=>u H
   refine vB<|qD (fun d=>Z (KW l f n b [p 13 (I a),p 14 (J d.1),p 15 (J d.2.1)]) [(17,A 4 Ty.bool c 0)]) H fun d H=>jN r (fun((h,g):Int×Int)=>Z (KW l f n b [p 13 (I a),p 14 (J h),p 15 (J g)]) [(17,A 4 Ty.bool c 0)]) (PZ a c b f o) (fun⟨h,g⟩ H=>?_) (fun _ q G E=>?_)
   ·refine iB [1,2,4,11,12,13,15,58] H fun H=>cD H (fun H=>iB [1,2,4,11,13] H fun H=>jA [1,2,4,11,12,13]<|fK<|n3 H) fun H=>vK<|fK<|n3 H
   refine iA [1,2,4,11,12,13,14,15,39]<|cD H (fun H=>jA [1,2,4,11,12,13,14,15]<|q H) fun H=>vK<|q H
  exact vE<|fE<|v<|fX rfl<|fK<|z H
 exact vE<|fE<|x<|fX rfl<|w H
def B0r:List (List Int)->Option (List (List Int))
 | a =>
 some a
def Jo(a:Int)(d:Int×List Bool×List (List Int)->Option (List (List Int))):List Bool×List (List Int)->Option (List (List Int))
 | (c,b) =>
 gd (c9 (a+1)/\True) <|
 d (a+1,c,b)
def Mo(c:Int)(b:List (List Int))(g:List l8)(f:List Bool)(e:Int×List Bool×List (List Int)->Option (List (List Int))):List Int×List Bool->Option (List (List Int))
 | (a,d) =>
 gd ((decide (1 < (a.length:Int))=false/\True->(Mn g f c).isSome)/\True) <|
 if(decide (1 < (a.length:Int))||vl (Mn g f c)) then
  gd ((b.length+[a].length<=9223372036854775807/\(b.length+[a].length)*24<=140737488355328)/\True) <|
  Jo c e (d,b++[a])
 else
  Jo c e (d,b)
def UT(a:Int)(d:Int×List Int×List Bool->Option (List (List Int))):List Bool×List Int->Option (List (List Int))
 | (b,c) =>
 gd (c9 (a+1)/\True) <|
 d (a+1,c,b)
def UU(b:List Bool)(e:List Bool)(f:Int)(g:List (List Int))(l:List l8)(k:List Bool)(j:Int)(i:Int×List Bool×List (List Int)->Option (List (List Int)))(h:Int×List Int×List Bool->Option (List (List Int))):Int×List Int×List Bool->Option (List (List Int))
 | (a,d,c) =>
 if(decide (a<j)) then
  gd (ix a b.length/\a.toNat<b.length/\(b.getD a.toNat false=true/\True->ix a e.length)/\(b.getD a.toNat false=true/\True->a.toNat<e.length)/\True) <|
  if(b.getD a.toNat false&&e.getD a.toNat false) then
   gd ((d.length+[a].length<=9223372036854775807/\(d.length+[a].length)*8<=140737488355328)/\True) <|
   gd (ix a c.length/\a.toNat<c.length/\True) <|
   UT a h (c.set a.toNat true,d++[a])
  else
   UT a h (c,d)
 else
  Mo f g l k i (d,c)
def UW(f:List l8)(e:List Bool)(d:Int)(i:Int×List Bool×List (List Int)->Option (List (List Int))):Int×List Bool×List (List Int)->Option (List (List Int))
 | (a,b,c) =>
 if(decide (a<d)) then
  gd (ix a b.length/\a.toNat<b.length/\True) <|
  if(b.getD a.toNat false) then
   Jo a i (b,c)
  else
   gd ((Dw d f e a true).isSome/\(Dw d f e a false).isSome/\True)<|lt ((vl (Dw d f e a false),vl (Dw d f e a true))) fun(g,h) =>
   lp (UU h g a c f e d i) (0,[],b)
 else
  B0r c
def Hn(a:Int)(c:List l8)(b:List Bool):Option (List (List Int)) :=
 gd ((0<=a/\a=a/\a.toNat*1<=281474976710656/\a<=9223372036854775807)/\True) <|
 lp (UW c b a) (0,List.replicate a.toNat false,[])
def R0c:Ct:=j9 122 [.dat i64,.dat y80.sl,.dat Ty.bool.sl] (fun x=>Hn x.1 x.2.1 x.2.2.1) (fun r:List (List Int)=>AV.ow 37 true i64.sl r) (fun _=>())
theorem O0Q:Ok prog R0c:=by
 refine k6 [.tmp 6] func122 ?_;intro y ⟨j,i,e,_⟩ r H Q hn hr;have:=hz (tc O0l (tc O0m tn));refine iA [0,1,2]<|iA [0,1,2,7]<|iB [0,1,2,7,8] H fun H=>jN r (fun(t:List (List Int))=>Z [p 7 (O 14)] [(14,A 37 i64.sl t 0)]) (B0r) (fun t H=>?_) (fun _ G W X=>?_)
 ·refine iA [6]<|j0<|hr H
 refine iA [0,1,2,7,8,9]<|vB<|lX (fun((a,g,b):Int×List Bool×List (List Int))=>Z (AD j i e [p 7 (O 14),p 8 (O 16),p 9 (I a)]) (IP g b)) (0,List.replicate j.toNat false,[]) H fun _ x T P t1 ⟨a,g,b⟩ H=>vQ<|iA [0,1,2,7,8,9,19]<|cD H (fun H=>?_) (fun H=>?_)
 ·refine vK<|fQ<|jN r (fun((s,q):List Bool×List (List Int))=>Z (AD j i e [p 7 (O 14),p 8 (O 16),p 9 (I a)]) (IP s q)) (Jo a x) (fun⟨s,q⟩ H=>?_) (fun _ u e2 t2=>?_)
  ·refine jB [0,1,2,7,8,9] H fun H=>T H
  refine vB<|vQ<|iB [0,1,2,7,8,9,25] H fun H=>cD H (fun H=>vE<|fE<|fX rfl<|u H) fun H=>vK<|fQ<|qD (fun(f,h)=>Z (AD j i e [p 7 (O 14),p 8 (O 16),p 9 (I a),p 10 (O 30),p 11 (O 35)]) ((35,A 4 Ty.bool f 0)::(30,A 4 Ty.bool h 0)::IP g b)) H fun w H=>?_
  obtain⟨f,h⟩:=w;refine iA [0,1,2,7,8,9,10,11,12]<|jN r (fun((d,k):List Int×List Bool)=>Z (AD j i e [p 7 (O 14),p 8 (O 16),p 9 (I a),p 12 (O 36)]) ((36,A 2 i64 d 0)::IP k b)) (Mo a b i e x) (fun⟨d,k⟩ H=>?_) (fun _ n3 e3 t3=>?_)
  ·refine iB [0,1,2,7,8,9,12,67] H fun H=>cD H (fun H=>fZ 36 (Z (AD j i e [p 7 (O 14),p 8 (O 16),p 9 (I a),p 12 (M i64 d),p 67 (B (decide (1 < (d.length:Int))||vl (Mn i e a)))]) (IP k b))<|jB [0,1,2,7,8,9] H fun H=>fK<|u H) fun H=>vK<|fK<|u H
  refine iA [0,1,2,7,8,9,10,11,12,13]<|vB<|lX (fun((c,n,o):Int×List Int×List Bool)=>Z (AD j i e [p 7 (O 14),p 8 (O 16),p 9 (I a),p 10 (O 30),p 11 (O 35),p 12 (O 36),p 13 (I c)]) ((36,A 2 i64 n 0)::(35,A 4 Ty.bool f 0)::(30,A 4 Ty.bool h 0)::IP o b)) (0,[],g) H fun _ F E z V ⟨c,n,o⟩ H=>vQ<|iA [0,1,2,7,8,9,10,11,12,13,39]<|cD H (fun H=>?_) (fun H=>?_)
  ·refine vK<|fQ<|jN r (fun((l,m):List Bool×List Int)=>Z (AD j i e [p 7 (O 14),p 8 (O 16),p 9 (I a),p 10 (O 30),p 11 (O 35),p 12 (O 36),p 13 (I c)]) [(16,A 4 Ty.bool l 0),(36,A 2 i64 m 0),(35,A 4 Ty.bool f 0),(30,A 4 Ty.bool h 0),(14,A 37 i64.sl b 0)]) (UT c F) (fun⟨l,m⟩ H=>?_) (fun _ v e5 Y=>?_)
   ·refine jB [0,1,2,7,8,9,10,11,12,13] H fun H=>E H
   refine vB<|iB [0,1,2,7,8,9,10,11,12,13,51] H fun H=>cD H (fun H=>iB [0,1,2,7,8,9,10,11,12,13] H fun H=>jB [0,1,2,7,8,9,10,11,12,13] H fun H=>fK<|v H) fun H=>vK<|fK<|v H
  exact vE<|fE<|z<|fX rfl<|n3 H
 exact vE<|fE<|P<|fX rfl<|G H
def G0l:List Int->Option (List Int)
 | a =>
 some a
def UX(a:Int)(c:Int×List Int->Option (List Int)):List Int->Option (List Int)
 | b =>
 gd (c9 (a+1)/\True) <|
 c (a+1,b)
def G0i(c:List Bool)(d:Int×List Int->Option (List Int)):Int×List Int->Option (List Int)
 | (a,b) =>
 if(decide (a < (c.length:Int))) then
  gd (ix a c.length/\a.toNat<c.length/\True) <|
  if(!c.getD a.toNat false) then
   gd ((b.length+[a].length<=9223372036854775807/\(b.length+[a].length)*8<=140737488355328)/\True) <|
   UX a d (b++[a])
  else
   UX a d b
 else
  G0l b
def Mp:List Bool->Option (List Int)
 | a =>
 lp (G0i a) (0,[])
def Mq(b:List Bool)(c:List Bool->Option (List Int)):Int->Option (List Int)
 | a =>
 gd (ix a b.length/\a.toNat<b.length/\True) <|
 c (b.set a.toNat false)
def Qa(a:Int)(c:Int×Int->Option (List Int)):Int->Option (List Int)
 | b =>
 gd (c9 (a+1)/\True) <|
 c (b,a+1)
def G0j(d:List Bool)(b:List l8)(c:List (List Int))(g:List Bool->Option (List Int))(f:Int×Int->Option (List Int)):Int×Int->Option (List Int)
 | (e,a) =>
 if(decide (a < (b.length:Int))) then
  gd (ix a d.length/\a.toNat<d.length/\(d.getD a.toNat false=true/\True->ix a b.length)/\(d.getD a.toNat false=true/\True->a.toNat<b.length)/\((d.getD a.toNat false&&(b.getD a.toNat (b7 y80)).2.2.1==(1:Int))=true/\True->ix (0:Int) c.length)/\((d.getD a.toNat false&&(b.getD a.toNat (b7 y80)).2.2.1==(1:Int))=true/\True->Int.toNat (0:Int)<c.length)/\((d.getD a.toNat false&&(b.getD a.toNat (b7 y80)).2.2.1==(1:Int))=true/\True->ix a b.length)/\((d.getD a.toNat false&&(b.getD a.toNat (b7 y80)).2.2.1==(1:Int))=true/\True->a.toNat<b.length)/\((d.getD a.toNat false&&(b.getD a.toNat (b7 y80)).2.2.1==(1:Int))=true/\True->(U6 (c.getD (Int.toNat (0:Int)) []) (b.getD a.toNat (b7 y80)).1).isSome)/\((d.getD a.toNat false&&(b.getD a.toNat (b7 y80)).2.2.1==(1:Int)&&vl (U6 (c.getD (Int.toNat (0:Int)) []) (b.getD a.toNat (b7 y80)).1))=true/\True->ix (0:Int) c.length)/\((d.getD a.toNat false&&(b.getD a.toNat (b7 y80)).2.2.1==(1:Int)&&vl (U6 (c.getD (Int.toNat (0:Int)) []) (b.getD a.toNat (b7 y80)).1))=true/\True->Int.toNat (0:Int)<c.length)/\((d.getD a.toNat false&&(b.getD a.toNat (b7 y80)).2.2.1==(1:Int)&&vl (U6 (c.getD (Int.toNat (0:Int)) []) (b.getD a.toNat (b7 y80)).1))=true/\True->ix a b.length)/\((d.getD a.toNat false&&(b.getD a.toNat (b7 y80)).2.2.1==(1:Int)&&vl (U6 (c.getD (Int.toNat (0:Int)) []) (b.getD a.toNat (b7 y80)).1))=true/\True->a.toNat<b.length)/\((d.getD a.toNat false&&(b.getD a.toNat (b7 y80)).2.2.1==(1:Int)&&vl (U6 (c.getD (Int.toNat (0:Int)) []) (b.getD a.toNat (b7 y80)).1))=true/\True->(U6 (c.getD (Int.toNat (0:Int)) []) (b.getD a.toNat (b7 y80)).2.1).isSome)/\True) <|
  if(d.getD a.toNat false&&(b.getD a.toNat (b7 y80)).2.2.1==(1:Int)&&vl (U6 (c.getD (Int.toNat (0:Int)) []) (b.getD a.toNat (b7 y80)).1)&&vl (U6 (c.getD (Int.toNat (0:Int)) []) (b.getD a.toNat (b7 y80)).2.1)) then
   Qa a f a
  else
   Qa a f e
 else
  Mq d g e
def G0k(c:List l8)(d:Int)(e:List Bool->Option (List Int)):List Bool->Option (List Int)
 | b =>
 gd ((Hn d c b).isSome/\True)<|lt (vl (Hn d c b)) fun a =>
 if((a.length:Int)==0) then
  Mp b
 else
  lp (G0j b c a e) (-1,0)
def FD(a:j7):Option (List Int) :=
 gd ((u32 a).isSome/\True)<|lt (vl (u32 a)) fun b =>
 gd ((Bg b []).isSome/\True)<|lt (vl (Bg b [])) fun c =>
 gd ((U5 a).isSome/\True)<|lt (vl (U5 a)) fun d =>
 lp (G0k b d) c
def k63:Ct:=j9 63 [.agg k8] (fun x=>FD x.1) (fun r:List Int=>AV.ow 2 true i64 r) (fun _=>())
theorem o63:Ok prog k63:=by
 refine k6 [.tmp 2] func63 ?_;intro y ⟨o,_⟩ r H Q hn hr;have:=hz (tc ZI (tc O0Q (tc Lc (tc TR (tc Lf tn)))));refine iA [1]<|qD (fun a=>Z [p 1 (R 1),p 3 (O 12)] (GO a o)) H fun a H=>qD (fun n=>Z [p 1 (R 1),p 3 (O 12),p 4 (O 15)] ((15,A 4 Ty.bool n 0)::(14,A 2 i64 [] 0)::GO a o)) H fun n H=>qD (fun f=>Z [p 3 (O 12),p 4 (O 15),p 5 (I f)] ((15,A 4 Ty.bool n 0)::(14,A 2 i64 [] 0)::GO a o)) H fun f H=>jN r (fun(c:List Bool)=>Z [p 4 (O 15)] [(15,A 4 Ty.bool c 0)]) (Mp) (fun c H=>?_) (fun _ G X t0=>?_)
 ·refine iA [4,9]<|jN r (fun(h:List Int)=>Z [p 9 (O 69)] [(69,A 2 i64 h 0)]) (G0l) (fun h H=>?_) (fun _ u e5 t5=>?_)
  ·refine iA [2]<|j0<|hr H
  refine iA [4,9,10]<|vB<|lX (fun((e,l):Int×List Int)=>Z [p 4 (O 15),p 9 (O 69),p 10 (I e)] [(69,A 2 i64 l 0),(15,A 4 Ty.bool c 0)]) (0,[]) H fun _ w z v t6 ⟨e,l⟩ H=>vQ<|iA [4,9,10,73]<|cD H (fun H=>?_) (fun H=>?_)
  ·refine vK<|fQ<|jN r (fun(k:List Int)=>Z [p 4 (O 15),p 9 (O 69),p 10 (I e)] [(69,A 2 i64 k 0),(15,A 4 Ty.bool c 0)]) (UX e w) (fun k H=>?_) (fun _ q e7 t7=>?_)
   ·refine jB [4,9,10] H fun H=>z H
   refine vB<|iB [4,9,10,80] H fun H=>cD H (fun H=>jB [4,9,10] H fun H=>fK<|q H) fun H=>vK<|fK<|q H
  exact vE<|fE<|v<|fX rfl<|u H
 refine vB<|lX (fun(g:List Bool)=>Z [p 3 (O 12),p 4 (O 15),p 5 (I f)] [(15,A 4 Ty.bool g 0),(12,A 80 y80 a 0)]) n H fun _ x V T t1 g H=>vB<|qD (fun b=>Z [p 3 (O 12),p 4 (O 15),p 5 (I f),p 6 (O 21)] [(21,A 37 i64.sl b 0),(15,A 4 Ty.bool g 0),(12,A 80 y80 a 0)]) H fun b H=>vQ<|iA [3,4,5,6,24]<|cD H (fun H=>vE<|fE<|n0o rfl<|T<|fX rfl<|G H) fun H=>vK<|fQ<|iA [3,4,5,6,7]<|jN r (fun(m:Int)=>Z [p 3 (O 12),p 4 (O 15),p 5 (I f),p 7 (I m)] [(15,A 4 Ty.bool g 0),(12,A 80 y80 a 0)]) (Mq g x) (fun m H=>?_) (fun _ P e2 t2=>?_)
 ·refine jB [3,4,5] H fun H=>fK<|V H
 refine iA [3,4,5,6,7,8]<|vB<|lX (fun((j,d):Int×Int)=>Z [p 3 (O 12),p 4 (O 15),p 5 (I f),p 6 (O 21),p 7 (I j),p 8 (I d)] [(21,A 37 i64.sl b 0),(15,A 4 Ty.bool g 0),(12,A 80 y80 a 0)]) (-1,0) H fun _ t F E t3 ⟨j,d⟩ H=>vQ<|iA [3,4,5,6,7,8,28]<|cD H (fun H=>?_) (fun H=>?_)
 ·refine vK<|fQ<|jN r (fun(i:Int)=>Z [p 3 (O 12),p 4 (O 15),p 5 (I f),p 6 (O 21),p 7 (I i),p 8 (I d)] [(21,A 37 i64.sl b 0),(15,A 4 Ty.bool g 0),(12,A 80 y80 a 0)]) (Qa d t) (fun i H=>?_) (fun _ s Y W=>?_)
  ·refine jB [3,4,5,6,7,8] H fun H=>F H
  refine vB<|iB [3,4,5,6,7,8,64] H fun H=>cD H (fun H=>jA [3,4,5,6,7,8]<|fK<|s H) fun H=>vK<|fK<|s H
 exact vE<|fE<|E<|fX rfl<|P H
def Dx(a:C6)(b:List Int):Option Bool :=
 gd ((Hk a.2.2.1).isSome/\c9 (vl (Hk a.2.2.1)-1)/\(I0 b 0 (vl (Hk a.2.2.1)-1)).isSome/\(vl (I0 b 0 (vl (Hk a.2.2.1)-1))=true/\True->(CD b).isSome)/\True) <|
 some (vl (I0 b 0 (vl (Hk a.2.2.1)-1))&&vl (CD b))
def k65:Ct:=j9 65 [.dat y157.pt,.dat i64.sl] (fun x=>Dx x.1 x.2.1) (fun r:Bool=>B r) (fun _=>())
theorem o65:Ok prog k65:=by
 refine k6 [.tmp 4] func65 ?_;intro y ⟨_,_,_⟩ r H Q hn hr;have:=hz (tc M0h (tc LN (tc O0V tn)));refine iA [0,1]<|iB [4] H fun H=>j0<|hr H
def G0f:Unit->Option Bool
 | _ =>
 some true
def G0e(c:C6)(d:List m6)(e:Int->Option Bool):Int->Option Bool
 | b =>
 if(decide (b < (d.length:Int))) then
  gd (ix b d.length/\True)<|lt (d.getD b.toNat (b7 y53)) fun a =>
  gd ((Y4 c a.1).isSome/\((!vl (Y4 c a.1))=false/\True->(K5 a.2.1).isSome)/\((!vl (Y4 c a.1)||!vl (K5 a.2.1))=false/\True->(Bh a.2.2).isSome)/\(decide (0<b)=true/\(!vl (Y4 c a.1)||!vl (K5 a.2.1)||!vl (Bh a.2.2))=false/\True->c9 (b-1))/\(decide (0<b)=true/\(!vl (Y4 c a.1)||!vl (K5 a.2.1)||!vl (Bh a.2.2))=false/\True->ix (b-1) d.length)/\True) <|
  if(!vl (Y4 c a.1)||!vl (K5 a.2.1)||!vl (Bh a.2.2)||decide (0<b)&&decide (a.1<=(d.getD (b-1).toNat (b7 y53)).1)) then
   some false
  else
   gd (c9 (b+1)/\True) <|
   e (b+1)
 else
  G0f ()
def Ho(a:C6)(b:List m6):Option Bool :=
 lp (G0e a b) 0
def k66:Ct:=j9 66 [.dat y157.pt,.dat y53.sl] (fun x=>Ho x.1 x.2.1) (fun r:Bool=>B r) (fun _=>())
theorem o66:Ok prog k66:=by
 refine k6 [.tmp 4] func66 ?_;intro y ⟨c,a,_⟩ r H Q hn hr;have:=hz (tc o56 (tc LC (tc o41 tn)));refine iA [0,1]<|jN r (fun(_:Unit)=>Z [] []) (G0f) (fun _ H=>?_) (fun _ e k h=>?_)
 ·refine iA [4]<|j0<|hr H
 refine iA [0,1,7,8,9]<|vB<|lX (fun(b:Int)=>Z [p 0 (D y157.pt c),p 1 (L y53 a),p 7 (L y53 a),p 8 (I (a.length:Int)),p 9 (I b)] []) 0 H fun _ j g f i b H=>iA [0,1,7,8,9,10]<|vQ<|cD H (fun H=>?_) (fun H=>?_)
 ·refine vK<|fQ<|vQ<|vB<|qD (fun d=>Z [p 0 (D y157.pt c),p 1 (L y53 a),p 5 (I b),p 6 (R 6),p 7 (L y53 a),p 8 (I (a.length:Int)),p 9 (I b)] [(6,K 53 y53 d)]) H fun d H=>iB [0,1,7,8,9,45] H fun H=>cD H (fun H=>iA [4]<|j0<|l9<|fR<|i<|l9<|h<|hr H) fun H=>vK<|fK<|fQ<|jB [0,1,7,8,9] H fun H=>g H
 exact vE<|fE<|f<|fX rfl<|e H
def G0d(a:C6):List Bool->Option F4
 | b =>
 some (a,b)
def G0b(b:List Int)(d:C6)(e:Int×List Bool->Option F4):Int×List Bool->Option F4
 | (a,c) =>
 if(decide (a < (b.length:Int))) then
  gd (ix a b.length/\True) <|
  gd (ix (b.getD a.toNat 0) c.length/\Int.toNat (b.getD a.toNat 0)<c.length/\True) <|
  gd (c9 (a+1)/\True) <|
  e ((a+1,c.set (Int.toNat (b.getD a.toNat 0)) false))
 else
  G0d d c
def Mr(c:List Int)(b:C6):List Bool->Option F4
 | a =>
 lp (G0b c b) (0,a)
def G0c(f:List Int)(d:C6)(e:Int)(c:Int×List Bool->Option F4):Int×List Bool->Option F4
 | (a,b) =>
 if(decide (a<e)) then
  gd (ix a b.length/\a.toNat<b.length/\True) <|
  gd (c9 (a+1)/\True) <|
  c (a+1,b.set a.toNat true)
 else
  Mr f d b
def Hp(a:C6)(c:List Int):Option F4 :=
 gd ((0<=(a.2.2.1.length:Int)/\(a.2.2.1.length:Int)=(a.2.2.1.length:Int)/\(a.2.2.1.length:Int).toNat*1<=281474976710656/\(a.2.2.1.length:Int)<=9223372036854775807)/\True) <|
 lt ((↑(List.replicate (a.2.2.1.length:Int).toNat false).length:Int)) fun b =>
 lp (G0c c a b) ((0,List.replicate (a.2.2.1.length:Int).toNat false))
def k67:Ct:=j9 67 [.dat y157.pt,.dat i64.sl] (fun x=>Hp x.1 x.2.1) (fun r:F4=>D y104.pt r) (fun _=>())
theorem o67:Ok prog k67:=by
 refine k6 [.tmp 4] func67 ?_;intro y ⟨a,b,_⟩ r H Q hn hr;refine iA [0,1]<|iB [1,5] H fun H=>jN r (fun(d:List Bool)=>Z [p 1 (L i64 b),p 5 (R 17)] (KT a d)) (Mr b a) (fun d H=>?_) (fun _ l s t=>?_)
 ·refine jN r (fun(i:List Bool)=>Z [p 5 (R 17)] (KT a i)) (G0d a) (fun i H=>?_) (fun _ m x u=>?_)
  ·refine iA [4]<|j0<|hr H
  refine iA [5,33,34,35]<|vB<|lX (fun((h,g):Int×List Bool)=>Z [p 5 (R 17),p 33 (L i64 b),p 34 (I (b.length:Int)),p 35 (I h)] (KT a g)) (0,d) H fun _ q k j z ⟨h,g⟩ H=>iA [5,33,34,35,36]<|vQ<|cD H (fun H=>vK<|fQ<|vQ<|vB<|iB [5,8,33,34,35] H fun H=>jB [5,33,34,35] H fun H=>fK<|fQ<|jB [5,33,34,35] H fun H=>k H) fun H=>vE<|fE<|j<|fX rfl<|m H
 refine qC (fun c=>Z [p 1 (L i64 b),p 5 (R 17),p 22 (I c),p 23 (I 0)] (KT a (List.replicate (a.2.2.1.length:Int).toNat false))) H fun c H=>vB<|lX (fun((f,e):Int×List Bool)=>Z [p 1 (L i64 b),p 5 (R 17),p 22 (I c),p 23 (I f)] (KT a e)) ((0,List.replicate (a.2.2.1.length:Int).toNat false)) H fun _ w o n v ⟨f,e⟩ H=>iA [1,5,22,23,24]<|vQ<|cD H (fun H=>vK<|fQ<|vQ<|vB<|iA [1,5,6,22,23]<|jB [1,5,22,23] H fun H=>fK<|fQ<|jB [1,5,22,23] H fun H=>o H) fun H=>vE<|fE<|n<|fX rfl<|l H
def UY(a:l8)(b:Int):Option Bool :=
 some (a.1==b)
def Q0k:Ct:=j9 173 [.agg y80,.dat (.pt i64)] (fun x=>UY x.1 x.2.1) (fun r:Bool=>B r) (fun _=>())
theorem M0a:Ok prog Q0k:=by
 refine k6 [.tmp 3] func173 ?_;intro y ⟨_,_,_⟩ r H Q hn hr;refine iA [1,2]<|iA [3]<|j0<|hr H
def j0V:List Int->Option (List Int)
 | a =>
 some a
def UZ(a:Int)(b:List Int×Int->Option (List Int)):List Int->Option (List Int)
 | c =>
 gd (c9 (a+1)/\True) <|
 b (c,a+1)
def j0U(b:F4)(f:Int)(d:List Int×Int->Option (List Int)):List Int×Int->Option (List Int)
 | (c,a) =>
 if(decide (a < (b.1.2.2.1.length:Int))) then
  gd (ix a b.1.2.2.1.length/\True)<|lt (b.1.2.2.1.getD a.toNat (b7 y80)) fun e =>
  gd (ix a b.2.length/\(b.2.getD a.toNat false=true/\True->(UY e f).isSome)/\True) <|
  if(b.2.getD a.toNat false&&vl (UY e f)) then
   gd ((c.length+[a].length<=9223372036854775807/\(c.length+[a].length)*8<=140737488355328)/\True) <|
   UZ a d (c++[a])
  else
   UZ a d c
 else
  j0V c
def Qb(a:F4)(b:Int):Option (List Int) :=
 lp (j0U a b) ([],0)
def z0j:Ct:=j9 125 [.dat y104.pt,.fn 173 (.pt i64)] (fun x=>Qb x.1 x.2.1) (fun r:List Int=>AV.ow 2 true i64 r) (fun _=>())
theorem Va:Ok prog z0j:=by
 refine k6 [.tmp 4] func125 ?_;intro y ⟨a,d,_⟩ r H Q hn hr;have:=hz (tc M0a tn);refine iA [0,1]<|iA [0,1,5]<|jN r (fun(f:List Int)=>Z [p 5 (O 36)] [(36,A 2 i64 f 0)]) (j0V) (fun f H=>?_) (fun _ j n q=>?_)
 ·refine iA [4]<|j0<|hr H
 refine iA [0,1,5,14,15,16]<|vB<|lX (fun((c,b):List Int×Int)=>Z [p 0 (D y104.pt a),p 1 (AV.fn 173 [D i64.pt d]),p 5 (O 36),p 14 (L y80 a.1.2.2.1),p 15 (I (a.1.2.2.1.length:Int)),p 16 (I b)] [(36,A 2 i64 c 0)]) ([],0) H fun _ i l k s ⟨c,b⟩ H=>iA [0,1,5,14,15,16,17]<|vQ<|cD H (fun H=>?_) (fun H=>?_)
 ·refine vK<|fQ<|jN r (fun(e:List Int)=>Z [p 0 (D y104.pt a),p 1 (AV.fn 173 [D i64.pt d]),p 5 (O 36),p 14 (L y80 a.1.2.2.1),p 15 (I (a.1.2.2.1.length:Int)),p 16 (I b)] [(36,A 2 i64 e 0)]) (UZ b i) (fun e H=>?_) (fun _ g m o=>?_)
  ·refine jB [0,1,5,14,15,16] H fun H=>l H
  refine vB<|qD (fun h=>Z [p 0 (D y104.pt a),p 1 (AV.fn 173 [D i64.pt d]),p 5 (O 36),p 6 (I b),p 7 (R 7),p 14 (L y80 a.1.2.2.1),p 15 (I (a.1.2.2.1.length:Int)),p 16 (I b)] [(7,K 80 y80 h),(36,A 2 i64 c 0)]) H fun h H=>iB [0,1,5,6,14,15,16,32] H fun H=>cD H (fun H=>jB [0,1,5,14,15,16] H fun H=>fK<|g H) fun H=>vK<|fK<|g H
 exact vE<|fE<|k<|fX rfl<|j H
def Hq(a:F4)(b:Int):Option (List Int) :=
 gd ((Qb a b).isSome/\True)<|lt (vl (Qb a b)) fun c =>
 some c
def Q0X:Ct:=j9 128 [.dat y104.pt,.dat i64] (fun x=>Hq x.1 x.2.1) (fun r:List Int=>AV.ow 2 true i64 r) (fun _=>())
theorem O0O:Ok prog Q0X:=by
 refine k6 [.tmp 4] func128 ?_;intro y ⟨_,b,_⟩ r H Q hn hr;have:=hz (tc Va (tc M0a tn));refine iA [0,3]<|qD (fun a=>Z [p 4 (O 7)] [(7,A 2 i64 a 0),(3,bx 2 [J b])]) H fun a H=>j0<|hr H
def B0o:Unit->Option Int
 | _ =>
 some (-1)
def B0n(d:Int)(b:List Int)(c:Int->Option Int):Int->Option Int
 | a =>
 if(decide (a < (b.length:Int))) then
  gd (ix a b.length/\True) <|
  if(d==b.getD a.toNat 0) then
   some a
  else
   gd (c9 (a+1)/\True) <|
   c (a+1)
 else
  B0o ()
def Qc(a:List Int)(b:Int):Option Int :=
 lp (B0n b a) 0
def Q0Y:Ct:=j9 127 [.dat i64.sl,.dat i64] (fun x=>Qc x.1 x.2.1) (fun r:Int=>I r) (fun _=>())
theorem O0P:Ok prog Q0Y:=by
 refine k6 [.tmp 4] func127 ?_;intro y ⟨a,d,_⟩ r H Q hn hr;refine iA [0,1]<|jN r (fun(_:Unit)=>Z [] []) (B0o) (fun _ H=>?_) (fun _ c j g=>?_)
 ·refine iA [4]<|j0<|hr H
 refine iA [0,1,7,8]<|vB<|lX (fun(b:Int)=>Z [p 0 (L i64 a),p 1 (J d),p 7 (I (a.length:Int)),p 8 (I b)] []) 0 H fun _ i f e h b H=>iA [0,1,7,8,9]<|vQ<|cD H (fun H=>?_) (fun H=>?_)
 ·refine vK<|fQ<|vQ<|vB<|iA [0,1,5,7,8]<|iB [0,1,5,7,8,16] H fun H=>cD H (fun H=>iA [4]<|j0<|l9<|fR<|h<|l9<|g<|hr H) fun H=>vK<|fK<|fQ<|jB [0,1,7,8] H fun H=>f H
 exact vE<|fE<|e<|fX rfl<|c H
def Vb(a:l8):Option Bool :=
 some true
def Q0Z:Ct:=j9 126 [.agg y80] (fun x=>Vb x.1) (fun r:Bool=>B r) (fun _=>())
theorem M0g:Ok prog Q0Z:=by
 refine k6 [.tmp 2] func126 ?_;intro y ⟨_,_⟩ r H Q hn hr;refine iA []<|iA [2]<|j0<|hr H
def j0Z:List Int->Option (List Int)
 | a =>
 some a
def Vc(a:Int)(b:List Int×Int->Option (List Int)):List Int->Option (List Int)
 | c =>
 gd (c9 (a+1)/\True) <|
 b (c,a+1)
def j0Y(b:F4)(d:List Int×Int->Option (List Int)):List Int×Int->Option (List Int)
 | (c,a) =>
 if(decide (a < (b.1.2.2.1.length:Int))) then
  gd (ix a b.1.2.2.1.length/\True)<|lt (b.1.2.2.1.getD a.toNat (b7 y80)) fun e =>
  gd (ix a b.2.length/\(b.2.getD a.toNat false=true/\True->(Vb e).isSome)/\True) <|
  if(b.2.getD a.toNat false&&vl (Vb e)) then
   gd ((c.length+[a].length<=9223372036854775807/\(c.length+[a].length)*8<=140737488355328)/\True) <|
   Vc a d (c++[a])
  else
   Vc a d c
 else
  j0Z c
def Qd(a:F4):Option (List Int) :=
 lp (j0Y a) ([],0)
def z0l:Ct:=j9 125 [.dat y104.pt,.nof 126] (fun x=>Qd x.1) (fun r:List Int=>AV.ow 2 true i64 r) (fun _=>())
theorem q0t:Ok prog z0l:=by
 refine k6 [.tmp 4] func125 ?_;intro y ⟨a,_,_⟩ r H Q hn hr;have:=hz (tc M0g tn);refine iA [0,1]<|iA [0,1,5]<|jN r (fun(e:List Int)=>Z [p 5 (O 36)] [(36,A 2 i64 e 0)]) (j0Z) (fun e H=>?_) (fun _ i m o=>?_)
 ·refine iA [4]<|j0<|hr H
 refine iA [0,1,5,14,15,16]<|vB<|lX (fun((c,b):List Int×Int)=>Z [p 0 (D y104.pt a),p 1 (AV.fn 126 []),p 5 (O 36),p 14 (L y80 a.1.2.2.1),p 15 (I (a.1.2.2.1.length:Int)),p 16 (I b)] [(36,A 2 i64 c 0)]) ([],0) H fun _ h k j q ⟨c,b⟩ H=>iA [0,1,5,14,15,16,17]<|vQ<|cD H (fun H=>?_) (fun H=>?_)
 ·refine vK<|fQ<|jN r (fun(d:List Int)=>Z [p 0 (D y104.pt a),p 1 (AV.fn 126 []),p 5 (O 36),p 14 (L y80 a.1.2.2.1),p 15 (I (a.1.2.2.1.length:Int)),p 16 (I b)] [(36,A 2 i64 d 0)]) (Vc b h) (fun d H=>?_) (fun _ f l n=>?_)
  ·refine jB [0,1,5,14,15,16] H fun H=>k H
  refine vB<|qD (fun g=>Z [p 0 (D y104.pt a),p 1 (AV.fn 126 []),p 5 (O 36),p 6 (I b),p 7 (R 7),p 14 (L y80 a.1.2.2.1),p 15 (I (a.1.2.2.1.length:Int)),p 16 (I b)] [(7,K 80 y80 g),(36,A 2 i64 c 0)]) H fun g H=>iB [0,1,5,6,14,15,16,32] H fun H=>cD H (fun H=>jB [0,1,5,14,15,16] H fun H=>fK<|f H) fun H=>vK<|fK<|f H
 exact vE<|fE<|j<|fX rfl<|i H
def G0a:List Int->Option (List Int×Bool)
 | a =>
 some (a,true)
def Qe(a:Int)(d:List Int×Int×List Int->Option (List Int×Bool)):List Int×List Int->Option (List Int×Bool)
 | (b,c) =>
 gd (c9 (a+1)/\True) <|
 d (b,a+1,c)
def Qf(d:F4)(b:List Int)(h:Int)(e:List Int)(f:Int)(i:List Int×Int×List Int->Option (List Int×Bool))(j:Int×List Int->Option (List Int×Bool)):Int×List Int->Option (List Int×Bool)
 | (a,c) =>
 if(decide (a < (b.length:Int))) then
  gd (ix a b.length/\a.toNat<b.length/\True) <|
  gd (ix (b.getD a.toNat 0) d.1.2.2.1.length/\ix (d.1.2.2.1.getD (Int.toNat (b.getD a.toNat 0)) (b7 y80)).2.1 c.length/\(d.1.2.2.1.getD (Int.toNat (b.getD a.toNat 0)) (b7 y80)).2.1.toNat<c.length/\c9 (c.getD (d.1.2.2.1.getD (Int.toNat (b.getD a.toNat 0)) (b7 y80)).2.1.toNat 0-1)/\ix (d.1.2.2.1.getD (Int.toNat (b.getD a.toNat 0)) (b7 y80)).2.1 c.length/\(d.1.2.2.1.getD (Int.toNat (b.getD a.toNat 0)) (b7 y80)).2.1.toNat<c.length/\True)<|lt (c.set (d.1.2.2.1.getD (Int.toNat (b.getD a.toNat 0)) (b7 y80)).2.1.toNat (c.getD (d.1.2.2.1.getD (Int.toNat (b.getD a.toNat 0)) (b7 y80)).2.1.toNat 0-1)) fun g =>
  gd (c9 (a+1)/\True) <|
  j (a+1,g)
 else
  Qe h i (e++[f],c)
def F0Z(f:F4)(h:List Int)(g:List Int×Int×List Int->Option (List Int×Bool)):List Int×Int×List Int->Option (List Int×Bool)
 | (c,d,b) =>
 if(decide (d < (h.length:Int))) then
  gd ((Qc b 0).isSome/\True)<|lt (vl (Qc b 0)) fun a =>
  if(decide (a<0)) then
   some ([],false)
  else
   gd (ix a b.length/\a.toNat<b.length/\True) <|
   gd ((c.length+[a].length<=9223372036854775807/\(c.length+[a].length)*8<=140737488355328)/\True) <|
   gd ((Hq f a).isSome/\True)<|lt (vl (Hq f a)) fun e =>
   lp (Qf f e d c a g) ((0,b.set a.toNat (-1)))
 else
  G0a c
def Ms(b:F4):List Int->Option (List Int×Bool)
 | a =>
 lp (F0Z b a) ([],0,a)
def Vd(c:F4)(b:List Int)(e:Int×List Int->Option (List Int×Bool)):Int×List Int->Option (List Int×Bool)
 | (a,d) =>
 if(decide (a < (b.length:Int))) then
  gd (ix a b.length/\a.toNat<b.length/\True) <|
  gd (ix (b.getD a.toNat 0) c.1.2.2.1.length/\ix (c.1.2.2.1.getD (Int.toNat (b.getD a.toNat 0)) (b7 y80)).2.1 d.length/\(c.1.2.2.1.getD (Int.toNat (b.getD a.toNat 0)) (b7 y80)).2.1.toNat<d.length/\c9 (d.getD (c.1.2.2.1.getD (Int.toNat (b.getD a.toNat 0)) (b7 y80)).2.1.toNat 0+1)/\ix (c.1.2.2.1.getD (Int.toNat (b.getD a.toNat 0)) (b7 y80)).2.1 d.length/\(c.1.2.2.1.getD (Int.toNat (b.getD a.toNat 0)) (b7 y80)).2.1.toNat<d.length/\True)<|lt (d.set (c.1.2.2.1.getD (Int.toNat (b.getD a.toNat 0)) (b7 y80)).2.1.toNat (d.getD (c.1.2.2.1.getD (Int.toNat (b.getD a.toNat 0)) (b7 y80)).2.1.toNat 0+1)) fun f =>
  gd (c9 (a+1)/\True) <|
  e (a+1,f)
 else
  Ms c d
def Hr(a:F4):Option (List Int×Bool) :=
 gd ((O7 a.1).isSome/\(0<=vl (O7 a.1)/\vl (O7 a.1)=vl (O7 a.1)/\(vl (O7 a.1)).toNat*8<=281474976710656/\vl (O7 a.1)<=9223372036854775807)/\True)<|lt (vl (O7 a.1)) fun c =>
 gd ((Qd a).isSome/\True)<|lt (vl (Qd a)) fun b =>
 lp (Vd a b) (0,List.replicate c.toNat 0)
def k68:Ct:=j9 68 [.dat y104.pt] (fun x=>Hr x.1) (fun r:List Int×Bool=>AV.tup [AV.ow 2 true i64 r.1,B r.2]) (fun _=>())
theorem o68:Ok prog k68:=by
 refine k6 [.tmp 2,.tmp 3] func68 ?_;intro y ⟨e,_⟩ r H Q hn hr;have:=hz (tc O0O (tc O0P (tc M0g (tc Va (tc q0t (tc Pq tn))))));refine iA [0]<|qD (fun o=>Z (BJ e []) [(16,A 3 i64 (List.replicate o.toNat 0) 0)]) H fun o H=>jN r (fun(g:List Int)=>Z (BJ e []) [(16,A 3 i64 g 0)]) (Ms e) (fun g H=>?_) (fun _ P Y t0=>?_)
 ·refine iA [0,4,7]<|jN r (fun(k:List Int)=>Z [p 7 (O 55)] [(55,A 2 i64 k 0)]) (G0a) (fun k H=>?_) (fun _ T e2 w=>?_)
  ·refine iA [2,3]<|j0<|hr H
  refine iA [0,4,7,42,43]<|vB<|lX (fun((d,a,f):List Int×Int×List Int)=>Z (BJ e [p 7 (O 55),p 42 (I (g.length:Int)),p 43 (I a)]) [(16,A 3 i64 f 0),(55,A 2 i64 d 0)]) ([],0,g) H fun _ u F E V ⟨d,a,f⟩ H=>iA [0,4,7,42,43,44]<|vQ<|cD H (fun H=>?_) (fun H=>?_)
  ·refine vK<|fQ<|jN r (fun((j,l):List Int×List Int)=>Z (BJ e [p 7 (O 55),p 42 (I (g.length:Int)),p 43 (I a)]) [(55,A 2 i64 j 0),(16,A 3 i64 l 0)]) (Qe a u) (fun⟨j,l⟩ H=>?_) (fun _ G e4 v=>?_)
   ·refine jB [0,4,7,42,43] H fun H=>F H
   refine vB<|qD (fun b=>Z (BJ e [p 7 (O 55),p 8 (I b),p 42 (I (g.length:Int)),p 43 (I a)]) [(16,A 3 i64 f 0),(55,A 2 i64 d 0)]) H fun b H=>vQ<|iA [0,4,7,8,42,43,48]<|cD H (fun H=>iA [2,3]<|j0<|fR<|l9<|v<|V<|l9<|w<|hr H) fun H=>vK<|fQ<|iB [0,4,7,8,42,43] H fun H=>iB [0,4,7,8,42,43] H fun H=>qD (fun c=>Z (BJ e [p 7 (AV.os 55 1),p 42 (I (g.length:Int)),p 43 (I a),p 58 (O 58),p 59 (I (c.length:Int)),p 60 (I 0)]) [(58,A 2 i64 c 0),(55,A 2 i64 (d++[b]) 1),(54,A 2 i64 [b] 0),(16,A 3 i64 (f.set b.toNat (-1)) 0)]) H fun c H=>vB<|lX (fun((h,m):Int×List Int)=>Z (BJ e [p 7 (O 55),p 42 (I (g.length:Int)),p 43 (I a),p 58 (O 58),p 59 (I (c.length:Int)),p 60 (I h)]) [(58,A 2 i64 c 0),(55,A 2 i64 (d++[b]) 0),(16,A 3 i64 m 0)]) ((0,f.set b.toNat (-1))) H fun _ g5 z x t5 ⟨h,m⟩ H=>iA [0,4,7,42,43,58,59,60,61]<|vQ<|cD H (fun H=>vK<|fQ<|vQ<|vB<|iB [0,4,7,10,42,43,58,59,60] H fun H=>zD (fun n=>Z (BJ e [p 7 (O 55),p 42 (I (g.length:Int)),p 43 (I a),p 58 (O 58),p 59 (I (c.length:Int)),p 60 (I h)]) [(16,A 3 i64 n 0),(58,A 2 i64 c 0),(55,A 2 i64 (d++[b]) 0)]) H fun n H=>fK<|fQ<|jB [0,4,7,42,43,58,59,60] H fun H=>z H) fun H=>vE<|fE<|x<|fX rfl<|fK<|G H
  exact vE<|fE<|E<|fX rfl<|T H
 refine qD (fun i=>Z (BJ e [p 18 (O 18),p 19 (I (i.length:Int)),p 20 (I 0)]) [(18,A 2 i64 i 0),(16,A 3 i64 (List.replicate o.toNat 0) 0)]) H fun i H=>vB<|lX (fun((q,t):Int×List Int)=>Z (BJ e [p 18 (O 18),p 19 (I (i.length:Int)),p 20 (I q)]) [(18,A 2 i64 i 0),(16,A 3 i64 t 0)]) (0,List.replicate o.toNat 0) H fun _ g1 X W t1 ⟨q,t⟩ H=>iA [0,4,18,19,20,21]<|vQ<|cD H (fun H=>vK<|fQ<|vQ<|vB<|iB [0,4,6,18,19,20] H fun H=>zD (fun s=>Z (BJ e [p 18 (O 18),p 19 (I (i.length:Int)),p 20 (I q)]) [(16,A 3 i64 s 0),(18,A 2 i64 i 0)]) H fun s H=>fK<|fQ<|jB [0,4,18,19,20] H fun H=>X H) fun H=>vE<|fE<|W<|fX rfl<|P H
def Mt(b:C6):Option B3 :=
 gd ((O7 b).isSome/\True)<|lt (vl (O7 b)) fun a =>
 gd ((0<=a/\a=a/\a.toNat*1<=281474976710656/\a<=9223372036854775807)/\(0<=a/\a=a/\a.toNat*16<=281474976710656/\a<=9223372036854775807)/\(0<=a/\a=a/\a.toNat*16<=281474976710656/\a<=9223372036854775807)/\True) <|
 some ((List.replicate a.toNat false,List.replicate a.toNat ((0:Int),(0:Int)),List.replicate a.toNat ((0:Int),(0:Int))))
def k69:Ct:=j9 69 [.dat y157.pt] (fun x=>Mt x.1) (fun r:B3=>AV.agg [AV.ow 4 true Ty.bool r.1,AV.ow 51 true y51 r.2.1,AV.ow 51 true y51 r.2.2]) (fun _=>())
theorem o69:Ok prog k69:=by
 refine k6 [.cell 2 44] func69 ?_;intro y ⟨_,_⟩ r H Q hn hr;have:=hz (tc Pq tn);refine iA [0,2]<|qD (fun a=>Z [p 2 (R 2),p 3 (I a)] [(2,bx 44 [nil,nil,nil])]) H fun a H=>iB [2] H fun H=>j0<|hr H
def Ve(a:m6)(b:Int):Option Bool :=
 some (a.1==b)
def Q0D:Ct:=j9 150 [.agg y53,.dat (.pt i64)] (fun x=>Ve x.1 x.2.1) (fun r:Bool=>B r) (fun _=>())
theorem M0e:Ok prog Q0D:=by
 refine k6 [.tmp 3] func150 ?_;intro y ⟨_,_,_⟩ r H Q hn hr;refine iA [1,2]<|iA [3]<|j0<|hr H
def j0S:Unit->Option Int
 | _ =>
 some (-1)
def j0R(b:List m6)(c:Int)(d:Int->Option Int):Int->Option Int
 | a =>
 if(decide (a < (b.length:Int))) then
  gd (ix a b.length/\(Ve (b.getD a.toNat (b7 y53)) c).isSome/\True) <|
  if(vl (Ve (b.getD a.toNat (b7 y53)) c)) then
   some a
  else
   gd (c9 (a+1)/\True) <|
   d (a+1)
 else
  j0S ()
def Qg(a:List m6)(b:Int):Option Int :=
 lp (j0R a b) 0
def z0h:Ct:=j9 149 [.dat y53.sl,.fn 150 (.pt i64)] (fun x=>Qg x.1 x.2.1) (fun r:Int=>I r) (fun _=>())
theorem y0D:Ok prog z0h:=by
 refine k6 [.tmp 4] func149 ?_;intro y ⟨a,d,_⟩ r H Q hn hr;have:=hz (tc M0e tn);refine iA [0,1]<|jN r (fun(_:Unit)=>Z [] []) (j0S) (fun _ H=>?_) (fun _ c j g=>?_)
 ·refine iA [4]<|j0<|hr H
 refine iA [0,1,7,8]<|vB<|lX (fun(b:Int)=>Z [p 0 (L y53 a),p 1 (AV.fn 150 [D i64.pt d]),p 7 (I (a.length:Int)),p 8 (I b)] []) 0 H fun _ i f e h b H=>iA [0,1,7,8,9]<|vQ<|cD H (fun H=>?_) (fun H=>?_)
 ·refine vK<|fQ<|vQ<|vB<|iA [0,1,5,7,8]<|iB [0,1,5,7,8,16] H fun H=>cD H (fun H=>iA [4]<|j0<|l9<|fR<|h<|l9<|g<|hr H) fun H=>vK<|fK<|fQ<|jB [0,1,7,8] H fun H=>f H
 exact vE<|fE<|e<|fX rfl<|c H
def Mu(a:List m6)(c:Int):Option (m6×Bool) :=
 gd ((Qg a c).isSome/\True)<|lt (vl (Qg a c)) fun b =>
 if(decide (0<=b)) then
  gd (ix b a.length/\True)<|lt (a.getD b.toNat (b7 y53)) fun d =>
  some (d,true)
 else
  some ((((0:Int),((0:Int),(0:Int)),(0:Int),(0:Int)),false))
def k96:Ct:=j9 96 [.dat y53.sl,.dat i64] (fun x=>Mu x.1 x.2.1) (fun r:m6×Bool=>AV.tup [AV.agg (OK r.1),B r.2]) (fun _=>())
theorem o96:Ok prog k96:=by
 refine k6 [.cell 4 53,.tmp 5] func96 ?_;intro y ⟨d,c,_⟩ r H Q hn hr;have:=hz (tc y0D (tc M0e tn));refine iA [0,3,4]<|vQ<|qD (fun b=>Z [p 0 (L y53 d),p 4 (R 4),p 6 (I b)] [(4,bx 53 (Di 0 0 0 0 0)),(3,bx 2 [J c])]) H fun b H=>iA [0,4,6,11]<|cD H (fun H=>qD (fun a=>Z [p 4 (R 4),p 5 (B true)] [(4,K 53 y53 a),(3,bx 2 [J c])]) H fun a H=>j0<|fR<|hr H) fun H=>vK<|fQ<|iA [4,5]<|j0<|hr H
def Vf(a:l8)(b:Int):Option Bool :=
 some (a.2.1==b)
def Q0B:Ct:=j9 152 [.agg y80,.dat (.pt i64)] (fun x=>Vf x.1 x.2.1) (fun r:Bool=>B r) (fun _=>())
theorem M0d:Ok prog Q0B:=by
 refine k6 [.tmp 3] func152 ?_;intro y ⟨_,_,_⟩ r H Q hn hr;refine iA [1,2]<|iA [3]<|j0<|hr H
def j0X:List Int->Option (List Int)
 | a =>
 some a
def Vg(a:Int)(b:List Int×Int->Option (List Int)):List Int->Option (List Int)
 | c =>
 gd (c9 (a+1)/\True) <|
 b (c,a+1)
def j0W(b:F4)(f:Int)(d:List Int×Int->Option (List Int)):List Int×Int->Option (List Int)
 | (c,a) =>
 if(decide (a < (b.1.2.2.1.length:Int))) then
  gd (ix a b.1.2.2.1.length/\True)<|lt (b.1.2.2.1.getD a.toNat (b7 y80)) fun e =>
  gd (ix a b.2.length/\(b.2.getD a.toNat false=true/\True->(Vf e f).isSome)/\True) <|
  if(b.2.getD a.toNat false&&vl (Vf e f)) then
   gd ((c.length+[a].length<=9223372036854775807/\(c.length+[a].length)*8<=140737488355328)/\True) <|
   Vg a d (c++[a])
  else
   Vg a d c
 else
  j0X c
def Qh(a:F4)(b:Int):Option (List Int) :=
 lp (j0W a b) ([],0)
def z0k:Ct:=j9 125 [.dat y104.pt,.fn 152 (.pt i64)] (fun x=>Qh x.1 x.2.1) (fun r:List Int=>AV.ow 2 true i64 r) (fun _=>())
theorem y0F:Ok prog z0k:=by
 refine k6 [.tmp 4] func125 ?_;intro y ⟨a,d,_⟩ r H Q hn hr;have:=hz (tc M0d tn);refine iA [0,1]<|iA [0,1,5]<|jN r (fun(f:List Int)=>Z [p 5 (O 36)] [(36,A 2 i64 f 0)]) (j0X) (fun f H=>?_) (fun _ j n q=>?_)
 ·refine iA [4]<|j0<|hr H
 refine iA [0,1,5,14,15,16]<|vB<|lX (fun((c,b):List Int×Int)=>Z [p 0 (D y104.pt a),p 1 (AV.fn 152 [D i64.pt d]),p 5 (O 36),p 14 (L y80 a.1.2.2.1),p 15 (I (a.1.2.2.1.length:Int)),p 16 (I b)] [(36,A 2 i64 c 0)]) ([],0) H fun _ i l k s ⟨c,b⟩ H=>iA [0,1,5,14,15,16,17]<|vQ<|cD H (fun H=>?_) (fun H=>?_)
 ·refine vK<|fQ<|jN r (fun(e:List Int)=>Z [p 0 (D y104.pt a),p 1 (AV.fn 152 [D i64.pt d]),p 5 (O 36),p 14 (L y80 a.1.2.2.1),p 15 (I (a.1.2.2.1.length:Int)),p 16 (I b)] [(36,A 2 i64 e 0)]) (Vg b i) (fun e H=>?_) (fun _ g m o=>?_)
  ·refine jB [0,1,5,14,15,16] H fun H=>l H
  refine vB<|qD (fun h=>Z [p 0 (D y104.pt a),p 1 (AV.fn 152 [D i64.pt d]),p 5 (O 36),p 6 (I b),p 7 (R 7),p 14 (L y80 a.1.2.2.1),p 15 (I (a.1.2.2.1.length:Int)),p 16 (I b)] [(7,K 80 y80 h),(36,A 2 i64 c 0)]) H fun h H=>iB [0,1,5,6,14,15,16,32] H fun H=>cD H (fun H=>jB [0,1,5,14,15,16] H fun H=>fK<|g H) fun H=>vK<|fK<|g H
 exact vE<|fE<|k<|fX rfl<|j H
def Mv(a:F4)(b:Int):Option (List Int) :=
 gd ((Qh a b).isSome/\True)<|lt (vl (Qh a b)) fun c =>
 some c
def k98:Ct:=j9 98 [.dat y104.pt,.dat i64] (fun x=>Mv x.1 x.2.1) (fun r:List Int=>AV.ow 2 true i64 r) (fun _=>())
theorem o98:Ok prog k98:=by
 refine k6 [.tmp 4] func98 ?_;intro y ⟨_,b,_⟩ r H Q hn hr;have:=hz (tc Va (tc q0t (tc y0F (tc M0d tn))));refine iA [0,3]<|qD (fun a=>Z [p 4 (O 7)] [(7,A 2 i64 a 0),(3,bx 2 [J b])]) H fun a H=>j0<|hr H
def Dy(a:s9)(b:s9):Option s9 :=
 gd (c9 (a.1+b.1)/\c9 (a.2+b.2)/\True) <|
 some (a.1+b.1,a.2+b.2)
def k99:Ct:=j9 99 [.agg y51,.agg y51] (fun x=>Dy x.1 x.2.1) (fun r:s9=>AV.agg [I r.1,I r.2]) (fun _=>())
theorem o99:Ok prog k99:=by
 refine k6 [.cell 4 51] func99 ?_;intro y ⟨_,_,_⟩ r H Q hn hr;refine iA [2,3,4]<|iB [4] H fun H=>j0<|hr H
def A0d:List Int×Int×Int×List Int->Option (List Int×l6)
 | (a,c,d,b) =>
 some (b,a,c,d)
def A0c(h:Int)(i:Int×Int×List Int×Int×Int×List Int->Option (List Int×l6)):Int×Int×List Int×Int×Int×List Int->Option (List Int×l6)
 | (a,g,b,c,e,f) =>
 if(decide (0<g)) then
  gd ((f.length+[a].length<=9223372036854775807/\(f.length+[a].length)*8<=140737488355328)/\True) <|
  gd (c9 (a+1)/\(c8 (b,c,e) h).isSome/\c9 (a+1+(vl (c8 (b,c,e) h)).1)/\True)<|lt (vl (c8 (b,c,e) h)) fun d =>
  gd (c9 (g-1)/\True) <|
  i (a+1+d.1,g-1,d.2.1,d.2.2.1,d.2.2.2,f++[a])
 else
  A0d (b,c,e,f)
def Hs(d:l6)(c:Int):Option (List Int×l6) :=
 gd ((c8 d c).isSome/\True)<|lt (vl (c8 d c)) fun b =>
 gd ((c8 b.2 3).isSome/\c9 (1+(vl (c8 b.2 3)).1)/\True)<|lt (vl (c8 b.2 3)) fun a =>
 lp (A0c c) (b.1,1+a.1,a.2.1,a.2.2.1,a.2.2.2,[])
def P0n:Ct:=j9 245 [.io 122 m4,.dat i64] (fun x=>Hs x.1 x.2.1) (fun r:List Int×l6=>AV.ow 2 true i64 r.1) (fun r=>r.2)
theorem N0A:Ok prog P0n:=by
 refine k6 [.tmp 4] func245 ?_;intro y ⟨_,h,_⟩ r H Q hn hr;have:=hz (tc AI tn);refine iA [0,1]<|iA [0,1,5]<|qD (fun c=>Z (Bd h [p 5 (O 8),p 6 (I c.1)]) [(500000,K 122 m4 c.2),(8,A 2 i64 [] 0)]) H fun c H=>jN r (fun((d,e,f,g):List Int×Int×Int×List Int)=>Z [p 5 (O 8)] [(500000,bx 122 (A5 d e f)),(8,A 2 i64 g 0)]) (A0d) (fun⟨d,e,f,g⟩ H=>?_) (fun _ o t u=>?_)
 ·refine iA [4]<|j0<|hr H
 refine qD (fun a=>Z (Bd h [p 5 (O 8),p 6 (I c.1),p 7 (I (1+a.1))]) [(500000,K 122 m4 a.2),(8,A 2 i64 [] 0)]) H fun a H=>vB<|lX (fun((b,i,l,n,m,k):Int×Int×List Int×Int×Int×List Int)=>Z (Bd h [p 5 (O 8),p 6 (I b),p 7 (I i)]) [(500000,bx 122 [L b8 l,J n,J m]),(8,A 2 i64 k 0)]) (c.1,1+a.1,a.2.1,a.2.2.1,a.2.2.2,[]) H fun _ w s q v ⟨b,i,l,n,m,k⟩ H=>vQ<|iA [0,1,5,6,7,16]<|cD H (fun H=>vK<|fQ<|vQ<|vB<|iB [0,1,5,6,7] H fun H=>zD (fun j=>Z (Bd h [p 5 (AV.os 8 1),p 6 (I (b+1+j.1)),p 7 (I i)]) [(500000,K 122 m4 j.2),(8,A 2 i64 (k++[b]) 1),(21,A 2 i64 [b] 0)]) H fun j H=>fK<|fQ<|jB [0,1,5,6,7] H fun H=>s H) fun H=>vE<|fE<|q<|fX rfl<|o H
def A0g(f:List Int×l6)(e:List Int×l6):List Int×List Int×Int×Int->Option (u6×l6)
 | (a,d,c,b) =>
 some (((f.1,e.1,a),d,c,b))
def Mw(c:Int)(a:List Int)(g:Int×List Int×List Int×Int×Int->Option (u6×l6)):Int×List Int×Int×Int->Option (u6×l6)
 | (b,e,d,f) =>
 gd ((a.length+[b].length<=9223372036854775807/\(a.length+[b].length)*8<=140737488355328)/\True) <|
 gd (c9 (c+1)/\True) <|
 g (c+1,a++[b],e,d,f)
def Mx(a:Int)(b:List Int)(g:List Int×l6)(j:Int×List Int×List Int×Int×Int->Option (u6×l6)):Int×List Int×Int×Int->Option (u6×l6)
 | (h,e,d,c) =>
 if(decide ((g.1.length:Int)<=a)) then
  gd (c9 (a-(g.1.length:Int))/\ix (a-(g.1.length:Int)) b.length/\(a-(g.1.length:Int)).toNat<b.length/\(c8 (e,d,c) 20).isSome/\c9 (b.getD (a-(g.1.length:Int)).toNat 0+(vl (c8 (e,d,c) 20)).1)/\True)<|lt ((vl (c8 (e,d,c) 20),max h (b.getD (a-(g.1.length:Int)).toNat 0+(vl (c8 (e,d,c) 20)).1))) fun(f,i) =>
  Mw a b j (i,f.2.1,f.2.2.1,f.2.2.2)
 else
  Mw a b j (h,e,d,c)
def A0f(h:List Int×l6)(j:Int)(i:List Int×l6)(k:Int×List Int×List Int×Int×Int->Option (u6×l6)):Int×List Int×List Int×Int×Int->Option (u6×l6)
 | (a,c,f,d,e) =>
 gd (c9 ((i.1.length:Int)*(h.1.length:Int))/\True) <|
 if(decide (a < (i.1.length:Int)*(h.1.length:Int))) then
  gd ((c8 (f,d,e) 10).isSome/\c9 (j+(vl (c8 (f,d,e) 10)).1)/\True)<|lt (vl (c8 (f,d,e) 10)) fun b =>
  gd (0 < (h.1.length:Int)/\True) <|
  if(decide (0<a.tmod (h.1.length:Int))) then
   gd (c9 (a-1)/\ix (a-1) c.length/\(a-1).toNat<c.length/\(c8 b.2 20).isSome/\c9 (c.getD (a-1).toNat 0+(vl (c8 b.2 20)).1)/\True)<|lt (vl (c8 b.2 20)) fun g =>
   Mx a c h k ((max (j+b.1) (c.getD (a-1).toNat 0+g.1),g.2.1,g.2.2.1,g.2.2.2))
  else
   Mx a c h k (j+b.1,b.2.1,b.2.2.1,b.2.2.2)
 else
  A0g i h (c,f,d,e)
def FE(c:l6)(d:Int):Option (u6×l6) :=
 gd ((Hs c 60).isSome/\True)<|lt (vl (Hs c 60)) fun b =>
 gd ((Hs b.2 40).isSome/\True)<|lt (vl (Hs b.2 40)) fun a =>
 lp (A0f a d b) (0,[],a.2.1,a.2.2.1,a.2.2.2)
def P0v:Ct:=j9 233 [.io 122 m4,.dat i64] (fun x=>FE x.1 x.2.1) (fun r:u6×l6=>AV.agg [AV.ow 2 true i64 r.1.1,AV.ow 2 true i64 r.1.2.1,AV.ow 2 true i64 r.1.2.2]) (fun r=>r.2)
theorem N0H:Ok prog P0v:=by
 refine k6 [.cell 4 70] func233 ?_;intro y ⟨_,e,_⟩ r H Q hn hr;have:=hz (tc AI (tc N0A tn));refine iA [0,1,4]<|qD (fun d=>Z (Bd e [p 4 (R 4),p 5 (O 12)]) [(12,A 2 i64 d.1 0),(500000,K 122 m4 d.2),(4,bx 70 [nil,nil,nil])]) H fun d H=>qD (fun b=>Z (Bd e [p 4 (R 4),p 5 (O 12),p 6 (O 14)]) ((14,A 2 i64 b.1 0)::(500000,K 122 m4 b.2)::Fo d.1)) H fun b H=>iA [0,1,4,5,6,7]<|iA [0,1,4,5,6,7,8]<|jN r (fun((v,m,q,w):List Int×List Int×Int×Int)=>Z [p 4 (R 4),p 5 (O 12),p 6 (O 14),p 7 (O 15)] ((15,A 2 i64 v 0)::(14,A 2 i64 b.1 0)::(500000,bx 122 (A5 m q w))::Fo d.1)) (A0g d b) (fun⟨v,m,q,w⟩ H=>?_) (fun _ P W X=>?_)
 ·refine iA [4]<|j0<|hr H
 refine iA [0,1,4,5,6,7,8,9]<|vB<|lX (fun((a,c,o,s,x):Int×List Int×List Int×Int×Int)=>Z (II e (b.1.length:Int) a []) ((15,A 2 i64 c 0)::(14,A 2 i64 b.1 0)::(500000,bx 122 (A5 o s x))::Fo d.1)) (0,[],b.2.1,b.2.2.1,b.2.2.2) H fun _ F V T t1 ⟨a,c,o,s,x⟩ H=>vQ<|iB [0,1,4,5,6,7,8,9,23] H fun H=>cD H (fun H=>?_) (fun H=>?_)
 ·refine vK<|fQ<|vQ<|vB<|qD (fun f=>Z (II e (b.1.length:Int) a [p 10 (I (e+f.1))]) ((500000,K 122 m4 f.2)::(15,A 2 i64 c 0)::(14,A 2 i64 b.1 0)::Fo d.1)) H fun f H=>jN r (fun((i,l,t,h):Int×List Int×Int×Int)=>Z (II e (b.1.length:Int) a [p 10 (I i)]) ((500000,bx 122 (A5 l t h))::(15,A 2 i64 c 0)::(14,A 2 i64 b.1 0)::Fo d.1)) (Mx a c b F) (fun⟨i,l,t,h⟩ H=>?_) (fun _ G e2 Y=>?_)
  ·refine jN r (fun((n,z,u,E):Int×List Int×Int×Int)=>Z (II e (b.1.length:Int) a [p 10 (I n)]) ((500000,bx 122 (A5 z u E))::(15,A 2 i64 c 0)::(14,A 2 i64 b.1 0)::Fo d.1)) (Mw a c F) (fun⟨n,z,u,E⟩ H=>?_) (fun _ n3 e3 t3=>?_)
   ·refine jB [0,1,4,5,6,7,8,9] H fun H=>fK<|fQ<|jB [0,1,4,5,6,7,8,9] H fun H=>V H
   refine iA [0,1,4,5,6,7,8,9,10,46]<|cD H (fun H=>?_) (fun H=>?_)
   ·refine zD (fun(k,j)=>Z (II e (b.1.length:Int) a [p 10 (I j)]) ((500000,K 122 m4 k.2)::(15,A 2 i64 c 0)::(14,A 2 i64 b.1 0)::Fo d.1)) H fun⟨k,j⟩ H =>
     n3 H
   exact vK<|n3 H
  refine iB [0,1,4,5,6,7,8,9,10,33] H fun H=>cD H (fun H=>zD (fun g=>Z (II e (b.1.length:Int) a [p 10 (I (max (e+f.1) (c.getD (a-1).toNat 0+g.1)))]) ((500000,K 122 m4 g.2)::(15,A 2 i64 c 0)::(14,A 2 i64 b.1 0)::Fo d.1)) H fun g H=>G H) fun H=>vK<|G H
 exact vE<|fE<|T<|fX rfl<|P H
def L0c:Ct:=j9 233 [.io 122 m4,.dat i64] (fun x=>FE x.1 x.2.1) (fun r=>frz ((fun r:u6×l6=>AV.agg [AV.ow 2 true i64 r.1.1,AV.ow 2 true i64 r.1.2.1,AV.ow 2 true i64 r.1.2.2]) r)) (fun r=>r.2)
theorem K0D:Ok prog L0c:=Uf N0H
def Dz(d:l6)(a:Int):Option (List u6×l6) :=
 gd ((FE d a).isSome/\True)<|lt (vl (FE d a)) fun b =>
 gd ((FE b.2 a).isSome/\True)<|lt (vl (FE b.2 a)) fun c =>
 some ([b.1,c.1],c.2)
def P0G:Ct:=j9 218 [.io 122 m4,.dat i64] (fun x=>Dz x.1 x.2.1) (fun r:List u6×l6=>AV.ow 70 true y70 r.1) (fun r=>r.2)
theorem N0P:Ok prog P0G:=by
 refine k6 [.tmp 4] func218 ?_;intro y ⟨_,c,_⟩ r H Q hn hr;have:=hz (tc K0D tn);refine iA [0,1]<|qD (fun a=>Z (Bd c [p 5 (R 5)]) [(5,bx 70 (o8 true y70 a.1)),(500000,K 122 m4 a.2)]) H fun a H=>qD (fun b=>Z [p 4 (O 13)] [(13,A 70 y70 [a.1,b.1] 0),(500000,K 122 m4 b.2),(5,bx 70 (o8 true y70 a.1))]) H fun b H=>j0<|hr H
def K6(a:l6)(c:Int)(d:Int)(e:Int)(h:Int):Option (A8×l6) :=
 if(decide (4<=c)) then
  gd ((c8 a 10).isSome/\c9 (5-(vl (c8 a 10)).1)/\(Dz (vl (c8 a 10)).2 (5-(vl (c8 a 10)).1)).isSome/\True)<|lt (vl (Dz (vl (c8 a 10)).2 (5-(vl (c8 a 10)).1))) fun g =>
  some (((c,d,e,(0:Int),g.1,[]),g.2))
 else
  gd ((c8 a 20).isSome/\c9 (5+(vl (c8 a 20)).1)/\(Dz (vl (c8 a 20)).2 (5+(vl (c8 a 20)).1)).isSome/\True)<|lt (vl (Dz (vl (c8 a 20)).2 (5+(vl (c8 a 20)).1))) fun b =>
  gd ((Dz b.2 10).isSome/\True)<|lt (vl (Dz b.2 10)) fun f =>
  some (((c,d,e,h,b.1,f.1),f.2))
def P0T:Ct:=j9 199 [.io 122 m4,.dat i64,.dat i64,.dat i64,.dat i64] (fun x=>K6 x.1 x.2.1 x.2.2.1 x.2.2.2.1 x.2.2.2.2.1) (fun r:A8×l6=>AV.agg [I r.1.1,I r.1.2.1,I r.1.2.2.1,I r.1.2.2.2.1,AV.ow 70 true y70 r.1.2.2.2.2.1,AV.ow 70 true y70 r.1.2.2.2.2.2]) (fun r=>r.2)
theorem O0a:Ok prog P0T:=by
 refine k6 [.cell 10 67] func199 ?_;intro y ⟨_,f,b,c,g,_⟩ r H Q hn hr;have:=hz (tc N0P (tc AI tn));refine iA [0,1,2,3,4,10]<|vQ<|iA [0,1,2,3,4,10,13]<|cD H (fun H=>qD (fun e=>Z [p 10 (R 10)] [(10,bx 67 [J f,J b,J c,I 0,AV.os 21 0,nil]),(21,A 70 y70 e.1 0),(500000,K 122 m4 e.2)]) H fun e H=>j0<|fR<|hr H) fun H=>vK<|fQ<|qD (fun a=>Z (Bd f [p 2 (J b),p 3 (J c),p 4 (J g),p 10 (R 10),p 11 (O 27)]) [(27,A 70 y70 a.1 0),(500000,K 122 m4 a.2),(10,bx 67 [I 0,I 0,I 0,I 0,nil,nil])]) H fun a H=>qD (fun d=>Z [p 10 (R 10)] [(10,bx 67 [J f,J b,J c,J g,AV.os 27 0,AV.os 34 0]),(34,A 70 y70 d.1 0),(500000,K 122 m4 d.2),(27,A 70 y70 a.1 0)]) H fun d H=>j0<|hr H
def L0d:Ct:=j9 199 [.io 122 m4,.dat i64,.dat i64,.dat i64,.dat i64] (fun x=>K6 x.1 x.2.1 x.2.2.1 x.2.2.2.1 x.2.2.2.2.1) (fun r=>frz ((fun r:A8×l6=>AV.agg [I r.1.1,I r.1.2.1,I r.1.2.2.1,I r.1.2.2.2.1,AV.ow 70 true y70 r.1.2.2.2.2.1,AV.ow 70 true y70 r.1.2.2.2.2.2]) r)) (fun r=>r.2)
theorem H0R:Ok prog L0d:=Uf O0a
def My(i:ByteArray)(e:Int)(h:List I3)(f:Int×l6)(d:Int×l6):List A8×List Int×Int×Int->Option ((ByteArray×Int×List I3×List A8×Int×Int)×l6)
 | (g,b,c,a) =>
 some (((i,e,h,g,f.1,d.1),b,c,a))
def DA(e:l6)(l:ByteArray)(i:Int)(c:Int):Option ((ByteArray×Int×List I3×List A8×Int×Int)×l6) :=
 gd ((c8 e 50).isSome/\(c8 (vl (c8 e 50)).2 80).isSome/\True)<|lt ((vl (c8 e 50),vl (c8 (vl (c8 e 50)).2 80))) fun(j,b) =>
 gd ((c8 b.2 9).isSome/\c9 (1+(vl (c8 b.2 9)).1)/\(c8 (vl (c8 b.2 9)).2 9).isSome/\c9 (1+(vl (c8 (vl (c8 b.2 9)).2 9)).1)/\True)<|lt ((vl (c8 b.2 9),vl (c8 (vl (c8 b.2 9)).2 9),[(ByteArray.mk #[(100:UInt8)],(1:Int),(1:Int)+(vl (c8 b.2 (9:Int))).1,false),(ByteArray.mk #[(99:UInt8),(107:UInt8)],(1:Int),(1:Int)+(vl (c8 (vl (c8 b.2 (9:Int))).2 (9:Int))).1,true),(ByteArray.mk #[(113:UInt8)],(2:Int),(0:Int),false)])) fun(_,d,k) =>
 gd ((K6 d.2 c 1 2 0).isSome/\(K6 (vl (K6 d.2 c 1 2 0)).2 4 1 0 0).isSome/\(K6 (vl (K6 (vl (K6 d.2 c 1 2 0)).2 4 1 0 0)).2 5 1 0 0).isSome/\True)<|lt ((vl (K6 d.2 c 1 2 0),vl (K6 (vl (K6 d.2 c 1 2 0)).2 4 1 0 0),vl (K6 (vl (K6 (vl (K6 d.2 c 1 2 0)).2 4 1 0 0)).2 5 1 0 0))) fun(f,g,a) =>
 if(i==3) then
  gd ((K6 a.2 1 0 2 1).isSome/\([f.1,g.1,a.1].length+[(vl (K6 a.2 1 0 2 1)).1].length<=9223372036854775807/\([f.1,g.1,a.1].length+[(vl (K6 a.2 1 0 2 1)).1].length)*80<=140737488355328)/\True)<|lt (vl (K6 a.2 1 0 2 1)) fun h =>
  My l i k j b ([f.1,g.1,a.1]++[h.1],h.2.1,h.2.2.1,h.2.2.2)
 else
  My l i k j b ([f.1,g.1,a.1],a.2.1,a.2.2.1,a.2.2.2)
def Q0q:Ct:=j9 166 [.io 122 m4,.dat Ty.str,.dat i64,.dat i64] (fun x=>DA x.1 x.2.1 x.2.2.1 x.2.2.2.1) (fun r:(ByteArray×Int×List I3×List A8×Int×Int)×l6=>AV.agg [S r.1.1,I r.1.2.1,AV.ow 233 true y233 r.1.2.2.1,AV.ow 67 true y67 r.1.2.2.2.1,AV.v (Value.slice none 0 0),I r.1.2.2.2.2.1,I r.1.2.2.2.2.2]) (fun r=>r.2)
theorem O0o:Ok prog Q0q:=by
 refine k6 [.cell 8 64] func166 ?_;intro y ⟨_,e,a,n,_⟩ r H Q hn hr;have:=hz (tc H0R (tc AI tn));refine iA [0,1,2,3,8]<|qD (fun(c,b)=>Z [p 0 (R 500000),p 2 (J a),p 3 (J n),p 8 (R 8),p 9 (R 9)] [(9,bx 64 [U e,J a,nil,nil,nil,I c.1,I b.1]),(500000,K 122 m4 b.2),(8,bx 64 (Cv (ByteArray.mk #[]) 0 0 0))]) H fun⟨c,b⟩ H =>
  qD (fun(s,m,d)=>Z [p 0 (R 500000),p 2 (J a),p 3 (J n),p 8 (R 8),p 9 (R 9)] [(9,bx 64 [U e,J a,AV.os 27 0,nil,nil,I c.1,I b.1]),(27,A 233 y233 d 0),(500000,K 122 m4 m.2),(8,bx 64 (Cv (ByteArray.mk #[]) 0 0 0))]) H fun⟨s,m,d⟩ H =>
  qD (fun(k,l,i)=>Z [p 0 (R 500000),p 2 (J a),p 8 (R 8),p 9 (R 9),p 10 (O 36)] ((36,A 67 y67 [k.1,l.1,i.1] 0)::(500000,K 122 m4 i.2)::TF e a c.1 b.1 d)) H fun⟨k,l,i⟩ H =>
  jN r (fun((o,f,g,h):List A8×List Int×Int×Int)=>Z [p 8 (R 8),p 9 (R 9),p 10 (O 36)] ((36,A 67 y67 o 0)::(500000,bx 122 (A5 f g h))::TF e a c.1 b.1 d)) (My e a d c b) (fun⟨o,f,g,h⟩ H=>?_) (fun _ q t u=>?_)
 ·refine iA [8,9]<|iA [8]<|j0<|hr H
 refine iA [0,8,9,10,38]<|cD H (fun H=>zD (fun j=>Z [p 8 (R 8),p 9 (R 9),p 10 (AV.os 36 1)] ((36,A 67 y67 ([k.1,l.1,i.1]++[j.1]) 1)::(42,A 67 y67 [j.1] 0)::(500000,K 122 m4 j.2)::TF e a c.1 b.1 d)) H fun j H=>q H) fun H=>vK<|q H
def Vh:Bool×Bool->Option Int
 | (a,b) =>
 if(a&&b) then
  some 3
 else
  if a then
   some 1
  else
   if b then
    some 2
   else
    some 0
def Mz(a:Int)(b:Bool×Bool×Int->Option Int):Bool×Bool->Option Int
 | (c,d) =>
 gd (c9 (a+1)/\True) <|
 b (c,d,a+1)
def A0v(b:m5)(c:Int)(f:Bool×Bool×Int->Option Int):Bool×Bool×Int->Option Int
 | (e,d,a) =>
 if(decide (a < (b.2.2.2.2.1.length:Int))) then
  gd (((0:Int)<=a/\(0:Int)<=(1:Int)*(2:j5 i64) ^ c.toNat)/\True) <|
  if((↑(a.toNat &&& ((1:Int)*(2:j5 i64) ^ c.toNat).toNat):Int) != (0:Int)) then
   Mz a f (e,d)
  else
   gd ((e=false/\True->ix a b.2.2.2.2.1.length)/\(e=false/\True->c9 (a+(1:Int)*(2:j5 i64) ^ c.toNat))/\(e=false/\True->ix (a+(1:Int)*(2:j5 i64) ^ c.toNat) b.2.2.2.2.1.length)/\True) <|
   gd ((d=false/\True->ix a b.2.2.2.2.1.length)/\(d=false/\True->c9 (a+(1:Int)*(2:j5 i64) ^ c.toNat))/\(d=false/\True->ix (a+(1:Int)*(2:j5 i64) ^ c.toNat) b.2.2.2.2.1.length)/\True) <|
   Mz a f ((e||decide (b.2.2.2.2.1.getD a.toNat (0:Int)<b.2.2.2.2.1.getD (a+(1:Int)*(2:j5 i64) ^ c.toNat).toNat (0:Int)),d||decide (b.2.2.2.2.1.getD (a+(1:Int)*(2:j5 i64) ^ c.toNat).toNat (0:Int)<b.2.2.2.2.1.getD a.toNat (0:Int))))
 else
  Vh (e,d)
def MA(b:m5)(a:Int):Option Int :=
 gd (((0:Int)<=a/\a<=(18446744073709551615:Int))/\(((0:Int)<=a/\a<=(62:Int))/\c9 ((1:Int)*(2:Int) ^ a.toNat))/\True) <|
 lp (A0v b a) (false,false,0)
def P0U:Ct:=j9 198 [.agg y64,.dat i64] (fun x=>MA x.1 x.2.1) (fun r:Int=>I r) (fun _=>())
theorem O0b:Ok prog P0U:=by
 refine k6 [.tmp 4] func198 ?_;intro y ⟨e,j,_⟩ r H Q hn hr;refine iA [1,2]<|iA [1,2,5,6]<|iB [2,5,6,7] H fun H=>jN r (fun((f,i):Bool×Bool)=>Z [p 5 (B f),p 6 (B i)] []) (Vh) (fun⟨f,i⟩ H=>?_) (fun _ l o q=>?_)
 ·refine vQ<|vB<|iA [5,6,55]<|cD H (fun H=>iA [4]<|j0<|l9<|fR<|hr H) fun H=>iA [6,60]<|cD H (fun H=>iA [4]<|j0<|l9<|fR<|hr H) fun H=>iA [62]<|cD H (fun H=>iA [4]<|j0<|l9<|fR<|hr H) fun H=>vK<|fK<|fQ<|iA [4]<|j0<|hr H
 refine iA [2,5,6,7,8]<|vB<|lX (fun((c,b,a):Bool×Bool×Int)=>Z [p 2 (R 2),p 5 (B c),p 6 (B b),p 7 (I ((1:Int)*(2:j5 i64) ^ j.toNat)),p 8 (I a)] [(2,K 64 y64 e)]) (false,false,0) H fun _ k n m t ⟨c,b,a⟩ H=>vQ<|iA [2,5,6,7,8,16]<|cD H (fun H=>?_) (fun H=>?_)
 ·refine vK<|fQ<|jN r (fun((d,g):Bool×Bool)=>Z [p 2 (R 2),p 5 (B d),p 6 (B g),p 7 (I ((1:Int)*(2:j5 i64) ^ j.toNat)),p 8 (I a)] [(2,K 64 y64 e)]) (Mz a k) (fun⟨d,g⟩ H=>?_) (fun _ h u s=>?_)
  ·refine jB [2,5,6,7,8] H fun H=>n H
  refine vB<|vQ<|iB [2,5,6,7,8,22] H fun H=>cD H (fun H=>vE<|fE<|fX rfl<|h H) fun H=>vK<|fQ<|iB [2,5,6,7,8] H fun H=>jB [2,5,6,7,8] H fun H=>fK<|h H
 exact vE<|fE<|m<|fX rfl<|l H
def Vi(i:ByteArray)(c:List I3)(g:List Int)(f:Int×l6)(h:Int×l6):List A8×List Int×Int×Int->Option (m5×l6)
 | (e,a,b,d) =>
 some (((i,(1:Int),c,e,g,f.1,h.1),a,b,d))
def MB(a:Int)(f:Int×List A8×List Int×Int×Int->Option (m5×l6)):List A8×List Int×Int×Int->Option (m5×l6)
 | (e,d,b,c) =>
 gd (c9 (a+1)/\True) <|
 f (a+1,e,d,b,c)
def A0K(f:List I3)(m:ByteArray)(i:List I3)(k:List Int)(j:Int×l6)(l:Int×l6)(n:Int×List A8×List Int×Int×Int->Option (m5×l6)):Int×List A8×List Int×Int×Int->Option (m5×l6)
 | (a,g,c,b,d) =>
 if(decide (a < (f.length:Int))) then
  gd ((MA (m,(1:Int),i,[],k,j.1,l.1) a).isSome/\True)<|lt (vl (MA (m,(1:Int),i,[],k,j.1,l.1) a)) fun e =>
  if(e != 0) then
   gd ((K6 (c,b,d) 1 a (f.length:Int) e).isSome/\(g.length+[(vl (K6 (c,b,d) 1 a (f.length:Int) e)).1].length<=9223372036854775807/\(g.length+[(vl (K6 (c,b,d) 1 a (f.length:Int) e)).1].length)*80<=140737488355328)/\True)<|lt (vl (K6 (c,b,d) 1 a (f.length:Int) e)) fun h =>
   MB a n (g++[h.1],h.2.1,h.2.2.1,h.2.2.2)
  else
   MB a n (g,c,b,d)
 else
  Vi m i k j l (g,c,b,d)
def Qi(i:ByteArray)(g:List Int)(f:Int×l6)(h:Int×l6):List I3×List Int×Int×Int->Option (m5×l6)
 | (a,c,e,b) =>
 gd ((a.length+[(ByteArray.mk #[(121:UInt8)],(2:Int),(0:Int),false)].length<=9223372036854775807/\(a.length+[(ByteArray.mk #[(121:UInt8)],(2:Int),(0:Int),false)].length)*40<=140737488355328)/\True)<|lt ((a++[(ByteArray.mk #[(121:UInt8)],(2:Int),(0:Int),false)],[(ByteArray.mk #[(121:UInt8)],(2:Int),(0:Int),false)])) fun(d,_) =>
 lp (A0K a i d g f h) (0,[],c,e,b)
def A0L(f:List ByteArray)(m:ByteArray)(i:List Int)(j:Int×l6)(l:Int×l6)(k:Int×List I3×List Int×Int×Int->Option (m5×l6)):Int×List I3×List Int×Int×Int->Option (m5×l6)
 | (h,b,d,c,a) =>
 if(decide (h < (i.length:Int))) then
  gd (ix (b.length:Int) f.length/\(b.length:Int).toNat<f.length/\(c8 (d,c,a) (9:Int)).isSome/\c9 ((1:Int)+(vl (c8 (d,c,a) (9:Int))).1)/\(b.length+[(f.getD (b.length:Int).toNat (b7 Ty.str),(1:Int),(1:Int)+(vl (c8 (d,c,a) (9:Int))).1,false)].length<=9223372036854775807/\(b.length+[(f.getD (b.length:Int).toNat (b7 Ty.str),(1:Int),(1:Int)+(vl (c8 (d,c,a) (9:Int))).1,false)].length)*40<=140737488355328)/\True)<|lt ((vl (c8 (d,c,a) 9),b++[(f.getD (b.length:Int).toNat (b7 Ty.str),(1:Int),(1:Int)+(vl (c8 (d,c,a) (9:Int))).1,false)],[(f.getD (b.length:Int).toNat (b7 Ty.str),(1:Int),(1:Int)+(vl (c8 (d,c,a) (9:Int))).1,false)])) fun(e,g,_) =>
  gd (c9 (2*h)/\True) <|
  k (2*h,g,e.2.1,e.2.2.1,e.2.2.2)
 else
  Qi m i j l (b,d,c,a)
def C7(a:l6)(f:ByteArray)(d:List Int):Option (m5×l6) :=
 lt ([ByteArray.mk #[97],ByteArray.mk #[98],ByteArray.mk #[99],ByteArray.mk #[100]]) fun e =>
 gd ((c8 a 50).isSome/\(c8 (vl (c8 a 50)).2 80).isSome/\True)<|lt ((vl (c8 a 50),vl (c8 (vl (c8 a 50)).2 80))) fun(c,b) =>
 lp (A0L e f d c b) (1,[],b.2.1,b.2.2.1,b.2.2.2)
def Q0r:Ct:=j9 165 [.io 122 m4,.dat Ty.str,.dat i64.sl] (fun x=>C7 x.1 x.2.1 x.2.2.1) (fun r:m5×l6=>AV.agg [S r.1.1,I r.1.2.1,AV.ow 233 true y233 r.1.2.2.1,AV.ow 67 true y67 r.1.2.2.2.1,L i64 r.1.2.2.2.2.1,I r.1.2.2.2.2.2.1,I r.1.2.2.2.2.2.2]) (fun r=>r.2)
theorem O0p:Ok prog Q0r:=by
 refine k6 [.cell 6 64] func165 ?_;intro y ⟨a0,g,c,_⟩ r H Q hn hr;have:=hz (tc H0R (tc O0b (tc AI tn)));refine iA [0,1,2,6]<|qC (fun q=>Z [p 0 (R 500000),p 1 (U g),p 2 (L i64 c),p 6 (R 6),p 7 (O 15)] [(15,A 9 Ty.str q 0),(6,bx 64 (Cv (ByteArray.mk #[]) 0 0 0)),(500000,K 122 m4 a0)]) H fun q H=>qD (fun(f,a)=>Z [p 0 (R 500000),p 2 (L i64 c),p 6 (R 6),p 7 (O 15),p 8 (R 8)] [(8,bx 64 [U g,I 1,nil,nil,L i64 c,I f.1,I a.1]),(500000,K 122 m4 a.2),(15,A 9 Ty.str q 0),(6,bx 64 (Cv (ByteArray.mk #[]) 0 0 0))]) H fun w H=>?_
 obtain⟨f,a⟩:=w;refine iA [0,2,6,7,8,9]<|jN r (fun((d,l,i,k):List I3×List Int×Int×Int)=>Z (BI [p 8 (R 8),p 9 (O 23)]) ((23,A 233 y233 d 0)::(8,bx 64 [U g,I 1,nil,nil,L i64 c,I f.1,I a.1])::KQ l i k)) (Qi g c f a) (fun⟨d,l,i,k⟩ H=>?_) (fun _ n0 e0 t0=>?_)
 ·refine iA [0,6,8,9,11]<|qD (fun(b,V)=>Z (BI [p 8 (R 8),p 11 (I (d.length:Int))]) ((8,bx 64 [U g,I 1,AV.os 23 1,nil,L i64 c,I f.1,I a.1])::(23,A 233 y233 b 1)::(46,A 233 y233 V 0)::KQ l i k)) H fun w H=>?_
  obtain⟨b,V⟩:=w;refine iA [0,6,8,11,12]<|jN r (fun((t,T,z,F):List A8×List Int×Int×Int)=>Z [p 6 (R 6),p 8 (R 8),p 12 (O 49)] ((49,A 67 y67 t 0)::(8,bx 64 [U g,I 1,AV.os 23 0,nil,L i64 c,I f.1,I a.1])::(23,A 233 y233 b 0)::KQ T z F)) (Vi g b c f a) (fun⟨t,T,z,F⟩ H=>?_) (fun _ n2 e2 t2=>?_)
  ·refine iA [6,8]<|iA [6]<|j0<|hr H
  refine iA [0,6,8,11,12,13]<|vB<|lX (fun((e,h,n,m,o):Int×List A8×List Int×Int×Int)=>Z (BI [p 8 (R 8),p 11 (I (d.length:Int)),p 12 (O 49),p 13 (I e)]) ((49,A 67 y67 h 0)::(8,bx 64 [U g,I 1,AV.os 23 0,nil,L i64 c,I f.1,I a.1])::(23,A 233 y233 b 0)::KQ n m o)) (0,[],l,i,k) H fun _ g3 b3 e3 t3 ⟨e,h,n,m,o⟩ H=>vQ<|iA [0,6,8,11,12,13,52]<|cD H (fun H=>?_) (fun H=>?_)
  ·refine vK<|fQ<|jN r (fun((E,X,v,x):List A8×List Int×Int×Int)=>Z (BI [p 8 (R 8),p 11 (I (d.length:Int)),p 12 (O 49),p 13 (I e)]) [(49,A 67 y67 E 0),(500000,bx 122 (A5 X v x)),(8,bx 64 [U g,I 1,AV.os 23 0,nil,L i64 c,I f.1,I a.1]),(23,A 233 y233 b 0),(6,bx 64 (Cv (ByteArray.mk #[]) 0 0 0))]) (MB e g3) (fun⟨E,X,v,x⟩ H=>?_) (fun _ n4 e4 t4=>?_)
   ·refine jB [0,6,8,11,12,13] H fun H=>b3 H
   refine vB<|qD (fun W=>Z (BI [p 8 (R 8),p 11 (I (d.length:Int)),p 12 (O 49),p 13 (I e),p 14 (I W)]) ((49,A 67 y67 h 0)::(8,bx 64 [U g,I 1,AV.os 23 0,nil,L i64 c,I f.1,I a.1])::(23,A 233 y233 b 0)::KQ n m o)) H fun W H=>iA [0,6,8,11,12,13,14,59]<|cD H (fun H=>zD (fun j=>Z (BI [p 8 (R 8),p 11 (I (d.length:Int)),p 12 (AV.os 49 1),p 13 (I e)]) [(49,A 67 y67 (h++[j.1]) 1),(66,A 67 y67 [j.1] 0),(500000,K 122 m4 j.2),(8,bx 64 [U g,I 1,AV.os 23 0,nil,L i64 c,I f.1,I a.1]),(23,A 233 y233 b 0),(6,bx 64 (Cv (ByteArray.mk #[]) 0 0 0))]) H fun j H=>fK<|n4 H) fun H=>vK<|fK<|n4 H
  exact vE<|fE<|e3<|fX rfl<|n2 H
 refine iA [0,2,6,7,8,9,10]<|vB<|lX (fun((Y,v7,v8,v9,s):Int×List I3×List Int×Int×Int)=>Z [p 0 (R 500000),p 2 (L i64 c),p 6 (R 6),p 7 (O 15),p 8 (R 8),p 9 (O 23),p 10 (I Y)] [(23,A 233 y233 v7 0),(8,bx 64 [U g,I 1,nil,nil,L i64 c,I f.1,I a.1]),(500000,bx 122 [L b8 v8,J v9,J s]),(15,A 9 Ty.str q 0),(6,bx 64 (Cv (ByteArray.mk #[]) 0 0 0))]) (1,[],a.2.1,a.2.2.1,a.2.2.2) H fun _ g1 b1 e1 t1 ⟨Y,v7,v8,v9,s⟩ H=>vQ<|iA [0,2,6,7,8,9,10,27]<|cD H (fun H=>?_) (fun H=>?_)
 ·refine vK<|fQ<|vQ<|vB<|zD (fun(u,G,P)=>Z [p 0 (R 500000),p 2 (L i64 c),p 6 (R 6),p 7 (O 15),p 8 (R 8),p 9 (AV.os 23 1),p 10 (I Y)] [(23,A 233 y233 G 1),(40,A 233 y233 P 0),(500000,K 122 m4 u.2),(8,bx 64 [U g,I 1,nil,nil,L i64 c,I f.1,I a.1]),(15,A 9 Ty.str q 0),(6,bx 64 (Cv (ByteArray.mk #[]) 0 0 0))]) H fun⟨u,G,P⟩ H =>
   fK<|fQ <|
   jB [0,2,6,7,8,9,10] H fun H =>
   b1 H
 exact vE<|fE<|e1<|fX rfl<|n0 H
def MC(a:l6):Option (List m5×l6) :=
 gd (True/\(C7 a (ByteArray.mk #[105,110,118]) [1,0]).isSome/\True) <|
 gd (True/\(C7 (vl (C7 a (ByteArray.mk #[105,110,118]) [1,0])).2 (ByteArray.mk #[98,117,102]) [0,1]).isSome/\True) <|
 gd (True/\(C7 (vl (C7 (vl (C7 a (ByteArray.mk #[105,110,118]) [1,0])).2 (ByteArray.mk #[98,117,102]) [0,1])).2 (ByteArray.mk #[110,97,110,100]) [1,1,1,0]).isSome/\True) <|
 gd (True/\(C7 (vl (C7 (vl (C7 (vl (C7 a (ByteArray.mk #[105,110,118]) [1,0])).2 (ByteArray.mk #[98,117,102]) [0,1])).2 (ByteArray.mk #[110,97,110,100]) [1,1,1,0])).2 (ByteArray.mk #[120,111,114]) [0,1,1,0]).isSome/\True) <|
 gd (True/\(C7 (vl (C7 (vl (C7 (vl (C7 (vl (C7 a (ByteArray.mk #[105,110,118]) [1,0])).2 (ByteArray.mk #[98,117,102]) [0,1])).2 (ByteArray.mk #[110,97,110,100]) [1,1,1,0])).2 (ByteArray.mk #[120,111,114]) [0,1,1,0])).2 (ByteArray.mk #[109,117,120]) [0,1,0,1,0,0,1,1]).isSome/\True) <|
 gd ((DA (vl (C7 (vl (C7 (vl (C7 (vl (C7 (vl (C7 a (ByteArray.mk #[105,110,118]) [1,0])).2 (ByteArray.mk #[98,117,102]) [0,1])).2 (ByteArray.mk #[110,97,110,100]) [1,1,1,0])).2 (ByteArray.mk #[120,111,114]) [0,1,1,0])).2 (ByteArray.mk #[109,117,120]) [0,1,0,1,0,0,1,1])).2 (ByteArray.mk #[102,108,111,112]) 2 2).isSome/\True)<|lt ((vl (DA (vl (C7 (vl (C7 (vl (C7 (vl (C7 (vl (C7 a (ByteArray.mk #[105,110,118]) [1,0])).2 (ByteArray.mk #[98,117,102]) [0,1])).2 (ByteArray.mk #[110,97,110,100]) [1,1,1,0])).2 (ByteArray.mk #[120,111,114]) [0,1,1,0])).2 (ByteArray.mk #[109,117,120]) [0,1,0,1,0,0,1,1])).2 (ByteArray.mk #[102,108,111,112]) 2 2),vl (C7 (vl (C7 (vl (C7 (vl (C7 (vl (C7 a (ByteArray.mk #[105,110,118]) [1,0])).2 (ByteArray.mk #[98,117,102]) [0,1])).2 (ByteArray.mk #[110,97,110,100]) [1,1,1,0])).2 (ByteArray.mk #[120,111,114]) [0,1,1,0])).2 (ByteArray.mk #[109,117,120]) [0,1,0,1,0,0,1,1]),vl (C7 (vl (C7 (vl (C7 (vl (C7 a (ByteArray.mk #[105,110,118]) [1,0])).2 (ByteArray.mk #[98,117,102]) [0,1])).2 (ByteArray.mk #[110,97,110,100]) [1,1,1,0])).2 (ByteArray.mk #[120,111,114]) [0,1,1,0]),vl (C7 (vl (C7 (vl (C7 a (ByteArray.mk #[105,110,118]) [1,0])).2 (ByteArray.mk #[98,117,102]) [0,1])).2 (ByteArray.mk #[110,97,110,100]) [1,1,1,0]),vl (C7 (vl (C7 a (ByteArray.mk #[105,110,118]) [1,0])).2 (ByteArray.mk #[98,117,102]) [0,1]),vl (C7 a (ByteArray.mk #[105,110,118]) [1,0]))) fun(b,e,g,f,i,h) =>
 gd ((DA b.2 (ByteArray.mk #[102,108,111,112,110]) 2 3).isSome/\True)<|lt (vl (DA b.2 (ByteArray.mk #[102,108,111,112,110]) 2 3)) fun c =>
 gd ((DA c.2 (ByteArray.mk #[108,97,116,99,104]) 3 2).isSome/\True)<|lt (vl (DA c.2 (ByteArray.mk #[108,97,116,99,104]) 3 2)) fun d =>
 lt ([h.1,i.1,f.1,g.1,e.1,(b.1.1,b.1.2.1,b.1.2.2.1,b.1.2.2.2.1,[],b.1.2.2.2.2),(c.1.1,c.1.2.1,c.1.2.2.1,c.1.2.2.2.1,[],c.1.2.2.2.2),(d.1.1,d.1.2.1,d.1.2.2.1,d.1.2.2.2.1,[],d.1.2.2.2.2)]) fun j =>
 some (j,d.2)
def R0d:Ct:=j9 119 [.io 122 m4] (fun x=>MC x.1) (fun r:List m5×l6=>AV.agg [AV.ow 64 false y64 r.1]) (fun r=>r.2)
theorem O0R:Ok prog R0d:=by
 refine k6 [.cell 2 26] func119 ?_;intro y ⟨_,_⟩ r H Q hn hr;have:=hz (tc O0o (tc O0p tn));refine iA [0,2]<|iA [0,2,3]<|vQ<|iF 2 [14] [0,2,3,4] H fun H=>fQ<|vQ<|iF 2 [17] [0,2,3,4,5] H fun H=>fQ<|vQ<|iF 2 [20] [0,2,3,4,5,6] H fun H=>fQ<|vQ<|iF 2 [23] [0,2,3,4,5,6,7] H fun H=>fQ<|vQ<|iF 2 [26] [0,2,3,4,5,6,7,8] H fun H=>fQ<|qD (fun(b,c,e,d,g,f)=>Z (Fp [p 4 (R 4),p 5 (R 5),p 6 (R 6),p 7 (R 7),p 8 (R 8),p 9 (R 9)]) [(9,bx 64 (Tz b.1)),(1029,A 67 y67 b.1.2.2.2.1 0),(29,A 233 y233 b.1.2.2.1 0),(500000,K 122 m4 b.2),(8,bx 64 (Q7 c.1)),(1027,A 67 y67 c.1.2.2.2.1 0),(27,A 233 y233 c.1.2.2.1 0),(7,bx 64 (Q8 e.1)),(1024,A 67 y67 e.1.2.2.2.1 0),(24,A 233 y233 e.1.2.2.1 0),(6,bx 64 (Q9 d.1)),(1021,A 67 y67 d.1.2.2.2.1 0),(21,A 233 y233 d.1.2.2.1 0),(5,bx 64 (Tw g.1)),(1018,A 67 y67 g.1.2.2.2.1 0),(18,A 233 y233 g.1.2.2.1 0),(4,bx 64 (Tx f.1)),(1015,A 67 y67 f.1.2.2.2.1 0),(15,A 233 y233 f.1.2.2.1 0),(3,bx 26 [nil]),(2,bx 26 [nil])]) H fun⟨b,c,e,d,g,f⟩ H =>
  qD (fun a=>Z (Fp [p 4 (R 4),p 5 (R 5),p 6 (R 6),p 7 (R 7),p 8 (R 8),p 9 (R 9),p 10 (R 10)]) [(10,bx 64 [S a.1.1,I a.1.2.1,AV.os 31 0,AV.os 1031 0,nil,I a.1.2.2.2.2.1,I a.1.2.2.2.2.2]),(1031,A 67 y67 a.1.2.2.2.1 0),(31,A 233 y233 a.1.2.2.1 0),(500000,K 122 m4 a.2),(9,bx 64 (Tz b.1)),(1029,A 67 y67 b.1.2.2.2.1 0),(29,A 233 y233 b.1.2.2.1 0),(8,bx 64 (Q7 c.1)),(1027,A 67 y67 c.1.2.2.2.1 0),(27,A 233 y233 c.1.2.2.1 0),(7,bx 64 (Q8 e.1)),(1024,A 67 y67 e.1.2.2.2.1 0),(24,A 233 y233 e.1.2.2.1 0),(6,bx 64 (Q9 d.1)),(1021,A 67 y67 d.1.2.2.2.1 0),(21,A 233 y233 d.1.2.2.1 0),(5,bx 64 (Tw g.1)),(1018,A 67 y67 g.1.2.2.2.1 0),(18,A 233 y233 g.1.2.2.1 0),(4,bx 64 (Tx f.1)),(1015,A 67 y67 f.1.2.2.2.1 0),(15,A 233 y233 f.1.2.2.1 0),(3,bx 26 [nil]),(2,bx 26 [nil])]) H fun a H =>
  qD (fun h=>Z (G9 [p 4 (R 4),p 5 (R 5),p 6 (R 6),p 7 (R 7),p 8 (R 8),p 9 (R 9),p 10 (R 10),p 11 (R 11)]) [(11,bx 64 [S h.1.1,I h.1.2.1,AV.os 33 0,AV.os 1033 0,nil,I h.1.2.2.2.2.1,I h.1.2.2.2.2.2]),(1033,A 67 y67 h.1.2.2.2.1 0),(33,A 233 y233 h.1.2.2.1 0),(500000,K 122 m4 h.2),(10,bx 64 [S a.1.1,I a.1.2.1,AV.os 31 0,AV.os 1031 0,nil,I a.1.2.2.2.2.1,I a.1.2.2.2.2.2]),(1031,A 67 y67 a.1.2.2.2.1 0),(31,A 233 y233 a.1.2.2.1 0),(9,bx 64 (Tz b.1)),(1029,A 67 y67 b.1.2.2.2.1 0),(29,A 233 y233 b.1.2.2.1 0),(8,bx 64 (Q7 c.1)),(1027,A 67 y67 c.1.2.2.2.1 0),(27,A 233 y233 c.1.2.2.1 0),(7,bx 64 (Q8 e.1)),(1024,A 67 y67 e.1.2.2.2.1 0),(24,A 233 y233 e.1.2.2.1 0),(6,bx 64 (Q9 d.1)),(1021,A 67 y67 d.1.2.2.2.1 0),(21,A 233 y233 d.1.2.2.1 0),(5,bx 64 (Tw g.1)),(1018,A 67 y67 g.1.2.2.2.1 0),(18,A 233 y233 g.1.2.2.1 0),(4,bx 64 (Tx f.1)),(1015,A 67 y67 f.1.2.2.2.1 0),(15,A 233 y233 f.1.2.2.1 0),(3,bx 26 [nil]),(2,bx 26 [nil])]) H fun h H=>?_
 refine fZs [33,1033,31,1031,29,1029,27,1027,24,1024,21,1021,18,1018,15,1015] (Z (G9 [p 4 (R 4),p 5 (R 5),p 6 (R 6),p 7 (R 7),p 8 (R 8),p 9 (R 9),p 10 (R 10),p 11 (R 11)]) [(11,bx 64 (Q4 h.1)),(500000,K 122 m4 h.2),(10,bx 64 (Q4 a.1)),(9,bx 64 (Q4 b.1)),(8,bx 64 (Q0 c.1)),(7,bx 64 (Q0 e.1)),(6,bx 64 (Q0 d.1)),(5,bx 64 (Q0 g.1)),(4,bx 64 (Q0 f.1)),(3,bx 26 [nil]),(2,bx 26 [nil])])<|qC (fun i=>Z (G9 []) [(3,bx 26 [AV.os 42 0]),(42,Ob.arr 64 false y64 i 0),(11,bx 64 (Q4 h.1)),(500000,K 122 m4 h.2),(10,bx 64 (Q4 a.1)),(9,bx 64 (Q4 b.1)),(8,bx 64 (Q0 c.1)),(7,bx 64 (Q0 e.1)),(6,bx 64 (Q0 d.1)),(5,bx 64 (Q0 g.1)),(4,bx 64 (Q0 f.1)),(2,bx 26 [nil])]) H fun i H=>iA [2]<|j0<|hr H
def MD(a:Int)(b:Int):Option x9 :=
 gd ((0<=a/\a=a/\a.toNat*8<=281474976710656/\a<=9223372036854775807)/\True) <|
 some ([-1],[0],[b],List.replicate a.toNat 0)
def Q0o:Ct:=j9 168 [.dat i64,.dat i64] (fun x=>MD x.1 x.2.1) (fun r:x9=>AV.agg [AV.ow 2 true i64 r.1,AV.ow 2 true i64 r.2.1,AV.ow 2 true i64 r.2.2.1,AV.ow 2 true i64 r.2.2.2]) (fun _=>())
theorem O0n:Ok prog Q0o:=by
 refine k6 [.cell 4 153] func168 ?_;intro y ⟨_,_,_⟩ r H Q hn hr;refine iA [0,1,4]<|iB [4] H fun H=>j0<|hr H
def ME(a:s9)(b:s9):Option s9 :=
 some (min a.1 b.1,max a.2 b.2)
def Q0C:Ct:=j9 151 [.agg y51,.agg y51] (fun x=>ME x.1 x.2.1) (fun r:s9=>AV.agg [I r.1,I r.2]) (fun _=>())
theorem O0x:Ok prog Q0C:=by
 refine k6 [.cell 4 51] func151 ?_;intro y ⟨_,_,_⟩ r H Q hn hr;refine iA [2,3,4]<|iA [4]<|j0<|hr H
def F0S:Bool×Int×Int×Int×Int×Int->Option (Bool×m6)
 | (f,e,a,d,b,c) =>
 some ((f,e,(a,d),b,c))
def Jp(a:Int)(h:Bool×Int×Int×Int×Int×Int×Int->Option (Bool×m6)):Bool×Int×Int×Int×Int×Int->Option (Bool×m6)
 | (d,b,g,c,e,f) =>
 gd (c9 (a+1)/\True) <|
 h (d,a+1,b,g,c,e,f)
def Vj(c:Int)(g:Int)(f:Bool×Int×Int×Int×Int×Int×Int->Option (Bool×m6)):Int×Int×Int×Int->Option (Bool×m6)
 | (b,d,e,a) =>
 Jp c f (true,g,e,a,b,d)
def F0Q(m:Int)(d:B3)(r:j7)(s:p7)(o:List Bool)(n:List l8)(q:Bool×Int×Int×Int×Int×Int×Int->Option (Bool×m6)):Bool×Int×Int×Int×Int×Int×Int->Option (Bool×m6)
 | (i,c,l,g,e,f,h) =>
 if(decide (c < (n.length:Int))) then
  gd (ix c n.length/\True)<|lt (n.getD c.toNat (b7 y80)) fun a =>
  gd (ix c o.length/\((!o.getD c.toNat false||a.2.1 != m)=false/\True->ix a.1 d.1.length)/\True) <|
  if(!o.getD c.toNat false||a.2.1 != m||!d.1.getD a.1.toNat false) then
   Jp c q (i,l,g,e,f,h)
  else
   gd (ix a.1 d.2.2.length/\(IX r s a (d.2.2.getD a.1.toNat (b7 y51))).isSome/\True)<|lt (vl (IX r s a (d.2.2.getD a.1.toNat (b7 y51)))) fun b =>
   gd (ix a.1 d.2.1.length/\c9 ((d.2.1.getD a.1.toNat (b7 y51)).1+b.1.1)/\ix a.1 d.2.1.length/\c9 ((d.2.1.getD a.1.toNat (b7 y51)).2+b.1.2)/\True) <|
   if i then
    gd ((KX ((d.2.1.getD a.1.toNat (b7 y51)).1+b.1.1,(d.2.1.getD a.1.toNat (b7 y51)).2+b.1.2) (g,e)).isSome/\True)<|lt (vl (KX ((d.2.1.getD a.1.toNat (b7 y51)).1+b.1.1,(d.2.1.getD a.1.toNat (b7 y51)).2+b.1.2) (g,e))) fun k =>
    gd ((KX b.2 (f,h)).isSome/\True)<|lt (vl (KX b.2 (f,h))) fun j =>
    Vj c m q (j.1,j.2,k.1,k.2)
   else
    Vj c m q ((b.2.1,b.2.2,(d.2.1.getD a.1.toNat (b7 y51)).1+b.1.1,(d.2.1.getD a.1.toNat (b7 y51)).2+b.1.2))
 else
  F0S (i,l,g,e,f,h)
def Jq(k:Int)(j:B3)(g:j7)(l:p7)(i:List Bool)(h:List l8):Bool×Int×Int×Int×Int×Int->Option (Bool×m6)
 | (b,f,d,a,e,c) =>
 lp (F0Q k j g l i h) (b,0,f,d,a,e,c)
def Vk(g:Int)(h:Bool×Int×Int×Int×Int×Int×Int->Option (Bool×m6)):Int×Int×Int×Int×Int×Bool->Option (Bool×m6)
 | (c,e,b,d,a,f) =>
 gd (c9 (g+1)/\True) <|
 h (f,g+1,c,e,b,d,a)
def F0R(g:List m6)(j:Int)(o:B3)(l:j7)(q:p7)(n:List Bool)(m:List l8)(h:Bool×Int×Int×Int×Int×Int×Int->Option (Bool×m6)):Bool×Int×Int×Int×Int×Int×Int->Option (Bool×m6)
 | (k,b,i,d,f,c,e) =>
 if(decide (b < (g.length:Int))) then
  gd (ix b g.length/\True) <|
  if((g.getD b.toNat (b7 y53)).1==j) then
   gd (ix b g.length/\True)<|lt (g.getD b.toNat (b7 y53)) fun a =>
   Vk b h (a.1,a.2.1.1,a.2.1.2,a.2.2.1,a.2.2.2,true)
  else
   Vk b h (i,d,f,c,e,k)
 else
  Jq j o l q n m (k,i,d,f,c,e)
def Jr(a:j7)(f:p7)(b:List l8)(c:List Bool)(g:List m6)(d:B3)(e:Int):Option (Bool×m6) :=
 lp (F0R g e d a f c b) (false,0,0,0,0,0,0)
def k79:Ct:=j9 79 [.agg k8,.agg p5,.dat y80.sl,.dat Ty.bool.sl,.dat y53.sl,.agg y44,.dat i64] (fun x=>Jr x.1 x.2.1 x.2.2.1 x.2.2.2.1 x.2.2.2.2.1 x.2.2.2.2.2.1 x.2.2.2.2.2.2.1) (fun r:Bool×m6=>AV.tup [B r.1,AV.agg (OK r.2)]) (fun _=>())
theorem o79:Ok prog k79:=by
 refine k6 [.tmp 14,.cell 15 53] func79 ?_;intro y ⟨i,m,l,j,a4,k,g,_⟩ r H Q hn hr;have:=hz (tc O0L (tc O0X tn));refine iA [2,3,4,6,7,8,12,15]<|iA [2,3,4,6,7,8,12,15,16]<|iA [2,3,4,6,7,8,12,15,16,17]<|jN r (fun((t,z,P,q,v,u):Bool×Int×Int×Int×Int×Int)=>Z (G7 l j g [p 16 (B t),p 17 (R 17)]) (W3 z P q v u k m i)) (Jq g k i m j l) (fun w H=>?_) (fun _ n0 e0 t0=>?_)
 ·obtain⟨t,z,P,q,v,u⟩:=w;refine jN r (fun((aC,aU,aJ,aL,aF,aS):Bool×Int×Int×Int×Int×Int)=>Z [p 15 (R 15),p 16 (B aC),p 17 (R 17)] [(17,bx 53 [J aU,J aJ,J aL,J aF,J aS]),(15,bx 53 (Di 0 0 0 0 0))]) (F0S) (fun⟨aC,aU,aJ,aL,aF,aS⟩ H=>?_) (fun _ n3 e3 t3=>?_)
  ·refine iA [14,15]<|j0<|hr H
  refine iA [2,3,6,7,8,12,15,16,17,19]<|vB<|lX (fun((o,a,d,b,c,e,f):Bool×Int×Int×Int×Int×Int×Int)=>Z (G7 l j g [p 16 (B o),p 17 (R 17),p 19 (I a)]) (W3 d b c e f k m i)) (t,0,z,P,q,v,u) H fun _ g4 b4 e4 t4 ⟨o,a,d,b,c,e,f⟩ H=>vQ<|iA [2,3,6,7,8,12,15,16,17,19,45]<|cD H (fun H=>?_) (fun H=>?_)
  ·refine vK<|fQ<|jN r (fun((aK,V,aT,aP,W,Y):Bool×Int×Int×Int×Int×Int)=>Z (G7 l j g [p 16 (B aK),p 17 (R 17),p 19 (I a)]) (W3 V aT aP W Y k m i)) (Jp a g4) (fun⟨aK,V,aT,aP,W,Y⟩ H=>?_) (fun _ n5 e5 t5=>?_)
   ·refine jB [2,3,6,7,8,12,15,16,17,19] H fun H=>b4 H
   refine vB<|qD (fun n=>Z (G7 l j g [p 16 (B o),p 17 (R 17),p 19 (I a),p 20 (R 20)]) ((20,K 80 y80 n)::W3 d b c e f k m i)) H fun n H=>vQ<|iB [2,3,6,7,8,12,15,16,17,19,20,71] H fun H=>cD H (fun H=>vE<|fE<|fX rfl<|n5 H) fun H=>vK<|fQ<|qD (fun h=>Z (G7 l j g [p 16 (B o),p 17 (R 17),p 19 (I a),p 20 (R 20),p 21 (R 21),p 22 (R 22)]) ((22,bx 51 (o8 true y51 h.2))::(21,bx 51 (o8 true y51 h.1))::(20,K 80 y80 n)::W3 d b c e f k m i)) H fun h H=>iB [2,3,6,7,8,12,15,16,17,19,22,23] H fun H=>jN r (fun((G,x,E,F):Int×Int×Int×Int)=>Z (G7 l j g [p 17 (R 17),p 19 (I a),p 22 (R 22),p 23 (R 23)]) ((22,bx 51 [I G,I x])::(23,bx 51 [I E,I F])::W3 d b c e f k m i)) (Vj a g g4) (fun⟨G,x,E,F⟩ H=>?_) (fun _ n6 e6 t6=>?_)
   ·refine iA [2,3,6,7,8,12,15,16,17,19,22,23]<|jA [2,3,6,7,8,12,15,16,17,19]<|fK<|n5 (s:=(true,g,E,F,G,x)) H (by kernel_rfl)
   refine iA [2,3,6,7,8,12,15,17,19,22,23,106]<|cD H (fun H=>qD (fun T=>Z (G7 l j g [p 17 (R 17),p 19 (I a),p 22 (R 22),p 23 (R 23)]) ((23,bx 51 (o8 true y51 T))::(22,bx 51 (o8 true y51 h.2))::(21,bx 51 (o8 true y51 h.1))::(20,K 80 y80 n)::W3 d b c e f k m i)) H fun T H=>zD (fun aD=>Z (G7 l j g [p 17 (R 17),p 19 (I a),p 22 (R 22),p 23 (R 23)]) ((22,bx 51 (o8 true y51 aD))::(23,bx 51 (o8 true y51 T))::(21,bx 51 (o8 true y51 h.1))::(20,K 80 y80 n)::W3 d b c e f k m i)) H fun aD H=>n6 H) fun H=>vK<|n6 H
  exact vE<|fE<|e4<|fX rfl<|n3 H
 refine iA [2,3,4,6,7,8,12,15,16,17,18]<|vB<|lX (fun((v7,v8,v9,X,aA,aH,aM):Bool×Int×Int×Int×Int×Int×Int)=>Z [p 2 (L y80 l),p 3 (L Ty.bool j),p 4 (L y53 a4),p 6 (J g),p 7 (R 7),p 8 (R 8),p 12 (R 12),p 15 (R 15),p 16 (B v7),p 17 (R 17),p 18 (I v8)] (W3 v9 X aA aH aM k m i)) (false,0,0,0,0,0,0) H fun _ g1 b1 e1 t1 ⟨v7,v8,v9,X,aA,aH,aM⟩ H=>vQ<|iA [2,3,4,6,7,8,12,15,16,17,18,28]<|cD H (fun H=>?_) (fun H=>?_)
 ·refine vK<|fQ<|jN r (fun((aQ,aB,aI,aR,aO,aN):Int×Int×Int×Int×Int×Bool)=>Z [p 2 (L y80 l),p 3 (L Ty.bool j),p 4 (L y53 a4),p 6 (J g),p 7 (R 7),p 8 (R 8),p 12 (R 12),p 15 (R 15),p 16 (B aN),p 17 (R 17),p 18 (I v8)] (W3 aQ aB aI aR aO k m i)) (Vk v8 g1) (fun⟨aQ,aB,aI,aR,aO,aN⟩ H=>?_) (fun _ n2 e2 t2=>?_)
  ·refine jB [2,3,4,6,7,8,12,15,16,17,18] H fun H=>b1 H
  refine vB<|iB [2,3,4,6,7,8,12,15,16,17,18,37] H fun H=>cD H (fun H=>iA [2,3,4,6,7,8,12,15,16,17,18]<|zD (fun aG=>Z [p 2 (L y80 l),p 3 (L Ty.bool j),p 4 (L y53 a4),p 6 (J g),p 7 (R 7),p 8 (R 8),p 12 (R 12),p 15 (R 15),p 16 (B true),p 17 (R 17),p 18 (I v8)] [(17,K 53 y53 aG),(15,bx 53 (Di 0 0 0 0 0)),(12,K 44 y44 k),(8,K 36 p5 m),(7,K 34 k8 i)]) H fun aG H=>fK<|n2 H) fun H=>vK<|fK<|n2 H
 exact vE<|fE<|e1<|fX rfl<|n0 H
def G0I:List s9×List s9×List Bool->Option (B3×Bool)
 | (b,c,a) =>
 some (((a,c,b),true))
def Vl(d:Int)(e:Int×List s9×List s9×List Bool->Option (B3×Bool)):List s9×List s9×List Bool->Option (B3×Bool)
 | (c,b,a) =>
 gd (c9 (d+1)/\True) <|
 e (d+1,c,b,a)
def G0H(d:List Int)(h:j7)(k:p7)(i:List l8)(j:List Bool)(l:List m6)(g:Int×List s9×List s9×List Bool->Option (B3×Bool)):Int×List s9×List s9×List Bool->Option (B3×Bool)
 | (b,f,a,c) =>
 if(decide (b < (d.length:Int))) then
  gd (ix b d.length/\True) <|
  gd ((Jr h k i j l (c,a,f) (d.getD b.toNat 0)).isSome/\True)<|lt (vl (Jr h k i j l (c,a,f) (d.getD b.toNat 0))) fun e =>
  if(!e.1) then
   Vl b g (f,a,c)
  else
   gd ((Dp e.2.2.1).isSome/\True) <|
   if(!vl (Dp e.2.2.1)) then
    some ((([],[],[]),false))
   else
    gd (ix (d.getD b.toNat 0) c.length/\Int.toNat (d.getD b.toNat 0)<c.length/\True) <|
    gd (ix (d.getD b.toNat 0) a.length/\Int.toNat (d.getD b.toNat 0)<a.length/\True) <|
    gd (ix (d.getD b.toNat 0) f.length/\Int.toNat (d.getD b.toNat 0)<f.length/\True) <|
    Vl b g ((f.set (Int.toNat (d.getD b.toNat 0)) e.2.2.2,a.set (Int.toNat (d.getD b.toNat 0)) e.2.2.1,c.set (Int.toNat (d.getD b.toNat 0)) true))
 else
  G0I (f,a,c)
def Js(a:j7)(f:p7)(c:List l8)(d:List Bool)(g:List m6)(e:List Int):Option (B3×Bool) :=
 gd ((U5 a).isSome/\(Lb (vl (U5 a))).isSome/\True)<|lt (vl (Lb (vl (U5 a)))) fun b =>
 lp (G0H e a f c d g) (0,b.2.2,b.2.1,b.1)
def k33:Ct:=j9 33 [.agg k8,.agg p5,.dat y80.sl,.dat Ty.bool.sl,.dat y53.sl,.dat i64.sl] (fun x=>Js x.1 x.2.1 x.2.2.1 x.2.2.2.1 x.2.2.2.2.1 x.2.2.2.2.2.1) (fun r:B3×Bool=>AV.tup [AV.agg [AV.ow 4 true Ty.bool r.1.1,AV.ow 51 true y51 r.1.2.1,AV.ow 51 true y51 r.1.2.2],B r.2]) (fun _=>())
theorem o33:Ok prog k33:=by
 refine k6 [.cell 12 44,.tmp 13] func33 ?_;intro y ⟨m,q,o,n,s,g,_⟩ r H Q hn hr;have:=hz (tc Zt (tc o79 (tc o78 (tc Lc tn))));refine iA [2,3,4,5,6,7,12]<|qD (fun a=>Z (ON o n s g []) (OM a.2.2 a.2.1 a.1 q m)) H fun a H=>jN r (fun((f,i,l):List s9×List s9×List Bool)=>Z [p 12 (R 12),p 14 (R 14)] [(14,bx 44 [AV.os 21 0,AV.os 1021 0,AV.os 2021 0]),(2021,A 51 y51 f 0),(1021,A 51 y51 i 0),(21,A 4 Ty.bool l 0),(12,bx 44 [nil,nil,nil])]) (G0I) (fun⟨f,i,l⟩ H=>?_) (fun _ E P v=>?_)
 ·refine iA [12,13]<|j0<|hr H
 refine iA [2,3,4,5,6,7,12,14,15]<|vB<|lX (fun((e,t,b,c):Int×List s9×List s9×List Bool)=>Z (ON o n s g [p 15 (I e)]) (OM t b c q m)) (0,a.2.2,a.2.1,a.1) H fun _ z G F x ⟨e,t,b,c⟩ H=>vQ<|iA [2,3,4,5,6,7,12,14,15,25]<|cD H (fun H=>?_) (fun H=>?_)
 ·refine vK<|fQ<|jN r (fun((j,h,k):List s9×List s9×List Bool)=>Z (ON o n s g [p 15 (I e)]) (OM j h k q m)) (Vl e z) (fun⟨j,h,k⟩ H=>?_) (fun _ u T w=>?_)
  ·refine jB [2,3,4,5,6,7,12,14,15] H fun H=>G H
  refine vB<|iB [2,3,4,5,6,7,12,14,15,16] H fun H=>qD (fun d=>Z (ON o n s g [p 15 (I e),p 16 (J (g.getD e.toNat 0)),p 17 (B d.1),p 18 (R 18)]) ((18,bx 53 (o8 true y53 d.2))::OM t b c q m)) H fun d H=>vQ<|iA [2,3,4,5,6,7,12,14,15,16,18,44]<|cD H (fun H=>vE<|fE<|fX rfl<|u H) fun H=>vK<|fQ<|vQ<|iB [2,3,4,5,6,7,12,14,15,16,18,48] H fun H=>cD H (fun H=>iA [12,13]<|j0<|fR<|l9<|w<|x<|l9<|v<|hr H) fun H=>vK<|fQ<|iB [2,3,4,5,6,7,12,14,15,16,18] H fun H=>iB [2,3,4,5,6,7,12,14,15,16,18] H fun H=>jB [2,3,4,5,6,7,12,14,15] H fun H=>fK<|u H
 exact vE<|fE<|F<|fX rfl<|E H
def MF(b:j7)(f:p7)(c:List Int)(d:List m6):Option (B3×Int) :=
 gd ((LB b f c d).isSome/\True)<|lt (vl (LB b f c d)) fun e =>
 if(e.2 != 0) then
  some ((([],[],[]),e.2))
 else
  gd ((u32 b).isSome/\True)<|lt (vl (u32 b)) fun a =>
  gd ((Bg a c).isSome/\(Js b f a (vl (Bg a c)) d e.1).isSome/\True)<|lt ((vl (Js b f a (vl (Bg a c)) d e.1),vl (Bg a c))) fun(g,_) =>
  if(!g.2) then
   some ((([],[],[]),(3:Int)))
  else
   some ((g.1,(0:Int)))
def Vm:Ct:=j9 10 [.agg k8,.agg p5,.dat i64.sl,.dat y53.sl] (fun x=>MF x.1 x.2.1 x.2.2.1 x.2.2.2.1) (fun r:B3×Int=>AV.tup [AV.agg [AV.ow 4 true Ty.bool r.1.1,AV.ow 51 true y51 r.1.2.1,AV.ow 51 true y51 r.1.2.2],I r.2]) (fun _=>())
theorem o10:Ok prog Vm:=by
 refine k6 [.cell 8 44,.tmp 9] func10 ?_;intro y ⟨d,e,f,g,_⟩ r H Q hn hr;have:=hz (tc o33 (tc TR (tc Lf (tc o31 tn))));refine iA [2,3,4,5,8]<|qD (fun b=>Z [p 2 (L i64 f),p 3 (L y53 g),p 4 (R 4),p 5 (R 5),p 8 (R 8),p 10 (O 20),p 11 (I b.2)] (KS b.1 e d)) H fun b H=>vQ<|iA [2,3,4,5,8,10,11,24]<|cD H (fun H=>iA [8,9]<|j0<|fR<|hr H) fun H=>vK<|fQ<|qD (fun c=>Z [p 2 (L i64 f),p 3 (L y53 g),p 4 (R 4),p 5 (R 5),p 8 (R 8),p 10 (O 20),p 12 (O 28)] ((28,A 80 y80 c 0)::KS b.1 e d)) H fun c H=>qD (fun(a,h)=>Z [p 8 (R 8),p 13 (R 13),p 14 (B a.2)] ((13,bx 44 [AV.os 38 0,AV.os 1038 0,AV.os 2038 0])::(2038,A 51 y51 a.1.2.2 0)::(1038,A 51 y51 a.1.2.1 0)::(38,A 4 Ty.bool a.1.1 0)::(35,A 4 Ty.bool h 0)::(28,A 80 y80 c 0)::KS b.1 e d)) H fun⟨a,h⟩ H =>
  vQ <|
  iA [8,13,42] <|
  cD H (fun H=>iA [8,9]<|j0<|fR<|hr H) fun H=>vK<|fQ<|iA [8,9]<|j0<|hr H
def FF(a:m6)(d:Bool)(b:s9)(c:s9):Option (m6×Bool) :=
 if(!d) then
  some ((a.1,b,c),true)
 else
  gd ((ME a.2.1 b).isSome/\(ME a.2.2 c).isSome/\True) <|
  some ((a.1,vl (ME a.2.1 b),vl (ME a.2.2 c)),d)
theorem I0j{st:St}{z:j5 y53×j5 Ty.bool}{a:j5 y53}{b:Bool}(e:some (a,b)=some z)(h:Qj st 53 y53 4 .bool z=(a=z.1/\b=z.2)):Qj st 53 y53 4 .bool z:=by
 cases e;rw[h];exact⟨rfl,rfl⟩
theorem q97:MG prog 97 53 y53 4 .bool [.agg y51,.agg y51] (fun x1 x2 x=>FF x1 x2 x.1 x.2.1):=by
 refine H0Q func97 ntmps97 rfl results97 (by kernel_rfl) rfl ?_;intro y x1 x2 ⟨_,_,_⟩ z H Q hQ;have:HG prog Γ:=⟨K4⟩;have:=hz (tc O0x (@tn prog));refine iA [0,1,6,7]<|vQ<|iA [0,1,6,7,11]<|cD H (fun H=>iA [0,1]<|j0<|fR<|(hQ _ (I0j H (by kernel_rfl))).2) fun H=>vK<|fQ<|jB [0,1] H fun H=>(hQ _ (I0j H (by kernel_rfl))).1
def G0t:Int×Int×Int×Int×Int×Bool->Option (Bool×m6)
 | (e,b,c,f,a,d) =>
 if(!d) then
  some ((false,(0:Int),((0:Int),(0:Int)),(0:Int),(0:Int)))
 else
  some ((true,e,(b,c),f,a))
def Vn(a:Int)(h:Int×Int×Int×Int×Int×Int×Bool->Option (Bool×m6)):Int×Int×Int×Int×Int×Bool->Option (Bool×m6)
 | (e,d,f,b,g,c) =>
 gd (c9 (a+1)/\True) <|
 h (a+1,e,d,f,b,g,c)
def G0s(e:B3)(m:F4)(o:p7)(l:List Int)(n:Int×Int×Int×Int×Int×Int×Bool->Option (Bool×m6)):Int×Int×Int×Int×Int×Int×Bool->Option (Bool×m6)
 | (c,f,k,g,j,i,h) =>
 if(decide (c < (l.length:Int))) then
  gd (ix c l.length/\c.toNat<l.length/\True) <|
  gd (ix (l.getD c.toNat 0) m.1.2.2.1.length/\True)<|lt (m.1.2.2.1.getD (Int.toNat (l.getD c.toNat 0)) (b7 y80)) fun a =>
  gd (ix a.1 e.1.length/\True) <|
  if(e.1.getD a.1.toNat false) then
   gd (ix a.1 e.2.2.length/\(Dv m.1 o (l.getD c.toNat 0) (e.2.2.getD a.1.toNat (b7 y51))).isSome/\True)<|lt (vl (Dv m.1 o (l.getD c.toNat 0) (e.2.2.getD a.1.toNat (b7 y51)))) fun b =>
   gd ((ix a.1 e.2.1.length/\(Dy (e.2.1.getD a.1.toNat (b7 y51)) b.1).isSome/\True)/\(FF (f,(k,g),j,i) h (vl (Dy (e.2.1.getD a.1.toNat (b7 y51)) b.1),b.2,()).1 (vl (Dy (e.2.1.getD a.1.toNat (b7 y51)) b.1),b.2,()).2.1).isSome/\True)<|lt (vl (FF (f,(k,g),j,i) h (vl (Dy (e.2.1.getD a.1.toNat (b7 y51)) b.1),b.2,()).1 (vl (Dy (e.2.1.getD a.1.toNat (b7 y51)) b.1),b.2,()).2.1)) fun(d:(m6×Bool)) =>
   gd (True) <|
   Vn c n (d.1.1,d.1.2.1.1,d.1.2.1.2,d.1.2.2.1,d.1.2.2.2,d.2)
  else
   Vn c n (f,k,g,j,i,h)
 else
  G0t (f,k,g,j,i,h)
def MH(d:B3)(a:F4)(i:p7)(b:Int):Int×Int×Int×Int×Int×Bool->Option (Bool×m6)
 | (f,c,h,e,g,j) =>
 gd ((Mv a b).isSome/\True)<|lt (vl (Mv a b)) fun k =>
 lp (G0s d a i k) (0,f,c,h,e,g,j)
def CF(d:F4)(g:p7)(e:List m6)(f:B3)(b:Int):Option (Bool×m6) :=
 gd ((Mu e b).isSome/\True)<|lt (vl (Mu e b)) fun a =>
 if a.2 then
  gd (True/\(FF (b,(Int.ofNat 0,Int.ofNat 0),Int.ofNat 0,Int.ofNat 0) false (a.1.2.1,a.1.2.2,()).1 (a.1.2.1,a.1.2.2,()).2.1).isSome/\True)<|lt (vl (FF (b,(Int.ofNat 0,Int.ofNat 0),Int.ofNat 0,Int.ofNat 0) false (a.1.2.1,a.1.2.2,()).1 (a.1.2.1,a.1.2.2,()).2.1)) fun(c:(m6×Bool)) =>
  gd (True) <|
  MH f d g b (c.1.1,c.1.2.1.1,c.1.2.1.2,c.1.2.2.1,c.1.2.2.2,c.2)
 else
  MH f d g b (b,0,0,0,0,false)
def k42:Ct:=j9 42 [.dat y104.pt,.agg p5,.dat y53.sl,.agg y44,.dat i64] (fun x=>CF x.1 x.2.1 x.2.2.1 x.2.2.2.1 x.2.2.2.2.1) (fun r:Bool×m6=>AV.tup [B r.1,AV.agg (OK r.2)]) (fun _=>())
theorem o42:Ok prog k42:=by
 refine k6 [.tmp 10,.cell 11 53] func42 ?_;intro y ⟨l,m,_,g,s,_⟩ r H Q hn hr;have:=hz (tc o99 (tc o57 (tc o98 (tc o96 tn))));refine iA [0,2,4,6,8,11]<|iA [0,2,4,6,8,11,12]<|iA [0,2,4,6,8,11,12,13]<|jN r (fun((Y,X,v4,v5,v6,v7):Int×Int×Int×Int×Int×Bool)=>Z [p 0 (D y104.pt l),p 4 (J s),p 6 (R 6),p 8 (R 8),p 11 (R 11),p 12 (R 12),p 13 (R 13)] ((12,bx 53 [J Y,J X,J v4,J v5,J v6])::(13,bx 4 [C v7])::Dj g m)) (MH g l m s) (fun w H=>?_) (fun _ n0 e0 t0=>?_)
 ·obtain⟨Y,X,v4,v5,v6,v7⟩:=w;refine jN r (fun((T,v,x,t,G,z):Int×Int×Int×Int×Int×Bool)=>Z [p 11 (R 11),p 12 (R 12),p 13 (R 13)] [(12,bx 53 [J T,J v,J x,J t,J G]),(13,bx 4 [C z]),(11,bx 53 (Di 0 0 0 0 0))]) (G0t) (fun⟨T,v,x,t,G,z⟩ H=>?_) (fun _ n1 e1 t1=>?_)
  ·refine vQ<|iA [11,12,85]<|cD H (fun H=>iA [10,11]<|j0<|fR<|hr H) fun H=>vK<|fQ<|iA [10,11]<|j0<|hr H
  refine qD (fun c=>Z (IJ l [p 37 (O 37),p 38 (I (c.length:Int)),p 39 (I 0)]) ((37,A 2 i64 c 0)::(12,bx 53 [J Y,J X,J v4,J v5,J v6])::(13,bx 4 [C v7])::Dj g m)) H fun c H=>vB<|lX (fun((a,k,j,e,f,i,d):Int×Int×Int×Int×Int×Int×Bool)=>Z (IJ l [p 37 (O 37),p 38 (I (c.length:Int)),p 39 (I a)]) ((37,A 2 i64 c 0)::(12,bx 53 [J k,J j,J e,J f,J i])::(13,bx 4 [C d])::Dj g m)) (0,Y,X,v4,v5,v6,v7) H fun _ g2 b2 e2 t2 ⟨a,k,j,e,f,i,d⟩ H=>iA [0,6,8,11,12,13,37,38,39,40]<|vQ<|cD H (fun H=>?_) (fun H=>?_)
  ·refine vK<|fQ<|jN r (fun((V,F,W,P,u,E):Int×Int×Int×Int×Int×Bool)=>Z (IJ l [p 37 (O 37),p 38 (I (c.length:Int)),p 39 (I a)]) ((12,bx 53 [J V,J F,J W,J P,J u])::(13,bx 4 [C E])::(37,A 2 i64 c 0)::Dj g m)) (Vn a g2) (fun⟨V,F,W,P,u,E⟩ H=>?_) (fun _ n3 e3 t3=>?_)
   ·refine jB [0,6,8,11,12,13,37,38,39] H fun H=>b2 H
   refine vB<|iB [0,6,8,11,12,13,17,37,38,39] H fun H=>qD (fun n=>Z (IJ l [p 17 (I (c.getD a.toNat 0)),p 18 (J n.1),p 37 (O 37),p 38 (I (c.length:Int)),p 39 (I a)]) ((37,A 2 i64 c 0)::(12,bx 53 [J k,J j,J e,J f,J i])::(13,bx 4 [C d])::Dj g m)) H fun n H=>iB [0,6,8,11,12,13,17,18,37,38,39,58] H fun H=>cD H (fun H=>qD (fun b=>Z (IJ l [p 18 (J n.1),p 19 (R 19),p 20 (R 20),p 37 (O 37),p 38 (I (c.length:Int)),p 39 (I a)]) ((20,bx 51 (o8 true y51 b.2))::(19,bx 51 (o8 true y51 b.1))::(37,A 2 i64 c 0)::(12,bx 53 [J k,J j,J e,J f,J i])::(13,bx 4 [C d])::Dj g m)) H fun b H=>zU K4 (HT.h) q97 [0,6,8,11,12,13,37,38,39] (fun(o:m6×Bool)=>Z (IJ l [p 37 (O 37),p 38 (I (c.length:Int)),p 39 (I a)]) ((12,K 53 y53 o.1)::(13,bx 4 [C o.2])::(20,bx 51 (o8 true y51 b.2))::(19,bx 51 (o8 true y51 b.1))::(37,A 2 i64 c 0)::Dj g m)) (fun(o:m6×Bool)=>True) (x1:=(k,(j,e),f,i)) (x2:=d) (xs:=(vl (Dy (g.2.1.getD n.1.toNat (b7 y51)) b.1),b.2,())) H (fun _=>by kernel_rfl) fun o H=>J4 H fun H=>fK<|n3 H) fun H=>vK<|fK<|n3 H
  exact vE<|fE<|e2<|fX rfl<|n1 H
 refine qD (fun q=>Z [p 0 (D y104.pt l),p 4 (J s),p 6 (R 6),p 8 (R 8),p 11 (R 11),p 12 (R 12),p 13 (R 13),p 14 (R 14),p 15 (B q.2)] ((14,bx 53 (o8 true y53 q.1))::(13,bx 4 [B false])::(12,bx 53 [J s,I 0,I 0,I 0,I 0])::Dj g m)) H fun q H=>iA [0,4,6,8,11,12,13,14,29]<|cD H (fun H=>zT K4 (HT.h) q97 4 [0,4,6,8,11,12,13] (fun(v1:m6×Bool)=>Z [p 0 (D y104.pt l),p 4 (J s),p 6 (R 6),p 8 (R 8),p 11 (R 11),p 12 (R 12),p 13 (R 13)] ((12,K 53 y53 v1.1)::(13,bx 4 [C v1.2])::(14,bx 53 (o8 true y53 q.1))::Dj g m)) (fun(v1:m6×Bool)=>True) (x1:=(s,(Int.ofNat 0,Int.ofNat 0),Int.ofNat 0,Int.ofNat 0)) (x2:=false) (xs:=(q.1.2.1,q.1.2.2,())) H (fun _=>by kernel_rfl) fun v1 H=>J4 H fun H=>n0 H) fun H=>vK<|n0 H
def G0P:List s9×List s9×List Bool->Option (B3×Bool)
 | (a,b,c) =>
 some (((c,b,a),true))
def G0O(b:List Int)(g:F4)(i:p7)(h:List m6)(j:Int×List s9×List s9×List Bool->Option (B3×Bool)):Int×List s9×List s9×List Bool->Option (B3×Bool)
 | (a,d,e,f) =>
 if(decide (a < (b.length:Int))) then
  gd (ix a b.length/\True) <|
  gd ((CF g i h (f,e,d) (b.getD a.toNat 0)).isSome/\True)<|lt (vl (CF g i h (f,e,d) (b.getD a.toNat 0))) fun c =>
  gd ((c.1=true/\True->(K5 c.2.2.1).isSome)/\True) <|
  if(c.1&&!vl (K5 c.2.2.1)) then
   some ((([],[],[]),false))
  else
   gd (ix (b.getD a.toNat 0) f.length/\Int.toNat (b.getD a.toNat 0)<f.length/\ix (b.getD a.toNat 0) e.length/\Int.toNat (b.getD a.toNat 0)<e.length/\ix (b.getD a.toNat 0) d.length/\Int.toNat (b.getD a.toNat 0)<d.length/\True) <|
   gd (c9 (a+1)/\True) <|
   j ((a+1,d.set (Int.toNat (b.getD a.toNat 0)) c.2.2.2,e.set (Int.toNat (b.getD a.toNat 0)) c.2.2.1,f.set (Int.toNat (b.getD a.toNat 0)) c.1))
 else
  G0P (d,e,f)
def Ht(a:F4)(e:p7)(c:List m6)(d:List Int):Option (B3×Bool) :=
 gd ((Mt a.1).isSome/\True)<|lt (vl (Mt a.1)) fun b =>
 lp (G0O d a e c) (0,b.2.2,b.2.1,b.1)
def k30:Ct:=j9 30 [.dat y104.pt,.agg p5,.dat y53.sl,.dat i64.sl] (fun x=>Ht x.1 x.2.1 x.2.2.1 x.2.2.2.1) (fun r:B3×Bool=>AV.tup [AV.agg [AV.ow 4 true Ty.bool r.1.1,AV.ow 51 true y51 r.1.2.1,AV.ow 51 true y51 r.1.2.2],B r.2]) (fun _=>())
theorem o30:Ok prog k30:=by
 refine k6 [.cell 8 44,.tmp 9] func30 ?_;intro y ⟨g,l,i,b,_⟩ r H Q hn hr;have:=hz (tc LC (tc o42 (tc o69 tn)));refine iA [0,2,3,5,8]<|qD (fun a=>Z [p 0 (D y104.pt g),p 2 (L y53 i),p 3 (L i64 b),p 5 (R 5),p 8 (R 8),p 10 (R 10)] (TB a.2.2 a.2.1 a.1 l)) H fun a H=>jN r (fun((c,d,e):List s9×List s9×List Bool)=>Z [p 8 (R 8),p 10 (R 10)] [(10,bx 44 [AV.os 19 0,AV.os 1019 0,AV.os 2019 0]),(2019,A 51 y51 c 0),(1019,A 51 y51 d 0),(19,A 4 Ty.bool e 0),(8,bx 44 [nil,nil,nil])]) (G0P) (fun⟨c,d,e⟩ H=>?_) (fun _ q u n=>?_)
 ·refine iA [8,9]<|j0<|hr H
 refine iA [0,2,5,8,10,20,21,22]<|vB<|lX (fun((f,j,h,m):Int×List s9×List s9×List Bool)=>Z [p 0 (D y104.pt g),p 2 (L y53 i),p 5 (R 5),p 8 (R 8),p 10 (R 10),p 20 (L i64 b),p 21 (I (b.length:Int)),p 22 (I f)] (TB j h m l)) (0,a.2.2,a.2.1,a.1) H fun _ v t s o ⟨f,j,h,m⟩ H=>iA [0,2,5,8,10,20,21,22,23]<|vQ<|cD H (fun H=>?_) (fun H=>?_)
 ·refine vK<|fQ<|vQ<|vB<|iB [0,2,5,8,10,12,20,21,22] H fun H=>qD (fun k=>Z [p 0 (D y104.pt g),p 2 (L y53 i),p 5 (R 5),p 8 (R 8),p 10 (R 10),p 12 (J (b.getD f.toNat 0)),p 13 (B k.1),p 14 (R 14),p 20 (L i64 b),p 21 (I (b.length:Int)),p 22 (I f)] ((14,bx 53 (o8 true y53 k.2))::TB j h m l)) H fun k H=>vQ<|iB [0,2,5,8,10,12,13,14,20,21,22,41] H fun H=>cD H (fun H=>iA [8,9]<|j0<|fR<|l9<|fR<|o<|l9<|n<|hr H) fun H=>vK<|fQ<|jB [0,2,5,8,10,20,21,22] H fun H=>fK<|fQ<|jB [0,2,5,8,10,20,21,22] H fun H=>t H
 exact vE<|fE<|s<|fX rfl<|q H
def BT(b:j7)(g:p7)(c:List Int)(e:List m6):Option (Int ⊕ F4×List Int×Int) :=
 gd ((AF b).isSome/\((!vl (AF b))=false/\True->(Hm g).isSome)/\True) <|
 if(!vl (AF b)||!vl (Hm g)) then
  some (Sum.inl 1)
 else
  gd ((CA b).isSome/\True)<|lt (vl (CA b)) fun a =>
  gd ((Dx a c).isSome/\((!vl (Dx a c))=false/\True->(Ho a e).isSome)/\True) <|
  if(!vl (Dx a c)||!vl (Ho a e)) then
   some (Sum.inl 2)
  else
   gd ((Hp a c).isSome/\True)<|lt (vl (Hp a c)) fun d =>
   gd ((Hr d).isSome/\True)<|lt (vl (Hr d)) fun f =>
   if(!f.2) then
    some (Sum.inl 7)
   else
    some (Sum.inr (d,f.1,(0:Int)))
def P0f:Ct:=j9 29 [.agg k8,.agg p5,.dat (.sl (.int .i64)),.dat (.sl y53),.nil] (fun x=>BT x.1 x.2.1 x.2.2.1 x.2.2.2.1) (two (fun r:Int=>AV.tup (OL r)) (fun r:F4×List Int×Int=>AV.tup [D y104.pt r.1,AV.ow 2 true i64 r.2.1,I r.2.2])) (fun _=>())
def L0b:Ct:=Qk 29 [.agg k8,.agg p5,.dat (.sl (.int .i64)),.dat (.sl y53),.nil] (fun x=>BT x.1 x.2.1 x.2.2.1 x.2.2.2.1) (fun r:Int=>AV.tup (OL r)) ()
def L0a:Ct:=Ql 29 [.agg k8,.agg p5,.dat (.sl (.int .i64)),.dat (.sl y53),.nil] (fun x=>BT x.1 x.2.1 x.2.2.1 x.2.2.2.1) (fun r:F4×List Int×Int=>AV.tup [D y104.pt r.1,AV.ow 2 true i64 r.2.1,I r.2.2]) ()
theorem L0S:Ok prog P0f:=by
 refine k6 [.tmp 10,.tmp 11,.tmp 12] func29 ?_;intro y ⟨b,d,g,h,_,_⟩ r H Q hn hr;have:=hz (tc o68 (tc o67 (tc o66 (tc o65 (tc Uc (tc Uq (tc o54 (tc UJ tn))))))));refine iA [2,3,4,5,6]<|vQ<|iB [2,3,4,5,24] H fun H=>cD H (fun H=>iA [10,11,12]<|j0<|fR<|hr H) fun H=>vK<|fQ<|qD (fun e=>Z [p 2 (L i64 g),p 3 (L y53 h),p 4 (AV.v (Value.pointer none)),p 13 (D y157.pt e)] (Dm d b)) H fun e H=>vQ<|vB<|vQ<|D0k [2,3,13] 4 27 rfl (fun f w Q' k=>t0m (Qm rfl rfl (z0Z _ (Vo (K4 101 R0s rfl).2.2.2.2.2 rfl rfl) rfl (Qm rfl rfl (Jt rfl rfl rfl rfl (Jt rfl rfl rfl rfl (Jt rfl rfl rfl rfl (Jt rfl rfl rfl rfl (Jt rfl rfl rfl rfl (Jt rfl rfl rfl rfl (Qm rfl rfl (Qm rfl rfl (oN (E0l (by ((repeat (refine x0K rfl ?_)); exact D0l)) k))))))))))))))<|fQ<|cf (by kernel_rfl)<|?_
 refine iB [2,13,38] H fun H=>cD H (fun H=>iA [10,11,12]<|j0<|l9<|fR<|hr H) fun H=>vK<|fK<|fQ<|qD (fun a=>Z [p 14 (D y104.pt a)] (Dm d b)) H fun a H=>qD (fun c=>Z [p 14 (D y104.pt a),p 15 (O 54),p 16 (B c.2)] ((54,A 2 i64 c.1 0)::Dm d b)) H fun c H=>vQ<|iA [14,15,58]<|cD H (fun H=>iA [10,11,12]<|j0<|fR<|hr H) fun H=>vK<|fQ<|iA [10,11,12]<|j0<|hr H
theorem K0A:Ok prog L0b:=L0R L0S
theorem K0z:Ok prog L0a:=L0Q L0S
end Go.Proofs.YtdjgagoledoaaaaGreatDoor
end
