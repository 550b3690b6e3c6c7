/- Functions of this program as plain functions of data, and that they are so: printed by program. -/
import Derived.Test.YtdjgagoledoaaaaGreatDoorXD
import Derived.Test.YtdjgagoledoaaaaGreatDoorXF
import Derived.Test.YtdjgagoledoaaaaGreatDoorTY
import Derived.Test.YtdjgagoledoaaaaGreatDoorLB
section
namespace Go.Proofs.YtdjgagoledoaaaaGreatDoor
open Go Go.Proofs Go.Proofs.Sv Go.Proofs.Xv Go.Proofs.Xl Go.RowKit
open Tryz
instance:HG Tryz.prog Γ:=⟨L9⟩
abbrev bx(T:TypeId)(c:List AV):Ob:=.box T c
abbrev b8:Ty:=.int .u8
abbrev Q0(x:j7 (.sl y64)×(j7 (.sl y139)×j7 (.sl Ty.str)×j7 (.sl y202))×j7 (.sl l9)):List AV:=[L y64 x.1,M y139 x.2.1.1,M Ty.str x.2.1.2.1,M y202 x.2.1.2.2,M l9 x.2.2]
abbrev Q1(x:ByteArray×Int×j7 (.sl y233)×j7 (.sl y67)×j7 (.sl i64)×Int×Int):List AV:=[S x.1,I x.2.1,M y233 x.2.2.1,M y67 x.2.2.2.1,L i64 x.2.2.2.2.1,I x.2.2.2.2.2.1,I x.2.2.2.2.2.2]
abbrev Q2(x:j7 (.sl y64)×(j7 (.sl y139)×j7 (.sl Ty.str)×j7 (.sl y202))×j7 (.sl l9)):List AV:=[L y64 x.1,L y139 x.2.1.1,L Ty.str x.2.1.2.1,L y202 x.2.1.2.2,L l9 x.2.2,AV.os 18 0,AV.os 38 0,nil,nil,nil]
abbrev Q3(x:j7 (.sl y64)×(j7 (.sl y139)×j7 (.sl Ty.str)×j7 (.sl y202))×j7 (.sl l9)):List AV:=[L y64 x.1,L y139 x.2.1.1,L Ty.str x.2.1.2.1,L y202 x.2.1.2.2,L l9 x.2.2,AV.os 18 0,AV.os 38 0,AV.os 102 0,AV.os 114 0,nil]
abbrev Q4(x:ByteArray×Int×j7 (.sl y233)×j7 (.sl y67)×Int×Int):List AV:=[S x.1,I x.2.1,M y233 x.2.2.1,M y67 x.2.2.2.1,nil,I x.2.2.2.2.1,I x.2.2.2.2.2]
abbrev Q5(x:j7 (.sl y139)×j7 (.sl Ty.str)×j7 (.sl y202)):List AV:=[AV.os 9 0,M y139 x.1,M Ty.str x.2.1,M y202 x.2.2,AV.os 1009 0]
abbrev Q6(x:ByteArray×Int×Int×Int×Int):List AV:=[S x.1,I x.2.1,I x.2.2.1,I x.2.2.2.1,I x.2.2.2.2]
abbrev Q60(x1:j7 (.sl y139)):List AV:=[M y139 x1,AV.os 18 0,AV.os 23 0]
abbrev TF(x1:j7 (.sl y139))(x2:j7 (.sl Ty.str))(x3:j7 (.sl y202)):List AV:=[M y139 x1,M Ty.str x2,M y202 x3]
abbrev A3(x1:j7 (.sl b8))(x2:Int)(x3:Int):List AV:=[L b8 x1,J x2,J x3]
abbrev De(x1:j7 (.sl y139))(x2:j7 (.sl Ty.str))(x3:j7 (.sl y202)):List AV:=[AV.os 9 0,M y139 x1,M Ty.str x2,M y202 x3,AV.os 1009 0]
abbrev By(x1:j7 (.sl y64))(x2:j7 (.sl y139))(x3:j7 (.sl Ty.str))(x4:j7 (.sl y202))(x5:j7 (.sl l9)):List AV:=[L y64 x1,M y139 x2,M Ty.str x3,M y202 x4,M l9 x5]
abbrev Ck(x1:ByteArray)(x2:Int)(x3:Int)(x4:Int):List AV:=[S x1,I x2,nil,nil,nil,I x3,I x4]
abbrev Cm(x1:j7 (.sl y51)):List AV:=[AV.os 20 0,AV.os 1020 0,M y51 x1]
abbrev GC(x1:ByteArray)(x2:Int)(x3:Int)(x4:Int)(x5:Int):List AV:=[S x1,I x2,I x3,I x4,I x5]
abbrev W0(y0:j7 (.sl y139))(y1:List (j7 y202))(y2:List (j7 Ty.str))(y3:j7 (.sl y139))(y4:j7 (.sl Ty.str))(y5:j7 (.sl y202)):List (Nat×Ob):=[(7,bx 31 (Q60 y0)),(23,A 202 y202 y1 0),(18,A 9 Ty.str y2 0),(6,bx 31 (TF y3 y4 y5))]
abbrev W1:List (Nat×Ob):=[(3,bx 36 (GC (ByteArray.mk #[]) 0 0 0 0)),(2,bx 34 [nil,nil,nil,nil,nil])]
abbrev W2(y0:List (j7 l9))(y1:List (j7 y64)):List (Nat×Ob):=[(1009,A 153 l9 y0 0),(9,Ob.arr 64 false y64 y1 0),(2,bx 34 [nil,nil,nil,nil,nil])]
abbrev G3(y0:Bool)(y1:Int)(t:List (Nat×Sl)):List (Nat×Sl):=p 0 (R 500000) :: p 2 (C y0) :: p 6 (R 6) :: p 7 (R 7) :: p 8 (O 25) :: p 9 (O 26) :: p 10 (O 27) :: p 11 (I y1) :: t
abbrev W4(y0:j7 o8)(y1:j7 l6):List (Nat×Ob):=[(10,bx 44 [nil,nil,nil]),(7,K 36 o8 y0),(6,K 34 l6 y1)]
abbrev G5(t:List (Nat×Sl)):List (Nat×Sl):=p 0 (R 500000) :: p 2 (R 2) :: p 3 (R 3) :: p 6 (R 6) :: p 7 (R 7) :: t
abbrev W6(y0:Int)(y1:Int)(y2:Int)(y3:Int)(y4:Int)(y5:j7 y44)(y6:j7 o8)(y7:j7 l6):List (Nat×Ob):=[(17,bx 53 [J y0,J y1,J y2,J y3,J y4]),(15,bx 53 [I 0,I 0,I 0,I 0,I 0]),(12,K 44 y44 y5),(8,K 36 o8 y6),(7,K 34 l6 y7)]
abbrev W7(y0:List (j7 y151))(y1:j7 l6)(y2:List (j7 y80)):List (Nat×Ob):=[(18,A 151 y151 y0 0),(1,K 34 l6 y1),(38,A 80 y80 y2 0)]
abbrev G8(t:List (Nat×Sl)):List (Nat×Sl):=p 2 (R 2) :: p 3 (R 3) :: t
abbrev W9(y0:List (j7 i64)):List (Nat×Ob):=[(3012,A 2 i64 y0 0),(4,bx 153 [nil,nil,nil,nil])]
abbrev GD(y0:Int)(y1:Int)(y2:Int)(y3:Int)(y4:Int)(y5:Int)(y6:Int)(y7:Int)(y8:Int)(t:List (Nat×Sl)):List (Nat×Sl):=p 3 (J y0) :: p 4 (R 4) :: p 9 (I y1) :: p 10 (I y2) :: p 11 (I y3) :: p 12 (I y4) :: p 13 (I y5) :: p 14 (I y6) :: p 15 (I y7) :: p 16 (I y8) :: t
abbrev Av(t:List (Nat×Sl)):List (Nat×Sl):=p 1 (R 1) :: p 3 (R 20) :: p 7 (O 50) :: t
abbrev GF(y0:List (j7 i64))(y1:List (j7 y53))(y2:Int)(y3:Int)(t:List (Nat×Sl)):List (Nat×Sl):=p 3 (R 3) :: p 4 (R 4) :: p 5 (M i64 y0) :: p 6 (M y53 y1) :: p 7 (R 7) :: p 8 (I y2) :: p 9 (I y3) :: t
abbrev Bz(t:List (Nat×Sl)):List (Nat×Sl):=p 0 (R 500000) :: p 4 (R 4) :: p 5 (R 5) :: t
abbrev Aw(y0:Int)(y1:List (j7 y80))(y2:List (j7 Ty.bool))(t:List (Nat×Sl)):List (Nat×Sl):=p 0 (J y0) :: p 1 (L y80 y1) :: p 2 (L Ty.bool y2) :: t
abbrev Df(y0:Bool)(t:List (Nat×Sl)):List (Nat×Sl):=p 0 (R 500000) :: p 2 (C y0) :: p 6 (R 6) :: p 7 (R 7) :: t
abbrev U6(y0:List (j7 y80))(y1:List (j7 Ty.bool))(t:List (Nat×Sl)):List (Nat×Sl):=p 2 (L y80 y0) :: p 3 (L Ty.bool y1) :: t
abbrev U7(t:List (Nat×Sl)):List (Nat×Sl):=p 10 (R 10) :: p 11 (R 11) :: t
abbrev Fh(y0:Int)(t:List (Nat×Sl)):List (Nat×Sl):=p 0 (R 500000) :: p 5 (O 13) :: p 6 (O 20) :: p 7 (I y0) :: t
abbrev II(y0:Int)(y1:Int)(y2:Int)(y3:Int)(t:List (Nat×Sl)):List (Nat×Sl):=p 3 (J y0) :: p 4 (R 4) :: p 10 (I y1) :: p 11 (O 29) :: p 12 (I y2) :: p 13 (I y3) :: t
abbrev S0(y0:Int)(t:List (Nat×Sl)):List (Nat×Sl):=p 1 (R 1) :: p 3 (I y0) :: t
abbrev KP(y0:j7 y157.pt)(y1:List (j7 Ty.bool)):List (Nat×Ob):=[(17,bx 104 [D y157.pt y0,AV.os 15 0]),(15,A 4 Ty.bool y1 0)]
abbrev OS(y0:Int)(y1:Int)(y2:Int)(t:List (Nat×Sl)):List (Nat×Sl):=p 0 (R 500000) :: p 1 (J y0) :: p 4 (R 4) :: p 5 (O 12) :: p 6 (O 14) :: p 7 (O 15) :: p 8 (I y1) :: p 9 (I y2) :: t
abbrev Cn(t:List (Nat×Sl)):List (Nat×Sl):=p 0 (R 500000) :: p 6 (R 6) :: t
abbrev OT(y0:List (j7 y53))(y1:Int)(t:List (Nat×Sl)):List (Nat×Sl):=p 3 (L y53 y0) :: p 6 (J y1) :: p 7 (R 7) :: p 8 (R 8) :: p 11 (R 11) :: p 17 (O 38) :: p 18 (O 41) :: t
abbrev IJ(y0:List (j7 S6))(y1:List (j7 S6))(y2:j7 y70):List (Nat×Ob):=[(29,A 252 S6 y0 0),(22,A 252 S6 y1 0),(4,K 70 y70 y2)]
abbrev TH(y0:List (j7 y64)):List (Nat×Ob):=[(7,bx 26 [AV.os 12 0]),(12,Ob.arr 64 false y64 y0 0),(6,bx 34 [nil,nil,nil,nil,nil])]
abbrev GG(y0:j7 y31)(y1:List (j7 y64)):List (Nat×Ob):=[(3,K 31 y31 y0),(2,bx 26 [L y64 y1])]
abbrev OU(y0:j7 (.sl b8))(y1:Int)(y2:Int):List (Nat×Ob):=[(500000,bx 122 (A3 y0 y1 y2)),(6,bx 64 (Ck (ByteArray.mk #[]) 0 0 0))]
abbrev KQ(y0:Int)(y1:Int)(y2:Int)(y3:Int)(t:List (Nat×Sl)):List (Nat×Sl):=p 0 (O 500000) :: p 2 (J y0) :: p 3 (J y1) :: p 4 (J y2) :: p 6 (R 6) :: p 11 (I y3) :: t
abbrev KS(y0:List (j7 i64)):List (Nat×Ob):=[(12,A 2 i64 y0 0),(4,bx 70 [nil,nil,nil])]
abbrev IK(y0:j7 y44)(y1:j7 o8)(y2:j7 l6):List (Nat×Ob):=[(13,K 44 y44 y0),(9,K 36 o8 y1),(8,K 34 l6 y2)]
abbrev OV(y0:Int)(y1:Bool)(y2:Int)(t:List (Nat×Sl)):List (Nat×Sl):=p 0 (R 500000) :: p 5 (AV.os 13 1) :: p 6 (O 20) :: p 7 (I y0) :: p 8 (B y1) :: p 9 (I y2) :: t
abbrev Dg(t:List (Nat×Sl)):List (Nat×Sl):=p 1 (R 1) :: p 3 (O 20) :: t
abbrev TJ(y0:ByteArray)(y1:Int)(y2:Int)(y3:Int)(y4:List (j7 y233)):List (Nat×Ob):=[(9,bx 64 [U y0,J y1,AV.os 27 0,nil,nil,I y2,I y3]),(27,A 233 y233 y4 0),(8,bx 64 (Ck (ByteArray.mk #[]) 0 0 0))]
abbrev IL(y0:List (j7 Ty.bool))(y1:List (j7 i64.sl)):List (Nat×Ob):=[(16,A 4 Ty.bool y0 0),(14,A 37 i64.sl y1 0)]
abbrev KT(y0:Int)(t:List (Nat×Sl)):List (Nat×Sl):=p 1 (R 1) :: p 3 (O 12) :: p 4 (R 4) :: p 5 (I y0) :: t
abbrev Fi(y0:j7 o8)(y1:j7 l6):List (Nat×Ob):=[(8,K 36 o8 y0),(7,K 34 l6 y1)]
abbrev GH(y0:List (j7 i64))(y1:j7 y31):List (Nat×Ob):=[(92,A 2 i64 y0 0),(3,K 31 y31 y1)]
abbrev KU(y0:List (j7 y80))(y1:List (j7 Ty.bool))(y2:Bool)(y3:Bool)(t:List (Nat×Sl)):List (Nat×Sl):=p 1 (L y80 y0) :: p 2 (L Ty.bool y1) :: p 4 (C y2) :: p 11 (O 17) :: p 12 (B y3) :: t
abbrev OW(y0:List (j7 y53))(y1:List (j7 y53))(y2:j7 m4)(y3:List (j7 r7)):List (Nat×Ob):=[(13,A 53 y53 y0 1),(78,A 53 y53 y1 0),(500000,K 122 m4 y2),(20,A 190 r7 y3 0)]
def u7(a:List Int):Option Bool :=
 some (decide (4096 < (a.length:Int)))
def k7:Ct:=k8 7 [.dat (b8.sl)] (fun x=>u7 x.1) (fun r:Bool=>B r) (fun _=>())
theorem o7:Ok prog k7:=by
 refine k9 [.tmp 2] func7 ?_;intro y ⟨_,_⟩ r H Q hn hr;refine iA [0]<|iA [2]<|j0<|hr H
def r9(a:Int)(b:Int)(c:Int):Option Bool :=
 some (decide (b<=a)&&decide (a<=c))
def R0Z:Ct:=k8 101 [.dat i64,.dat i64,.dat i64] (fun x=>r9 x.1 x.2.1 x.2.2.1) (fun r:Bool=>B r) (fun _=>())
theorem AW:Ok prog R0Z:=by
 refine k9 [.tmp 6] func101 ?_;intro y ⟨_,_,_,_⟩ r H Q hn hr;refine iA [0,1,2]<|iA [6]<|j0<|hr H
def U8(a:w7):Option Bool :=
 gd ((r9 a.1 (-1000000000) 1000000000).isSome/\(vl (r9 a.1 (-1000000000) 1000000000)=true/\True->(r9 a.2 (-1000000000) 1000000000).isSome)/\True) <|
 some (vl (r9 a.1 (-1000000000) 1000000000)&&vl (r9 a.2 (-1000000000) 1000000000)&&decide (a.1<=a.2))
def k80:Ct:=k8 80 [.agg y51] (fun x=>U8 x.1) (fun r:Bool=>B r) (fun _=>())
theorem TK:Ok prog k80:=by
 refine k9 [.tmp 2] func80 ?_;intro y ⟨_,_⟩ r H Q hn hr;have:=hz (tc AW tn);refine iA [1]<|iB [2] H fun H=>j0<|hr H
def KV(a:w7)(b:w7):Option w7 :=
 some (min a.1 b.1,max a.2 b.2)
def R0z:Ct:=k8 132 [.agg y51,.agg y51] (fun x=>KV x.1 x.2.1) (fun r:w7=>AV.agg [I r.1,I r.2]) (fun _=>())
theorem TL:Ok prog R0z:=by
 refine k9 [.cell 4 51] func132 ?_;intro y ⟨_,_,_⟩ r H Q hn hr;refine iA [2,3,4]<|iA [4]<|j0<|hr H
def U9(b:Int)(a:Int)(c:Int):Option Int :=
 gd (0<a/\True) <|
 gd (0<a/\True) <|
 if(decide (b.tmod a<0)&&c==0) then
  gd (c9 (b.tdiv a-1)/\True) <|
  some (b.tdiv a-1)
 else
  if(decide (0<b.tmod a)&&c==1) then
   gd (c9 (b.tdiv a+1)/\True) <|
   some (b.tdiv a+1)
  else
   some (b.tdiv a)
def Q0F:Ct:=k8 185 [.dat i64,.dat i64,.dat i64] (fun x=>U9 x.1 x.2.1 x.2.2.1) (fun r:Int=>I r) (fun _=>())
theorem Fj:Ok prog Q0F:=by
 refine k9 [.tmp 6] func185 ?_;intro y ⟨_,_,_,_⟩ r H Q hn hr;refine iA [0,1,2]<|iB [0,1,2,7] H fun H=>iB [2,7,8] H fun H=>vQ<|iA [2,7,8,20]<|cD H (fun H=>iB [6] H fun H=>j0<|fR<|hr H) fun H=>vK<|fQ<|vQ<|iA [7,28]<|cD H (fun H=>iB [6] H fun H=>j0<|fR<|hr H) fun H=>vK<|fQ<|iA [6]<|j0<|hr H
def TM:Int->Option Int
 | a =>
 some a
def KW(b:Int)(c:Int):Int->Option Int
 | a =>
 gd (((b==1)=true/\True->c9 (a*a))/\True) <|
 if(b==1&&decide (a*a<c)) then
  gd (c9 (a+1)/\True) <|
  TM (a+1)
 else
  TM a
def OX(c:Int)(e:Int)(d:Int×Int->Option Int):Int×Int->Option Int
 | (a,b) =>
 if(decide (a<b)) then
  gd (c9 (a+b)/\c9 (a+b+(1:Int))/\(0:Int) < (2:Int)/\True) <|
  gd (c9 ((a+b+1).tdiv 2*(a+b+1).tdiv 2)/\True) <|
  if(decide ((a+b+1).tdiv 2*(a+b+1).tdiv 2<=c)) then
   d (((a+b+1).tdiv 2,b))
  else
   gd (c9 ((a+b+1).tdiv 2-1)/\True) <|
   d ((a,(a+b+1).tdiv 2-1))
 else
  KW e c a
def Co(a:Int)(b:Int):Option Int :=
 lp (OX a b) (0,2000000000)
def Q0o:Ct:=k8 211 [.dat i64,.dat i64] (fun x=>Co x.1 x.2.1) (fun r:Int=>I r) (fun _=>())
theorem O0S:Ok prog Q0o:=by
 refine k9 [.tmp 4] func211 ?_;intro y ⟨b,a,_⟩ r H Q hn hr;refine iA [0,1]<|iA [0,1,5,6]<|jN r (fun(e:Int)=>Z [p 0 (J b),p 1 (J a),p 5 (I e)] []) (KW a b) (fun e H=>?_) (fun _ j k l=>?_)
 ·refine jN r (fun(d:Int)=>Z [p 5 (I d)] []) (TM) (fun d H=>?_) (fun _ g n o=>?_)
  ·refine iA [4]<|j0<|hr H
  refine iB [5,32] H fun H=>cD H (fun H=>jB [5] H fun H=>g H) fun H=>vK<|g H
 refine vB<|lX (fun((c,h):Int×Int)=>Z [p 0 (J b),p 1 (J a),p 5 (I c),p 6 (I h)] []) (0,2000000000) H fun _ q f i m ⟨c,h⟩ H=>vQ<|iA [0,1,5,6,10]<|cD H (fun H=>?_) (fun H=>?_)
 ·refine vK<|fQ<|vB<|iB [0,1,5,6,7] H fun H=>iB [0,1,5,6,7,20] H fun H=>cD H (fun H=>jA [0,1,5,6]<|fK<|f H) fun H=>jB [0,1,5,6] H fun H=>fK<|f H
 exact vE<|fE<|i<|fX rfl<|j H
def GI(c:List m6)(b:r6)(a:D0):Option Int :=
 if(decide (a.1<0)) then
  some 0
 else
  gd (ix a.1 b.1.length/\ix (b.1.getD a.1.toNat (b7 y139)).2.1 c.length/\ix a.2.1 (c.getD (b.1.getD a.1.toNat (b7 y139)).2.1.toNat (b7 y64)).2.2.1.length/\True)<|lt ((c.getD (b.1.getD a.1.toNat (b7 y139)).2.1.toNat (b7 y64)).2.2.1.getD a.2.1.toNat (b7 y233)) fun d =>
  some d.2.2.1
def Q0c:Ct:=k8 227 [.agg y64.sl,.agg y31,.agg r7] (fun x=>GI x.1 x.2.1 x.2.2.1) (fun r:Int=>I r) (fun _=>())
theorem O0M:Ok prog Q0c:=by
 refine k9 [.tmp 6] func227 ?_;intro y ⟨c,d,b,_⟩ r H Q hn hr;refine iA [3,4,5]<|vQ<|iA [3,4,5,9]<|cD H (fun H=>iA [6]<|j0<|fR<|hr H) fun H=>vK<|fQ<|qD (fun a=>Z [p 6 (J a.2.2.1)] [(5,K 190 r7 b),(4,K 31 y31 d),(3,bx 26 [L y64 c])]) H fun a H=>j0<|hr H
def ZH:List D0->Option (List D0)
 | a =>
 some a
def TN(b:r6)(e:Int×List D0->Option (List D0)):Int×List D0->Option (List D0)
 | (a,c) =>
 if(decide (a < (b.2.2.length:Int))) then
  gd (ix a b.2.2.length/\ix a b.2.2.length/\(c.length+[(-1,a,(b.2.2.getD a.toNat (b7 y202)).2.2,(b.2.2.getD a.toNat (b7 y202)).2.1==1)].length<=9223372036854775807/\(c.length+[(-1,a,(b.2.2.getD a.toNat (b7 y202)).2.2,(b.2.2.getD a.toNat (b7 y202)).2.1==1)].length)*32<=140737488355328)/\True)<|lt ((c++[(-1,a,(b.2.2.getD a.toNat (b7 y202)).2.2,(b.2.2.getD a.toNat (b7 y202)).2.1==1)],[(-1,a,(b.2.2.getD a.toNat (b7 y202)).2.2,(b.2.2.getD a.toNat (b7 y202)).2.1==1)])) fun(d,_) =>
  gd (c9 (a+1)/\True) <|
  e (a+1,d)
 else
  ZH c
def IM(b:r6):List D0->Option (List D0)
 | a =>
 lp (TN b) (0,a)
def OY(b:Int)(c:Int×List D0->Option (List D0)):List D0->Option (List D0)
 | a =>
 gd (c9 (b+1)/\True) <|
 c (b+1,a)
def TO(d:Int)(b:o4)(g:Int×List D0->Option (List D0))(f:Int×List D0->Option (List D0)):Int×List D0->Option (List D0)
 | (a,c) =>
 if(decide (a < (b.2.2.length:Int))) then
  gd (ix a b.2.2.length/\c9 ((b.2.2.length:Int)-1)/\(c.length+[(d,a,b.2.2.getD a.toNat 0,a==(b.2.2.length:Int)-1)].length<=9223372036854775807/\(c.length+[(d,a,b.2.2.getD a.toNat 0,a==(b.2.2.length:Int)-1)].length)*32<=140737488355328)/\True)<|lt ((c++[(d,a,b.2.2.getD a.toNat 0,a==(b.2.2.length:Int)-1)],[(d,a,b.2.2.getD a.toNat 0,a==(b.2.2.length:Int)-1)])) fun(e,_) =>
  gd (c9 (a+1)/\True) <|
  f (a+1,e)
 else
  OY d g c
def TP(a:r6)(e:Int×List D0->Option (List D0)):Int×List D0->Option (List D0)
 | (b,d) =>
 if(decide (b < (a.1.length:Int))) then
  gd (ix b a.1.length/\True)<|lt (a.1.getD b.toNat (b7 y139)) fun c =>
  lp (TO b c e) (0,d)
 else
  IM a d
def I5(a:r6):Option (List D0) :=
 lp (TP a) (0,[])
def k94:Ct:=k8 94 [.agg y31] (fun x=>I5 x.1) (fun r:List D0=>AV.ow 190 true r7 r) (fun _=>())
theorem Z5:Ok prog k94:=by
 refine k9 [.tmp 2] func94 ?_;intro y ⟨b,_⟩ r H Q hn hr;refine iA [1]<|iA [1,3]<|jN r (fun(d:List D0)=>Z [p 1 (R 1),p 3 (O 8)] [(8,A 190 r7 d 0),(1,K 31 y31 b)]) (IM b) (fun d H=>?_) (fun _ s G Y=>?_)
 ·refine jN r (fun(h:List D0)=>Z [p 3 (O 8)] [(8,A 190 r7 h 0)]) (ZH) (fun h H=>?_) (fun _ F W t4=>?_)
  ·refine iA [2]<|j0<|hr H
  refine iA [1,3,7]<|vB<|lX (fun((e,g):Int×List D0)=>Z [p 1 (R 1),p 3 (O 8),p 7 (I e)] [(8,A 190 r7 g 0),(1,K 31 y31 b)]) (0,d) H fun _ g5 E w t5 ⟨e,g⟩ H=>vQ<|iA [1,3,7,47]<|cD H (fun H=>?_) (fun H=>?_)
  ·refine vK<|fQ<|vQ<|vB<|zD (fun(l,m)=>Z [p 1 (R 1),p 3 (AV.os 8 1),p 7 (I e)] [(8,A 190 r7 l 1),(66,A 190 r7 m 0),(1,K 31 y31 b)]) H fun⟨l,m⟩ H =>
    fK<|fQ <|
    jB [1,3,7] H fun H =>
    E H
  exact vE<|fE<|w<|fX rfl<|F H
 refine iA [1,3,4]<|vB<|lX (fun((c,o):Int×List D0)=>Z [p 1 (R 1),p 3 (O 8),p 4 (I c)] [(8,A 190 r7 o 0),(1,K 31 y31 b)]) (0,[]) H fun _ v x z t1 ⟨c,o⟩ H=>vQ<|iA [1,3,4,13]<|cD H (fun H=>?_) (fun H=>?_)
 ·refine vK<|fQ<|jN r (fun(n:List D0)=>Z [p 1 (R 1),p 3 (O 8),p 4 (I c)] [(8,A 190 r7 n 0),(1,K 31 y31 b)]) (OY c v) (fun n H=>?_) (fun _ q X T=>?_)
  ·refine jB [1,3,4] H fun H=>x H
  refine vB<|qD (fun a=>Z [p 1 (R 1),p 3 (O 8),p 4 (I c),p 5 (L i64 a.2.2)] [(8,A 190 r7 o 0),(1,K 31 y31 b)]) H fun a H=>iA [1,3,4,5,6]<|vB<|lX (fun((f,i):Int×List D0)=>Z [p 1 (R 1),p 3 (O 8),p 4 (I c),p 5 (L i64 a.2.2),p 6 (I f)] [(8,A 190 r7 i 0),(1,K 31 y31 b)]) (0,o) H fun _ V u t P ⟨f,i⟩ H=>vQ<|iA [1,3,4,5,6,25]<|cD H (fun H=>?_) (fun H=>?_)
  ·refine vK<|fQ<|vQ<|vB<|zD (fun(k,j)=>Z [p 1 (R 1),p 3 (AV.os 8 1),p 4 (I c),p 5 (L i64 a.2.2),p 6 (I f)] [(8,A 190 r7 k 1),(41,A 190 r7 j 0),(1,K 31 y31 b)]) H fun⟨k,j⟩ H =>
    fK<|fQ <|
    jB [1,3,4,5,6] H fun H =>
    u H
  exact vE<|fE<|t<|fX rfl<|fK<|q H
 exact vE<|fE<|z<|fX rfl<|s H
def ZI:List Int->Option (List Int)
 | a =>
 some a
def IN(a:Int)(c:Int×List Int->Option (List Int)):List Int->Option (List Int)
 | b =>
 gd (c9 (a+1)/\True) <|
 c (a+1,b)
def TQ(b:List D0)(d:Int)(e:Int×List Int->Option (List Int)):Int×List Int->Option (List Int)
 | (a,c) =>
 if(decide (a < (b.length:Int))) then
  gd (ix a b.length/\a.toNat<b.length/\(((b.getD a.toNat (b7 r7)).2.2.1==d)=true/\True->ix a b.length)/\(((b.getD a.toNat (b7 r7)).2.2.1==d)=true/\True->a.toNat<b.length)/\True) <|
  if((b.getD a.toNat (b7 r7)).2.2.1==d&&!(b.getD a.toNat (b7 r7)).2.2.2) then
   gd ((c.length+[a].length<=9223372036854775807/\(c.length+[a].length)*8<=140737488355328)/\True) <|
   IN a e (c++[a])
  else
   IN a e c
 else
  ZI c
def S7(a:r6)(b:Int):Option (List Int) :=
 gd ((I5 a).isSome/\True)<|lt (vl (I5 a)) fun c =>
 lp (TQ c b) (0,[])
def k76:Ct:=k8 76 [.agg y31,.dat i64] (fun x=>S7 x.1 x.2.1) (fun r:List Int=>AV.ow 2 true i64 r) (fun _=>())
theorem GJ:Ok prog k76:=by
 refine k9 [.tmp 4] func76 ?_;intro y ⟨_,d,_⟩ r H Q hn hr;have:=hz (tc Z5 tn);refine iA [1,2]<|iA [1,2,5]<|iD Z5 [1,5,6] H fun b H=>jN r (fun(e:List Int)=>Z [p 5 (O 8)] [(8,A 2 i64 e 0)]) (ZI) (fun e H=>?_) (fun _ i l q=>?_)
 ·refine iA [4]<|j0<|hr H
 refine iA [1,5,6,7]<|vB<|lX (fun((a,c):Int×List Int)=>Z [p 1 (J d),p 5 (O 8),p 6 (O 10),p 7 (I a)] [(10,A 190 r7 b 0),(8,A 2 i64 c 0)]) (0,[]) H fun _ k j h m ⟨a,c⟩ H=>vQ<|iA [1,5,6,7,14]<|cD H (fun H=>?_) (fun H=>?_)
 ·refine vK<|fQ<|jN r (fun(f:List Int)=>Z [p 1 (J d),p 5 (O 8),p 6 (O 10),p 7 (I a)] [(8,A 2 i64 f 0),(10,A 190 r7 b 0)]) (IN a k) (fun f H=>?_) (fun _ g n o=>?_)
  ·refine jB [1,5,6,7] H fun H=>j H
  refine vB<|iB [1,5,6,7,31] H fun H=>cD H (fun H=>jB [1,5,6,7] H fun H=>fK<|g H) fun H=>vK<|fK<|g H
 exact vE<|fE<|h<|fX rfl<|i H
def J9(a:List Int):Option (List Int) :=
 gd ((0+a.length<=9223372036854775807/\(0+a.length)*8<=140737488355328)/\True) <|
 some ([]++a)
def Q0Y:Ct:=k8 164 [.dat i64.sl] (fun x=>J9 x.1) (fun r:List Int=>AV.ow 2 true i64 r) (fun _=>())
theorem OZ:Ok prog Q0Y:=by
 refine k9 [.tmp 2] func164 ?_;intro y ⟨_,_⟩ r H Q hn hr;refine iA [0]<|iB [2] H fun H=>j0<|hr H
def TR:List Int->Option (List Int)
 | a =>
 some a
def IP(c:x9)(e:Int×List Int->Option (List Int)):Int×List Int->Option (List Int)
 | (a,b) =>
 if(decide (0<a)) then
  gd (ix a c.1.length/\ix (c.1.getD a.toNat 0) b.length/\Int.toNat (c.1.getD a.toNat 0)<b.length/\ix a b.length/\a.toNat<b.length/\c9 (b.getD (Int.toNat (c.1.getD a.toNat 0)) 0+b.getD a.toNat 0)/\ix (c.1.getD a.toNat 0) b.length/\Int.toNat (c.1.getD a.toNat 0)<b.length/\True)<|lt (b.set (Int.toNat (c.1.getD a.toNat 0)) (b.getD (Int.toNat (c.1.getD a.toNat 0)) 0+b.getD a.toNat 0)) fun d =>
  gd (c9 (a-1)/\True) <|
  e (a-1,d)
 else
  TR b
def Pb(b:x9):List Int->Option (List Int)
 | a =>
 gd (c9 ((a.length:Int)-1)/\True) <|
 lp (IP b) (((a.length:Int)-1,a))
def ZJ(d:j6)(f:List D0)(c:List Int)(b:x9)(h:Int×List Int->Option (List Int)):Int×List Int->Option (List Int)
 | (a,e) =>
 if(decide (a < (c.length:Int))) then
  gd (ix a b.2.2.2.length/\ix (b.2.2.2.getD a.toNat 0) e.length/\Int.toNat (b.2.2.2.getD a.toNat 0)<e.length/\ix a c.length/\a.toNat<c.length/\ix (c.getD a.toNat 0) f.length/\Int.toNat (c.getD a.toNat 0)<f.length/\(GI d.1 d.2.1 (f.getD (Int.toNat (c.getD a.toNat 0)) (b7 r7))).isSome/\c9 (e.getD (Int.toNat (b.2.2.2.getD a.toNat 0)) 0+vl (GI d.1 d.2.1 (f.getD (Int.toNat (c.getD a.toNat 0)) (b7 r7))))/\ix (b.2.2.2.getD a.toNat 0) e.length/\Int.toNat (b.2.2.2.getD a.toNat 0)<e.length/\True)<|lt ((vl (GI d.1 d.2.1 (f.getD (Int.toNat (c.getD a.toNat 0)) (b7 r7))),e.set (Int.toNat (b.2.2.2.getD a.toNat 0)) (e.getD (Int.toNat (b.2.2.2.getD a.toNat 0)) 0+vl (GI d.1 d.2.1 (f.getD (Int.toNat (c.getD a.toNat 0)) (b7 r7)))))) fun(_,g) =>
  gd (c9 (a+1)/\True) <|
  h (a+1,g)
 else
  Pb b e
def Ax(a:j6)(b:Int):Option (List Int) :=
 gd (ix b a.2.2.length/\True)<|lt (a.2.2.getD b.toNat (b7 l9)) fun c =>
 gd ((J9 c.2.2.1).isSome/\True)<|lt (vl (J9 c.2.2.1)) fun f =>
 gd ((I5 a.2.1).isSome/\True)<|lt (vl (I5 a.2.1)) fun e =>
 gd ((S7 a.2.1 b).isSome/\True)<|lt (vl (S7 a.2.1 b)) fun d =>
 lp (ZJ a e d c) (0,f)
def Q0r:Ct:=k8 208 [.agg l6,.dat i64] (fun x=>Ax x.1 x.2.1) (fun r:List Int=>AV.ow 2 true i64 r) (fun _=>())
theorem TS:Ok prog Q0r:=by
 refine k9 [.tmp 4] func208 ?_;intro y ⟨h,v,_⟩ r H Q hn hr;have:=hz (tc O0M (tc GJ (tc Z5 (tc OZ tn))));refine iA [1,2]<|qD (fun b=>Z [p 1 (J v),p 2 (R 2),p 5 (R 5)] [(5,K 153 l9 b),(2,K 34 l6 h)]) H fun b H=>iD OZ [1,2,5,6] H fun s H=>iD Z5 [1,2,5,6,7] H fun j H=>iD GJ [2,5,6,7,8] H fun k H=>jN r (fun(a:List Int)=>Z [p 5 (R 5),p 6 (O 18)] [(18,A 2 i64 a 0),(5,K 153 l9 b)]) (Pb b) (fun a H=>?_) (fun _ o x T=>?_)
 ·refine jN r (fun(f:List Int)=>Z [p 6 (O 18)] [(18,A 2 i64 f 0)]) (TR) (fun f H=>?_) (fun _ m P E=>?_)
  ·refine iA [4]<|j0<|hr H
  refine iB [5,6,10] H fun H=>vB<|lX (fun((c,d):Int×List Int)=>Z [p 5 (R 5),p 6 (O 18),p 10 (I c)] [(18,A 2 i64 d 0),(5,K 153 l9 b)]) (((a.length:Int)-1,a)) H fun _ F t q z ⟨c,d⟩ H=>vQ<|iA [5,6,10,58]<|cD H (fun H=>vK<|fQ<|vQ<|vB<|zD (fun e=>Z [p 5 (R 5),p 6 (O 18),p 10 (I c)] [(18,A 2 i64 e 0),(5,K 153 l9 b)]) H fun e H=>fK<|fQ<|jB [5,6,10] H fun H=>t H) fun H=>vE<|fE<|q<|fX rfl<|m H
 refine iA [2,5,6,7,8,9]<|vB<|lX (fun((g,l):Int×List Int)=>Z [p 2 (R 2),p 5 (R 5),p 6 (O 18),p 7 (O 21),p 8 (O 25),p 9 (I g)] [(25,A 2 i64 k 0),(21,A 190 r7 j 0),(18,A 2 i64 l 0),(5,K 153 l9 b),(2,K 34 l6 h)]) (0,s) H fun _ G u w V ⟨g,l⟩ H=>vQ<|iA [2,5,6,7,8,9,29]<|cD H (fun H=>?_) (fun H=>?_)
 ·refine vK<|fQ<|vQ<|vB<|zD (fun(n,i)=>Z [p 2 (R 2),p 5 (R 5),p 6 (O 18),p 7 (O 21),p 8 (O 25),p 9 (I g)] [(18,A 2 i64 i 0),(25,A 2 i64 k 0),(21,A 190 r7 j 0),(5,K 153 l9 b),(2,K 34 l6 h)]) H fun⟨n,i⟩ H =>
   fK<|fQ <|
   jB [2,5,6,7,8,9] H fun H =>
   u H
 exact vE<|fE<|w<|fX rfl<|o H
def ZK:List Int->Option (List Int)
 | a =>
 some a
def TT(b:x9)(d:List Int)(f:Int×List Int->Option (List Int)):Int×List Int->Option (List Int)
 | (a,c) =>
 if(decide (a < (d.length:Int))) then
  gd (ix a b.1.length/\ix (b.1.getD a.toNat 0) c.length/\Int.toNat (b.1.getD a.toNat 0)<c.length/\ix a b.2.1.length/\ix a d.length/\a.toNat<d.length/\c9 (b.2.1.getD a.toNat 0*d.getD a.toNat 0)/\c9 (c.getD (Int.toNat (b.1.getD a.toNat 0)) 0+b.2.1.getD a.toNat 0*d.getD a.toNat 0)/\(c.length+[c.getD (Int.toNat (b.1.getD a.toNat 0)) 0+b.2.1.getD a.toNat 0*d.getD a.toNat 0].length<=9223372036854775807/\(c.length+[c.getD (Int.toNat (b.1.getD a.toNat 0)) 0+b.2.1.getD a.toNat 0*d.getD a.toNat 0].length)*8<=140737488355328)/\True)<|lt ((c++[c.getD (Int.toNat (b.1.getD a.toNat 0)) 0+b.2.1.getD a.toNat 0*d.getD a.toNat 0],[c.getD (Int.toNat (b.1.getD a.toNat 0)) 0+b.2.1.getD a.toNat 0*d.getD a.toNat 0])) fun(e,_) =>
  gd (c9 (a+1)/\True) <|
  f (a+1,e)
 else
  ZK c
def Cp(a:j6)(b:Int):Option (List Int) :=
 gd (ix b a.2.2.length/\True)<|lt (a.2.2.getD b.toNat (b7 l9)) fun c =>
 gd ((Ax a b).isSome/\True)<|lt (vl (Ax a b)) fun d =>
 lp (TT c d) (1,[0])
def Q0p:Ct:=k8 210 [.agg l6,.dat i64] (fun x=>Cp x.1 x.2.1) (fun r:List Int=>AV.ow 2 true i64 r) (fun _=>())
theorem TU:Ok prog Q0p:=by
 refine k9 [.tmp 4] func210 ?_;intro y ⟨j,h,_⟩ r H Q hn hr;have:=hz (tc TS tn);refine iA [1,2]<|qD (fun a=>Z [p 1 (J h),p 2 (R 2),p 5 (R 5)] [(5,K 153 l9 a),(2,K 34 l6 j)]) H fun a H=>iD TS [5,6] H fun g H=>iA [5,6,7]<|jN r (fun(d:List Int)=>Z [p 7 (O 17)] [(17,A 2 i64 d 0)]) (ZK) (fun d H=>?_) (fun _ k m o=>?_)
 ·refine iA [4]<|j0<|hr H
 refine iA [5,6,7,8]<|vB<|lX (fun((b,c):Int×List Int)=>Z [p 5 (R 5),p 6 (O 16),p 7 (O 17),p 8 (I b)] [(17,A 2 i64 c 0),(16,A 2 i64 g 0),(5,K 153 l9 a)]) (1,[0]) H fun _ q l i n ⟨b,c⟩ H=>vQ<|iA [5,6,7,8,21]<|cD H (fun H=>?_) (fun H=>?_)
 ·refine vK<|fQ<|vQ<|vB<|zD (fun(e,f)=>Z [p 5 (R 5),p 6 (O 16),p 7 (AV.os 17 1),p 8 (I b)] [(17,A 2 i64 e 1),(44,A 2 i64 f 0),(16,A 2 i64 g 0),(5,K 153 l9 a)]) H fun⟨e,f⟩ H =>
   fK<|fQ <|
   jB [5,6,7,8] H fun H =>
   l H
 exact vE<|fE<|i<|fX rfl<|k H
def KX(d:j6)(c:Int)(f:Int)(a:Int)(e:Int):Option Int :=
 gd ((Cp d c).isSome/\ix c d.2.2.length/\ix f (d.2.2.getD c.toNat (b7 l9)).2.2.2.length/\ix ((d.2.2.getD c.toNat (b7 l9)).2.2.2.getD f.toNat 0) (vl (Cp d c)).length/\Int.toNat ((d.2.2.getD c.toNat (b7 l9)).2.2.2.getD f.toNat 0) < (vl (Cp d c)).length/\True)<|lt ((vl (Cp d c),(vl (Cp d c)).getD (Int.toNat ((d.2.2.getD c.toNat (b7 l9)).2.2.2.getD f.toNat 0)) 0)) fun(_,b) =>
 gd (c9 (1000000*a)/\c9 (1000000*a*a)/\c9 (4*b)/\c9 (4*b*b)/\c9 (1000000*a*a+4*b*b)/\(Co (1000000*a*a+4*b*b) e).isSome/\(U9 (vl (Co (1000000*a*a+4*b*b) e)) 1000 e).isSome/\True)<|lt (vl (U9 (vl (Co (1000000*a*a+4*b*b) e)) 1000 e)) fun g =>
 some g
def Q0D:Ct:=k8 187 [.agg l6,.dat i64,.dat i64,.dat i64,.dat i64] (fun x=>KX x.1 x.2.1 x.2.2.1 x.2.2.2.1 x.2.2.2.2.1) (fun r:Int=>I r) (fun _=>())
theorem ZL:Ok prog Q0D:=by
 refine k9 [.tmp 10] func187 ?_;intro y ⟨c,_,_,e,d,_⟩ r H Q hn hr;have:=hz (tc Fj (tc O0S (tc TU tn)));refine iA [1,2,3,4,5]<|qD (fun(a,b)=>Z [p 3 (J e),p 4 (J d),p 11 (I b)] [(14,A 2 i64 a 0),(5,K 34 l6 c)]) H fun⟨a,b⟩ H =>
  iD Fj [10] H fun _ H =>
  j0<|hr H
def BA(a:j6)(b:l8):Option Int :=
 gd ((I5 a.2.1).isSome/\(0:Int) < (2:Int)/\ix (b.2.1.tdiv (2:Int)) (vl (I5 a.2.1)).length/\(b.2.1.tdiv (2:Int)).toNat < (vl (I5 a.2.1)).length/\True)<|lt ((vl (I5 a.2.1),(vl (I5 a.2.1)).getD (b.2.1.tdiv 2).toNat (b7 r7))) fun(_,c) =>
 some c.2.2.1
def Q0G:Ct:=k8 184 [.agg l6,.agg y80] (fun x=>BA x.1 x.2.1) (fun r:Int=>I r) (fun _=>())
theorem ZM:Ok prog Q0G:=by
 refine k9 [.tmp 4] func184 ?_;intro y ⟨c,d,_⟩ r H Q hn hr;have:=hz (tc Z5 tn);refine iA [2,3]<|qD (fun(a,b)=>Z [p 4 (I b.2.2.1)] [(7,A 190 r7 a 0),(3,K 80 y80 d),(2,K 34 l6 c)]) H fun⟨a,b⟩ H =>
  j0<|hr H
def ZN:Unit->Option (Int×Int×Int)
 | _ =>
 some (((0:Int),(1:Int),(0:Int)))
def Dh(b:List Int)(c:Int)(d:Int->Option (Int×Int×Int)):Int->Option (Int×Int×Int)
 | a =>
 if(decide (0<=a)) then
  gd (ix a b.length/\True) <|
  if(c==b.getD a.toNat 0) then
   some ((a,(1:Int),(0:Int)))
  else
   gd (ix a b.length/\True) <|
   if(decide (b.getD a.toNat 0<c)) then
    gd (c9 (a+1)/\ix (a+1) b.length/\c9 (b.getD (a+1).toNat 0-c)/\ix a b.length/\c9 (c-b.getD a.toNat 0)/\True) <|
    some ((a,b.getD (a+1).toNat 0-c,c-b.getD a.toNat 0))
   else
    gd (c9 (a-1)/\True) <|
    d (a-1)
 else
  ZN ()
def Di(a:List Int)(b:Int):Option (Int×Int×Int) :=
 gd (ix 0 a.length/\True) <|
 gd (c9 ((a.length:Int)-1)/\ix ((a.length:Int)-1) a.length/\True)<|lt (min (max b (a.getD (Int.toNat (0:Int)) (0:Int))) (a.getD ((a.length:Int)-(1:Int)).toNat (0:Int))) fun c =>
 gd (c9 ((a.length:Int)-1)/\True) <|
 lp (Dh a c) ((a.length:Int)-1)
def Q0q:Ct:=k8 209 [.dat i64.sl,.dat i64] (fun x=>Di x.1 x.2.1) (fun r:Int×Int×Int=>AV.tup [I r.1,I r.2.1,I r.2.2]) (fun _=>())
theorem TV:Ok prog Q0q:=by
 refine k9 [.tmp 4,.tmp 5,.tmp 6] func209 ?_;intro y ⟨a,_,_⟩ r H Q hn hr;refine iA [0,1]<|iA [0,1,7]<|iB [0,1,7] H fun H=>qD (fun b=>Z [p 0 (L i64 a),p 1 (I b),p 7 (I (a.length:Int))] []) H fun b H=>jN r (fun(_:Unit)=>Z [] []) (ZN) (fun _ H=>?_) (fun _ g i c=>?_)
 ·refine iA [4,5,6]<|j0<|hr H
 refine iB [0,1,8] H fun H=>vB<|lX (fun(e:Int)=>Z [p 0 (L i64 a),p 1 (I b),p 8 (I e)] []) ((a.length:Int)-1) H fun _ j h f d e H=>vQ<|iA [0,1,8,26]<|cD H (fun H=>?_) (fun H=>?_)
 ·refine vK<|fQ<|vQ<|vB<|vQ<|iB [0,1,8,34] H fun H=>cD H (fun H=>iA [4,5,6]<|j0<|fR<|l7<|fR<|d<|l7<|c<|hr H) fun H=>vK<|fQ<|iB [0,1,8,41] H fun H=>cD H (fun H=>iB [4,5,6] H fun H=>j0<|l7<|fR<|d<|l7<|c<|hr H) fun H=>vK<|fK<|fQ<|jB [0,1,8] H fun H=>h H
 exact vE<|fE<|f<|fX rfl<|g H
def Pc(a:Int×Int×Int)(b:Int×Int×Int)(e:Int):Int->Option Int
 | c =>
 gd (c9 (a.2.1+a.2.2)/\c9 (b.2.1+b.2.2)/\c9 ((a.2.1+a.2.2)*(b.2.1+b.2.2))/\(U9 c ((a.2.1+a.2.2)*(b.2.1+b.2.2)) e).isSome/\True)<|lt (vl (U9 c ((a.2.1+a.2.2)*(b.2.1+b.2.2)) e)) fun d =>
 some d
def TW(a:Int)(c:Int×Int->Option Int):Int->Option Int
 | b =>
 gd (c9 (a+1)/\True) <|
 c (b,a+1)
def IQ(a:Int)(c:Int×Int->Option Int):Int->Option Int
 | b =>
 gd (c9 (a+1)/\True) <|
 c (b,a+1)
def Dj(b:Int)(f:Int)(c:u1)(e:Int×Int×Int)(a:Int)(g:Int×Int×Int)(i:Int×Int->Option Int):Int->Option Int
 | d =>
 if(decide (0<d)) then
  gd (c9 (e.1+a)/\c9 ((e.1+a)*(c.2.1.length:Int))/\c9 ((e.1+a)*(c.2.1.length:Int)+g.1)/\c9 ((e.1+a)*(c.2.1.length:Int)+g.1+b)/\ix ((e.1+a)*(c.2.1.length:Int)+g.1+b) c.2.2.length/\c9 (d*c.2.2.getD ((e.1+a)*(c.2.1.length:Int)+g.1+b).toNat 0)/\c9 (f+d*c.2.2.getD ((e.1+a)*(c.2.1.length:Int)+g.1+b).toNat 0)/\True)<|lt (f+d*c.2.2.getD ((e.1+a)*(c.2.1.length:Int)+g.1+b).toNat 0) fun h =>
  IQ b i h
 else
  IQ b i f
def KY(b:Int)(d:Int)(h:u1)(f:Int×Int×Int)(e:Int)(c:Int×Int×Int)(g:Int×Int->Option Int):Int->Option Int
 | a =>
 if(b==0) then
  gd (c9 (a*c.2.1)/\True) <|
  Dj b d h f e c g (a*c.2.1)
 else
  gd (c9 (a*c.2.2)/\True) <|
  Dj b d h f e c g (a*c.2.2)
def GK(f:u1)(d:Int×Int×Int)(a:Int)(g:Int×Int×Int)(h:Int×Int->Option Int)(e:Int×Int->Option Int):Int×Int->Option Int
 | (b,c) =>
 if(decide (c<2)) then
  if(a==1) then
   KY c b f d a g e d.2.2
  else
   KY c b f d a g e d.2.1
 else
  TW a h b
def IS(e:u1)(c:Int×Int×Int)(d:Int×Int×Int)(f:Int)(g:Int×Int->Option Int):Int×Int->Option Int
 | (a,b) =>
 if(decide (b<2)) then
  lp (GK e c b d g) (a,0)
 else
  Pc c d f a
def BB(a:u1)(b:Int)(c:Int)(e:Int):Option Int :=
 gd ((Di a.1 b).isSome/\True)<|lt (vl (Di a.1 b)) fun d =>
 gd ((Di a.2.1 c).isSome/\True)<|lt (vl (Di a.2.1 c)) fun f =>
 lp (IS a d f e) (0,0)
def Q0I:Ct:=k8 182 [.agg y70,.dat i64,.dat i64,.dat i64] (fun x=>BB x.1 x.2.1 x.2.2.1 x.2.2.2.1) (fun r:Int=>I r) (fun _=>())
theorem Pd:Ok prog Q0I:=by
 refine k9 [.tmp 8] func182 ?_;intro y ⟨e,_,_,g,_⟩ r H Q hn hr;have:=hz (tc Fj (tc TV tn));refine iA [1,2,3,4]<|iD TV [2,3,4,9,10,11] H fun b H=>iD TV [3,4,9,10,11,12,13,14] H fun a H=>iA [3,4,9,10,11,12,13,14,15]<|iA [3,4,9,10,11,12,13,14,15,16]<|jN r (fun(n:Int)=>Z [p 3 (J g),p 10 (I b.2.1),p 11 (I b.2.2),p 13 (I a.2.1),p 14 (I a.2.2),p 16 (I n)] []) (Pc b a g) (fun n H=>?_) (fun _ v P t0=>?_)
 ·refine iD Fj [8] H fun _ H=>j0<|hr H
 refine iA [3,4,9,10,11,12,13,14,15,16,17]<|vB<|lX (fun((h,c):Int×Int)=>Z (GD g b.1 b.2.1 b.2.2 a.1 a.2.1 a.2.2 (e.2.1.length:Int) h [p 17 (I c)]) [(4,K 70 y70 e)]) (0,0) H fun _ x E F t1 ⟨h,c⟩ H=>vQ<|iA [3,4,9,10,11,12,13,14,15,16,17,40]<|cD H (fun H=>?_) (fun H=>?_)
 ·refine vK<|fQ<|jN r (fun(k:Int)=>Z (GD g b.1 b.2.1 b.2.2 a.1 a.2.1 a.2.2 (e.2.1.length:Int) k [p 17 (I c)]) [(4,K 70 y70 e)]) (TW c x) (fun k H=>?_) (fun _ u e2 V=>?_)
  ·refine jB [3,4,9,10,11,12,13,14,15,16,17] H fun H=>E H
  refine vB<|iA [3,4,9,10,11,12,13,14,15,16,17,18]<|vB<|lX (fun((f,d):Int×Int)=>Z (GD g b.1 b.2.1 b.2.2 a.1 a.2.1 a.2.2 (e.2.1.length:Int) f [p 17 (I c),p 18 (I d)]) [(4,K 70 y70 e)]) (h,0) H fun _ o z w T ⟨f,d⟩ H=>vQ<|iA [3,4,9,10,11,12,13,14,15,16,17,18,44]<|cD H (fun H=>?_) (fun H=>?_)
  ·refine vK<|fQ<|jN r (fun(m:Int)=>Z (GD g b.1 b.2.1 b.2.2 a.1 a.2.1 a.2.2 (e.2.1.length:Int) m [p 17 (I c),p 18 (I d)]) [(4,K 70 y70 e)]) (IQ d o) (fun m H=>?_) (fun _ t X t4=>?_)
   ·refine jB [3,4,9,10,11,12,13,14,15,16,17,18] H fun H=>z H
   refine vB<|iA [3,4,9,10,11,12,13,14,15,16,17,18,19]<|jN r (fun(j:Int)=>Z (GD g b.1 b.2.1 b.2.2 a.1 a.2.1 a.2.2 (e.2.1.length:Int) f [p 17 (I c),p 18 (I d),p 19 (I j)]) [(4,K 70 y70 e)]) (KY d f e b c a o) (fun j H=>?_) (fun _ q Y t5=>?_)
   ·refine jN r (fun(i:Int)=>Z (GD g b.1 b.2.1 b.2.2 a.1 a.2.1 a.2.2 (e.2.1.length:Int) f [p 17 (I c),p 18 (I d),p 19 (I i)]) [(4,K 70 y70 e)]) (Dj d f e b c a o) (fun i H=>?_) (fun _ s W G=>?_)
    ·refine iA [3,4,9,10,11,12,13,14,15,16,17,18,19,60]<|cD H (fun H=>zD (fun l=>Z (GD g b.1 b.2.1 b.2.2 a.1 a.2.1 a.2.2 (e.2.1.length:Int) l [p 17 (I c),p 18 (I d)]) [(4,K 70 y70 e)]) H fun l H=>fK<|t H) fun H=>vK<|fK<|t H
    refine iA [3,4,9,10,11,12,13,14,15,16,17,18,19,52]<|cD H (fun H=>jB [3,4,9,10,11,12,13,14,15,16,17,18,19] H fun H=>s H) fun H=>jB [3,4,9,10,11,12,13,14,15,16,17,18,19] H fun H=>s H
   refine iA [3,4,9,10,11,12,13,14,15,16,17,18,19,49]<|cD H (fun H=>jA [3,4,9,10,11,12,13,14,15,16,17,18,19]<|q H) fun H=>vK<|q H
  exact vE<|fE<|w<|fX rfl<|fK<|u H
 exact vE<|fE<|F<|fX rfl<|v H
def GL(a:j6)(c:l8):Option (A9×Int) :=
 gd ((I5 a.2.1).isSome/\(0:Int) < (2:Int)/\ix (c.2.1.tdiv (2:Int)) (vl (I5 a.2.1)).length/\(c.2.1.tdiv (2:Int)).toNat < (vl (I5 a.2.1)).length/\True)<|lt ((vl (I5 a.2.1),(vl (I5 a.2.1)).getD (c.2.1.tdiv 2).toNat (b7 r7))) fun(_,b) =>
 gd (ix b.1 a.2.1.1.length/\ix (a.2.1.1.getD b.1.toNat (b7 y139)).2.1 a.1.length/\ix c.2.2.2 (a.1.getD (a.2.1.1.getD b.1.toNat (b7 y139)).2.1.toNat (b7 y64)).2.2.2.1.length/\(Ax a b.2.2.1).isSome/\ix (0:Int) (vl (Ax a b.2.2.1)).length/\Int.toNat (0:Int) < (vl (Ax a b.2.2.1)).length/\True)<|lt ((vl (Ax a b.2.2.1),(a.1.getD (a.2.1.1.getD b.1.toNat (b7 y139)).2.1.toNat (b7 y64)).2.2.2.1.getD c.2.2.2.toNat (b7 y67))) fun(e,d) =>
 some ((d,e.getD (Int.toNat (0:Int)) (0:Int)))
def Q0J:Ct:=k8 181 [.agg l6,.agg y80] (fun x=>GL x.1 x.2.1) (fun r:A9×Int=>AV.tup [AV.agg [I r.1.1,I r.1.2.1,I r.1.2.2.1,I r.1.2.2.2.1,L y70 r.1.2.2.2.2.1,L y70 r.1.2.2.2.2.2],I r.2]) (fun _=>())
theorem Pe:Ok prog Q0J:=by
 refine k9 [.cell 4 67,.tmp 5] func181 ?_;intro y ⟨f,e,_⟩ r H Q hn hr;have:=hz (tc TS (tc Z5 tn));refine iA [2,3,4]<|qD (fun(a,c)=>Z (G8 [p 4 (R 4),p 6 (R 6)]) [(6,bx 190 (p8 true r7 c)),(9,A 190 r7 a 0),(4,bx 67 [I 0,I 0,I 0,I 0,nil,nil]),(3,K 80 y80 e),(2,K 34 l6 f)]) H fun⟨a,c⟩ H =>
  qD (fun(b,d)=>Z [p 4 (R 4),p 5 (I (b.getD (Int.toNat (0:Int)) (0:Int)))] [(4,K 67 y67 d),(36,A 2 i64 b 0),(6,bx 190 (p8 true r7 c)),(9,A 190 r7 a 0),(3,K 80 y80 e),(2,K 34 l6 f)]) H fun⟨b,d⟩ H =>
  j0<|hr H
def AX(b:j6)(a:l8)(e:Int)(d:Int):Option Int :=
 if(a.2.2.1==1) then
  gd ((GL b a).isSome/\True)<|lt (vl (GL b a)) fun c =>
  gd ((0:Int) < (2:Int)/\ix (a.2.1.tmod (2:Int)) c.1.2.2.2.2.2.length/\(BB (c.1.2.2.2.2.2.getD (a.2.1.tmod (2:Int)).toNat (b7 y70)) e c.2 d).isSome/\True)<|lt (vl (BB (c.1.2.2.2.2.2.getD (a.2.1.tmod 2).toNat (b7 y70)) e c.2 d)) fun g =>
  some g
 else
  gd ((BA b a).isSome/\(KX b (vl (BA b a)) a.2.2.2 e d).isSome/\True)<|lt (vl (KX b (vl (BA b a)) a.2.2.2 e d)) fun f =>
  some (min 1000000 f)
def R0f:Ct:=k8 155 [.agg l6,.agg y80,.dat i64,.dat i64] (fun x=>AX x.1 x.2.1 x.2.2.1 x.2.2.2.1) (fun r:Int=>I r) (fun _=>())
theorem TX:Ok prog R0f:=by
 refine k9 [.tmp 8] func155 ?_;intro y ⟨_,_,_,_,_⟩ r H Q hn hr;have:=hz (tc ZL (tc ZM (tc Pd (tc Pe tn))));refine iA [2,3,4,5]<|vQ<|iA [2,3,4,5,13]<|cD H (fun H=>iD Pe [2,3,5,9,10] H fun _ H=>iD Pd [8] H fun _ H=>j0<|fR<|hr H) fun H=>vK<|fQ<|iD ZL [8] H fun _ H=>j0<|hr H
def GM(a:o5)(c:Int)(b:Int):Option Int :=
 if(c==1) then
  if(b==0) then
   some a.2.1
  else
   some a.2.2.1
 else
  if(b==0) then
   some a.2.2.2.1
  else
   some a.2.2.2.2
def Q0E:Ct:=k8 186 [.agg o8,.dat i64,.dat i64] (fun x=>GM x.1 x.2.1 x.2.2.1) (fun r:Int=>I r) (fun _=>())
theorem O0Z:Ok prog Q0E:=by
 refine k9 [.tmp 6] func186 ?_;intro y ⟨_,_,_,_⟩ r H Q hn hr;refine iA [1,2,3]<|vQ<|iA [2,3,8]<|cD H (fun H=>?_) (fun H=>?_)
 ·refine vQ<|iA [3,10]<|cD H (fun H=>iA [6]<|j0<|fR<|fR<|hr H) fun H=>vK<|fQ<|iA [6]<|j0<|fR<|hr H
 refine vK<|fQ<|vQ<|iA [3,16]<|cD H (fun H=>iA [6]<|j0<|fR<|hr H) fun H=>vK<|fQ<|iA [6]<|j0<|hr H
def ZO:List Int->Option (List Int)
 | a =>
 some a
def ZP(d:List Int)(b:j6)(a:Int)(f:Int)(h:Int×List Int->Option (List Int)):Int×List Int->Option (List Int)
 | (c,e) =>
 gd (ix a b.2.2.length/\True) <|
 if(decide (c < (↑(b.2.2.getD a.toNat (b7 l9)).2.2.2.length:Int))) then
  gd (ix a b.2.2.length/\ix c (b.2.2.getD a.toNat (b7 l9)).2.2.2.length/\ix ((b.2.2.getD a.toNat (b7 l9)).2.2.2.getD c.toNat 0) d.length/\Int.toNat ((b.2.2.getD a.toNat (b7 l9)).2.2.2.getD c.toNat 0)<d.length/\(U9 (d.getD (Int.toNat ((b.2.2.getD a.toNat (b7 l9)).2.2.2.getD c.toNat 0)) 0) 1000 f).isSome/\(e.length+[vl (U9 (d.getD (Int.toNat ((b.2.2.getD a.toNat (b7 l9)).2.2.2.getD c.toNat 0)) 0) 1000 f)].length<=9223372036854775807/\(e.length+[vl (U9 (d.getD (Int.toNat ((b.2.2.getD a.toNat (b7 l9)).2.2.2.getD c.toNat 0)) 0) 1000 f)].length)*8<=140737488355328)/\True)<|lt (vl (U9 (d.getD (Int.toNat ((b.2.2.getD a.toNat (b7 l9)).2.2.2.getD c.toNat 0)) 0) 1000 f)) fun g =>
  gd (c9 (c+1)/\True) <|
  h (c+1,e++[g])
 else
  ZO e
def GN(a:j6)(b:Int)(c:Int):Option (List Int) :=
 gd ((Cp a b).isSome/\True)<|lt (vl (Cp a b)) fun d =>
 lp (ZP d a b c) (0,[])
def Q0H:Ct:=k8 183 [.agg l6,.dat i64,.dat i64] (fun x=>GN x.1 x.2.1 x.2.2.1) (fun r:List Int=>AV.ow 2 true i64 r) (fun _=>())
theorem ZQ:Ok prog Q0H:=by
 refine k9 [.tmp 6] func183 ?_;intro y ⟨g,e,j,_⟩ r H Q hn hr;have:=hz (tc Fj (tc TU tn));refine iA [1,2,3]<|iD TU [1,2,3,7] H fun d H=>iA [1,2,3,7,8]<|jN r (fun(b:List Int)=>Z [p 8 (O 13)] [(13,A 2 i64 b 0)]) (ZO) (fun b H=>?_) (fun _ h l m=>?_)
 ·refine iA [6]<|j0<|hr H
 refine iA [1,2,3,7,8,9]<|vB<|lX (fun((c,a):Int×List Int)=>Z [p 1 (J e),p 2 (J j),p 3 (R 3),p 7 (O 12),p 8 (O 13),p 9 (I c)] [(13,A 2 i64 a 0),(12,A 2 i64 d 0),(3,K 34 l6 g)]) (0,[]) H fun _ n i f k ⟨c,a⟩ H=>vQ<|iB [1,2,3,7,8,9,22] H fun H=>cD H (fun H=>vK<|fQ<|vQ<|vB<|jD Fj [1,2,3,7,8,9] H fun _ H=>fK<|fQ<|jB [1,2,3,7,8,9] H fun H=>i H) fun H=>vE<|fE<|f<|fX rfl<|h H
def IT(b:o5)(c:l8)(a:Int):Int->Option Int
 | d =>
 gd ((GM b c.2.2.1 a).isSome/\c9 (d*vl (GM b c.2.2.1 a))/\(U9 (d*vl (GM b c.2.2.1 a)) 1000 a).isSome/\True)<|lt (vl (U9 (d*vl (GM b c.2.2.1 a)) 1000 a)) fun e =>
 some e
def AY(b:j6)(e:o5)(a:l8)(f:Int)(c:Int):Option Int :=
 if(a.2.2.1==1) then
  gd ((GL b a).isSome/\True)<|lt (vl (GL b a)) fun d =>
  gd ((0:Int) < (2:Int)/\ix (a.2.1.tmod (2:Int)) d.1.2.2.2.2.1.length/\(BB (d.1.2.2.2.2.1.getD (a.2.1.tmod (2:Int)).toNat (b7 y70)) f d.2 c).isSome/\True)<|lt (vl (BB (d.1.2.2.2.2.1.getD (a.2.1.tmod 2).toNat (b7 y70)) f d.2 c)) fun h =>
  IT e a c h
 else
  gd ((BA b a).isSome/\(GN b (vl (BA b a)) c).isSome/\ix a.2.2.2 (vl (GN b (vl (BA b a)) c)).length/\a.2.2.2.toNat < (vl (GN b (vl (BA b a)) c)).length/\True)<|lt (vl (GN b (vl (BA b a)) c)) fun g =>
  IT e a c (g.getD a.2.2.2.toNat 0)
def R0g:Ct:=k8 154 [.agg l6,.agg o8,.agg y80,.dat i64,.dat i64] (fun x=>AY x.1 x.2.1 x.2.2.1 x.2.2.2.1 x.2.2.2.2.1) (fun r:Int=>I r) (fun _=>())
theorem TY:Ok prog R0g:=by
 refine k9 [.tmp 10] func154 ?_;intro y ⟨_,b,e,_,d,_⟩ r H Q hn hr;have:=hz (tc Fj (tc O0Z (tc ZQ (tc ZM (tc Pd (tc Pe tn))))));refine iA [3,4,5,6,7]<|iA [3,4,5,6,7]<|jN r (fun(a:Int)=>Z [p 4 (J d),p 6 (R 6),p 7 (R 7),p 11 (I a)] [(7,K 80 y80 e),(6,K 36 o8 b)]) (IT b e d) (fun a H=>?_) (fun _ c f g=>?_)
 ·refine iD Fj [10] H fun _ H=>j0<|hr H
 refine iA [3,4,5,6,7,16]<|cD H (fun H=>iD Pe [3,4,6,7,12,13] H fun _ H=>jD Pd [4,6,7,11] H fun _ H=>c H) fun H=>jD ZQ [4,6,7,11] H fun _ H=>c H
def Fk(a:j6)(d:o5)(c:l8)(b:w7):Option (w7×w7) :=
 gd ((AY a d c b.1 0).isSome/\(AY a d c b.1 1).isSome/\True)<|lt ((vl (AY a d c b.1 0),vl (AY a d c b.1 1))) fun(e,l) =>
 gd ((AX a c b.1 0).isSome/\(AX a c b.1 1).isSome/\True)<|lt ((vl (AX a c b.1 0),vl (AX a c b.1 1))) fun(i,f) =>
 gd ((AY a d c b.2 0).isSome/\True)<|lt (vl (AY a d c b.2 0)) fun h =>
 gd ((AY a d c b.2 1).isSome/\True)<|lt (vl (AY a d c b.2 1)) fun g =>
 gd ((AX a c b.2 0).isSome/\True)<|lt (vl (AX a c b.2 0)) fun j =>
 gd ((AX a c b.2 1).isSome/\True)<|lt (vl (AX a c b.2 1)) fun k =>
 some (((min e h,max l g),min i j,max f k))
def R0R:Ct:=k8 110 [.agg l6,.agg o8,.agg y80,.agg y51] (fun x=>Fk x.1 x.2.1 x.2.2.1 x.2.2.2.1) (fun r:w7×w7=>AV.tup [AV.agg [I r.1.1,I r.1.2],AV.agg [I r.2.1,I r.2.2]]) (fun _=>())
theorem Pf:Ok prog R0R:=by
 refine k9 [.cell 8 51,.cell 9 51] func110 ?_;intro y ⟨e,d,h,f,_⟩ r H Q hn hr;have:=hz (tc TX (tc TY tn));refine iA [4,5,6,7,8,9]<|qD (fun(a,b)=>Z [p 4 (R 4),p 5 (R 5),p 6 (R 6),p 7 (R 7),p 8 (R 8),p 9 (R 9),p 10 (R 10)] [(10,bx 51 [I a,I b]),(9,bx 51 [I 0,I 0]),(8,bx 51 [I 0,I 0]),(7,K 51 y51 f),(6,K 80 y80 h),(5,K 36 o8 d),(4,K 34 l6 e)]) H fun⟨a,b⟩ H =>
  qD (fun(g,c)=>Z [p 4 (R 4),p 5 (R 5),p 6 (R 6),p 7 (R 7),p 8 (R 8),p 9 (R 9),p 10 (R 10),p 11 (R 11)] [(11,bx 51 [I g,I c]),(10,bx 51 [I a,I b]),(9,bx 51 [I 0,I 0]),(8,bx 51 [I 0,I 0]),(7,K 51 y51 f),(6,K 80 y80 h),(5,K 36 o8 d),(4,K 34 l6 e)]) H fun⟨g,c⟩ H =>
  iD TY [4,5,6,7,8,9,10,11] H fun _ H =>
  iD TY [4,6,7,8,9,10,11] H fun _ H =>
  iD TX [4,6,7,8,9,10,11] H fun _ H =>
  iD TX [8,9,10,11] H fun _ H =>
  iA [8,9] <|
  j0<|hr H
def KZ(a:Int):Option u3 :=
 gd ((0<=a/\a=a/\a.toNat*1<=281474976710656/\a<=9223372036854775807)/\(0<=a/\a=a/\a.toNat*16<=281474976710656/\a<=9223372036854775807)/\(0<=a/\a=a/\a.toNat*16<=281474976710656/\a<=9223372036854775807)/\True) <|
 some ((List.replicate a.toNat false,List.replicate a.toNat ((0:Int),(0:Int)),List.replicate a.toNat ((0:Int),(0:Int))))
def k78:Ct:=k8 78 [.dat i64] (fun x=>KZ x.1) (fun r:u3=>AV.agg [AV.ow 4 true Ty.bool r.1,AV.ow 51 true y51 r.2.1,AV.ow 51 true y51 r.2.2]) (fun _=>())
theorem ZR:Ok prog k78:=by
 refine k9 [.cell 2 44] func78 ?_;intro y ⟨_,_⟩ r H Q hn hr;refine iA [0,2]<|iB [2] H fun H=>j0<|hr H
def J5(a:j6):Option Int :=
 gd ((I5 a.2.1).isSome/\c9 (2*(↑(vl (I5 a.2.1)).length:Int))/\True)<|lt (vl (I5 a.2.1)) fun b =>
 some (2*(b.length:Int))
def k40:Ct:=k8 40 [.agg l6] (fun x=>J5 x.1) (fun r:Int=>I r) (fun _=>())
theorem Cq:Ok prog k40:=by
 refine k9 [.tmp 2] func40 ?_;intro y ⟨_,_⟩ r H Q hn hr;have:=hz (tc Z5 tn);refine iA [1]<|iD Z5 [2] H fun _ H=>j0<|hr H
def ZS:Unit->Option Bool
 | _ =>
 some false
def ZT(b:List Int)(c:Int)(d:Int->Option Bool):Int->Option Bool
 | a =>
 if(decide (a < (b.length:Int))) then
  gd (ix a b.length/\True) <|
  if(b.getD a.toNat 0==c) then
   some true
  else
   gd (c9 (a+1)/\True) <|
   d (a+1)
 else
  ZS ()
def S8(a:List Int)(b:Int):Option Bool :=
 lp (ZT a b) 0
def k81:Ct:=k8 81 [.dat i64.sl,.dat i64] (fun x=>S8 x.1 x.2.1) (fun r:Bool=>B r) (fun _=>())
theorem ZU:Ok prog k81:=by
 refine k9 [.tmp 4] func81 ?_;intro y ⟨d,b,_⟩ r H Q hn hr;refine iA [0,1]<|jN r (fun(_:Unit)=>Z [] []) (ZS) (fun _ H=>?_) (fun _ e i h=>?_)
 ·refine iA [4]<|j0<|hr H
 refine iA [0,1,5]<|vB<|lX (fun(a:Int)=>Z [p 0 (L i64 d),p 1 (J b),p 5 (I a)] []) 0 H fun _ j g c f a H=>vQ<|iA [0,1,5,9]<|cD H (fun H=>?_) (fun H=>?_)
 ·refine vK<|fQ<|vQ<|vB<|iB [0,1,5,17] H fun H=>cD H (fun H=>iA [4]<|j0<|l7<|fR<|f<|l7<|h<|hr H) fun H=>vK<|fK<|fQ<|jB [0,1,5] H fun H=>g H
 exact vE<|fE<|c<|fX rfl<|e H
def ZV:List Bool->Option (List Bool)
 | a =>
 some a
def ZW(b:List Int)(d:List l8)(e:Int×List Bool->Option (List Bool)):Int×List Bool->Option (List Bool)
 | (a,c) =>
 if(decide (a < (d.length:Int))) then
  gd ((S8 b a).isSome/\(c.length+[!vl (S8 b a)].length<=9223372036854775807/\(c.length+[!vl (S8 b a)].length)*1<=140737488355328)/\True) <|
  gd (c9 (a+1)/\True) <|
  e ((a+1,c++[!vl (S8 b a)]))
 else
  ZV c
def Z6(a:List l8)(b:List Int):Option (List Bool) :=
 lp (ZW b a) (0,[])
def k34:Ct:=k8 34 [.dat y80.sl,.dat i64.sl] (fun x=>Z6 x.1 x.2.1) (fun r:List Bool=>AV.ow 4 true Ty.bool r) (fun _=>())
theorem IU:Ok prog k34:=by
 refine k9 [.tmp 4] func34 ?_;intro y ⟨f,d,_⟩ r H Q hn hr;have:=hz (tc ZU tn);refine iA [0,1]<|iA [0,1,5]<|jN r (fun(b:List Bool)=>Z [p 5 (O 7)] [(7,A 4 Ty.bool b 0)]) (ZV) (fun b H=>?_) (fun _ g k i=>?_)
 ·refine iA [4]<|j0<|hr H
 refine iA [0,1,5,6]<|vB<|lX (fun((a,c):Int×List Bool)=>Z [p 0 (L y80 f),p 1 (L i64 d),p 5 (O 7),p 6 (I a)] [(7,A 4 Ty.bool c 0)]) (0,[]) H fun _ l h e j ⟨a,c⟩ H=>vQ<|iA [0,1,5,6,11]<|cD H (fun H=>vK<|fQ<|vQ<|vB<|jB [0,1,5,6] H fun H=>fK<|fQ<|jB [0,1,5,6] H fun H=>h H) fun H=>vE<|fE<|e<|fX rfl<|g H
def Fl(f:List l8)(a:Int)(b:Int)(d:Int)(c:Int)(g:Int)(e:Int):Option (List l8) :=
 gd (c9 (2*a)/\c9 (2*a+d)/\c9 (2*b)/\c9 (2*b+c)/\(f.length+[(2*a+d,2*b+c,g,e)].length<=9223372036854775807/\(f.length+[(2*a+d,2*b+c,g,e)].length)*32<=140737488355328)/\True) <|
 some (f++[(2*a+d,2*b+c,g,e)])
def k77:Ct:=k8 77 [.os 80 y80,.dat i64,.dat i64,.dat i64,.dat i64,.dat i64,.dat i64] (fun x=>Fl x.1 x.2.1 x.2.2.1 x.2.2.2.1 x.2.2.2.2.1 x.2.2.2.2.2.1 x.2.2.2.2.2.2.1) (fun r:List l8=>AV.ow 80 true y80 r) (fun _=>())
theorem La:Ok prog k77:=by
 refine k9 [.tmp 14] func77 ?_;intro y ⟨_,_,_,_,_,_,_,_⟩ r H Q hn hr;refine iA [0,1,2,3,4,5,6]<|iB [14] H fun H=>j0<|hr H
def ZX:Unit->Option Int
 | _ =>
 some (-1)
def ZY(b:List D0)(c:Int)(d:Int->Option Int):Int->Option Int
 | a =>
 if(decide (a < (b.length:Int))) then
  gd (ix a b.length/\a.toNat<b.length/\(((b.getD a.toNat (b7 r7)).2.2.1==c)=true/\True->ix a b.length)/\(((b.getD a.toNat (b7 r7)).2.2.1==c)=true/\True->a.toNat<b.length)/\True) <|
  if((b.getD a.toNat (b7 r7)).2.2.1==c&&(b.getD a.toNat (b7 r7)).2.2.2) then
   some a
  else
   gd (c9 (a+1)/\True) <|
   d (a+1)
 else
  ZX ()
def Lb(a:r6)(b:Int):Option Int :=
 gd ((I5 a).isSome/\True)<|lt (vl (I5 a)) fun c =>
 lp (ZY c b) 0
def k75:Ct:=k8 75 [.agg y31,.dat i64] (fun x=>Lb x.1 x.2.1) (fun r:Int=>I r) (fun _=>())
theorem ZZ:Ok prog k75:=by
 refine k9 [.tmp 4] func75 ?_;intro y ⟨_,c,_⟩ r H Q hn hr;have:=hz (tc Z5 tn);refine iA [1,2]<|iD Z5 [1,5] H fun b H=>jN r (fun(_:Unit)=>Z [] []) (ZX) (fun _ H=>?_) (fun _ g i e=>?_)
 ·refine iA [4]<|j0<|hr H
 refine iA [1,5,6]<|vB<|lX (fun(a:Int)=>Z [p 1 (J c),p 5 (O 8),p 6 (I a)] [(8,A 190 r7 b 0)]) 0 H fun _ j h d f a H=>vQ<|iA [1,5,6,12]<|cD H (fun H=>?_) (fun H=>?_)
 ·refine vK<|fQ<|vQ<|vB<|iB [1,5,6,28] H fun H=>cD H (fun H=>iA [4]<|j0<|l7<|fR<|f<|l7<|e<|hr H) fun H=>vK<|fK<|fQ<|jB [1,5,6] H fun H=>h H
 exact vE<|fE<|d<|fX rfl<|g H
def G0r:List l8->Option (List l8)
 | a =>
 some a
def TZ(b:Int)(c:Int×List l8->Option (List l8)):List l8->Option (List l8)
 | a =>
 gd (c9 (b+1)/\True) <|
 c (b+1,a)
def Pg(a:Int)(c:Int×List l8->Option (List l8)):List l8->Option (List l8)
 | b =>
 gd (c9 (a+1)/\True) <|
 c (a+1,b)
def Fm(a:Int)(b:List l8)(i:Int)(h:Int)(e:Int)(g:Int)(f:Int×List l8->Option (List l8)):Bool->Option (List l8)
 | c =>
 if c then
  gd ((Fl b i h e a 1 g).isSome/\True)<|lt (vl (Fl b i h e a 1 g)) fun d =>
  Pg a f d
 else
  Pg a f b
def Ua(h:Int)(g:Int)(c:Int)(f:Int)(d:A9)(i:Int×List l8->Option (List l8))(e:Int×List l8->Option (List l8)):Int×List l8->Option (List l8)
 | (a,b) =>
 if(decide (a<=1)) then
  if(d.1==1) then
   Fm a b h g c f e (d.2.2.2.1==3||(d.2.2.2.1==1)==(c==a))
  else
   if(d.1==2) then
    Fm a b h g c f e (c==0)
   else
    if(d.1==3) then
     Fm a b h g c f e (c==1)
    else
     Fm a b h g c f e false
 else
  TZ c i b
def Ph(f:Int)(e:Int)(d:Int)(c:A9)(g:Int×List l8->Option (List l8)):Int×List l8->Option (List l8)
 | (b,a) =>
 if(decide (b<=1)) then
  lp (Ua f e b d c g) (0,a)
 else
  G0r a
def GO(b:List l8)(a:A9)(e:Int)(d:Int)(c:Int):Option (List l8) :=
 lp (Ph e d c a) (0,b)
def k73:Ct:=k8 73 [.os 80 y80,.agg y67,.dat i64,.dat i64,.dat i64] (fun x=>GO x.1 x.2.1 x.2.2.1 x.2.2.2.1 x.2.2.2.2.1) (fun r:List l8=>AV.ow 80 true y80 r) (fun _=>())
theorem o73:Ok prog k73:=by
 refine k9 [.tmp 10] func73 ?_;intro y ⟨w,l,g,f,e,_⟩ r H Q hn hr;have:=hz (tc La tn);refine iA [0,2,3,4,6]<|jN r (fun(j:List l8)=>Z [p 0 (O 500000)] [(500000,A 80 y80 j 0)]) (G0r) (fun j H=>?_) (fun _ s E W=>?_)
 ·refine iA [10]<|j0<|hr H
 refine iA [0,2,3,4,6,11]<|vB<|lX (fun((c,d):Int×List l8)=>Z (KQ g f e c []) [(6,K 67 y67 l),(500000,A 80 y80 d 0)]) (0,w) H fun _ v x z X ⟨c,d⟩ H=>vQ<|iA [0,2,3,4,6,11,15]<|cD H (fun H=>?_) (fun H=>?_)
 ·refine vK<|fQ<|jN r (fun(h:List l8)=>Z (KQ g f e c []) [(6,K 67 y67 l),(500000,A 80 y80 h 0)]) (TZ c v) (fun h H=>?_) (fun _ q V G=>?_)
  ·refine jB [0,2,3,4,6,11] H fun H=>x H
  refine vB<|iA [0,2,3,4,6,11,12]<|vB<|lX (fun((a,b):Int×List l8)=>Z (KQ g f e c [p 12 (I a)]) [(6,K 67 y67 l),(500000,A 80 y80 b 0)]) (0,d) H fun _ n u t F ⟨a,b⟩ H=>vQ<|iA [0,2,3,4,6,11,12,19]<|cD H (fun H=>?_) (fun H=>?_)
  ·refine vK<|fQ<|jN r (fun(i:List l8)=>Z (KQ g f e c [p 12 (I a)]) [(500000,A 80 y80 i 0),(6,K 67 y67 l)]) (Pg a n) (fun i H=>?_) (fun _ o P Y=>?_)
   ·refine jB [0,2,3,4,6,11,12] H fun H=>u H
   refine vB<|iA [0,2,3,4,6,11,12,13]<|jN r (fun(k:Bool)=>Z (KQ g f e c [p 12 (I a),p 13 (B k)]) [(6,K 67 y67 l),(500000,A 80 y80 b 0)]) (Fm a b g f c e n) (fun k H=>?_) (fun _ m T t5=>?_)
   ·refine iA [0,2,3,4,6,11,12,46]<|cD H (fun H=>jD La [0,2,3,4,6,11,12] H fun _ H=>fK<|o H) fun H=>vK<|fK<|o H
   refine iA [0,2,3,4,6,11,12,13,23]<|vB<|iA [0,2,3,4,6,11,12,13,23,24]<|cD H (fun H=>jA [0,2,3,4,6,11,12,13]<|fK<|m H) fun H=>iA [0,2,3,4,6,11,12,13,23,38]<|cD H (fun H=>jA [0,2,3,4,6,11,12,13]<|fK<|m H) fun H=>iA [0,2,3,4,6,11,12,13,42]<|cD H (fun H=>jA [0,2,3,4,6,11,12,13]<|fK<|m H) fun H=>vK<|fK<|m H
  exact vE<|fE<|t<|fX rfl<|fK<|q H
 exact vE<|fE<|z<|fX rfl<|s H
def G0q:Unit->Option Int
 | _ =>
 some (-1)
def G0p(b:List D0)(c:Int)(d:Int)(e:Int->Option Int):Int->Option Int
 | a =>
 if(decide (a < (b.length:Int))) then
  gd (ix a b.length/\a.toNat<b.length/\(((b.getD a.toNat (b7 r7)).1==c)=true/\True->ix a b.length)/\(((b.getD a.toNat (b7 r7)).1==c)=true/\True->a.toNat<b.length)/\True) <|
  if((b.getD a.toNat (b7 r7)).1==c&&(b.getD a.toNat (b7 r7)).2.1==d) then
   some a
  else
   gd (c9 (a+1)/\True) <|
   e (a+1)
 else
  G0q ()
def X7(a:r6)(c:Int)(b:Int):Option Int :=
 gd ((I5 a).isSome/\True)<|lt (vl (I5 a)) fun d =>
 lp (G0p d c b) 0
def k74:Ct:=k8 74 [.agg y31,.dat i64,.dat i64] (fun x=>X7 x.1 x.2.1 x.2.2.1) (fun r:Int=>I r) (fun _=>())
theorem o74:Ok prog k74:=by
 refine k9 [.tmp 6] func74 ?_;intro y ⟨_,c,i,_⟩ r H Q hn hr;have:=hz (tc Z5 tn);refine iA [1,2,3]<|iD Z5 [1,2,7] H fun b H=>jN r (fun(_:Unit)=>Z [] []) (G0q) (fun _ H=>?_) (fun _ f j e=>?_)
 ·refine iA [6]<|j0<|hr H
 refine iA [1,2,7,8]<|vB<|lX (fun(a:Int)=>Z [p 1 (J c),p 2 (J i),p 7 (O 10),p 8 (I a)] [(10,A 190 r7 b 0)]) 0 H fun _ k h d g a H=>vQ<|iA [1,2,7,8,14]<|cD H (fun H=>?_) (fun H=>?_)
 ·refine vK<|fQ<|vQ<|vB<|iB [1,2,7,8,32] H fun H=>cD H (fun H=>iA [6]<|j0<|l7<|fR<|g<|l7<|e<|hr H) fun H=>vK<|fK<|fQ<|jB [1,2,7,8] H fun H=>h H
 exact vE<|fE<|d<|fX rfl<|f H
def H0e:List l8->Option (List l8)
 | a =>
 some a
def Ub(a:Int)(c:Int×List l8->Option (List l8)):List l8->Option (List l8)
 | b =>
 gd (c9 (a+1)/\True) <|
 c (a+1,b)
def H0a(c:Int)(b:List Int)(g:Int)(h:Int×List l8->Option (List l8))(i:Int×List l8->Option (List l8)):Int×List l8->Option (List l8)
 | (a,d) =>
 if(decide (a < (b.length:Int))) then
  gd (ix a b.length/\a.toNat<b.length/\(Fl d c (b.getD a.toNat 0) 0 0 2 a).isSome/\True)<|lt (vl (Fl d c (b.getD a.toNat 0) 0 0 2 a)) fun e =>
  gd (ix a b.length/\a.toNat<b.length/\(Fl e c (b.getD a.toNat 0) 1 1 2 a).isSome/\True)<|lt (vl (Fl e c (b.getD a.toNat 0) 1 1 2 a)) fun f =>
  gd (c9 (a+1)/\True) <|
  i (a+1,f)
 else
  Ub g h d
def H0b(b:j6)(f:Int×List l8->Option (List l8)):Int×List l8->Option (List l8)
 | (a,c) =>
 if(decide (a < (b.2.1.2.1.length:Int))) then
  gd ((Lb b.2.1 a).isSome/\True)<|lt (vl (Lb b.2.1 a)) fun d =>
  gd ((S7 b.2.1 a).isSome/\True)<|lt (vl (S7 b.2.1 a)) fun e =>
  lp (H0a d e a f) (0,c)
 else
  H0e c
def Pj(b:j6):List l8->Option (List l8)
 | a =>
 lp (H0b b) (0,a)
def Uc(b:Int)(c:Int×List l8->Option (List l8)):List l8->Option (List l8)
 | a =>
 gd (c9 (b+1)/\True) <|
 c (b+1,a)
def Lc(a:Int)(c:Int×List l8->Option (List l8)):List l8->Option (List l8)
 | b =>
 gd (c9 (a+1)/\True) <|
 c (a+1,b)
def H0c(b:m6)(e:j6)(d:Int)(h:Int×List l8->Option (List l8))(g:Int×List l8->Option (List l8)):Int×List l8->Option (List l8)
 | (a,c) =>
 if(decide (a < (b.2.2.2.1.length:Int))) then
  gd (ix a b.2.2.2.1.length/\True) <|
  if(decide ((b.2.2.2.1.getD a.toNat (b7 y67)).1<=3)) then
   gd (ix a b.2.2.2.1.length/\ix a b.2.2.2.1.length/\(X7 e.2.1 d (b.2.2.2.1.getD a.toNat (b7 y67)).2.1).isSome/\ix a b.2.2.2.1.length/\(X7 e.2.1 d (b.2.2.2.1.getD a.toNat (b7 y67)).2.2.1).isSome/\(GO c (b.2.2.2.1.getD a.toNat (b7 y67)) (vl (X7 e.2.1 d (b.2.2.2.1.getD a.toNat (b7 y67)).2.1)) (vl (X7 e.2.1 d (b.2.2.2.1.getD a.toNat (b7 y67)).2.2.1)) a).isSome/\True)<|lt (vl (GO c (b.2.2.2.1.getD a.toNat (b7 y67)) (vl (X7 e.2.1 d (b.2.2.2.1.getD a.toNat (b7 y67)).2.1)) (vl (X7 e.2.1 d (b.2.2.2.1.getD a.toNat (b7 y67)).2.2.1)) a)) fun f =>
   Lc a g f
  else
   Lc a g c
 else
  Uc d h c
def H0d(a:j6)(e:Int×List l8->Option (List l8)):Int×List l8->Option (List l8)
 | (b,d) =>
 if(decide (b < (a.2.1.1.length:Int))) then
  gd (ix b a.2.1.1.length/\ix (a.2.1.1.getD b.toNat (b7 y139)).2.1 a.1.length/\True)<|lt (a.1.getD (a.2.1.1.getD b.toNat (b7 y139)).2.1.toNat (b7 y64)) fun c =>
  lp (H0c c a b e) (0,d)
 else
  Pj a d
def u32(a:j6):Option (List l8) :=
 lp (H0d a) (0,[])
def k32:Ct:=k8 32 [.agg l6] (fun x=>u32 x.1) (fun r:List l8=>AV.ow 80 true y80 r) (fun _=>())
theorem Z7:Ok prog k32:=by
 refine k9 [.tmp 2] func32 ?_;intro y ⟨a,_⟩ r H Q hn hr;have:=hz (tc La (tc GJ (tc ZZ (tc o73 (tc o74 tn)))));refine iA [1]<|iA [1,3]<|iA [1,3,4]<|jN r (fun(f:List l8)=>Z [p 3 (O 12),p 4 (R 4)] [(4,K 31 y31 a.2.1),(12,A 80 y80 f 0)]) (Pj a) (fun f H=>?_) (fun _ E e0 t0=>?_)
 ·refine jN r (fun(k:List l8)=>Z [p 3 (O 12)] [(12,A 80 y80 k 0)]) (H0e) (fun k H=>?_) (fun _ u e5 t5=>?_)
  ·refine iA [2]<|j0<|hr H
  refine iA [3,4,8]<|vB<|lX (fun((b,g):Int×List l8)=>Z [p 3 (O 12),p 4 (R 4),p 8 (I b)] [(4,K 31 y31 a.2.1),(12,A 80 y80 g 0)]) (0,f) H fun _ x V w t6 ⟨b,g⟩ H=>vQ<|iA [3,4,8,73]<|cD H (fun H=>?_) (fun H=>?_)
  ·refine vK<|fQ<|jN r (fun(i:List l8)=>Z [p 3 (O 12),p 4 (R 4),p 8 (I b)] [(4,K 31 y31 a.2.1),(12,A 80 y80 i 0)]) (Ub b x) (fun i H=>?_) (fun _ F e7 Y=>?_)
   ·refine jB [3,4,8] H fun H=>V H
   refine vB<|iD ZZ [3,4,8,9] H fun q H=>iD GJ [3,4,8,9,10] H fun s H=>iA [3,4,8,9,10,11]<|vB<|lX (fun((h,j):Int×List l8)=>Z [p 3 (O 12),p 4 (R 4),p 8 (I b),p 9 (I q),p 10 (O 81),p 11 (I h)] [(81,A 2 i64 s 0),(4,K 31 y31 a.2.1),(12,A 80 y80 j 0)]) (0,g) H fun _ g8 b8 e8 t8 ⟨h,j⟩ H=>vQ<|iA [3,4,8,9,10,11,85]<|cD H (fun H=>vK<|fQ<|vQ<|vB<|iD La [3,4,8,9,10,11] H fun _ H=>jD La [3,4,8,9,10,11] H fun _ H=>fK<|fQ<|jB [3,4,8,9,10,11] H fun H=>b8 H) fun H=>vE<|fE<|e8<|fX rfl<|fK<|F H
  exact vE<|fE<|w<|fX rfl<|u H
 refine iA [1,3,4,5]<|vB<|lX (fun((e,o):Int×List l8)=>Z (KT e []) [(4,K 31 y31 a.2.1),(12,A 80 y80 o 0),(1,K 34 l6 a)]) (0,[]) H fun _ T W X t1 ⟨e,o⟩ H=>vQ<|iA [1,3,4,5,19]<|cD H (fun H=>?_) (fun H=>?_)
 ·refine vK<|fQ<|jN r (fun(n:List l8)=>Z (KT e []) [(4,K 31 y31 a.2.1),(12,A 80 y80 n 0),(1,K 34 l6 a)]) (Uc e T) (fun n H=>?_) (fun _ v e2 t2=>?_)
  ·refine jB [1,3,4,5] H fun H=>W H
  refine vB<|qD (fun d=>Z (KT e [p 6 (L y67 d.2.2.2.1)]) [(4,K 31 y31 a.2.1),(12,A 80 y80 o 0),(1,K 34 l6 a)]) H fun d H=>iA [1,3,4,5,6,7]<|vB<|lX (fun((c,l):Int×List l8)=>Z (KT e [p 6 (L y67 d.2.2.2.1),p 7 (I c)]) [(4,K 31 y31 a.2.1),(12,A 80 y80 l 0),(1,K 34 l6 a)]) (0,o) H fun _ z P G t3 ⟨c,l⟩ H=>vQ<|iA [1,3,4,5,6,7,37]<|cD H (fun H=>?_) (fun H=>?_)
  ·refine vK<|fQ<|jN r (fun(m:List l8)=>Z (KT e [p 6 (L y67 d.2.2.2.1),p 7 (I c)]) [(12,A 80 y80 m 0),(4,K 31 y31 a.2.1),(1,K 34 l6 a)]) (Lc c z) (fun m H=>?_) (fun _ t e4 t4=>?_)
   ·refine jB [1,3,4,5,6,7] H fun H=>P H
   refine vB<|iB [1,3,4,5,6,7,45] H fun H=>cD H (fun H=>jD o73 [1,3,4,5,6,7] H fun _ H=>fK<|t H) fun H=>vK<|fK<|t H
  exact vE<|fE<|G<|fX rfl<|fK<|v H
 exact vE<|fE<|X<|fX rfl<|E H
def B0q:List Int->Option (List Int×Bool)
 | a =>
 some (a,true)
def IV(c:List Bool)(b:List Int)(d:Int)(e:List Bool×List Int->Option (List Int×Bool)):Int->Option (List Int×Bool)
 | a =>
 if(a==d) then
  some ([],false)
 else
  gd (ix a c.length/\a.toNat<c.length/\True) <|
  gd ((b.length+[a].length<=9223372036854775807/\(b.length+[a].length)*8<=140737488355328)/\True) <|
  e (c.set a.toNat true,b++[a])
def B0n(d:List Bool)(e:List Int)(c:Int)(b:List Bool)(g:List Bool×List Int->Option (List Int×Bool))(f:Int->Option (List Int×Bool)):Int->Option (List Int×Bool)
 | a =>
 gd ((decide (a<c)=true/\True->ix a d.length)/\(decide (a<c)=true/\True->a.toNat<d.length)/\(d.getD a.toNat false=false/\decide (a<c)=true/\True->ix a b.length)/\(d.getD a.toNat false=false/\decide (a<c)=true/\True->a.toNat<b.length)/\True) <|
 if(decide (a<c)&&(d.getD a.toNat false||b.getD a.toNat false)) then
  gd (c9 (a+1)/\True) <|
  f (a+1)
 else
  IV d e c g a
def Ld(d:List Bool)(b:List Int)(c:Int)(e:List Bool×List Int->Option (List Int×Bool)):List Bool->Option (List Int×Bool)
 | a =>
 lp (B0n d b c a e) 0
def Ud(a:Int)(c:Int×List Bool->Option (List Int×Bool)):List Bool->Option (List Int×Bool)
 | b =>
 gd (c9 (a+1)/\True) <|
 c (a+1,b)
def B0o(c:List l8)(d:List Bool)(e:List Bool)(g:List Int)(h:Int)(i:List Bool×List Int->Option (List Int×Bool))(f:Int×List Bool->Option (List Int×Bool)):Int×List Bool->Option (List Int×Bool)
 | (a,b) =>
 if(decide (a < (c.length:Int))) then
  gd (ix a d.length/\(d.getD a.toNat false=true/\True->ix a c.length)/\(d.getD a.toNat false=true/\True->ix (c.getD a.toNat (b7 y80)).1 e.length)/\(d.getD a.toNat false=true/\True->(c.getD a.toNat (b7 y80)).1.toNat<e.length)/\True) <|
  if(d.getD a.toNat false&&!e.getD (c.getD a.toNat (b7 y80)).1.toNat false) then
   gd (ix a c.length/\ix (c.getD a.toNat (b7 y80)).2.1 b.length/\(c.getD a.toNat (b7 y80)).2.1.toNat<b.length/\True) <|
   Ud a f (b.set (c.getD a.toNat (b7 y80)).2.1.toNat true)
  else
   Ud a f b
 else
  Ld e g h i b
def B0p(c:List l8)(e:List Bool)(a:Int)(f:List Bool×List Int->Option (List Int×Bool)):List Bool×List Int->Option (List Int×Bool)
 | (d,b) =>
 if(decide ((b.length:Int)<a)) then
  gd ((0<=a/\a=a/\a.toNat*1<=281474976710656/\a<=9223372036854775807)/\True) <|
  lp (B0o c e d b a f) (0,List.replicate a.toNat false)
 else
  B0q b
def Le(a:Int)(b:List l8)(c:List Bool):Option (List Int×Bool) :=
 gd ((0<=a/\a=a/\a.toNat*1<=281474976710656/\a<=9223372036854775807)/\True) <|
 lp (B0p b c a) (List.replicate a.toNat false,[])
def R0A:Ct:=k8 131 [.dat i64,.dat y80.sl,.dat Ty.bool.sl] (fun x=>Le x.1 x.2.1 x.2.2.1) (fun r:List Int×Bool=>AV.tup [AV.ow 2 true i64 r.1,B r.2]) (fun _=>())
theorem P0t:Ok prog R0A:=by
 refine k9 [.tmp 6,.tmp 7] func131 ?_;intro y ⟨a,g,f,_⟩ r H Q hn hr;refine iA [0,1,2]<|iA [0,1,2,8]<|iB [0,1,2,8,9] H fun H=>jN r (fun(h:List Int)=>Z [p 8 (O 13)] [(13,A 2 i64 h 0)]) (B0q) (fun h H=>?_) (fun _ u T E=>?_)
 ·refine iA [6,7]<|j0<|hr H
 refine vB<|lX (fun((d,b):List Bool×List Int)=>Z (Aw a g f [p 8 (O 13),p 9 (O 15)]) [(15,A 4 Ty.bool d 0),(13,A 2 i64 b 0)]) (List.replicate a.toNat false,[]) H fun _ m z F G ⟨d,b⟩ H=>vQ<|iA [0,1,2,8,9,19]<|cD H (fun H=>?_) (fun H=>?_)
 ·refine vK<|fQ<|vB<|iB [0,1,2,8,9,10] H fun H=>jN r (fun(e:List Bool)=>Z (Aw a g f [p 8 (O 13),p 9 (O 15),p 10 (O 21)]) [(21,A 4 Ty.bool e 0),(15,A 4 Ty.bool d 0),(13,A 2 i64 b 0)]) (Ld d b a m) (fun e H=>?_) (fun _ q e2 W=>?_)
  ·refine iA [0,1,2,8,9,10,12]<|jN r (fun(l:Int)=>Z (Aw a g f [p 8 (O 13),p 9 (O 15),p 12 (I l)]) [(15,A 4 Ty.bool d 0),(13,A 2 i64 b 0)]) (IV d b a m) (fun l H=>?_) (fun _ o e5 t5=>?_)
   ·refine vQ<|iA [0,1,2,8,9,12,69]<|cD H (fun H=>iA [6,7]<|j0<|fR<|l7<|G<|l7<|E<|hr H) fun H=>vK<|fQ<|iB [0,1,2,8,9,12] H fun H=>jB [0,1,2,8,9] H fun H=>fK<|z H
   refine vB<|lX (fun(k:Int)=>Z (Aw a g f [p 8 (O 13),p 9 (O 15),p 10 (O 21),p 12 (I k)]) [(21,A 4 Ty.bool e 0),(15,A 4 Ty.bool d 0),(13,A 2 i64 b 0)]) 0 H fun _ X x s P k H=>vQ<|iB [0,1,2,8,9,10,12,64] H fun H=>cD H (fun H=>vK<|fQ<|vB<|jB [0,1,2,8,9,10,12] H fun H=>fK<|x H) fun H=>vE<|fE<|s<|fX rfl<|o H
  refine iA [0,1,2,8,9,10,11]<|vB<|lX (fun((c,i):Int×List Bool)=>Z (Aw a g f [p 8 (O 13),p 9 (O 15),p 10 (O 21),p 11 (I c)]) [(21,A 4 Ty.bool i 0),(15,A 4 Ty.bool d 0),(13,A 2 i64 b 0)]) (0,List.replicate a.toNat false) H fun _ t w v V ⟨c,i⟩ H=>vQ<|iA [0,1,2,8,9,10,11,25]<|cD H (fun H=>?_) (fun H=>?_)
  ·refine vK<|fQ<|jN r (fun(j:List Bool)=>Z (Aw a g f [p 8 (O 13),p 9 (O 15),p 10 (O 21),p 11 (I c)]) [(21,A 4 Ty.bool j 0),(15,A 4 Ty.bool d 0),(13,A 2 i64 b 0)]) (Ud c t) (fun j H=>?_) (fun _ n Y t4=>?_)
   ·refine jB [0,1,2,8,9,10,11] H fun H=>w H
   refine vB<|iB [0,1,2,8,9,10,11,42] H fun H=>cD H (fun H=>jB [0,1,2,8,9,10,11] H fun H=>fK<|n H) fun H=>vK<|fK<|n H
  exact vE<|fE<|v<|fX rfl<|q H
 exact vE<|fE<|F<|fX rfl<|u H
def B0s:Unit->Option Bool
 | _ =>
 some true
def B0r(b:List Int)(c:Int)(d:Int->Option Bool):Int->Option Bool
 | a =>
 if(decide (a < (b.length:Int))) then
  gd (ix a b.length/\c9 (c-1)/\(r9 (b.getD a.toNat 0) 0 (c-1)).isSome/\(decide (0<a)=true/\(!vl (r9 (b.getD a.toNat 0) 0 (c-1)))=false/\True->c9 (a-1))/\(decide (0<a)=true/\(!vl (r9 (b.getD a.toNat 0) 0 (c-1)))=false/\True->ix (a-1) b.length)/\(decide (0<a)=true/\(!vl (r9 (b.getD a.toNat 0) 0 (c-1)))=false/\True->ix a b.length)/\True) <|
  if(!vl (r9 (b.getD a.toNat 0) 0 (c-1))||decide (0<a)&&decide (b.getD a.toNat 0<=b.getD (a-1).toNat 0)) then
   some false
  else
   gd (c9 (a+1)/\True) <|
   d (a+1)
 else
  B0s ()
def Pk(a:List Int)(b:Int):Option Bool :=
 lp (B0r a b) 0
def R0B:Ct:=k8 130 [.dat i64.sl,.dat i64] (fun x=>Pk x.1 x.2.1) (fun r:Bool=>B r) (fun _=>())
theorem P0u:Ok prog R0B:=by
 refine k9 [.tmp 4] func130 ?_;intro y ⟨d,b,_⟩ r H Q hn hr;have:=hz (tc AW tn);refine iA [0,1]<|jN r (fun(_:Unit)=>Z [] []) (B0s) (fun _ H=>?_) (fun _ e i h=>?_)
 ·refine iA [4]<|j0<|hr H
 refine iA [0,1,5]<|vB<|lX (fun(a:Int)=>Z [p 0 (L i64 d),p 1 (J b),p 5 (I a)] []) 0 H fun _ j g c f a H=>vQ<|iA [0,1,5,9]<|cD H (fun H=>?_) (fun H=>?_)
 ·refine vK<|fQ<|vQ<|vB<|iB [0,1,5,35] H fun H=>cD H (fun H=>iA [4]<|j0<|l7<|fR<|f<|l7<|h<|hr H) fun H=>vK<|fK<|fQ<|jB [0,1,5] H fun H=>g H
 exact vE<|fE<|c<|fX rfl<|e H
def F0S:Unit->Option Bool
 | _ =>
 some true
def F0Q(a:x9)(c:Int->Option Bool):Int->Option Bool
 | b =>
 if(decide (b < (a.2.2.2.length:Int))) then
  gd (ix b a.2.2.2.length/\c9 ((a.1.length:Int)-1)/\(r9 (a.2.2.2.getD b.toNat 0) 0 ((a.1.length:Int)-1)).isSome/\True) <|
  if(!vl (r9 (a.2.2.2.getD b.toNat 0) 0 ((a.1.length:Int)-1))) then
   some false
  else
   gd (c9 (b+1)/\True) <|
   c (b+1)
 else
  F0S ()
def Pl(a:x9):Unit->Option Bool
 | _ =>
 lp (F0Q a) 0
def F0R(b:x9)(c:Int->Option Bool):Int->Option Bool
 | a =>
 if(decide (a < (b.1.length:Int))) then
  gd (ix a b.2.2.1.length/\(r9 (b.2.2.1.getD a.toNat 0) 0 500).isSome/\((!vl (r9 (b.2.2.1.getD a.toNat 0) 0 500))=false/\True->ix a b.2.1.length)/\((!vl (r9 (b.2.2.1.getD a.toNat 0) 0 500))=false/\True->(r9 (b.2.1.getD a.toNat 0) 0 1000).isSome)/\True) <|
  if(!vl (r9 (b.2.2.1.getD a.toNat 0) 0 500)||!vl (r9 (b.2.1.getD a.toNat 0) 0 1000)) then
   some false
  else
   gd (((a==0)=true/\True->ix a b.1.length)/\((b.1.getD a.toNat 0 != -1)=false/\(a==0)=true/\True->ix a b.2.1.length)/\(decide (0<a)=true/\(a==0&&(b.1.getD a.toNat 0 != -1||b.2.1.getD a.toNat 0 != 0))=false/\True->ix a b.1.length)/\(decide (0<a)=true/\(a==0&&(b.1.getD a.toNat 0 != -1||b.2.1.getD a.toNat 0 != 0))=false/\True->c9 (a-1))/\(decide (0<a)=true/\(a==0&&(b.1.getD a.toNat 0 != -1||b.2.1.getD a.toNat 0 != 0))=false/\True->(r9 (b.1.getD a.toNat 0) 0 (a-1)).isSome)/\True) <|
   if(a==0&&(b.1.getD a.toNat 0 != -1||b.2.1.getD a.toNat 0 != 0)||decide (0<a)&&!vl (r9 (b.1.getD a.toNat 0) 0 (a-1))) then
    some false
   else
    gd (c9 (a+1)/\True) <|
    c (a+1)
 else
  Pl b ()
def Lf(a:x9)(b:Int):Option Bool :=
 if(decide ((a.1.length:Int)<1)||decide (8 < (a.1.length:Int))||(a.2.1.length:Int) != (a.1.length:Int)||(a.2.2.1.length:Int) != (a.1.length:Int)||(a.2.2.2.length:Int) != b) then
  some false
 else
  lp (F0R a) 0
def k93:Ct:=k8 93 [.agg l9,.dat i64] (fun x=>Lf x.1 x.2.1) (fun r:Bool=>B r) (fun _=>())
theorem o93:Ok prog k93:=by
 refine k9 [.tmp 4] func93 ?_;intro y ⟨a,_,_⟩ r H Q hn hr;have:=hz (tc AW tn);refine iA [1,2]<|iA [1,2,5]<|vQ<|iA [2,5,37]<|cD H (fun H=>iA [4]<|j0<|fR<|hr H) fun H=>vK<|fQ<|jN r (fun(_:Unit)=>Z [p 2 (R 2),p 5 (I (a.1.length:Int))] [(2,K 153 l9 a)]) (Pl a) (fun _ H=>?_) (fun _ g o c=>?_)
 ·refine jN r (fun(_:Unit)=>Z [] []) (F0S) (fun _ H=>?_) (fun _ l q i=>?_)
  ·refine iA [4]<|j0<|hr H
  refine iA [2,5,7]<|vB<|lX (fun(e:Int)=>Z [p 2 (R 2),p 5 (I (a.1.length:Int)),p 7 (I e)] [(2,K 153 l9 a)]) 0 H fun _ n j h m e H=>vQ<|iA [2,5,7,96]<|cD H (fun H=>?_) (fun H=>?_)
  ·refine vK<|fQ<|vQ<|vB<|iB [2,5,7,107] H fun H=>cD H (fun H=>iA [4]<|j0<|l7<|fR<|m<|l7<|i<|hr H) fun H=>vK<|fK<|fQ<|jB [2,5,7] H fun H=>j H
  exact vE<|fE<|h<|fX rfl<|l H
 refine iA [2,5,6]<|vB<|lX (fun(b:Int)=>Z [p 2 (R 2),p 5 (I (a.1.length:Int)),p 6 (I b)] [(2,K 153 l9 a)]) 0 H fun _ s k f d b H=>vQ<|iA [2,5,6,40]<|cD H (fun H=>?_) (fun H=>?_)
 ·refine vK<|fQ<|vQ<|vB<|vQ<|iB [2,5,6,58] H fun H=>cD H (fun H=>iA [4]<|j0<|fR<|l7<|fR<|d<|l7<|c<|hr H) fun H=>vK<|fQ<|iB [2,5,6,91] H fun H=>cD H (fun H=>iA [4]<|j0<|l7<|fR<|d<|l7<|c<|hr H) fun H=>vK<|fK<|fQ<|jB [2,5,6] H fun H=>k H
 exact vE<|fE<|f<|fX rfl<|g H
def Pm(a:ByteArray):Unit->Option Bool
 | _ =>
 some (decide (1<=(a.size:Int))&&decide ((a.size:Int)<=8))
def B0t(b:ByteArray)(c:Int->Option Bool):Int->Option Bool
 | a =>
 if(decide (a < (b.size:Int))) then
  gd (ix a b.size/\(decide (97<=F0 b a.toNat)=true/\True->ix a b.size)/\True) <|
  gd (ix a b.size/\(decide (48<=F0 b a.toNat)=true/\True->ix a b.size)/\True) <|
  if(!(decide (97<=F0 b a.toNat)&&decide (F0 b a.toNat<=122))&&!(decide (48<=F0 b a.toNat)&&decide (F0 b a.toNat<=57)&&decide (0<a))) then
   some false
  else
   gd (c9 (a+1)/\True) <|
   c (a+1)
 else
  Pm b ()
def Z9(a:ByteArray):Option Bool :=
 lp (B0t a) 0
def R0C:Ct:=k8 129 [.dat Ty.str] (fun x=>Z9 x.1) (fun r:Bool=>B r) (fun _=>())
theorem Pn:Ok prog R0C:=by
 refine k9 [.tmp 2] func129 ?_;intro y ⟨a,_⟩ r H Q hn hr;refine iA [0]<|jN r (fun(_:Unit)=>Z [p 0 (U a)] []) (Pm a) (fun _ H=>?_) (fun _ e h g=>?_)
 ·refine iA [2]<|j0<|hr H
 refine iA [0,3]<|vB<|lX (fun(b:Int)=>Z [p 0 (U a),p 3 (I b)] []) 0 H fun _ i f c d b H=>vQ<|iA [0,3,9]<|cD H (fun H=>?_) (fun H=>?_)
 ·refine vK<|fQ<|vQ<|vB<|iB [0,3,4] H fun H=>iB [0,3,4,5] H fun H=>iA [0,3,41]<|cD H (fun H=>iA [2]<|j0<|l7<|fR<|d<|l7<|g<|hr H) fun H=>vK<|fK<|fQ<|jB [0,3] H fun H=>f H
 exact vE<|fE<|c<|fX rfl<|e H
def A0W:Unit->Option Bool
 | _ =>
 some true
def Ue(a:Int)(b:Int->Option Bool):Unit->Option Bool
 | _ =>
 gd (c9 (a+1)/\True) <|
 b (a+1)
def A0U(b:List ByteArray)(c:Int)(e:Int->Option Bool)(d:Int->Option Bool):Int->Option Bool
 | a =>
 if(decide (a<c)) then
  gd (ix a b.length/\ix c b.length/\True) <|
  if(decide (b.getD a.toNat (b7 Ty.str)=b.getD c.toNat (b7 Ty.str))) then
   some false
  else
   gd (c9 (a+1)/\True) <|
   d (a+1)
 else
  Ue c e ()
def A0V(a:List ByteArray)(c:Int->Option Bool):Int->Option Bool
 | b =>
 if(decide (b < (a.length:Int))) then
  gd (ix b a.length/\(Z9 (a.getD b.toNat (b7 Ty.str))).isSome/\True) <|
  if(!vl (Z9 (a.getD b.toNat (b7 Ty.str)))) then
   some false
  else
   lp (A0U a b c) 0
 else
  A0W ()
def BC(a:List ByteArray):Option Bool :=
 lp (A0V a) 0
def R0k:Ct:=k8 148 [.dat Ty.str.sl] (fun x=>BC x.1) (fun r:Bool=>B r) (fun _=>())
theorem P0l:Ok prog R0k:=by
 refine k9 [.tmp 2] func148 ?_;intro y ⟨b,_⟩ r H Q hn hr;have:=hz (tc Pn tn);refine iA [0]<|jN r (fun(_:Unit)=>Z [] []) (A0W) (fun _ H=>?_) (fun _ h q f=>?_)
 ·refine iA [2]<|j0<|hr H
 refine iA [0,3]<|vB<|lX (fun(a:Int)=>Z [p 0 (L Ty.str b),p 3 (I a)] []) 0 H fun _ n k g c a H=>vQ<|iA [0,3,8]<|cD H (fun H=>?_) (fun H=>?_)
 ·refine vK<|fQ<|jN r (fun(_:Unit)=>Z [p 0 (L Ty.str b),p 3 (I a)] []) (Ue a n) (fun _ H=>?_) (fun _ l s e=>?_)
  ·refine jB [0,3] H fun H=>k H
  refine vB<|vQ<|iB [0,3,16] H fun H=>cD H (fun H=>iA [2]<|j0<|fR<|l7<|e<|c<|l7<|f<|hr H) fun H=>vK<|fQ<|iA [0,3,4]<|vB<|lX (fun(d:Int)=>Z [p 0 (L Ty.str b),p 3 (I a),p 4 (I d)] []) 0 H fun _ o j i m d H=>vQ<|iA [0,3,4,19]<|cD H (fun H=>?_) (fun H=>?_)
  ·refine vK<|fQ<|vQ<|vB<|iB [0,3,4,30] H fun H=>cD H (fun H=>iA [2]<|j0<|l7<|fR<|m<|l7<|l7<|e<|c<|l7<|f<|hr H) fun H=>vK<|fK<|fQ<|jB [0,3,4] H fun H=>j H
  exact vE<|fE<|i<|fX rfl<|fK<|l H
 exact vE<|fE<|g<|fX rfl<|h H
def B0a:Unit->Option Bool
 | _ =>
 some true
def A0X(a:r6)(c:Int->Option Bool):Int->Option Bool
 | b =>
 if(decide (b < (a.2.2.length:Int))) then
  gd (ix b a.2.2.length/\(r9 (a.2.2.getD b.toNat (b7 y202)).2.1 1 2).isSome/\((!vl (r9 (a.2.2.getD b.toNat (b7 y202)).2.1 1 2))=false/\True->ix b a.2.2.length)/\((!vl (r9 (a.2.2.getD b.toNat (b7 y202)).2.1 1 2))=false/\True->c9 ((a.2.1.length:Int)-1))/\((!vl (r9 (a.2.2.getD b.toNat (b7 y202)).2.1 1 2))=false/\True->(r9 (a.2.2.getD b.toNat (b7 y202)).2.2 0 ((a.2.1.length:Int)-1)).isSome)/\True) <|
  if(!vl (r9 (a.2.2.getD b.toNat (b7 y202)).2.1 1 2)||!vl (r9 (a.2.2.getD b.toNat (b7 y202)).2.2 0 ((a.2.1.length:Int)-1))) then
   some false
  else
   gd (c9 (b+1)/\True) <|
   c (b+1)
 else
  B0a ()
def Po(a:r6):Unit->Option Bool
 | _ =>
 lp (A0X a) 0
def B0b(a:Int)(b:Int->Option Bool):Unit->Option Bool
 | _ =>
 gd (c9 (a+1)/\True) <|
 b (a+1)
def A0Y(b:o4)(c:r6)(e:Int)(f:Int->Option Bool)(d:Int->Option Bool):Int->Option Bool
 | a =>
 if(decide (a < (b.2.2.length:Int))) then
  gd (ix a b.2.2.length/\c9 ((c.2.1.length:Int)-1)/\(r9 (b.2.2.getD a.toNat 0) 0 ((c.2.1.length:Int)-1)).isSome/\True) <|
  if(!vl (r9 (b.2.2.getD a.toNat 0) 0 ((c.2.1.length:Int)-1))) then
   some false
  else
   gd (c9 (a+1)/\True) <|
   d (a+1)
 else
  B0b e f ()
def A0Z(c:r6)(b:List m6)(e:Int->Option Bool):Int->Option Bool
 | d =>
 if(decide (d < (c.1.length:Int))) then
  gd (ix d c.1.length/\True)<|lt (c.1.getD d.toNat (b7 y139)) fun a =>
  gd (c9 ((b.length:Int)-1)/\(r9 a.2.1 0 ((b.length:Int)-1)).isSome/\((!vl (r9 a.2.1 0 ((b.length:Int)-1)))=false/\True->ix a.2.1 b.length)/\True) <|
  if(!vl (r9 a.2.1 0 ((b.length:Int)-1))||(a.2.2.length:Int) != (↑(b.getD a.2.1.toNat (b7 y64)).2.2.1.length:Int)) then
   some false
  else
   lp (A0Y a c d e) 0
 else
  Po c ()
def Pp(a:List m6)(b:r6):Option Bool :=
 lp (A0Z b a) 0
def R0l:Ct:=k8 147 [.agg y64.sl,.agg y31] (fun x=>Pp x.1 x.2.1) (fun r:Bool=>B r) (fun _=>())
theorem P0m:Ok prog R0l:=by
 refine k9 [.tmp 4] func147 ?_;intro y ⟨c,a,_⟩ r H Q hn hr;have:=hz (tc AW tn);refine iA [2,3]<|iA [2,3,5]<|jN r (fun(_:Unit)=>Z [p 3 (R 3),p 5 (I (a.2.1.length:Int))] [(3,K 31 y31 a)]) (Po a) (fun _ H=>?_) (fun _ l z h=>?_)
 ·refine jN r (fun(_:Unit)=>Z [] []) (B0a) (fun _ H=>?_) (fun _ w F v=>?_)
  ·refine iA [4]<|j0<|hr H
  refine iA [3,5,9]<|vB<|lX (fun(g:Int)=>Z [p 3 (R 3),p 5 (I (a.2.1.length:Int)),p 9 (I g)] [(3,K 31 y31 a)]) 0 H fun _ P u q x g H=>vQ<|iA [3,5,9,67]<|cD H (fun H=>?_) (fun H=>?_)
  ·refine vK<|fQ<|vQ<|vB<|iB [3,5,9,89] H fun H=>cD H (fun H=>iA [4]<|j0<|l7<|fR<|x<|l7<|v<|hr H) fun H=>vK<|fK<|fQ<|jB [3,5,9] H fun H=>u H
  exact vE<|fE<|q<|fX rfl<|w H
 refine iA [2,3,5,6]<|vB<|lX (fun(b:Int)=>Z (G8 [p 5 (I (a.2.1.length:Int)),p 6 (I b)]) (GG a c)) 0 H fun _ o s t i b H=>vQ<|iA [2,3,5,6,17]<|cD H (fun H=>?_) (fun H=>?_)
 ·refine vK<|fQ<|jN r (fun(_:Unit)=>Z (G8 [p 5 (I (a.2.1.length:Int)),p 6 (I b)]) (GG a c)) (B0b b o) (fun _ H=>?_) (fun _ j G f=>?_)
  ·refine jB [2,3,5,6] H fun H=>s H
  refine vB<|qD (fun d=>Z (G8 [p 5 (I (a.2.1.length:Int)),p 6 (I b),p 7 (R 7)]) ((7,K 139 y139 d)::GG a c)) H fun d H=>vQ<|iB [2,3,5,6,7,46] H fun H=>cD H (fun H=>iA [4]<|j0<|fR<|l7<|f<|i<|l7<|h<|hr H) fun H=>vK<|fQ<|iA [2,3,5,6,7,8]<|vB<|lX (fun(e:Int)=>Z (G8 [p 5 (I (a.2.1.length:Int)),p 6 (I b),p 7 (R 7),p 8 (I e)]) ((7,K 139 y139 d)::GG a c)) 0 H fun _ E n m k e H=>vQ<|iA [2,3,5,6,7,8,51]<|cD H (fun H=>?_) (fun H=>?_)
  ·refine vK<|fQ<|vQ<|vB<|iB [2,3,5,6,7,8,62] H fun H=>cD H (fun H=>iA [4]<|j0<|l7<|fR<|k<|l7<|l7<|f<|i<|l7<|h<|hr H) fun H=>vK<|fK<|fQ<|jB [2,3,5,6,7,8] H fun H=>n H
  exact vE<|fE<|m<|fX rfl<|fK<|j H
 exact vE<|fE<|t<|fX rfl<|l H
def A0v:List Int->Option (List Int)
 | a =>
 some a
def A0u(b:m6)(e:Int×List Int->Option (List Int)):Int×List Int->Option (List Int)
 | (a,c) =>
 if(decide (a < (b.2.2.2.1.length:Int))) then
  gd (ix a b.2.2.2.1.length/\ix (b.2.2.2.1.getD a.toNat (b7 y67)).1 c.length/\(b.2.2.2.1.getD a.toNat (b7 y67)).1.toNat<c.length/\c9 (c.getD (b.2.2.2.1.getD a.toNat (b7 y67)).1.toNat 0+1)/\ix (b.2.2.2.1.getD a.toNat (b7 y67)).1 c.length/\(b.2.2.2.1.getD a.toNat (b7 y67)).1.toNat<c.length/\True)<|lt (c.set (b.2.2.2.1.getD a.toNat (b7 y67)).1.toNat (c.getD (b.2.2.2.1.getD a.toNat (b7 y67)).1.toNat 0+1)) fun d =>
  gd (c9 (a+1)/\True) <|
  e (a+1,d)
 else
  A0v c
def Lg(a:m6):Option (List Int) :=
 gd (((0:Int)<=(6:Int)/\(6:Int)=(6:Int)/\Int.toNat (6:Int)*8<=281474976710656/\(6:Int)<=(9223372036854775807:Int))/\True) <|
 lp (A0u a) ((0,List.replicate (Int.toNat (6:Int)) (0:Int)))
def Q0s:Ct:=k8 207 [.agg y64] (fun x=>Lg x.1) (fun r:List Int=>AV.ow 2 true i64 r) (fun _=>())
theorem M0F:Ok prog Q0s:=by
 refine k9 [.tmp 2] func207 ?_;intro y ⟨c,_⟩ r H Q hn hr;refine iA [1]<|iB [1,3] H fun H=>jN r (fun(d:List Int)=>Z [p 3 (O 5)] [(5,A 2 i64 d 0)]) (A0v) (fun d H=>?_) (fun _ g k i=>?_)
 ·refine iA [2]<|j0<|hr H
 refine iA [1,3,4]<|vB<|lX (fun((a,e):Int×List Int)=>Z [p 1 (R 1),p 3 (O 5),p 4 (I a)] [(5,A 2 i64 e 0),(1,K 64 y64 c)]) ((0,List.replicate (Int.toNat (6:Int)) (0:Int))) H fun _ l h f j ⟨a,e⟩ H=>vQ<|iA [1,3,4,10]<|cD H (fun H=>vK<|fQ<|vQ<|vB<|zD (fun b=>Z [p 1 (R 1),p 3 (O 5),p 4 (I a)] [(5,A 2 i64 b 0),(1,K 64 y64 c)]) H fun b H=>fK<|fQ<|jB [1,3,4] H fun H=>h H) fun H=>vE<|fE<|f<|fX rfl<|g H
def Pq(a:List Int):Unit->Option Bool
 | _ =>
 some (decide (1<=(a.length:Int))&&decide ((a.length:Int)<=4))
def B0L(b:List Int)(c:Int->Option Bool):Int->Option Bool
 | a =>
 if(decide (a < (b.length:Int))) then
  gd (ix a b.length/\(r9 (b.getD a.toNat 0) 0 100000).isSome/\(decide (0<a)=true/\(!vl (r9 (b.getD a.toNat 0) 0 100000))=false/\True->c9 (a-1))/\(decide (0<a)=true/\(!vl (r9 (b.getD a.toNat 0) 0 100000))=false/\True->ix (a-1) b.length)/\(decide (0<a)=true/\(!vl (r9 (b.getD a.toNat 0) 0 100000))=false/\True->ix a b.length)/\True) <|
  if(!vl (r9 (b.getD a.toNat 0) 0 100000)||decide (0<a)&&decide (b.getD a.toNat 0<=b.getD (a-1).toNat 0)) then
   some false
  else
   gd (c9 (a+1)/\True) <|
   c (a+1)
 else
  Pq b ()
def Dk(a:List Int):Option Bool :=
 lp (B0L a) 0
def R0X:Ct:=k8 103 [.dat i64.sl] (fun x=>Dk x.1) (fun r:Bool=>B r) (fun _=>())
theorem P0C:Ok prog R0X:=by
 refine k9 [.tmp 2] func103 ?_;intro y ⟨a,_⟩ r H Q hn hr;have:=hz (tc AW tn);refine iA [0]<|jN r (fun(_:Unit)=>Z [p 0 (L i64 a)] []) (Pq a) (fun _ H=>?_) (fun _ e h g=>?_)
 ·refine iA [2]<|j0<|hr H
 refine iA [0,3]<|vB<|lX (fun(b:Int)=>Z [p 0 (L i64 a),p 3 (I b)] []) 0 H fun _ i f c d b H=>vQ<|iA [0,3,7]<|cD H (fun H=>?_) (fun H=>?_)
 ·refine vK<|fQ<|vQ<|vB<|iB [0,3,31] H fun H=>cD H (fun H=>iA [2]<|j0<|l7<|fR<|d<|l7<|g<|hr H) fun H=>vK<|fK<|fQ<|jB [0,3] H fun H=>f H
 exact vE<|fE<|c<|fX rfl<|e H
def G0K:Unit->Option Bool
 | _ =>
 some true
def G0J(b:u1)(c:Int->Option Bool):Int->Option Bool
 | a =>
 if(decide (a < (b.2.2.length:Int))) then
  gd (ix a b.2.2.length/\(r9 (b.2.2.getD a.toNat 0) (-1000000) 1000000).isSome/\True) <|
  if(!vl (r9 (b.2.2.getD a.toNat 0) (-1000000) 1000000)) then
   some false
  else
   gd (c9 (a+1)/\True) <|
   c (a+1)
 else
  G0K ()
def Lh(a:u1):Option Bool :=
 gd ((Dk a.1).isSome/\((!vl (Dk a.1))=false/\True->(Dk a.2.1).isSome)/\((!vl (Dk a.1)||!vl (Dk a.2.1))=false/\True->c9 ((a.1.length:Int)*(a.2.1.length:Int)))/\True) <|
 if(!vl (Dk a.1)||!vl (Dk a.2.1)||(a.2.2.length:Int) != (a.1.length:Int)*(a.2.1.length:Int)) then
  some false
 else
  lp (G0J a) 0
def Cr:Ct:=k8 45 [.agg y70] (fun x=>Lh x.1) (fun r:Bool=>B r) (fun _=>())
theorem o45:Ok prog Cr:=by
 refine k9 [.tmp 2] func45 ?_;intro y ⟨c,_⟩ r H Q hn hr;have:=hz (tc AW (tc P0C tn));refine iA [1]<|vQ<|iB [1,26] H fun H=>cD H (fun H=>iA [2]<|j0<|fR<|hr H) fun H=>vK<|fQ<|jN r (fun(_:Unit)=>Z [] []) (G0K) (fun _ H=>?_) (fun _ e h g=>?_)
 ·refine iA [2]<|j0<|hr H
 refine iA [1,3]<|vB<|lX (fun(a:Int)=>Z (S0 a []) [(1,K 70 y70 c)]) 0 H fun _ i f b d a H=>vQ<|iA [1,3,31]<|cD H (fun H=>?_) (fun H=>?_)
 ·refine vK<|fQ<|vQ<|vB<|iB [1,3,40] H fun H=>cD H (fun H=>iA [2]<|j0<|l7<|fR<|d<|l7<|g<|hr H) fun H=>vK<|fK<|fQ<|jB [1,3] H fun H=>f H
 exact vE<|fE<|b<|fX rfl<|e H
def A0l:Int×Int->Option (w7×Int)
 | (b,a) =>
 some (((b,a),(0:Int)))
def Uf(b:u1)(e:Int×Int×Int->Option (w7×Int)):Int×Int×Int->Option (w7×Int)
 | (a,c,d) =>
 if(decide (a < (b.2.2.length:Int))) then
  gd (ix a b.2.2.length/\True) <|
  gd (ix a b.2.2.length/\True) <|
  gd (c9 (a+1)/\True) <|
  e ((a+1,min c (b.2.2.getD a.toNat 0),max d (b.2.2.getD a.toNat 0)))
 else
  A0l (c,d)
def Li(a:u1):Option (w7×Int) :=
 gd ((Lh a).isSome/\True) <|
 if(!vl (Lh a)) then
  some ((((0:Int),(0:Int)),(1:Int)))
 else
  gd (ix 0 a.2.2.length/\ix 0 a.2.2.length/\True) <|
  lp (Uf a) ((1,a.2.2.getD (Int.toNat (0:Int)) (0:Int),a.2.2.getD (Int.toNat (0:Int)) (0:Int)))
def P0T:Ct:=k8 240 [.agg y70] (fun x=>Li x.1) (fun r:w7×Int=>AV.tup [AV.agg [I r.1.1,I r.1.2],I r.2]) (fun _=>())
theorem M0B:Ok prog P0T:=by
 refine k9 [.cell 2 51,.tmp 3] func240 ?_;intro y ⟨a,_⟩ r H Q hn hr;have:=hz (tc o45 tn);refine iA [1,2]<|vQ<|iB [1,2,8] H fun H=>cD H (fun H=>iA [2,3]<|j0<|fR<|hr H) fun H=>vK<|fQ<|iB [1,2,4] H fun H=>jN r (fun((c,f):Int×Int)=>Z [p 2 (R 2),p 4 (R 4)] [(4,bx 51 [J c,J f]),(2,bx 51 [I 0,I 0])]) (A0l) (fun⟨c,f⟩ H=>?_) (fun _ h k l=>?_)
 ·refine iA [2,3]<|j0<|hr H
 refine iA [1,2,4,5]<|vB<|lX (fun((e,b,d):Int×Int×Int)=>Z [p 1 (R 1),p 2 (R 2),p 4 (R 4),p 5 (I e)] [(4,bx 51 [J b,J d]),(2,bx 51 [I 0,I 0]),(1,K 70 y70 a)]) ((1,a.2.2.getD (Int.toNat (0:Int)) (0:Int),a.2.2.getD (Int.toNat (0:Int)) (0:Int))) H fun _ m i g j ⟨e,b,d⟩ H=>vQ<|iA [1,2,4,5,23]<|cD H (fun H=>vK<|fQ<|vQ<|vB<|iB [1,2,4,5] H fun H=>jB [1,2,4,5] H fun H=>fK<|fQ<|jB [1,2,4,5] H fun H=>i H) fun H=>vE<|fE<|g<|fX rfl<|h H
def A0p:Unit->Option Bool
 | _ =>
 some true
def Ug(d:Bool)(b:List u1)(e:Int->Option Bool):Int->Option Bool
 | a =>
 if(decide (a<2)) then
  gd (ix a b.length/\(Li (b.getD a.toNat (b7 y70))).isSome/\True)<|lt (vl (Li (b.getD a.toNat (b7 y70)))) fun c =>
  if(c.2 != 0||d&&decide (c.1.1<0)) then
   some false
  else
   gd (c9 (a+1)/\True) <|
   e (a+1)
 else
  A0p ()
def X8(a:List u1)(b:Bool):Option Bool :=
 if((a.length:Int) != 2) then
  some false
 else
  lp (Ug b a) 0
def Q0d:Ct:=k8 226 [.dat y70.sl,.dat Ty.bool] (fun x=>X8 x.1 x.2.1) (fun r:Bool=>B r) (fun _=>())
theorem O0N:Ok prog Q0d:=by
 refine k9 [.tmp 4] func226 ?_;intro y ⟨d,b,_⟩ r H Q hn hr;have:=hz (tc M0B tn);refine iA [0,1]<|vQ<|iA [0,1,10]<|cD H (fun H=>iA [4]<|j0<|fR<|hr H) fun H=>vK<|fQ<|jN r (fun(_:Unit)=>Z [] []) (A0p) (fun _ H=>?_) (fun _ g i e=>?_)
 ·refine iA [4]<|j0<|hr H
 refine iA [0,1,5]<|vB<|lX (fun(a:Int)=>Z [p 0 (L y70 d),p 1 (C b),p 5 (I a)] []) 0 H fun _ j h c f a H=>vQ<|iA [0,1,5,12]<|cD H (fun H=>?_) (fun H=>?_)
 ·refine vK<|fQ<|vQ<|vB<|iD M0B [0,1,5,6,7] H fun _ H=>iA [0,1,5,32]<|cD H (fun H=>iA [4]<|j0<|l7<|fR<|f<|l7<|e<|hr H) fun H=>vK<|fK<|fQ<|jB [0,1,5] H fun H=>h H
 exact vE<|fE<|c<|fX rfl<|g H
def Lj(c:H9)(a:A9)(b:m6):Bool->Option Bool
 | d =>
 if d then
  gd (((c.2.2.2&&decide (a.2.2.1 < (b.2.2.1.length:Int)-1))=true/\True->ix a.2.2.1 b.2.2.1.length)/\((c.2.2.2&&decide (a.2.2.1 < (b.2.2.1.length:Int)-1)&&!(b.2.2.1.getD a.2.2.1.toNat (b7 y233)).2.2.2&&a.2.2.2.1==0)=true/\True->(X8 a.2.2.2.2.1 false).isSome)/\True) <|
  some (c.2.2.2&&decide (a.2.2.1 < (b.2.2.1.length:Int)-1)&&!(b.2.2.1.getD a.2.2.1.toNat (b7 y233)).2.2.2&&a.2.2.2.1==0&&vl (X8 a.2.2.2.2.1 false)&&(a.2.2.2.2.2.length:Int)==0)
 else
  some false
def Lk(b:H9)(a:A9)(c:m6):Bool->Option Bool
 | d =>
 if d then
  gd (((b.2.2.2&&a.2.2.1==(c.2.2.1.length:Int)-1&&a.2.2.2.1==0)=true/\True->(X8 a.2.2.2.2.1 true).isSome)/\((b.2.2.2&&a.2.2.1==(c.2.2.1.length:Int)-1&&a.2.2.2.1==0&&vl (X8 a.2.2.2.2.1 true))=true/\True->(X8 a.2.2.2.2.2 true).isSome)/\True) <|
  some (b.2.2.2&&a.2.2.1==(c.2.2.1.length:Int)-1&&a.2.2.2.1==0&&vl (X8 a.2.2.2.2.1 true)&&vl (X8 a.2.2.2.2.2 true))
 else
  if(a.1==4) then
   Lj b a c (a.1==4)
  else
   Lj b a c (a.1==5)
def Ll(b:m6)(a:A9):Option Bool :=
 gd (c9 ((b.2.2.1.length:Int)-1)/\True) <|
 gd (c9 ((b.2.2.1.length:Int)-1-1)/\(r9 a.2.1 0 ((b.2.2.1.length:Int)-1-1)).isSome/\((!vl (r9 a.2.1 0 ((b.2.2.1.length:Int)-1-1)))=false/\True->(r9 a.2.2.1 0 ((b.2.2.1.length:Int)-1)).isSome)/\True) <|
 if(!vl (r9 a.2.1 0 ((b.2.2.1.length:Int)-1-1))||!vl (r9 a.2.2.1 0 ((b.2.2.1.length:Int)-1))) then
  some false
 else
  gd (ix a.2.1 b.2.2.1.length/\True)<|lt (b.2.2.1.getD a.2.1.toNat (b7 y233)) fun c =>
  if(a.1==1) then
   gd (((!c.2.2.2&&a.2.2.1==(b.2.2.1.length:Int)-1)=true/\True->(r9 a.2.2.2.1 1 3).isSome)/\((!c.2.2.2&&a.2.2.1==(b.2.2.1.length:Int)-1&&vl (r9 a.2.2.2.1 1 3))=true/\True->(X8 a.2.2.2.2.1 true).isSome)/\((!c.2.2.2&&a.2.2.1==(b.2.2.1.length:Int)-1&&vl (r9 a.2.2.2.1 1 3)&&vl (X8 a.2.2.2.2.1 true))=true/\True->(X8 a.2.2.2.2.2 true).isSome)/\True) <|
   some (!c.2.2.2&&a.2.2.1==(b.2.2.1.length:Int)-1&&vl (r9 a.2.2.2.1 1 3)&&vl (X8 a.2.2.2.2.1 true)&&vl (X8 a.2.2.2.2.2 true))
  else
   if(a.1==2) then
    Lk c a b (a.1==2)
   else
    Lk c a b (a.1==3)
def Q0t:Ct:=k8 206 [.agg y64,.agg y67] (fun x=>Ll x.1 x.2.1) (fun r:Bool=>B r) (fun _=>())
theorem O0T:Ok prog Q0t:=by
 refine k9 [.tmp 4] func206 ?_;intro y ⟨a,c,_⟩ r H Q hn hr;have:=hz (tc O0N (tc AW tn));refine iA [2,3]<|iB [2,3,5] H fun H=>vQ<|iB [2,3,5,23] H fun H=>cD H (fun H=>iA [4]<|j0<|fR<|hr H) fun H=>vK<|fQ<|qD (fun b=>Z (G8 [p 5 (I ((a.2.2.1.length:Int)-1)),p 6 (C b.2.2.2)]) [(3,K 67 y67 c),(2,K 64 y64 a)]) H fun b H=>vQ<|iA [2,3,5,6,32]<|vB<|iA [2,3,5,6,32,33]<|cD H (fun H=>iB [4] H fun H=>j0<|l7<|fR<|hr H) fun H=>jN r (fun(g:Bool)=>Z (G8 [p 5 (I ((a.2.2.1.length:Int)-1)),p 6 (C b.2.2.2),p 32 (J c.1),p 58 (B g)]) [(3,K 67 y67 c),(2,K 64 y64 a)]) (Lk b c a) (fun g H=>?_) (fun _ e j k=>?_)
 ·refine cD H (fun H=>iB [4] H fun H=>j0<|l7<|fR<|hr H) fun H=>jN r (fun(f:Bool)=>Z (G8 [p 5 (I ((a.2.2.1.length:Int)-1)),p 6 (C b.2.2.2),p 83 (B f)]) [(3,K 67 y67 c),(2,K 64 y64 a)]) (Lj b c a) (fun f H=>?_) (fun _ d h i=>?_)
  ·refine cD H (fun H=>iB [4] H fun H=>j0<|l7<|fR<|hr H) fun H=>vK<|fK<|fQ<|iA [4]<|j0<|hr H
  refine iA [2,3,5,6,32,83]<|cD H (fun H=>vK<|d H) fun H=>jA [2,3,5,6,83]<|d H
 refine iA [2,3,5,6,32,58]<|cD H (fun H=>vK<|e H) fun H=>jA [2,3,5,6,32,58]<|e H
def Uh:Int->Option (Int×Bool)
 | a =>
 some (a,true)
def Pr(a:Int)(c:Int×Int->Option (Int×Bool)):Int->Option (Int×Bool)
 | b =>
 gd (c9 (a+1)/\True) <|
 c (b,a+1)
def Ps(b:Int)(d:Int)(a:H9)(c:m6)(e:Int×Int->Option (Int×Bool)):Unit->Option (Int×Bool)
 | _ =>
 gd ((Z9 a.1).isSome/\((!vl (Z9 a.1))=false/\True->(r9 a.2.2.1 0 500).isSome)/\True) <|
 if(!vl (Z9 a.1)||!vl (r9 a.2.2.1 0 500)) then
  some (((0:Int),false))
 else
  gd (c9 ((c.2.2.1.length:Int)-1)/\((b==(c.2.2.1.length:Int)-1&&(a.2.1 != 2||a.2.2.1 != 0||a.2.2.2))=false/\True->c9 ((c.2.2.1.length:Int)-1))/\True) <|
  if(b==(c.2.2.1.length:Int)-1&&(a.2.1 != 2||a.2.2.1 != 0||a.2.2.2)||decide (b < (c.2.2.1.length:Int)-1)&&a.2.1 != 1) then
   some (((0:Int),false))
  else
   if a.2.2.2 then
    gd (c9 (d+1)/\True) <|
    Pr b e (d+1)
   else
    Pr b e d
def A0w(b:m6)(c:H9)(d:Int)(e:Int)(g:Int×Int->Option (Int×Bool))(f:Int->Option (Int×Bool)):Int->Option (Int×Bool)
 | a =>
 if(decide (a<d)) then
  gd (ix a b.2.2.1.length/\True) <|
  if(decide ((b.2.2.1.getD a.toNat (b7 y233)).1=c.1)) then
   some (((0:Int),false))
  else
   gd (c9 (a+1)/\True) <|
   f (a+1)
 else
  Ps d e c b g ()
def A0x(a:m6)(e:Int×Int->Option (Int×Bool)):Int×Int->Option (Int×Bool)
 | (c,b) =>
 if(decide (b < (a.2.2.1.length:Int))) then
  gd (ix b a.2.2.1.length/\True)<|lt (a.2.2.1.getD b.toNat (b7 y233)) fun d =>
  lp (A0w a d b c e) 0
 else
  Uh c
def Lm(a:m6):Option (Int×Bool) :=
 if(decide ((a.2.2.1.length:Int)<2)||decide (5 < (a.2.2.1.length:Int))) then
  some (((0:Int),false))
 else
  lp (A0x a) (0,0)
def Q0u:Ct:=k8 205 [.agg y64] (fun x=>Lm x.1) (fun r:Int×Bool=>AV.tup [I r.1,B r.2]) (fun _=>())
theorem M0G:Ok prog Q0u:=by
 refine k9 [.tmp 2,.tmp 3] func205 ?_;intro y ⟨a,_⟩ r H Q hn hr;have:=hz (tc AW (tc Pn tn));refine iA [1]<|iA [1,4]<|vQ<|iA [1,4,17]<|cD H (fun H=>iA [2,3]<|j0<|fR<|hr H) fun H=>vK<|fQ<|iA [1,4,5]<|jN r (fun(i:Int)=>Z [p 5 (I i)] []) (Uh) (fun i H=>?_) (fun _ n v f=>?_)
 ·refine iA [2,3]<|j0<|hr H
 refine iA [1,4,5,6]<|vB<|lX (fun((c,b):Int×Int)=>Z [p 1 (R 1),p 4 (I (a.2.2.1.length:Int)),p 5 (I c),p 6 (I b)] [(1,K 64 y64 a)]) (0,0) H fun _ k s t g ⟨c,b⟩ H=>vQ<|iA [1,4,5,6,20]<|cD H (fun H=>?_) (fun H=>?_)
 ·refine vK<|fQ<|jN r (fun(l:Int)=>Z [p 1 (R 1),p 4 (I (a.2.2.1.length:Int)),p 5 (I l),p 6 (I b)] [(1,K 64 y64 a)]) (Pr b k) (fun l H=>?_) (fun _ h x e=>?_)
  ·refine jB [1,4,5,6] H fun H=>s H
  refine vB<|qD (fun d=>Z [p 1 (R 1),p 4 (I (a.2.2.1.length:Int)),p 5 (I c),p 6 (I b),p 7 (R 7)] [(7,K 233 y233 d),(1,K 64 y64 a)]) H fun d H=>jN r (fun(_:Unit)=>Z [p 1 (R 1),p 4 (I (a.2.2.1.length:Int)),p 5 (I c),p 6 (I b),p 7 (R 7)] [(7,K 233 y233 d),(1,K 64 y64 a)]) (Ps b c d a k) (fun _ H=>?_) (fun _ n3 w m=>?_)
  ·refine vQ<|iB [1,4,5,6,7,51] H fun H=>cD H (fun H=>iA [2,3]<|j0<|fR<|l7<|e<|g<|l7<|f<|hr H) fun H=>vK<|fQ<|vQ<|iB [1,4,5,6,7,80] H fun H=>cD H (fun H=>iA [2,3]<|j0<|fR<|l7<|e<|g<|l7<|f<|hr H) fun H=>vK<|fQ<|iA [1,4,5,6,82]<|cD H (fun H=>jB [1,4,5,6] H fun H=>fK<|h H) fun H=>vK<|fK<|h H
  refine iA [1,4,5,6,7,8]<|vB<|lX (fun(j:Int)=>Z [p 1 (R 1),p 4 (I (a.2.2.1.length:Int)),p 5 (I c),p 6 (I b),p 7 (R 7),p 8 (I j)] [(7,K 233 y233 d),(1,K 64 y64 a)]) 0 H fun _ z o q u j H=>vQ<|iA [1,4,5,6,7,8,30]<|cD H (fun H=>?_) (fun H=>?_)
  ·refine vK<|fQ<|vQ<|vB<|iB [1,4,5,6,7,8,41] H fun H=>cD H (fun H=>iA [2,3]<|j0<|l7<|fR<|u<|l7<|m<|l7<|e<|g<|l7<|f<|hr H) fun H=>vK<|fK<|fQ<|jB [1,4,5,6,7,8] H fun H=>o H
  exact vE<|fE<|q<|fX rfl<|n3 H
 exact vE<|fE<|t<|fX rfl<|n H
def A0J:Unit->Option Bool
 | _ =>
 some false
def Ln(b:Int×Bool)(a:m6):Unit->Option Bool
 | _ =>
 gd (((b.1==(0:Int))=true/\True->c9 ((a.2.2.1.length:Int)-(1:Int)))/\((b.1==(0:Int))=true/\True->(0:Int)<=(a.2.2.1.length:Int)-(1:Int)/\(a.2.2.1.length:Int)-(1:Int)<=(18446744073709551615:Int))/\((b.1==(0:Int))=true/\True->((0:Int)<=(a.2.2.1.length:Int)-(1:Int)/\(a.2.2.1.length:Int)-(1:Int)<=(62:Int))/\c9 ((1:Int)*(2:Int) ^ ((a.2.2.1.length:Int)-(1:Int)).toNat))/\True) <|
 some (b.1==(0:Int)&&(a.2.2.2.2.1.length:Int)==(1:Int)*(2:j7 i64) ^ ((a.2.2.1.length:Int)-(1:Int)).toNat)
def A0G(b:m6)(c:Int×Bool)(d:Int->Option Bool):Int->Option Bool
 | a =>
 if(decide (a < (b.2.2.2.2.1.length:Int))) then
  gd (ix a b.2.2.2.2.1.length/\(r9 (b.2.2.2.2.1.getD a.toNat 0) 0 1).isSome/\True) <|
  if(!vl (r9 (b.2.2.2.2.1.getD a.toNat 0) 0 1)) then
   some false
  else
   gd (c9 (a+1)/\True) <|
   d (a+1)
 else
  Ln c b ()
def Pt(c:m6)(b:Int×Bool):Unit->Option Bool
 | _ =>
 gd ((Lg c).isSome/\True)<|lt (vl (Lg c)) fun a =>
 if(c.2.1==1) then
  lp (A0G c b) 0
 else
  if(c.2.1==2) then
   gd (((b.1==(1:Int))=true/\True->ix (1:Int) a.length)/\((b.1==(1:Int))=true/\True->Int.toNat (1:Int)<a.length)/\((b.1==(1:Int)&&a.getD (Int.toNat (1:Int)) (0:Int)==(0:Int))=true/\True->ix (2:Int) a.length)/\((b.1==(1:Int)&&a.getD (Int.toNat (1:Int)) (0:Int)==(0:Int))=true/\True->Int.toNat (2:Int)<a.length)/\((b.1==(1:Int)&&a.getD (Int.toNat (1:Int)) (0:Int)==(0:Int))=true/\True->ix (3:Int) a.length)/\((b.1==(1:Int)&&a.getD (Int.toNat (1:Int)) (0:Int)==(0:Int))=true/\True->Int.toNat (3:Int)<a.length)/\True) <|
   some (b.1==(1:Int)&&a.getD (Int.toNat (1:Int)) (0:Int)==(0:Int)&&!decide ((0:Int)<a.getD (Int.toNat (2:Int)) (0:Int))==decide ((0:Int)<a.getD (Int.toNat (3:Int)) (0:Int))&&(c.2.2.2.2.1.length:Int)==(0:Int))
  else
   if(c.2.1==3) then
    gd (((b.1==(1:Int))=true/\True->ix (1:Int) a.length)/\((b.1==(1:Int))=true/\True->Int.toNat (1:Int)<a.length)/\((b.1==(1:Int)&&decide ((0:Int)<a.getD (Int.toNat (1:Int)) (0:Int)))=true/\True->ix (2:Int) a.length)/\((b.1==(1:Int)&&decide ((0:Int)<a.getD (Int.toNat (1:Int)) (0:Int)))=true/\True->Int.toNat (2:Int)<a.length)/\((b.1==(1:Int)&&decide ((0:Int)<a.getD (Int.toNat (1:Int)) (0:Int))&&decide ((0:Int)<a.getD (Int.toNat (2:Int)) (0:Int)))=true/\True->ix (3:Int) a.length)/\((b.1==(1:Int)&&decide ((0:Int)<a.getD (Int.toNat (1:Int)) (0:Int))&&decide ((0:Int)<a.getD (Int.toNat (2:Int)) (0:Int)))=true/\True->Int.toNat (3:Int)<a.length)/\True) <|
    some (b.1==(1:Int)&&decide ((0:Int)<a.getD (Int.toNat (1:Int)) (0:Int))&&decide ((0:Int)<a.getD (Int.toNat (2:Int)) (0:Int))&&a.getD (Int.toNat (3:Int)) (0:Int)==(0:Int)&&(c.2.2.2.2.1.length:Int)==(0:Int))
   else
    A0J ()
def A0K(a:Int)(b:Int->Option Bool):Unit->Option Bool
 | _ =>
 gd (c9 (a+1)/\True) <|
 b (a+1)
def A0H(b:m6)(c:A9)(d:Int)(f:Int->Option Bool)(e:Int->Option Bool):Int->Option Bool
 | a =>
 if(decide (a<d)) then
  gd (ix a b.2.2.2.1.length/\(((b.2.2.2.1.getD a.toNat (b7 y67)).1==c.1)=true/\True->ix a b.2.2.2.1.length)/\(((b.2.2.2.1.getD a.toNat (b7 y67)).1==c.1&&(b.2.2.2.1.getD a.toNat (b7 y67)).2.1==c.2.1)=true/\True->ix a b.2.2.2.1.length)/\True) <|
  if((b.2.2.2.1.getD a.toNat (b7 y67)).1==c.1&&(b.2.2.2.1.getD a.toNat (b7 y67)).2.1==c.2.1&&(b.2.2.2.1.getD a.toNat (b7 y67)).2.2.1==c.2.2.1) then
   some false
  else
   gd (c9 (a+1)/\True) <|
   e (a+1)
 else
  A0K d f ()
def A0I(a:m6)(d:Int×Bool)(e:Int->Option Bool):Int->Option Bool
 | b =>
 if(decide (b < (a.2.2.2.1.length:Int))) then
  gd (ix b a.2.2.2.1.length/\True)<|lt (a.2.2.2.1.getD b.toNat (b7 y67)) fun c =>
  gd ((Ll a c).isSome/\True) <|
  if(!vl (Ll a c)) then
   some false
  else
   lp (A0H a c b e) 0
 else
  Pt a d ()
def Lo(a:m6):Option Bool :=
 gd ((Lm a).isSome/\True)<|lt (vl (Lm a)) fun b =>
 gd (((!b.2)=false/\True->(Z9 a.1).isSome)/\((!b.2||!vl (Z9 a.1)||decide (8 < (a.2.2.2.1.length:Int)))=false/\True->(r9 a.2.2.2.2.2.1 0 100000).isSome)/\((!b.2||!vl (Z9 a.1)||decide (8 < (a.2.2.2.1.length:Int))||!vl (r9 a.2.2.2.2.2.1 0 100000))=false/\True->(r9 a.2.2.2.2.2.2 0 100000).isSome)/\True) <|
 if(!b.2||!vl (Z9 a.1)||decide (8 < (a.2.2.2.1.length:Int))||!vl (r9 a.2.2.2.2.2.1 0 100000)||!vl (r9 a.2.2.2.2.2.2 0 100000)) then
  some false
 else
  lp (A0I a b) 0
def Q0K:Ct:=k8 180 [.agg y64] (fun x=>Lo x.1) (fun r:Bool=>B r) (fun _=>())
theorem P0a:Ok prog Q0K:=by
 refine k9 [.tmp 2] func180 ?_;intro y ⟨b,_⟩ r H Q hn hr;have:=hz (tc AW (tc M0F (tc O0T (tc Pn (tc M0G tn)))));refine iA [1]<|iD M0G [1,3,4] H fun a H=>vQ<|iB [1,3,40] H fun H=>cD H (fun H=>iA [2]<|j0<|fR<|hr H) fun H=>vK<|fQ<|jN r (fun(_:Unit)=>Z (S0 a.1 []) [(1,K 64 y64 b)]) (Pt b a) (fun _ H=>?_) (fun _ q F h=>?_)
 ·refine iD M0F [1,3,8] H fun _ H=>jN r (fun(_:Unit)=>Z [] []) (A0J) (fun _ H=>?_) (fun _ z T d=>?_)
  ·refine iA [2]<|j0<|hr H
  refine iA [1,3,8,96]<|vB<|iA [1,3,8,96,97]<|cD H (fun H=>?_) (fun H=>?_)
  ·refine jN r (fun(_:Unit)=>Z (S0 a.1 []) [(1,K 64 y64 b)]) (Ln a b) (fun _ H=>?_) (fun _ k V E=>?_)
   ·refine iB [2] H fun H=>j0<|l7<|d<|hr H
   refine iA [1,3,9]<|vB<|lX (fun(j:Int)=>Z (S0 a.1 [p 9 (I j)]) [(1,K 64 y64 b)]) 0 H fun _ G v o l j H=>vQ<|iA [1,3,9,103]<|cD H (fun H=>?_) (fun H=>?_)
   ·refine vK<|fQ<|vQ<|vB<|iB [1,3,9,112] H fun H=>cD H (fun H=>iA [2]<|j0<|l7<|fR<|l<|l7<|E<|l7<|d<|hr H) fun H=>vK<|fK<|fQ<|jB [1,3,9] H fun H=>v H
   exact vE<|fE<|o<|fX rfl<|k H
  refine iA [1,3,8,96,127]<|cD H (fun H=>iB [2] H fun H=>j0<|l7<|d<|hr H) fun H=>iA [1,3,8,154]<|cD H (fun H=>iB [2] H fun H=>j0<|l7<|d<|hr H) fun H=>vK<|fK<|z H
 refine iA [1,3,5]<|vB<|lX (fun(c:Int)=>Z (S0 a.1 [p 5 (I c)]) [(1,K 64 y64 b)]) 0 H fun _ u w x i c H=>vQ<|iA [1,3,5,45]<|cD H (fun H=>?_) (fun H=>?_)
 ·refine vK<|fQ<|jN r (fun(_:Unit)=>Z (S0 a.1 [p 5 (I c)]) [(1,K 64 y64 b)]) (A0K c u) (fun _ H=>?_) (fun _ m W f=>?_)
  ·refine jB [1,3,5] H fun H=>w H
  refine vB<|qD (fun e=>Z (S0 a.1 [p 5 (I c),p 6 (R 6)]) [(6,K 67 y67 e),(1,K 64 y64 b)]) H fun e H=>vQ<|iB [1,3,5,6,56] H fun H=>cD H (fun H=>iA [2]<|j0<|fR<|l7<|f<|i<|l7<|h<|hr H) fun H=>vK<|fQ<|iA [1,3,5,6,7]<|vB<|lX (fun(g:Int)=>Z (S0 a.1 [p 5 (I c),p 6 (R 6),p 7 (I g)]) [(6,K 67 y67 e),(1,K 64 y64 b)]) 0 H fun _ P t s n g H=>vQ<|iA [1,3,5,6,7,59]<|cD H (fun H=>?_) (fun H=>?_)
  ·refine vK<|fQ<|vQ<|vB<|iB [1,3,5,6,7,92] H fun H=>cD H (fun H=>iA [2]<|j0<|l7<|fR<|n<|l7<|l7<|f<|i<|l7<|h<|hr H) fun H=>vK<|fK<|fQ<|jB [1,3,5,6,7] H fun H=>t H
  exact vE<|fE<|s<|fX rfl<|fK<|m H
 exact vE<|fE<|x<|fX rfl<|q H
def Pu(a:List m6):Unit->Option Bool
 | _ =>
 some (decide ((a.length:Int)<=8))
def B0e(a:Int)(b:Int->Option Bool):Unit->Option Bool
 | _ =>
 gd (c9 (a+1)/\True) <|
 b (a+1)
def B0c(b:List m6)(c:Int)(e:Int->Option Bool)(d:Int->Option Bool):Int->Option Bool
 | a =>
 if(decide (a<c)) then
  gd (ix a b.length/\ix c b.length/\True) <|
  if(decide ((b.getD a.toNat (b7 y64)).1=(b.getD c.toNat (b7 y64)).1)) then
   some false
  else
   gd (c9 (a+1)/\True) <|
   d (a+1)
 else
  B0e c e ()
def B0d(a:List m6)(c:Int->Option Bool):Int->Option Bool
 | b =>
 if(decide (b < (a.length:Int))) then
  gd (ix b a.length/\(Lo (a.getD b.toNat (b7 y64))).isSome/\True) <|
  if(!vl (Lo (a.getD b.toNat (b7 y64)))) then
   some false
  else
   lp (B0c a b c) 0
 else
  Pu a ()
def Lp(a:List m6):Option Bool :=
 lp (B0d a) 0
def R0m:Ct:=k8 146 [.agg y64.sl] (fun x=>Lp x.1) (fun r:Bool=>B r) (fun _=>())
theorem P0n:Ok prog R0m:=by
 refine k9 [.tmp 2] func146 ?_;intro y ⟨b,_⟩ r H Q hn hr;have:=hz (tc P0a tn);refine iA [1]<|jN r (fun(_:Unit)=>Z [p 1 (R 1)] [(1,bx 26 [L y64 b])]) (Pu b) (fun _ H=>?_) (fun _ h q f=>?_)
 ·refine iA [2]<|j0<|hr H
 refine iA [1,3]<|vB<|lX (fun(a:Int)=>Z (S0 a []) [(1,bx 26 [L y64 b])]) 0 H fun _ n k g c a H=>vQ<|iA [1,3,9]<|cD H (fun H=>?_) (fun H=>?_)
 ·refine vK<|fQ<|jN r (fun(_:Unit)=>Z (S0 a []) [(1,bx 26 [L y64 b])]) (B0e a n) (fun _ H=>?_) (fun _ l s e=>?_)
  ·refine jB [1,3] H fun H=>k H
  refine vB<|vQ<|iB [1,3,18] H fun H=>cD H (fun H=>iA [2]<|j0<|fR<|l7<|e<|c<|l7<|f<|hr H) fun H=>vK<|fQ<|iA [1,3,4]<|vB<|lX (fun(d:Int)=>Z (S0 a [p 4 (I d)]) [(1,bx 26 [L y64 b])]) 0 H fun _ o j i m d H=>vQ<|iA [1,3,4,21]<|cD H (fun H=>?_) (fun H=>?_)
  ·refine vK<|fQ<|vQ<|vB<|iB [1,3,4,36] H fun H=>cD H (fun H=>iA [2]<|j0<|l7<|fR<|m<|l7<|l7<|e<|c<|l7<|f<|hr H) fun H=>vK<|fK<|fQ<|jB [1,3,4] H fun H=>j H
  exact vE<|fE<|i<|fX rfl<|fK<|l H
 exact vE<|fE<|g<|fX rfl<|h H
def F0W:Unit->Option Bool
 | _ =>
 some true
def A0h(b:List Int)(c:Int->Option Bool):Int->Option Bool
 | a =>
 if(decide (a < (b.length:Int))) then
  gd (ix a b.length/\a.toNat<b.length/\True) <|
  if(b.getD a.toNat 0 != 1) then
   some false
  else
   gd (c9 (a+1)/\True) <|
   c (a+1)
 else
  F0W ()
def Lq:List Int->Option Bool
 | a =>
 lp (A0h a) 0
def Pv(a:Int)(c:Int×List Int->Option Bool):List Int->Option Bool
 | b =>
 gd (c9 (a+1)/\True) <|
 c (a+1,b)
def F0T(c:r6)(e:Int×List Int->Option Bool):Int×List Int->Option Bool
 | (a,b) =>
 if(decide (a < (c.2.2.length:Int))) then
  gd (ix a c.2.2.length/\True) <|
  if((c.2.2.getD a.toNat (b7 y202)).2.1==1) then
   gd (ix a c.2.2.length/\ix (c.2.2.getD a.toNat (b7 y202)).2.2 b.length/\(c.2.2.getD a.toNat (b7 y202)).2.2.toNat<b.length/\c9 (b.getD (c.2.2.getD a.toNat (b7 y202)).2.2.toNat 0+1)/\ix (c.2.2.getD a.toNat (b7 y202)).2.2 b.length/\(c.2.2.getD a.toNat (b7 y202)).2.2.toNat<b.length/\True)<|lt (b.set (c.2.2.getD a.toNat (b7 y202)).2.2.toNat (b.getD (c.2.2.getD a.toNat (b7 y202)).2.2.toNat 0+1)) fun d =>
   Pv a e d
  else
   Pv a e b
 else
  Lq b
def Lr(b:r6):List Int->Option Bool
 | a =>
 lp (F0T b) (0,a)
def Ui(d:r6)(f:Int×List Int->Option Bool):Int×List Int->Option Bool
 | (c,b) =>
 if(decide (c < (d.1.length:Int))) then
  gd (ix c d.1.length/\True)<|lt (d.1.getD c.toNat (b7 y139)) fun a =>
  gd (c9 ((a.2.2.length:Int)-1)/\ix ((a.2.2.length:Int)-1) a.2.2.length/\ix (a.2.2.getD ((a.2.2.length:Int)-1).toNat 0) b.length/\Int.toNat (a.2.2.getD ((a.2.2.length:Int)-1).toNat 0)<b.length/\c9 (b.getD (Int.toNat (a.2.2.getD ((a.2.2.length:Int)-1).toNat 0)) 0+1)/\ix (a.2.2.getD ((a.2.2.length:Int)-1).toNat 0) b.length/\Int.toNat (a.2.2.getD ((a.2.2.length:Int)-1).toNat 0)<b.length/\True)<|lt (b.set (Int.toNat (a.2.2.getD ((a.2.2.length:Int)-1).toNat 0)) (b.getD (Int.toNat (a.2.2.getD ((a.2.2.length:Int)-1).toNat 0)) 0+1)) fun e =>
  gd (c9 (c+1)/\True) <|
  f (c+1,e)
 else
  Lr d b
def Ls(a:r6)(b:List ByteArray):List ByteArray->Option Bool
 | c =>
 gd ((BC b).isSome/\((!vl (BC b))=false/\True->(BC c).isSome)/\((!vl (BC b)||!vl (BC c))=false/\True->(BC a.2.1).isSome)/\True) <|
 if(!vl (BC b)||!vl (BC c)||!vl (BC a.2.1)) then
  some false
 else
  gd ((0<=(a.2.1.length:Int)/\(a.2.1.length:Int)=(a.2.1.length:Int)/\(a.2.1.length:Int).toNat*8<=281474976710656/\(a.2.1.length:Int)<=9223372036854775807)/\True) <|
  lp (Ui a) ((0,List.replicate (a.2.1.length:Int).toNat 0))
def F0U(b:r6)(e:List ByteArray)(d:Int×List ByteArray->Option Bool):Int×List ByteArray->Option Bool
 | (a,c) =>
 if(decide (a < (b.2.2.length:Int))) then
  gd (ix a b.2.2.length/\(c.length+[(b.2.2.getD a.toNat (b7 y202)).1].length<=9223372036854775807/\(c.length+[(b.2.2.getD a.toNat (b7 y202)).1].length)*16<=140737488355328)/\True) <|
  gd (c9 (a+1)/\True) <|
  d ((a+1,c++[(b.2.2.getD a.toNat (b7 y202)).1]))
 else
  Ls b e c
def Lt(a:r6):List ByteArray->Option Bool
 | b =>
 lp (F0U a b) (0,[])
def F0V(b:r6)(d:Int×List ByteArray->Option Bool):Int×List ByteArray->Option Bool
 | (a,c) =>
 if(decide (a < (b.1.length:Int))) then
  gd (ix a b.1.length/\(c.length+[(b.1.getD a.toNat (b7 y139)).1].length<=9223372036854775807/\(c.length+[(b.1.getD a.toNat (b7 y139)).1].length)*16<=140737488355328)/\True) <|
  gd (c9 (a+1)/\True) <|
  d ((a+1,c++[(b.1.getD a.toNat (b7 y139)).1]))
 else
  Lt b c
def Lu(b:List m6)(a:r6):Option Bool :=
 gd ((Lp b).isSome/\((!vl (Lp b)||decide (14 < (a.1.length:Int))||decide (30 < (a.2.1.length:Int))||decide (8 < (a.2.2.length:Int)))=false/\True->(Pp b a).isSome)/\True) <|
 if(!vl (Lp b)||decide (14 < (a.1.length:Int))||decide (30 < (a.2.1.length:Int))||decide (8 < (a.2.2.length:Int))||!vl (Pp b a)) then
  some false
 else
  lp (F0V a) (0,[])
def k92:Ct:=k8 92 [.agg y64.sl,.agg y31] (fun x=>Lu x.1 x.2.1) (fun r:Bool=>B r) (fun _=>())
theorem o92:Ok prog k92:=by
 refine k9 [.tmp 4] func92 ?_;intro y ⟨_,a,_⟩ r H Q hn hr;have:=hz (tc P0l (tc P0m (tc P0n tn)));refine iA [2,3]<|vQ<|iB [3,40] H fun H=>cD H (fun H=>iA [4]<|j0<|fR<|hr H) fun H=>vK<|fQ<|iA [3,5]<|jN r (fun(j:List ByteArray)=>Z [p 3 (R 3),p 5 (O 41)] [(41,A 9 Ty.str j 0),(3,K 31 y31 a)]) (Lt a) (fun j H=>?_) (fun _ G e0 t0=>?_)
 ·refine iA [3,5,7]<|jN r (fun(t:List ByteArray)=>Z [p 3 (R 3),p 5 (O 41),p 7 (O 58)] [(58,A 9 Ty.str t 0),(41,A 9 Ty.str j 0),(3,K 31 y31 a)]) (Ls a j) (fun t H=>?_) (fun _ F e2 t2=>?_)
  ·refine vQ<|iB [3,88] H fun H=>cD H (fun H=>iA [4]<|j0<|fR<|hr H) fun H=>vK<|fQ<|iB [3,9] H fun H=>jN r (fun(d:List Int)=>Z [p 3 (R 3),p 9 (O 92)] (GH d a)) (Lr a) (fun d H=>?_) (fun _ n4 e4 t4=>?_)
   ·refine jN r (fun(c:List Int)=>Z [p 9 (O 92)] [(92,A 2 i64 c 0)]) (Lq) (fun c H=>?_) (fun _ Y e6 t6=>?_)
    ·refine jN r (fun(_:Unit)=>Z [] []) (F0W) (fun _ H=>?_) (fun _ W e9 T=>?_)
     ·refine iA [4]<|j0<|hr H
     refine iA [9,13]<|vB<|lX (fun(i:Int)=>Z [p 9 (O 92),p 13 (I i)] [(92,A 2 i64 c 0)]) 0 H fun _ z o q n i H=>vQ<|iA [9,13,145]<|cD H (fun H=>?_) (fun H=>?_)
     ·refine vK<|fQ<|vQ<|vB<|iB [9,13,152] H fun H=>cD H (fun H=>iA [4]<|j0<|l7<|fR<|n<|l7<|T<|hr H) fun H=>vK<|fK<|fQ<|jB [9,13] H fun H=>o H
     exact vE<|fE<|q<|fX rfl<|W H
    refine iA [3,9,12]<|vB<|lX (fun((b,k):Int×List Int)=>Z [p 3 (R 3),p 9 (O 92),p 12 (I b)] (GH k a)) (0,d) H fun _ E V e7 t7 ⟨b,k⟩ H=>vQ<|iA [3,9,12,121]<|cD H (fun H=>?_) (fun H=>?_)
    ·refine vK<|fQ<|jN r (fun(f:List Int)=>Z [p 3 (R 3),p 9 (O 92),p 12 (I b)] (GH f a)) (Pv b E) (fun f H=>?_) (fun _ x e8 t8=>?_)
     ·refine jB [3,9,12] H fun H=>V H
     refine vB<|iB [3,9,12,130] H fun H=>cD H (fun H=>zD (fun h=>Z [p 3 (R 3),p 9 (O 92),p 12 (I b)] (GH h a)) H fun h H=>fK<|x H) fun H=>vK<|fK<|x H
    exact vE<|fE<|e7<|fX rfl<|Y H
   refine iA [3,9,10]<|vB<|lX (fun((m,e):Int×List Int)=>Z [p 3 (R 3),p 9 (O 92),p 10 (I m)] (GH e a)) ((0,List.replicate (a.2.1.length:Int).toNat 0)) H fun _ g5 b5 e5 t5 ⟨m,e⟩ H=>vQ<|iA [3,9,10,97]<|cD H (fun H=>vK<|fQ<|vQ<|vB<|qD (fun l=>Z [p 3 (R 3),p 9 (O 92),p 10 (I m),p 11 (L i64 l.2.2)] (GH e a)) H fun l H=>zD (fun g=>Z [p 3 (R 3),p 9 (O 92),p 10 (I m)] (GH g a)) H fun g H=>fK<|fQ<|jB [3,9,10] H fun H=>b5 H) fun H=>vE<|fE<|e5<|fX rfl<|n4 H
  refine iA [3,5,7,8]<|vB<|lX (fun((s,u):Int×List ByteArray)=>Z [p 3 (R 3),p 5 (O 41),p 7 (O 58),p 8 (I s)] [(58,A 9 Ty.str u 0),(41,A 9 Ty.str j 0),(3,K 31 y31 a)]) (0,[]) H fun _ g3 X P t3 ⟨s,u⟩ H=>vQ<|iA [3,5,7,8,63]<|cD H (fun H=>vK<|fQ<|vQ<|vB<|jB [3,5,7,8] H fun H=>fK<|fQ<|jB [3,5,7,8] H fun H=>X H) fun H=>vE<|fE<|P<|fX rfl<|F H
 refine iA [3,5,6]<|vB<|lX (fun((v,w):Int×List ByteArray)=>Z [p 3 (R 3),p 5 (O 41),p 6 (I v)] [(41,A 9 Ty.str w 0),(3,K 31 y31 a)]) (0,[]) H fun _ g1 b1 e1 t1 ⟨v,w⟩ H=>vQ<|iA [3,5,6,46]<|cD H (fun H=>vK<|fQ<|vQ<|vB<|jB [3,5,6] H fun H=>fK<|fQ<|jB [3,5,6] H fun H=>b1 H) fun H=>vE<|fE<|e1<|fX rfl<|G H
def G0O:Unit->Option Bool
 | _ =>
 some true
def G0N(b:j6)(c:Int->Option Bool):Int->Option Bool
 | a =>
 if(decide (a < (b.2.2.length:Int))) then
  gd (ix a b.2.2.length/\(S7 b.2.1 a).isSome/\(Lf (b.2.2.getD a.toNat (b7 l9)) (↑(vl (S7 b.2.1 a)).length:Int)).isSome/\True)<|lt (vl (S7 b.2.1 a)) fun d =>
  if(!vl (Lf (b.2.2.getD a.toNat (b7 l9)) (d.length:Int))) then
   some false
  else
   gd (c9 (a+1)/\True) <|
   c (a+1)
 else
  G0O ()
def K6(a:j6):Option Bool :=
 gd ((Lu a.1 a.2.1).isSome/\True) <|
 if(!vl (Lu a.1 a.2.1)||(a.2.2.length:Int) != (a.2.1.2.1.length:Int)) then
  some false
 else
  lp (G0N a) 0
def k39:Ct:=k8 39 [.agg l6] (fun x=>K6 x.1) (fun r:Bool=>B r) (fun _=>())
theorem Fo:Ok prog k39:=by
 refine k9 [.tmp 2] func39 ?_;intro y ⟨c,_⟩ r H Q hn hr;have:=hz (tc o93 (tc GJ (tc o92 tn)));refine iA [1]<|vQ<|iB [1,19] H fun H=>cD H (fun H=>iA [2]<|j0<|fR<|hr H) fun H=>vK<|fQ<|jN r (fun(_:Unit)=>Z [] []) (G0O) (fun _ H=>?_) (fun _ e h g=>?_)
 ·refine iA [2]<|j0<|hr H
 refine iA [1,3]<|vB<|lX (fun(a:Int)=>Z (S0 a []) [(1,K 34 l6 c)]) 0 H fun _ i f b d a H=>vQ<|iA [1,3,24]<|cD H (fun H=>?_) (fun H=>?_)
 ·refine vK<|fQ<|vQ<|vB<|iD GJ [1,3,38] H fun _ H=>cD H (fun H=>iA [2]<|j0<|l7<|fR<|d<|l7<|g<|hr H) fun H=>vK<|fK<|fQ<|jB [1,3] H fun H=>f H
 exact vE<|fE<|b<|fX rfl<|e H
def Fp(a:j6)(b:List Int):Option Int :=
 gd ((K6 a).isSome/\True) <|
 if(!vl (K6 a)) then
  some 1
 else
  gd ((u32 a).isSome/\(Pk b (↑(vl (u32 a)).length:Int)).isSome/\True)<|lt (vl (u32 a)) fun c =>
  if(!vl (Pk b (c.length:Int))) then
   some 2
  else
   some 0
def k71:Ct:=k8 71 [.agg l6,.dat i64.sl] (fun x=>Fp x.1 x.2.1) (fun r:Int=>I r) (fun _=>())
theorem Pw:Ok prog k71:=by
 refine k9 [.tmp 4] func71 ?_;intro y ⟨_,_,_⟩ r H Q hn hr;have:=hz (tc P0u (tc Z7 (tc Fo tn)));refine iA [1,2]<|vQ<|iB [1,2,7] H fun H=>cD H (fun H=>iA [4]<|j0<|fR<|hr H) fun H=>vK<|fQ<|vQ<|iD Z7 [13] H fun _ H=>cD H (fun H=>iA [4]<|j0<|fR<|hr H) fun H=>vK<|fQ<|iA [4]<|j0<|hr H
def Lv(a:j6)(b:List Int):Option (List Int×Int) :=
 gd ((Fp a b).isSome/\True)<|lt (vl (Fp a b)) fun d =>
 if(d != 0) then
  some ([],d)
 else
  gd ((u32 a).isSome/\True)<|lt (vl (u32 a)) fun c =>
  gd ((J5 a).isSome/\(Z6 c b).isSome/\(Le (vl (J5 a)) c (vl (Z6 c b))).isSome/\True)<|lt ((vl (Le (vl (J5 a)) c (vl (Z6 c b))),vl (Z6 c b))) fun(e,_) =>
  if(!e.2) then
   some (([],(7:Int)))
  else
   some ((e.1,(0:Int)))
def k72:Ct:=k8 72 [.agg l6,.dat i64.sl] (fun x=>Lv x.1 x.2.1) (fun r:List Int×Int=>AV.tup [AV.ow 2 true i64 r.1,I r.2]) (fun _=>())
theorem o72:Ok prog k72:=by
 refine k9 [.tmp 4,.tmp 5] func72 ?_;intro y ⟨c,_,_⟩ r H Q hn hr;have:=hz (tc P0t (tc IU (tc Cq (tc Z7 (tc Pw tn)))));refine iA [1,2]<|vQ<|iD Pw [1,2,6] H fun _ H=>iA [1,2,6,14]<|cD H (fun H=>iA [4,5]<|j0<|fR<|hr H) fun H=>vK<|fQ<|iD Z7 [1,2,7] H fun d H=>qD (fun(a,b)=>Z [p 8 (O 26),p 9 (B a.2)] [(26,A 2 i64 a.1 0),(25,A 4 Ty.bool b 0),(18,A 80 y80 d 0),(2,K 34 l6 c)]) H fun⟨a,b⟩ H =>
  vQ <|
  iA [8,30] <|
  cD H (fun H=>iA [4,5]<|j0<|fR<|hr H) fun H=>vK<|fQ<|iA [4,5]<|j0<|hr H
def Cs(a:w7):Option Bool :=
 some (decide (0<=a.1)&&decide (a.1<=a.2)&&decide (a.2<=1000000))
def R0Y:Ct:=k8 102 [.agg y51] (fun x=>Cs x.1) (fun r:Bool=>B r) (fun _=>())
theorem N0f:Ok prog R0Y:=by
 refine k9 [.tmp 2] func102 ?_;intro y ⟨_,_⟩ r H Q hn hr;refine iA [1]<|iA [2]<|j0<|hr H
def G0M:Unit->Option Bool
 | _ =>
 some true
def G0L(b:List m8)(c:Int)(d:Int->Option Bool):Int->Option Bool
 | a =>
 if(decide (a < (b.length:Int))) then
  gd (ix a b.length/\c9 (c-1)/\(r9 (b.getD a.toNat (b7 y53)).1 0 (c-1)).isSome/\(decide (0<a)=true/\(!vl (r9 (b.getD a.toNat (b7 y53)).1 0 (c-1)))=false/\True->c9 (a-1))/\(decide (0<a)=true/\(!vl (r9 (b.getD a.toNat (b7 y53)).1 0 (c-1)))=false/\True->ix (a-1) b.length)/\(decide (0<a)=true/\(!vl (r9 (b.getD a.toNat (b7 y53)).1 0 (c-1)))=false/\True->ix a b.length)/\((!vl (r9 (b.getD a.toNat (b7 y53)).1 0 (c-1))||decide (0<a)&&decide ((b.getD a.toNat (b7 y53)).1<=(b.getD (a-1).toNat (b7 y53)).1))=false/\True->ix a b.length)/\((!vl (r9 (b.getD a.toNat (b7 y53)).1 0 (c-1))||decide (0<a)&&decide ((b.getD a.toNat (b7 y53)).1<=(b.getD (a-1).toNat (b7 y53)).1))=false/\True->(U8 (b.getD a.toNat (b7 y53)).2.1).isSome)/\((!vl (r9 (b.getD a.toNat (b7 y53)).1 0 (c-1))||decide (0<a)&&decide ((b.getD a.toNat (b7 y53)).1<=(b.getD (a-1).toNat (b7 y53)).1)||!vl (U8 (b.getD a.toNat (b7 y53)).2.1))=false/\True->ix a b.length)/\((!vl (r9 (b.getD a.toNat (b7 y53)).1 0 (c-1))||decide (0<a)&&decide ((b.getD a.toNat (b7 y53)).1<=(b.getD (a-1).toNat (b7 y53)).1)||!vl (U8 (b.getD a.toNat (b7 y53)).2.1))=false/\True->(Cs (b.getD a.toNat (b7 y53)).2.2).isSome)/\True) <|
  if(!vl (r9 (b.getD a.toNat (b7 y53)).1 0 (c-1))||decide (0<a)&&decide ((b.getD a.toNat (b7 y53)).1<=(b.getD (a-1).toNat (b7 y53)).1)||!vl (U8 (b.getD a.toNat (b7 y53)).2.1)||!vl (Cs (b.getD a.toNat (b7 y53)).2.2)) then
   some false
  else
   gd (c9 (a+1)/\True) <|
   d (a+1)
 else
  G0M ()
def Lw(a:j6)(b:List m8):Option Bool :=
 gd ((J5 a).isSome/\True)<|lt (vl (J5 a)) fun c =>
 lp (G0L b c) 0
def k44:Ct:=k8 44 [.agg l6,.dat y53.sl] (fun x=>Lw x.1 x.2.1) (fun r:Bool=>B r) (fun _=>())
theorem o44:Ok prog k44:=by
 refine k9 [.tmp 4] func44 ?_;intro y ⟨_,c,_⟩ r H Q hn hr;have:=hz (tc N0f (tc TK (tc AW (tc Cq tn))));refine iA [1,2]<|iD Cq [1,5] H fun b H=>jN r (fun(_:Unit)=>Z [] []) (G0M) (fun _ H=>?_) (fun _ f i h=>?_)
 ·refine iA [4]<|j0<|hr H
 refine iA [1,5,6]<|vB<|lX (fun(a:Int)=>Z [p 1 (L y53 c),p 5 (I b),p 6 (I a)] []) 0 H fun _ j g d e a H=>vQ<|iA [1,5,6,12]<|cD H (fun H=>?_) (fun H=>?_)
 ·refine vK<|fQ<|vQ<|vB<|iB [1,5,6,59] H fun H=>cD H (fun H=>iA [4]<|j0<|l7<|fR<|e<|l7<|h<|hr H) fun H=>vK<|fK<|fQ<|jB [1,5,6] H fun H=>g H
 exact vE<|fE<|d<|fX rfl<|f H
def Lx(a:o5):Unit->Option Bool
 | _ =>
 gd ((Z9 a.1).isSome/\True) <|
 some (vl (Z9 a.1)&&decide (a.2.1<=a.2.2.1)&&decide (a.2.2.2.1<=a.2.2.2.2))
def Px(b:List Int)(c:o5)(d:Int->Option Bool):Int->Option Bool
 | a =>
 if(decide (a < (b.length:Int))) then
  gd (ix a b.length/\a.toNat<b.length/\(r9 (b.getD a.toNat 0) 100 5000).isSome/\True) <|
  if(!vl (r9 (b.getD a.toNat 0) 100 5000)) then
   some false
  else
   gd (c9 (a+1)/\True) <|
   d (a+1)
 else
  Lx c ()
def Dl(a:o5):Option Bool :=
 lt ([a.2.1,a.2.2.1,a.2.2.2.1,a.2.2.2.2]) fun b =>
 lp (Px b a) 0
def k70:Ct:=k8 70 [.agg o8] (fun x=>Dl x.1) (fun r:Bool=>B r) (fun _=>())
theorem o70:Ok prog k70:=by
 refine k9 [.tmp 2] func70 ?_;intro y ⟨a,_⟩ r H Q hn hr;have:=hz (tc Pn (tc AW tn));refine iA [1]<|qC (fun b=>Z [p 1 (R 1),p 3 (O 13)] [(13,A 2 i64 b 0),(1,K 36 o8 a)]) H fun b H=>jN r (fun(_:Unit)=>Z [p 1 (R 1)] [(1,K 36 o8 a)]) (Lx a) (fun _ H=>?_) (fun _ g i e=>?_)
 ·refine iB [2] H fun H=>j0<|hr H
 refine iA [1,3,4]<|vB<|lX (fun(c:Int)=>Z [p 1 (R 1),p 3 (O 13),p 4 (I c)] [(13,A 2 i64 b 0),(1,K 36 o8 a)]) 0 H fun _ j h d f c H=>vQ<|iA [1,3,4,17]<|cD H (fun H=>?_) (fun H=>?_)
 ·refine vK<|fQ<|vQ<|vB<|iB [1,3,4,25] H fun H=>cD H (fun H=>iA [2]<|j0<|l7<|fR<|f<|l7<|e<|hr H) fun H=>vK<|fK<|fQ<|jB [1,3,4] H fun H=>h H
 exact vE<|fE<|d<|fX rfl<|g H
def GP(a:j6)(c:o5)(b:List Int)(d:List m8):Option (List Int×Int) :=
 gd ((K6 a).isSome/\((!vl (K6 a))=false/\True->(Dl c).isSome)/\True) <|
 if(!vl (K6 a)||!vl (Dl c)) then
  some (([],(1:Int)))
 else
  gd ((Fp a b).isSome/\((vl (Fp a b) != 0)=false/\True->(Lw a d).isSome)/\True)<|lt (vl (Fp a b)) fun e =>
  if(e != 0||!vl (Lw a d)) then
   some (([],(2:Int)))
  else
   gd ((Lv a b).isSome/\True)<|lt (vl (Lv a b)) fun f =>
   some f
def k31:Ct:=k8 31 [.agg l6,.agg o8,.dat i64.sl,.dat y53.sl] (fun x=>GP x.1 x.2.1 x.2.2.1 x.2.2.2.1) (fun r:List Int×Int=>AV.tup [AV.ow 2 true i64 r.1,I r.2]) (fun _=>())
theorem Py:Ok prog k31:=by
 refine k9 [.tmp 8,.tmp 9] func31 ?_;intro y ⟨_,_,_,_,_⟩ r H Q hn hr;have:=hz (tc o72 (tc o44 (tc Pw (tc o70 (tc Fo tn)))));refine iA [2,3,4,5]<|vQ<|iB [2,3,4,17] H fun H=>cD H (fun H=>iA [8,9]<|j0<|fR<|hr H) fun H=>vK<|fQ<|vQ<|iD Pw [2,4,28] H fun _ H=>cD H (fun H=>iA [8,9]<|j0<|fR<|hr H) fun H=>vK<|fQ<|iD o72 [8,9] H fun _ H=>j0<|hr H
def A4(a:Int)(b:Int)(c:Int):Option Bool :=
 some (decide (b<=a)&&decide (a<=c))
def k95:Ct:=k8 95 [.dat i64,.dat i64,.dat i64] (fun x=>A4 x.1 x.2.1 x.2.2.1) (fun r:Bool=>B r) (fun _=>())
theorem X9:Ok prog k95:=by
 refine k9 [.tmp 6] func95 ?_;intro y ⟨_,_,_,_⟩ r H Q hn hr;refine iA [0,1,2]<|iA [6]<|j0<|hr H
def Fq(a:Int):Option Bool :=
 gd ((A4 a 0 1000000).isSome/\True) <|
 some (vl (A4 a 0 1000000))
def R0N:Ct:=k8 114 [.dat i64] (fun x=>Fq x.1) (fun r:Bool=>B r) (fun _=>())
theorem P0y:Ok prog R0N:=by
 refine k9 [.tmp 2] func114 ?_;intro y ⟨_,_⟩ r H Q hn hr;have:=hz (tc X9 tn);refine iA [0]<|iB [2] H fun H=>j0<|hr H
def Fs(a:Int):Option Bool :=
 gd ((A4 a (-1000000000) 1000000000).isSome/\True) <|
 some (vl (A4 a (-1000000000) 1000000000))
def S0a:Ct:=k8 100 [.dat i64] (fun x=>Fs x.1) (fun r:Bool=>B r) (fun _=>())
theorem P0D:Ok prog S0a:=by
 refine k9 [.tmp 2] func100 ?_;intro y ⟨_,_⟩ r H Q hn hr;have:=hz (tc X9 tn);refine iA [0]<|iB [2] H fun H=>j0<|hr H
def O3(a:w7):Option Bool :=
 gd ((Fs a.1).isSome/\(vl (Fs a.1)=true/\True->(Fs a.2).isSome)/\True) <|
 some (vl (Fs a.1)&&vl (Fs a.2)&&decide (a.1<=a.2))
def k43:Ct:=k8 43 [.agg y51] (fun x=>O3 x.1) (fun r:Bool=>B r) (fun _=>())
theorem Uj:Ok prog k43:=by
 refine k9 [.tmp 2] func43 ?_;intro y ⟨_,_⟩ r H Q hn hr;have:=hz (tc P0D tn);refine iA [1]<|iB [2] H fun H=>j0<|hr H
def Aa(a:w7):Option Bool :=
 gd ((O3 a).isSome/\(vl (O3 a)=true/\True->(Fq a.1).isSome)/\((vl (O3 a)&&vl (Fq a.1))=true/\True->(Fq a.2).isSome)/\True) <|
 some (vl (O3 a)&&vl (Fq a.1)&&vl (Fq a.2))
def k56:Ct:=k8 56 [.agg y51] (fun x=>Aa x.1) (fun r:Bool=>B r) (fun _=>())
theorem Uk:Ok prog k56:=by
 refine k9 [.tmp 2] func56 ?_;intro y ⟨_,_⟩ r H Q hn hr;have:=hz (tc P0y (tc Uj tn));refine iA [1]<|iB [2] H fun H=>j0<|hr H
def GQ(a:List w7):Option Int :=
 some (a.length:Int)
def k91:Ct:=k8 91 [.dat y51.sl] (fun x=>GQ x.1) (fun r:Int=>I r) (fun _=>())
theorem o91:Ok prog k91:=by
 refine k9 [.tmp 2] func91 ?_;intro y ⟨_,_⟩ r H Q hn hr;refine iA [0]<|iA [2]<|j0<|hr H
def IW(a:List Bool):Option Int :=
 some (a.length:Int)
def k90:Ct:=k8 90 [.dat Ty.bool.sl] (fun x=>IW x.1) (fun r:Int=>I r) (fun _=>())
theorem o90:Ok prog k90:=by
 refine k9 [.tmp 2] func90 ?_;intro y ⟨_,_⟩ r H Q hn hr;refine iA [0]<|iA [2]<|j0<|hr H
def IX(a:List B6):Option Int :=
 some (a.length:Int)
def R0n:Ct:=k8 145 [.dat y151.sl] (fun x=>IX x.1) (fun r:Int=>I r) (fun _=>())
theorem M0S:Ok prog R0n:=by
 refine k9 [.tmp 2] func145 ?_;intro y ⟨_,_⟩ r H Q hn hr;refine iA [0]<|iA [2]<|j0<|hr H
def P7(a:C3):Option Int :=
 gd ((IX a.2.1).isSome/\c9 (2*vl (IX a.2.1))/\True)<|lt (vl (IX a.2.1)) fun b =>
 some (2*b)
def k89:Ct:=k8 89 [.dat y157.pt] (fun x=>P7 x.1) (fun r:Int=>I r) (fun _=>())
theorem Ly:Ok prog k89:=by
 refine k9 [.tmp 2] func89 ?_;intro y ⟨_,_⟩ r H Q hn hr;have:=hz (tc M0S tn);refine iA [0]<|iD M0S [2] H fun _ H=>j0<|hr H
def G0Q:Unit->Option Bool
 | _ =>
 some true
def G0P(b:u3)(d:Int->Option Bool):Int->Option Bool
 | a =>
 if(decide (a < (b.1.length:Int))) then
  gd (ix a b.1.length/\True) <|
  gd (ix a b.2.1.length/\(O3 (b.2.1.getD a.toNat (b7 y51))).isSome/\((!vl (O3 (b.2.1.getD a.toNat (b7 y51))))=false/\True->ix a b.2.2.length)/\((!vl (O3 (b.2.1.getD a.toNat (b7 y51))))=false/\True->(Aa (b.2.2.getD a.toNat (b7 y51))).isSome)/\((!b.1.getD a.toNat false)=true/\(!vl (O3 (b.2.1.getD a.toNat (b7 y51)))||!vl (Aa (b.2.2.getD a.toNat (b7 y51))))=false/\True->ix a b.2.1.length)/\((!((b.2.1.getD a.toNat (b7 y51)).1==0&&((b.2.1.getD a.toNat (b7 y51)).2==0&&true)))=false/\(!b.1.getD a.toNat false)=true/\(!vl (O3 (b.2.1.getD a.toNat (b7 y51)))||!vl (Aa (b.2.2.getD a.toNat (b7 y51))))=false/\True->ix a b.2.2.length)/\True)<|lt (!vl (O3 (b.2.1.getD a.toNat (b7 y51)))||!vl (Aa (b.2.2.getD a.toNat (b7 y51)))||!b.1.getD a.toNat false&&(!((b.2.1.getD a.toNat (b7 y51)).1==0&&((b.2.1.getD a.toNat (b7 y51)).2==0&&true))||!((b.2.2.getD a.toNat (b7 y51)).1==0&&((b.2.2.getD a.toNat (b7 y51)).2==0&&true)))) fun c =>
  if c then
   some false
  else
   gd (c9 (a+1)/\True) <|
   d (a+1)
 else
  G0Q ()
def Lz(c:C3)(a:u3):Option Bool :=
 gd ((P7 c).isSome/\True)<|lt (vl (P7 c)) fun b =>
 gd ((IW a.1).isSome/\((vl (IW a.1) != b)=false/\True->(GQ a.2.1).isSome)/\((vl (IW a.1) != b||vl (GQ a.2.1) != b)=false/\True->(GQ a.2.2).isSome)/\True)<|lt ((vl (IW a.1),vl (GQ a.2.1),vl (GQ a.2.2))) fun(f,e,d) =>
 if(f != b||e != b||d != b) then
  some false
 else
  lp (G0P a) 0
def k38:Ct:=k8 38 [.dat y157.pt,.agg y44] (fun x=>Lz x.1 x.2.1) (fun r:Bool=>B r) (fun _=>())
theorem o38:Ok prog k38:=by
 refine k9 [.tmp 4] func38 ?_;intro y ⟨_,a,_⟩ r H Q hn hr;have:=hz (tc Uk (tc Uj (tc o91 (tc o90 (tc Ly tn)))));refine iA [0,3]<|iD Ly [3,5] H fun b H=>vQ<|qD (fun(g,e,d)=>Z [p 3 (R 3),p 28 (B (g != b||e != b||d != b))] [(3,K 44 y44 a)]) H fun⟨g,e,d⟩ H =>
  cD H (fun H=>iA [4]<|j0<|fR<|hr H) fun H=>vK<|fQ<|jN r (fun(_:Unit)=>Z [] []) (G0Q) (fun _ H=>?_) (fun _ i m l=>?_)
 ·refine iA [4]<|j0<|hr H
 refine iA [3,30,31,32]<|vB<|lX (fun(c:Int)=>Z [p 3 (R 3),p 30 (L Ty.bool a.1),p 31 (I (a.1.length:Int)),p 32 (I c)] [(3,K 44 y44 a)]) 0 H fun _ n k h j c H=>iA [3,30,31,32,33]<|vQ<|cD H (fun H=>?_) (fun H=>?_)
 ·refine vK<|fQ<|vQ<|vB<|iB [3,6,7,30,31,32] H fun H=>qD (fun f=>Z [p 3 (R 3),p 30 (L Ty.bool a.1),p 31 (I (a.1.length:Int)),p 32 (I c),p 74 (B f)] [(3,K 44 y44 a)]) H fun f H=>cD H (fun H=>iA [4]<|j0<|l7<|fR<|j<|l7<|l<|hr H) fun H=>vK<|fK<|fQ<|jB [3,30,31,32] H fun H=>k H
 exact vE<|fE<|h<|fX rfl<|i H
def GR(b:r6)(c:List m6)(a:B6):Option Int :=
 if(decide (a.1<0)) then
  some 0
 else
  gd (ix a.1 b.1.length/\ix (b.1.getD a.1.toNat (b7 y139)).2.1 c.length/\ix a.2.1 (c.getD (b.1.getD a.1.toNat (b7 y139)).2.1.toNat (b7 y64)).2.2.1.length/\True)<|lt ((c.getD (b.1.getD a.1.toNat (b7 y139)).2.1.toNat (b7 y64)).2.2.1.getD a.2.1.toNat (b7 y233)) fun d =>
  some d.2.2.1
def R0p:Ct:=k8 143 [.agg y31,.agg y64.sl,.agg y151] (fun x=>GR x.1 x.2.1 x.2.2.1) (fun r:Int=>I r) (fun _=>())
theorem P0o:Ok prog R0p:=by
 refine k9 [.tmp 6] func143 ?_;intro y ⟨c,d,b,_⟩ r H Q hn hr;refine iA [3,4,5]<|vQ<|iA [3,4,5,9]<|cD H (fun H=>iA [6]<|j0<|fR<|hr H) fun H=>vK<|fQ<|qD (fun a=>Z [p 6 (J a.2.2.1)] [(5,K 151 y151 b),(4,bx 26 [L y64 d]),(3,K 31 y31 c)]) H fun a H=>j0<|hr H
def G0e:List B6->Option (List B6)
 | a =>
 some a
def G0b(d:r6)(e:Int×List B6->Option (List B6)):Int×List B6->Option (List B6)
 | (a,c) =>
 if(decide (a < (d.2.2.length:Int))) then
  gd (ix a d.2.2.length/\True)<|lt (d.2.2.getD a.toNat (b7 y202)) fun b =>
  gd ((c.length+[(-1,a,b.2.2,b.2.1==1)].length<=9223372036854775807/\(c.length+[(-1,a,b.2.2,b.2.1==1)].length)*32<=140737488355328)/\True) <|
  gd (c9 (a+1)/\True) <|
  e ((a+1,c++[(-1,a,b.2.2,b.2.1==1)]))
 else
  G0e c
def LA(b:r6):List B6->Option (List B6)
 | a =>
 lp (G0b b) (0,a)
def Um(b:Int)(c:List B6×Int->Option (List B6)):List B6->Option (List B6)
 | a =>
 gd (c9 (b+1)/\True) <|
 c (a,b+1)
def G0c(d:Int)(b:o4)(g:List B6×Int->Option (List B6))(f:Int×List B6->Option (List B6)):Int×List B6->Option (List B6)
 | (a,c) =>
 if(decide (a < (b.2.2.length:Int))) then
  gd (ix a b.2.2.length/\True) <|
  gd (c9 ((b.2.2.length:Int)-1)/\(c.length+[(d,a,b.2.2.getD a.toNat 0,a==(b.2.2.length:Int)-1)].length<=9223372036854775807/\(c.length+[(d,a,b.2.2.getD a.toNat 0,a==(b.2.2.length:Int)-1)].length)*32<=140737488355328)/\True)<|lt ((c++[(d,a,b.2.2.getD a.toNat 0,a==(b.2.2.length:Int)-1)],[(d,a,b.2.2.getD a.toNat 0,a==(b.2.2.length:Int)-1)])) fun(e,_) =>
  gd (c9 (a+1)/\True) <|
  f (a+1,e)
 else
  Um d g c
def G0d(a:r6)(e:List B6×Int->Option (List B6)):List B6×Int->Option (List B6)
 | (c,b) =>
 if(decide (b < (a.1.length:Int))) then
  gd (ix b a.1.length/\True)<|lt (a.1.getD b.toNat (b7 y139)) fun d =>
  lp (G0c b d e) (0,c)
 else
  LA a c
def BD(a:r6):Option (List B6) :=
 lp (G0d a) ([],0)
def k83:Ct:=k8 83 [.agg y31] (fun x=>BD x.1) (fun r:List B6=>AV.ow 151 true y151 r) (fun _=>())
theorem Ft:Ok prog k83:=by
 refine k9 [.tmp 2] func83 ?_;intro y ⟨a,_⟩ r H Q hn hr;refine iA [1]<|iA [1,3]<|jN r (fun(g:List B6)=>Z [p 1 (R 1),p 3 (O 38)] [(1,K 31 y31 a),(38,A 151 y151 g 0)]) (LA a) (fun g H=>?_) (fun _ q F X=>?_)
 ·refine jN r (fun(m:List B6)=>Z [p 3 (O 38)] [(38,A 151 y151 m 0)]) (G0e) (fun m H=>?_) (fun _ E V t4=>?_)
  ·refine iA [2]<|j0<|hr H
  refine iA [3,42,43,44]<|vB<|lX (fun((c,f):Int×List B6)=>Z [p 3 (O 38),p 42 (L y202 a.2.2),p 43 (I (a.2.2.length:Int)),p 44 (I c)] [(38,A 151 y151 f 0)]) (0,g) H fun _ g5 z v t5 ⟨c,f⟩ H=>iA [3,42,43,44,45]<|vQ<|cD H (fun H=>vK<|fQ<|vQ<|vB<|qD (fun l=>Z [p 3 (O 38),p 8 (I c),p 9 (R 9),p 42 (L y202 a.2.2),p 43 (I (a.2.2.length:Int)),p 44 (I c)] [(9,K 202 y202 l),(38,A 151 y151 f 0)]) H fun l H=>jB [3,42,43,44] H fun H=>fK<|fQ<|jB [3,42,43,44] H fun H=>z H) fun H=>vE<|fE<|v<|fX rfl<|E H
 refine iA [1,3,11,12,13]<|vB<|lX (fun((n,b):List B6×Int)=>Z [p 1 (R 1),p 3 (O 38),p 11 (L y139 a.1),p 12 (I (a.1.length:Int)),p 13 (I b)] [(1,K 31 y31 a),(38,A 151 y151 n 0)]) ([],0) H fun _ u w x Y ⟨n,b⟩ H=>iA [1,3,11,12,13,14]<|vQ<|cD H (fun H=>?_) (fun H=>?_)
 ·refine vK<|fQ<|jN r (fun(j:List B6)=>Z [p 1 (R 1),p 3 (O 38),p 11 (L y139 a.1),p 12 (I (a.1.length:Int)),p 13 (I b)] [(1,K 31 y31 a),(38,A 151 y151 j 0)]) (Um b u) (fun j H=>?_) (fun _ o W P=>?_)
  ·refine jB [1,3,11,12,13] H fun H=>w H
  refine vB<|qD (fun d=>Z [p 1 (R 1),p 3 (O 38),p 4 (I b),p 5 (R 5),p 11 (L y139 a.1),p 12 (I (a.1.length:Int)),p 13 (I b)] [(5,K 139 y139 d),(1,K 31 y31 a),(38,A 151 y151 n 0)]) H fun d H=>iA [1,3,4,5,11,12,13,19,20,21]<|vB<|lX (fun((e,h):Int×List B6)=>Z [p 1 (R 1),p 3 (O 38),p 4 (I b),p 5 (R 5),p 11 (L y139 a.1),p 12 (I (a.1.length:Int)),p 13 (I b),p 19 (L i64 d.2.2),p 20 (I (d.2.2.length:Int)),p 21 (I e)] [(5,K 139 y139 d),(1,K 31 y31 a),(38,A 151 y151 h 0)]) (0,n) H fun _ T t s G ⟨e,h⟩ H=>iA [1,3,4,5,11,12,13,19,20,21,22]<|vQ<|cD H (fun H=>?_) (fun H=>?_)
  ·refine vK<|fQ<|vQ<|vB<|iB [1,3,4,5,6,7,11,12,13,19,20,21] H fun H=>zD (fun(i,k)=>Z [p 1 (R 1),p 3 (AV.os 38 1),p 4 (I b),p 5 (R 5),p 11 (L y139 a.1),p 12 (I (a.1.length:Int)),p 13 (I b),p 19 (L i64 d.2.2),p 20 (I (d.2.2.length:Int)),p 21 (I e)] [(38,A 151 y151 i 1),(37,A 151 y151 k 0),(5,K 139 y139 d),(1,K 31 y31 a)]) H fun⟨i,k⟩ H =>
    fK<|fQ <|
    jB [1,3,4,5,11,12,13,19,20,21] H fun H =>
    t H
  exact vE<|fE<|s<|fX rfl<|fK<|o H
 exact vE<|fE<|x<|fX rfl<|q H
def B0h:List Int->Option (List Int)
 | a =>
 some a
def Pz(a:Int)(c:List Int×Int->Option (List Int)):List Int->Option (List Int)
 | b =>
 gd (c9 (a+1)/\True) <|
 c (b,a+1)
def B0g(f:Int)(c:List B6)(e:List Int×Int->Option (List Int)):List Int×Int->Option (List Int)
 | (b,a) =>
 if(decide (a < (c.length:Int))) then
  gd (ix a c.length/\a.toNat<c.length/\True)<|lt (c.getD a.toNat (b7 y151)) fun d =>
  if(d.2.2.1==f&&!d.2.2.2) then
   gd ((b.length+[a].length<=9223372036854775807/\(b.length+[a].length)*8<=140737488355328)/\True) <|
   Pz a e (b++[a])
  else
   Pz a e b
 else
  B0h b
def LB(a:r6)(b:Int):Option (List Int) :=
 gd ((BD a).isSome/\True)<|lt (vl (BD a)) fun c =>
 lp (B0g b c) ([],0)
def R0q:Ct:=k8 142 [.agg y31,.dat i64] (fun x=>LB x.1 x.2.1) (fun r:List Int=>AV.ow 2 true i64 r) (fun _=>())
theorem M0U:Ok prog R0q:=by
 refine k9 [.tmp 4] func142 ?_;intro y ⟨_,d,_⟩ r H Q hn hr;have:=hz (tc Ft tn);refine iA [1,2]<|iA [1,2,5]<|jN r (fun(f:List Int)=>Z [p 5 (O 28)] [(28,A 2 i64 f 0)]) (B0h) (fun f H=>?_) (fun _ j m s=>?_)
 ·refine iA [4]<|j0<|hr H
 refine iD Ft [1,5,9,10,11] H fun a H=>vB<|lX (fun((c,b):List Int×Int)=>Z [p 1 (J d),p 5 (O 28),p 9 (O 9),p 10 (I (a.length:Int)),p 11 (I b)] [(9,A 151 y151 a 0),(28,A 2 i64 c 0)]) ([],0) H fun _ l k i n ⟨c,b⟩ H=>iA [1,5,9,10,11,12]<|vQ<|cD H (fun H=>?_) (fun H=>?_)
 ·refine vK<|fQ<|jN r (fun(h:List Int)=>Z [p 1 (J d),p 5 (O 28),p 9 (O 9),p 10 (I (a.length:Int)),p 11 (I b)] [(28,A 2 i64 h 0),(9,A 151 y151 a 0)]) (Pz b l) (fun h H=>?_) (fun _ g o q=>?_)
  ·refine jB [1,5,9,10,11] H fun H=>k H
  refine vB<|qD (fun e=>Z [p 1 (J d),p 5 (O 28),p 6 (I b),p 7 (R 7),p 9 (O 9),p 10 (I (a.length:Int)),p 11 (I b)] [(7,bx 151 (p8 true y151 e)),(9,A 151 y151 a 0),(28,A 2 i64 c 0)]) H fun e H=>iA [1,5,6,9,10,11,24]<|cD H (fun H=>jB [1,5,9,10,11] H fun H=>fK<|g H) fun H=>vK<|fK<|g H
 exact vE<|fE<|i<|fX rfl<|j H
def Un:List Int->Option (List Int)
 | a =>
 some a
def IY(c:x9)(e:Int×List Int->Option (List Int)):Int×List Int->Option (List Int)
 | (a,b) =>
 if(decide (0<a)) then
  gd (ix a c.1.length/\ix (c.1.getD a.toNat 0) b.length/\Int.toNat (c.1.getD a.toNat 0)<b.length/\ix a b.length/\a.toNat<b.length/\c9 (b.getD (Int.toNat (c.1.getD a.toNat 0)) 0+b.getD a.toNat 0)/\ix (c.1.getD a.toNat 0) b.length/\Int.toNat (c.1.getD a.toNat 0)<b.length/\True)<|lt (b.set (Int.toNat (c.1.getD a.toNat 0)) (b.getD (Int.toNat (c.1.getD a.toNat 0)) 0+b.getD a.toNat 0)) fun d =>
  gd (c9 (a-1)/\True) <|
  e (a-1,d)
 else
  Un b
def PA(b:x9):List Int->Option (List Int)
 | a =>
 gd (c9 ((a.length:Int)-1)/\True) <|
 lp (IY b) (((a.length:Int)-1,a))
def F0Z(d:j6)(f:List B6)(c:List Int)(b:x9)(h:Int×List Int->Option (List Int)):Int×List Int->Option (List Int)
 | (a,e) =>
 if(decide (a < (c.length:Int))) then
  gd (ix a c.length/\a.toNat<c.length/\True) <|
  gd (ix a b.2.2.2.length/\ix (b.2.2.2.getD a.toNat 0) e.length/\Int.toNat (b.2.2.2.getD a.toNat 0)<e.length/\ix (c.getD a.toNat 0) f.length/\Int.toNat (c.getD a.toNat 0)<f.length/\(GR d.2.1 d.1 (f.getD (Int.toNat (c.getD a.toNat 0)) (b7 y151))).isSome/\c9 (e.getD (Int.toNat (b.2.2.2.getD a.toNat 0)) 0+vl (GR d.2.1 d.1 (f.getD (Int.toNat (c.getD a.toNat 0)) (b7 y151))))/\ix (b.2.2.2.getD a.toNat 0) e.length/\Int.toNat (b.2.2.2.getD a.toNat 0)<e.length/\True)<|lt ((vl (GR d.2.1 d.1 (f.getD (Int.toNat (c.getD a.toNat 0)) (b7 y151))),e.set (Int.toNat (b.2.2.2.getD a.toNat 0)) (e.getD (Int.toNat (b.2.2.2.getD a.toNat 0)) 0+vl (GR d.2.1 d.1 (f.getD (Int.toNat (c.getD a.toNat 0)) (b7 y151)))))) fun(_,g) =>
  gd (c9 (a+1)/\True) <|
  h (a+1,g)
 else
  PA b e
def BE(a:j6)(b:Int):Option (List Int) :=
 gd (ix b a.2.2.length/\True)<|lt (a.2.2.getD b.toNat (b7 l9)) fun c =>
 gd ((PB c.2.2.1).isSome/\True)<|lt (vl (PB c.2.2.1)) fun f =>
 gd ((BD a.2.1).isSome/\True)<|lt (vl (BD a.2.1)) fun e =>
 gd ((LB a.2.1 b).isSome/\True)<|lt (vl (LB a.2.1 b)) fun d =>
 lp (F0Z a e d c) (0,f)
def k87:Ct:=k8 87 [.agg l6,.dat i64] (fun x=>BE x.1 x.2.1) (fun r:List Int=>AV.ow 2 true i64 r) (fun _=>())
theorem Uo:Ok prog k87:=by
 refine k9 [.tmp 4] func87 ?_;intro y ⟨i,v,_⟩ r H Q hn hr;have:=hz (tc P0o (tc M0U (tc Ft (tc M0V tn))));refine iA [1,2]<|qD (fun b=>Z [p 1 (J v),p 2 (R 2),p 5 (R 5)] [(5,K 153 l9 b),(2,K 34 l6 i)]) H fun b H=>iD M0V [1,2,5,6] H fun s H=>iD Ft [1,2,5,6,7] H fun k H=>jN r (fun(a:List Int)=>Z [p 5 (R 5),p 6 (O 18)] [(18,A 2 i64 a 0),(5,K 153 l9 b)]) (PA b) (fun a H=>?_) (fun _ o x T=>?_)
 ·refine jN r (fun(f:List Int)=>Z [p 6 (O 18)] [(18,A 2 i64 f 0)]) (Un) (fun f H=>?_) (fun _ m P z=>?_)
  ·refine iA [4]<|j0<|hr H
  refine iB [5,6,10] H fun H=>vB<|lX (fun((c,d):Int×List Int)=>Z [p 5 (R 5),p 6 (O 18),p 10 (I c)] [(18,A 2 i64 d 0),(5,K 153 l9 b)]) (((a.length:Int)-1,a)) H fun _ F t q E ⟨c,d⟩ H=>vQ<|iA [5,6,10,56]<|cD H (fun H=>vK<|fQ<|vQ<|vB<|zD (fun e=>Z [p 5 (R 5),p 6 (O 18),p 10 (I c)] [(18,A 2 i64 e 0),(5,K 153 l9 b)]) H fun e H=>fK<|fQ<|jB [5,6,10] H fun H=>t H) fun H=>vE<|fE<|q<|fX rfl<|m H
 refine iD M0U [2,5,6,7,25,26,27] H fun g H=>vB<|lX (fun((h,l):Int×List Int)=>Z [p 2 (R 2),p 5 (R 5),p 6 (O 18),p 7 (O 21),p 25 (O 25),p 26 (I (g.length:Int)),p 27 (I h)] [(25,A 2 i64 g 0),(21,A 151 y151 k 0),(18,A 2 i64 l 0),(5,K 153 l9 b),(2,K 34 l6 i)]) (0,s) H fun _ G u w V ⟨h,l⟩ H=>iA [2,5,6,7,25,26,27,28]<|vQ<|cD H (fun H=>?_) (fun H=>?_)
 ·refine vK<|fQ<|vQ<|vB<|iB [2,5,6,7,8,9,25,26,27] H fun H=>zD (fun(n,j)=>Z [p 2 (R 2),p 5 (R 5),p 6 (O 18),p 7 (O 21),p 25 (O 25),p 26 (I (g.length:Int)),p 27 (I h)] [(18,A 2 i64 j 0),(25,A 2 i64 g 0),(21,A 151 y151 k 0),(5,K 153 l9 b),(2,K 34 l6 i)]) H fun⟨n,j⟩ H =>
   fK<|fQ <|
   jB [2,5,6,7,25,26,27] H fun H =>
   u H
 exact vE<|fE<|w<|fX rfl<|o H
def B0f:List Int->Option (List Int)
 | a =>
 some a
def LC(c:x9)(d:List Int)(f:Int×List Int->Option (List Int)):Int×List Int->Option (List Int)
 | (a,b) =>
 if(decide (a < (b.length:Int))) then
  gd (ix a c.1.length/\ix (c.1.getD a.toNat 0) b.length/\Int.toNat (c.1.getD a.toNat 0)<b.length/\ix a c.2.1.length/\ix a d.length/\a.toNat<d.length/\c9 (c.2.1.getD a.toNat 0*d.getD a.toNat 0)/\c9 (b.getD (Int.toNat (c.1.getD a.toNat 0)) 0+c.2.1.getD a.toNat 0*d.getD a.toNat 0)/\ix a b.length/\a.toNat<b.length/\True)<|lt (b.set a.toNat (b.getD (Int.toNat (c.1.getD a.toNat 0)) 0+c.2.1.getD a.toNat 0*d.getD a.toNat 0)) fun e =>
  gd (c9 (a+1)/\True) <|
  f (a+1,e)
 else
  B0f b
def LD(b:j6)(c:Int):Option (List Int) :=
 gd (ix c b.2.2.length/\(BE b c).isSome/\True)<|lt ((vl (BE b c),b.2.2.getD c.toNat (b7 l9))) fun(a,d) =>
 gd ((0<=(a.length:Int)/\(a.length:Int)=(a.length:Int)/\(a.length:Int).toNat*8<=281474976710656/\(a.length:Int)<=9223372036854775807)/\True) <|
 lp (LC d a) ((1,List.replicate (a.length:Int).toNat 0))
def R0o:Ct:=k8 144 [.agg l6,.dat i64] (fun x=>LD x.1 x.2.1) (fun r:List Int=>AV.ow 2 true i64 r) (fun _=>())
theorem M0T:Ok prog R0o:=by
 refine k9 [.tmp 4] func144 ?_;intro y ⟨h,_,_⟩ r H Q hn hr;have:=hz (tc Uo tn);refine iA [1,2]<|qD (fun(a,b)=>Z [p 5 (R 5),p 6 (O 16)] [(5,K 153 l9 b),(16,A 2 i64 a 0),(2,K 34 l6 h)]) H fun w H=>?_
 obtain⟨a,b⟩:=w;refine iB [5,6,7] H fun H=>jN r (fun(f:List Int)=>Z [p 7 (O 19)] [(19,A 2 i64 f 0)]) (B0f) (fun f H=>?_) (fun _ i l m=>?_)
 ·refine iA [4]<|j0<|hr H
 refine iA [5,6,7,8]<|vB<|lX (fun((c,e):Int×List Int)=>Z [p 5 (R 5),p 6 (O 16),p 7 (O 19),p 8 (I c)] [(19,A 2 i64 e 0),(5,K 153 l9 b),(16,A 2 i64 a 0)]) ((1,List.replicate (a.length:Int).toNat 0)) H fun _ n j g k ⟨c,e⟩ H=>vQ<|iA [5,6,7,8,23]<|cD H (fun H=>vK<|fQ<|vQ<|vB<|zD (fun d=>Z [p 5 (R 5),p 6 (O 16),p 7 (O 19),p 8 (I c)] [(19,A 2 i64 d 0),(5,K 153 l9 b),(16,A 2 i64 a 0)]) H fun d H=>fK<|fQ<|jB [5,6,7,8] H fun H=>j H) fun H=>vE<|fE<|g<|fX rfl<|i H
def F0Y:List Int->Option (List Int)
 | a =>
 some a
def F0X(c:List Int)(b:x9)(f:List Int×Int->Option (List Int)):List Int×Int->Option (List Int)
 | (d,a) =>
 if(decide (a < (b.2.2.2.length:Int))) then
  gd (ix a b.2.2.2.length/\True) <|
  gd (ix (b.2.2.2.getD a.toNat 0) c.length/\Int.toNat (b.2.2.2.getD a.toNat 0)<c.length/\(d.length+[c.getD (Int.toNat (b.2.2.2.getD a.toNat 0)) 0].length<=9223372036854775807/\(d.length+[c.getD (Int.toNat (b.2.2.2.getD a.toNat 0)) 0].length)*8<=140737488355328)/\True)<|lt (d++[c.getD (Int.toNat (b.2.2.2.getD a.toNat 0)) 0]) fun e =>
  gd (c9 (a+1)/\True) <|
  f (e,a+1)
 else
  F0Y d
def Fu(a:j6)(b:Int):Option (List Int) :=
 gd ((LD a b).isSome/\True)<|lt (vl (LD a b)) fun c =>
 gd (ix b a.2.2.length/\True)<|lt (a.2.2.getD b.toNat (b7 l9)) fun d =>
 lp (F0X c d) ([],0)
def k88:Ct:=k8 88 [.agg l6,.dat i64] (fun x=>Fu x.1 x.2.1) (fun r:List Int=>AV.ow 2 true i64 r) (fun _=>())
theorem o88:Ok prog k88:=by
 refine k9 [.tmp 4] func88 ?_;intro y ⟨h,_,_⟩ r H Q hn hr;have:=hz (tc M0T tn);refine iA [1,2]<|iD M0T [1,2,5] H fun b H=>iA [1,2,5,6]<|jN r (fun(f:List Int)=>Z [p 6 (O 29)] [(29,A 2 i64 f 0)]) (F0Y) (fun f H=>?_) (fun _ i m k=>?_)
 ·refine iA [4]<|j0<|hr H
 refine qD (fun a=>Z [p 5 (O 11),p 6 (nil),p 17 (L i64 a.2.2.2),p 18 (I (a.2.2.2.length:Int)),p 19 (I 0)] [(11,A 2 i64 b 0),(2,K 34 l6 h)]) H fun a H=>vB<|lX (fun((d,c):List Int×Int)=>Z [p 5 (O 11),p 6 (O 29),p 17 (L i64 a.2.2.2),p 18 (I (a.2.2.2.length:Int)),p 19 (I c)] [(11,A 2 i64 b 0),(29,A 2 i64 d 0)]) ([],0) H fun _ n j g l ⟨d,c⟩ H=>iA [5,6,17,18,19,20]<|vQ<|cD H (fun H=>vK<|fQ<|vQ<|vB<|iB [5,6,8,17,18,19] H fun H=>zD (fun e=>Z [p 5 (O 11),p 6 (AV.os 29 1),p 17 (L i64 a.2.2.2),p 18 (I (a.2.2.2.length:Int)),p 19 (I c)] [(29,A 2 i64 e 1),(28,A 2 i64 [b.getD (Int.toNat (a.2.2.2.getD c.toNat 0)) 0] 0),(11,A 2 i64 b 0)]) H fun e H=>fK<|fQ<|jB [5,6,17,18,19] H fun H=>j H) fun H=>vE<|fE<|g<|fX rfl<|i H
def P0H:Ct:=k8 88 [.agg l6,.dat i64] (fun x=>Fu x.1 x.2.1) (fun r=>frz ((fun r:List Int=>AV.ow 2 true i64 r) r)) (fun _=>())
theorem O0y:Ok prog P0H:=Up o88
def D5(a:List Int):Option Int :=
 some (a.length:Int)
def k86:Ct:=k8 86 [.dat i64.sl] (fun x=>D5 x.1) (fun r:Int=>I r) (fun _=>())
theorem LF:Ok prog k86:=by
 refine k9 [.tmp 2] func86 ?_;intro y ⟨_,_⟩ r H Q hn hr;refine iA [0]<|iA [2]<|j0<|hr H
def LG(a:A9):Option (List (Int×Int)) :=
 if(a.1==2) then
  some ([((0:Int),(0:Int)),((0:Int),(1:Int))])
 else
  if(a.1==3) then
   some ([((1:Int),(0:Int)),((1:Int),(1:Int))])
  else
   if(a.1 != 1) then
    some []
   else
    if(a.2.2.2.1==1) then
     some ([((0:Int),(0:Int)),((1:Int),(1:Int))])
    else
     if(a.2.2.2.1==2) then
      some ([((0:Int),(1:Int)),((1:Int),(0:Int))])
     else
      lt ([((0:Int),(0:Int)),((0:Int),(1:Int)),((1:Int),(0:Int)),((1:Int),(1:Int))]) fun b =>
      some b
def R0s:Ct:=k8 140 [.agg y67] (fun x=>LG x.1) (fun r:List (Int×Int)=>AV.ow 207 true (i64.pr i64) r) (fun _=>())
theorem M0W:Ok prog R0s:=by
 refine k9 [.tmp 2] func140 ?_;intro y ⟨b,_⟩ r H Q hn hr;refine iA [1]<|iA [1,3]<|iA [1,3,4]<|vQ<|vB<|iA [1,3,4,11]<|cD H (fun H=>iA [2]<|j0<|l7<|fR<|hr H) fun H=>iA [1,3,4,18]<|cD H (fun H=>iA [2]<|j0<|l7<|fR<|hr H) fun H=>iA [1,3,4,25]<|cD H (fun H=>iA [2]<|j0<|l7<|fR<|hr H) fun H=>iA [1,3,4,29]<|cD H (fun H=>iA [2]<|j0<|l7<|fR<|hr H) fun H=>iA [4,34]<|cD H (fun H=>iA [2]<|j0<|l7<|fR<|hr H) fun H=>vK<|fK<|fQ<|qC (fun a=>Z [p 2 (O 43)] [(43,A 207 (i64.pr i64) a 0),(10,A 207 (i64.pr i64) [((0:Int),(1:Int)),((1:Int),(0:Int))] 0),(7,A 207 (i64.pr i64) [((0:Int),(0:Int)),((1:Int),(1:Int))] 0),(1,K 67 y67 b)]) H fun a H=>j0<|hr H
def G0a:List l8->Option (List l8)
 | a =>
 some a
def Uq(a:Int)(c:List l8×Int->Option (List l8)):List l8->Option (List l8)
 | b =>
 gd (c9 (a+1)/\True) <|
 c (b,a+1)
def Ur(c:Int)(a:A9)(e:Int)(g:List (Int×Int))(j:List l8×Int->Option (List l8))(i:Int×List l8->Option (List l8)):Int×List l8->Option (List l8)
 | (d,f) =>
 if(decide (d < (g.length:Int))) then
  gd (ix d g.length/\d.toNat<g.length/\True)<|lt (g.getD d.toNat (b7 (i64.pr i64))) fun b =>
  gd (c9 (c+a.2.1)/\c9 ((2:Int)*(c+a.2.1))/\ix (0:Int) 2/\c9 ((2:Int)*(c+a.2.1)+b.1)/\c9 (c+a.2.2.1)/\c9 ((2:Int)*(c+a.2.2.1))/\ix (1:Int) 2/\c9 ((2:Int)*(c+a.2.2.1)+b.2)/\(f.length+[((2:Int)*(c+a.2.1)+b.1,(2:Int)*(c+a.2.2.1)+b.2,(1:Int),e)].length<=9223372036854775807/\(f.length+[((2:Int)*(c+a.2.1)+b.1,(2:Int)*(c+a.2.2.1)+b.2,(1:Int),e)].length)*32<=140737488355328)/\True)<|lt ((f++[((2:Int)*(c+a.2.1)+b.1,(2:Int)*(c+a.2.2.1)+b.2,(1:Int),e)],[((2:Int)*(c+a.2.1)+b.1,(2:Int)*(c+a.2.2.1)+b.2,(1:Int),e)])) fun(h,_) =>
  gd (c9 (d+1)/\True) <|
  i (d+1,h)
 else
  Uq e j f
def Ut(f:Int)(d:m6)(g:List l8×Int->Option (List l8)):List l8×Int->Option (List l8)
 | (c,a) =>
 if(decide (a < (d.2.2.2.1.length:Int))) then
  gd (ix a d.2.2.2.1.length/\True)<|lt (d.2.2.2.1.getD a.toNat (b7 y67)) fun b =>
  gd ((LG b).isSome/\True)<|lt (vl (LG b)) fun e =>
  lp (Ur f b a e g) (0,c)
 else
  G0a c
def Fv(a:j6)(b:o4)(c:Int):Option (List l8) :=
 gd (ix b.2.1 a.1.length/\True)<|lt (a.1.getD b.2.1.toNat (b7 y64)) fun d =>
 lp (Ut c d) ([],0)
def k85:Ct:=k8 85 [.agg l6,.agg y139,.dat i64] (fun x=>Fv x.1 x.2.1 x.2.2.1) (fun r:List l8=>AV.ow 80 true y80 r) (fun _=>())
theorem o85:Ok prog k85:=by
 refine k9 [.tmp 6] func85 ?_;intro y ⟨u,w,i,_⟩ r H Q hn hr;have:=hz (tc M0W tn);refine iA [2,3,4]<|iA [2,3,4,7]<|jN r (fun(m:List l8)=>Z [p 7 (O 53)] [(53,A 80 y80 m 0)]) (G0a) (fun m H=>?_) (fun _ o z T=>?_)
 ·refine iA [6]<|j0<|hr H
 refine qD (fun b=>Z [p 2 (J i),p 7 (nil),p 19 (L y67 b.2.2.2.1),p 20 (I (b.2.2.2.1.length:Int)),p 21 (I 0)] [(4,K 139 y139 w),(3,K 34 l6 u)]) H fun b H=>vB<|lX (fun((f,a):List l8×Int)=>Z [p 2 (J i),p 7 (O 53),p 19 (L y67 b.2.2.2.1),p 20 (I (b.2.2.2.1.length:Int)),p 21 (I a)] [(53,A 80 y80 f 0)]) ([],0) H fun _ t v x V ⟨f,a⟩ H=>iA [2,7,19,20,21,22]<|vQ<|cD H (fun H=>?_) (fun H=>?_)
 ·refine vK<|fQ<|jN r (fun(l:List l8)=>Z [p 2 (J i),p 7 (O 53),p 19 (L y67 b.2.2.2.1),p 20 (I (b.2.2.2.1.length:Int)),p 21 (I a)] [(53,A 80 y80 l 0)]) (Uq a t) (fun l H=>?_) (fun _ n P F=>?_)
  ·refine jB [2,7,19,20,21] H fun H=>v H
  refine vB<|qD (fun d=>Z [p 2 (J i),p 7 (O 53),p 8 (I a),p 9 (R 9),p 19 (L y67 b.2.2.2.1),p 20 (I (b.2.2.2.1.length:Int)),p 21 (I a)] [(9,K 67 y67 d),(53,A 80 y80 f 0)]) H fun d H=>iD M0W [2,7,8,9,19,20,21,27,28,29] H fun c H=>vB<|lX (fun((e,g):Int×List l8)=>Z [p 2 (J i),p 7 (O 53),p 8 (I a),p 9 (R 9),p 19 (L y67 b.2.2.2.1),p 20 (I (b.2.2.2.1.length:Int)),p 21 (I a),p 27 (O 27),p 28 (I (c.length:Int)),p 29 (I e)] [(27,A 207 (i64.pr i64) c 0),(9,K 67 y67 d),(53,A 80 y80 g 0)]) (0,f) H fun _ G s q E ⟨e,g⟩ H=>iA [2,7,8,9,19,20,21,27,28,29,30]<|vQ<|cD H (fun H=>?_) (fun H=>?_)
  ·refine vK<|fQ<|vQ<|vB<|qD (fun h=>Z [p 2 (J i),p 7 (O 53),p 8 (I a),p 9 (R 9),p 11 (R 11),p 19 (L y67 b.2.2.2.1),p 20 (I (b.2.2.2.1.length:Int)),p 21 (I a),p 27 (O 27),p 28 (I (c.length:Int)),p 29 (I e)] [(11,bx 207 (p8 true (i64.pr i64) h)),(27,A 207 (i64.pr i64) c 0),(9,K 67 y67 d),(53,A 80 y80 g 0)]) H fun h H=>zD (fun(k,j)=>Z [p 2 (J i),p 7 (AV.os 53 1),p 8 (I a),p 9 (R 9),p 19 (L y67 b.2.2.2.1),p 20 (I (b.2.2.2.1.length:Int)),p 21 (I a),p 27 (O 27),p 28 (I (c.length:Int)),p 29 (I e)] [(53,A 80 y80 k 1),(52,A 80 y80 j 0),(11,bx 207 (p8 true (i64.pr i64) h)),(27,A 207 (i64.pr i64) c 0),(9,K 67 y67 d)]) H fun⟨k,j⟩ H =>
    fK<|fQ <|
    jB [2,7,8,9,19,20,21,27,28,29] H fun H =>
    s H
  exact vE<|fE<|q<|fX rfl<|fK<|n H
 exact vE<|fE<|x<|fX rfl<|o H
def G0S(e:j6)(d:List B6):List l8×List Int×List (List Int)->Option C3
 | (a,b,c) =>
 some (e,d,a,b,c,[])
def Uu(a:Int)(e:Int×List Int×List (List Int)×List l8->Option C3):List (List Int)×List Int×List l8->Option C3
 | (d,c,b) =>
 gd (c9 (a+1)/\True) <|
 e (a+1,c,d,b)
def Uv(a:Int)(c:Int×List l8->Option C3):List l8->Option C3
 | b =>
 gd (c9 (a+1)/\True) <|
 c (a+1,b)
def LH(d:List Int)(a:Int)(e:List (List Int))(c:Int)(i:Int×List l8->Option C3)(g:Int×List l8->Option C3):Int×List l8->Option C3
 | (b,f) =>
 if(decide (b<2)) then
  gd (ix a d.length/\a.toNat<d.length/\c9 ((2:Int)*d.getD a.toNat (0:Int))/\c9 ((2:Int)*d.getD a.toNat (0:Int)+b)/\c9 ((2:Int)*List.getD (e.getD a.toNat []) c.toNat (0:Int))/\c9 ((2:Int)*List.getD (e.getD a.toNat []) c.toNat (0:Int)+b)/\(f.length+[((2:Int)*d.getD a.toNat (0:Int)+b,(2:Int)*List.getD (e.getD a.toNat []) c.toNat (0:Int)+b,(2:Int),c)].length<=9223372036854775807/\(f.length+[((2:Int)*d.getD a.toNat (0:Int)+b,(2:Int)*List.getD (e.getD a.toNat []) c.toNat (0:Int)+b,(2:Int),c)].length)*32<=140737488355328)/\True)<|lt ((f++[((2:Int)*d.getD a.toNat (0:Int)+b,(2:Int)*List.getD (e.getD a.toNat []) c.toNat (0:Int)+b,(2:Int),c)],[((2:Int)*d.getD a.toNat (0:Int)+b,(2:Int)*List.getD (e.getD a.toNat []) c.toNat (0:Int)+b,(2:Int),c)])) fun(h,_) =>
  gd (c9 (b+1)/\True) <|
  g (b+1,h)
 else
  Uv c i f
def GS(e:List Int)(a:Int)(b:List (List Int))(i:List (List Int))(f:List Int)(h:List Int)(g:List Int)(j:Int×List Int×List (List Int)×List l8->Option C3)(k:Int×List l8->Option C3):Int×List l8->Option C3
 | (c,d) =>
 if(decide (c < (↑(List.length (b.getD a.toNat [])):Int))) then
  gd (ix c (List.length (b.getD a.toNat []))/\True) <|
  lp (LH e a b c k) (0,d)
 else
  Uu a j ((i++[f],h++[g.getD (Int.toNat (0:Int)) (0:Int)],d))
def Uw(g:List Int)(e:List (List Int))(b:j6)(j:List B6)(k:Int×List Int×List (List Int)×List l8->Option C3):Int×List Int×List (List Int)×List l8->Option C3
 | (a,c,d,f) =>
 if(decide (a < (b.2.2.length:Int))) then
  gd ((BE b a).isSome/\ix (0:Int) (vl (BE b a)).length/\Int.toNat (0:Int) < (vl (BE b a)).length/\(c.length+[(vl (BE b a)).getD (Int.toNat (0:Int)) (0:Int)].length<=9223372036854775807/\(c.length+[(vl (BE b a)).getD (Int.toNat (0:Int)) (0:Int)].length)*8<=140737488355328)/\True)<|lt (vl (BE b a)) fun i =>
  gd ((Fu b a).isSome/\(d.length+[vl (Fu b a)].length<=9223372036854775807/\(d.length+[vl (Fu b a)].length)*24<=140737488355328)/\True)<|lt (vl (Fu b a)) fun h =>
  gd (ix a e.length/\True) <|
  lp (GS g a e d h c i k) (0,f)
 else
  G0S b j (f,c,d)
def Ux(e:j6)(d:List B6)(b:List l8):List (List Int)×List Int->Option C3
 | (a,c) =>
 lp (Uw c a e d) (0,[],[],b)
def PC(a:Int)(d:Int×List (List Int)×List Int->Option C3):List Int×List (List Int)->Option C3
 | (b,c) =>
 gd (c9 (a+1)/\True) <|
 d (a+1,c,b)
def Uy(e:List B6)(i:j6)(f:List l8)(h:Int×List (List Int)×List Int->Option C3):Int×List (List Int)×List Int->Option C3
 | (b,c,d) =>
 if(decide (b < (e.length:Int))) then
  gd (ix b e.length/\b.toNat<e.length/\True)<|lt (e.getD b.toNat (b7 y151)) fun a =>
  if a.2.2.2 then
   gd (ix a.2.2.1 d.length/\a.2.2.1.toNat<d.length/\True) <|
   PC b h (d.set a.2.2.1.toNat b,c)
  else
   gd (ix a.2.2.1 c.length/\a.2.2.1.toNat<c.length/\((c.getD a.2.2.1.toNat []).length+[b].length<=9223372036854775807/\((c.getD a.2.2.1.toNat []).length+[b].length)*8<=140737488355328)/\ix a.2.2.1 c.length/\(a.2.2.1.toNat<c.length/\a.2.2.1.toNat=a.2.2.1.toNat)/\True)<|lt (c.set a.2.2.1.toNat (c.getD a.2.2.1.toNat []++[b])) fun g =>
   PC b h (d,g)
 else
  Ux i e f (c,d)
def LJ(c:List B6)(a:j6):List l8->Option C3
 | b =>
 gd ((0<=(a.2.2.length:Int)/\(a.2.2.length:Int)=(a.2.2.length:Int)/\(a.2.2.length:Int).toNat*8<=281474976710656/\(a.2.2.length:Int)<=9223372036854775807)/\True) <|
 gd ((0<=(a.2.2.length:Int)/\(a.2.2.length:Int)=(a.2.2.length:Int)/\(a.2.2.length:Int).toNat*24<=281474976710656/\(a.2.2.length:Int)<=9223372036854775807)/\True) <|
 lp (Uy c a b) ((0,List.replicate (a.2.2.length:Int).toNat [],List.replicate (a.2.2.length:Int).toNat 0))
def G0R(a:j6)(f:List B6)(i:Int×Int×List l8->Option C3):Int×Int×List l8->Option C3
 | (c,d,e) =>
 if(decide (d < (a.2.1.1.length:Int))) then
  gd (ix d a.2.1.1.length/\True)<|lt (a.2.1.1.getD d.toNat (b7 y139)) fun b =>
  gd ((Fv a b c).isSome/\(e.length+(vl (Fv a b c)).length<=9223372036854775807/\(e.length+(vl (Fv a b c)).length)*32<=140737488355328)/\True)<|lt (vl (Fv a b c)) fun h =>
  gd ((D5 b.2.2).isSome/\c9 (c+vl (D5 b.2.2))/\True)<|lt (vl (D5 b.2.2)) fun g =>
  gd (c9 (d+1)/\True) <|
  i (c+g,d+1,e++h)
 else
  LJ f a e
def GU(a:j6):Option C3 :=
 gd ((BD a.2.1).isSome/\True)<|lt (vl (BD a.2.1)) fun b =>
 lp (G0R a b) (0,0,[])
def k37:Ct:=k8 37 [.agg l6] (fun x=>GU x.1) (fun r:C3=>D y157.pt r) (fun _=>())
theorem PD:Ok prog k37:=by
 refine k9 [.tmp 2] func37 ?_;intro y ⟨a,_⟩ r H Q hn hr;have:=hz (tc O0y (tc Uo (tc LF (tc o85 (tc Ft tn)))));refine iA [1]<|iD Ft [1,3] H fun d H=>iA [1,3,4]<|jN r (fun(f:List l8)=>Z [p 1 (R 1),p 3 (R 20)] ((20,bx 157 (Q2 a))::W7 d a f)) (LJ d a) (fun f H=>?_) (fun _ n0 e0 t0=>?_)
 ·refine iB [1,3,7] H fun H=>iB [1,3,7,8] H fun H=>jN r (fun((c,g):List (List Int)×List Int)=>Z (Av [p 8 (AV.og 54)]) ((54,Ob.grd 37 2 true i64 c none)::(50,A 2 i64 g 0)::(20,bx 157 (Q2 a))::W7 d a f)) (Ux a d f) (fun⟨c,g⟩ H=>?_) (fun _ n2 e2 t2=>?_)
  ·refine jN r (fun((X,v,W):List l8×List Int×List (List Int))=>Z [p 3 (R 20)] [(20,bx 157 (Q3 a)),(18,A 151 y151 d 0),(38,A 80 y80 X 0),(102,A 2 i64 v 0),(114,A 37 i64.sl W 0)]) (G0S a d) (fun⟨X,v,W⟩ H=>?_) (fun _ n5 e5 t5=>?_)
   ·refine iA [2]<|j0<|hr H
   refine iA [1,3,7,8,87,88]<|vB<|fZ 54 (Z (Av [p 8 (M i64.sl c),p 87 (I (a.2.2.length:Int)),p 88 (I 0)]) ((50,A 2 i64 g 0)::(20,bx 157 (Q2 a))::W7 d a f))<|lX (fun((b,k,l,n):Int×List Int×List (List Int)×List l8)=>Z (Av [p 8 (M i64.sl c),p 87 (I (a.2.2.length:Int)),p 88 (I b)]) [(50,A 2 i64 g 0),(20,bx 157 (Q3 a)),(18,A 151 y151 d 0),(1,K 34 l6 a),(38,A 80 y80 n 0),(102,A 2 i64 k 0),(114,A 37 i64.sl l 0)]) (0,[],[],f) H fun _ g6 b6 e6 t6 ⟨b,k,l,n⟩ H=>iA [1,3,7,8,87,88,89]<|vQ<|cD H (fun H=>?_) (fun H=>?_)
   ·refine vK<|fQ<|jN r (fun((T,x,u):List (List Int)×List Int×List l8)=>Z (Av [p 8 (M i64.sl c),p 87 (I (a.2.2.length:Int)),p 88 (I b)]) ((20,bx 157 (Q3 a))::(114,A 37 i64.sl T 0)::(102,A 2 i64 x 0)::(50,A 2 i64 g 0)::W7 d a u)) (Uu b g6) (fun⟨T,x,u⟩ H=>?_) (fun _ n7 e7 t7=>?_)
    ·refine jB [1,3,7,8,87,88] H fun H=>b6 H
    refine vB<|iA [1,3,7,8,11,87,88]<|iD Uo [1,3,7,8,11,87,88] H fun i H=>qD (fun j=>Z (Av [p 8 (M i64.sl c),p 11 (I b),p 87 (I (a.2.2.length:Int)),p 88 (I b)]) ((20,bx 157 [L y64 a.1,L y139 a.2.1.1,L Ty.str a.2.1.2.1,L y202 a.2.1.2.2,L l9 a.2.2,AV.os 18 0,AV.os 38 0,AV.os 102 1,AV.os 114 1,nil])::(114,A 37 i64.sl (l++[j]) 1)::(113,A 37 i64.sl [j] 0)::(102,A 2 i64 (k++[i.getD (Int.toNat (0:Int)) (0:Int)]) 1)::(101,A 2 i64 [i.getD (Int.toNat (0:Int)) (0:Int)] 0)::(98,A 2 i64 i 0)::(50,A 2 i64 g 0)::W7 d a n)) H fun j H=>iB [1,3,7,8,11,87,88,120,121,122] H fun H=>vB<|lX (fun((e,q):Int×List l8)=>Z (Av [p 8 (M i64.sl c),p 11 (I b),p 87 (I (a.2.2.length:Int)),p 88 (I b),p 120 (M i64 (c.getD b.toNat [])),p 121 (I (↑(List.length (c.getD b.toNat [])):Int)),p 122 (I e)]) ((20,bx 157 (Q3 a))::(114,A 37 i64.sl (l++[j]) 0)::(102,A 2 i64 (k++[i.getD (Int.toNat (0:Int)) (0:Int)]) 0)::(50,A 2 i64 g 0)::W7 d a q)) (0,n) H fun _ g8 b8 e8 t8 ⟨e,q⟩ H=>iA [1,3,7,8,11,87,88,120,121,122,123]<|vQ<|cD H (fun H=>?_) (fun H=>?_)
    ·refine vK<|fQ<|jN r (fun(F:List l8)=>Z (Av [p 8 (M i64.sl c),p 11 (I b),p 87 (I (a.2.2.length:Int)),p 88 (I b),p 120 (M i64 (c.getD b.toNat [])),p 121 (I (↑(List.length (c.getD b.toNat [])):Int)),p 122 (I e)]) ((20,bx 157 (Q3 a))::(114,A 37 i64.sl (l++[j]) 0)::(102,A 2 i64 (k++[i.getD (Int.toNat (0:Int)) (0:Int)]) 0)::(50,A 2 i64 g 0)::W7 d a F)) (Uv e g8) (fun F H=>?_) (fun _ n9 e9 t9=>?_)
     ·refine jB [1,3,7,8,11,87,88,120,121,122] H fun H=>b8 H
     refine vB<|iB [1,3,7,8,11,12,13,87,88,120,121,122] H fun H=>iA [1,3,7,8,11,12,13,87,88,120,121,122,127]<|vB<|lX (fun((t,w):Int×List l8)=>Z (Av [p 8 (M i64.sl c),p 11 (I b),p 12 (I e),p 13 (I (List.getD (c.getD b.toNat []) e.toNat (0:Int))),p 87 (I (a.2.2.length:Int)),p 88 (I b),p 120 (M i64 (c.getD b.toNat [])),p 121 (I (↑(List.length (c.getD b.toNat [])):Int)),p 122 (I e),p 127 (I t)]) ((20,bx 157 (Q3 a))::(114,A 37 i64.sl (l++[j]) 0)::(102,A 2 i64 (k++[i.getD (Int.toNat (0:Int)) (0:Int)]) 0)::(50,A 2 i64 g 0)::W7 d a w)) (0,q) H fun _ aC aA aB aD ⟨t,w⟩ H=>iA [1,3,7,8,11,12,13,87,88,120,121,122,127,128]<|vQ<|cD H (fun H=>?_) (fun H=>?_)
     ·refine vK<|fQ<|vQ<|vB<|iA [1,3,7,8,11,12,13,14,87,88,120,121,122,127]<|zD (fun(P,V)=>Z (Av [p 8 (M i64.sl c),p 11 (I b),p 12 (I e),p 13 (I (List.getD (c.getD b.toNat []) e.toNat (0:Int))),p 87 (I (a.2.2.length:Int)),p 88 (I b),p 120 (M i64 (c.getD b.toNat [])),p 121 (I (↑(List.length (c.getD b.toNat [])):Int)),p 122 (I e),p 127 (I t)]) [(20,bx 157 [L y64 a.1,L y139 a.2.1.1,L Ty.str a.2.1.2.1,L y202 a.2.1.2.2,L l9 a.2.2,AV.os 18 0,AV.os 38 1,AV.os 102 0,AV.os 114 0,nil]),(38,A 80 y80 P 1),(148,A 80 y80 V 0),(114,A 37 i64.sl (l++[j]) 0),(102,A 2 i64 (k++[i.getD (Int.toNat (0:Int)) (0:Int)]) 0),(50,A 2 i64 g 0),(18,A 151 y151 d 0),(1,K 34 l6 a)]) H fun⟨P,V⟩ H =>
       fK<|fQ <|
       jB [1,3,7,8,11,12,13,87,88,120,121,122,127] H fun H =>
       aA H
     exact vE<|fE<|aB<|fX rfl<|fK<|n9 H
    exact vE<|fE<|e8<|fX rfl<|fK<|n7 H
   exact vE<|fE<|e6<|fX rfl<|n5 H
  refine iA [1,3,7,8,58,59,60]<|vB<|lX (fun((h,s,m):Int×List (List Int)×List Int)=>Z (Av [p 8 (AV.og 54),p 58 (O 18),p 59 (I (d.length:Int)),p 60 (I h)]) ((54,Ob.grd 37 2 true i64 s none)::(50,A 2 i64 m 0)::(20,bx 157 (Q2 a))::W7 d a f)) ((0,List.replicate (a.2.2.length:Int).toNat [],List.replicate (a.2.2.length:Int).toNat 0)) H fun _ g3 b3 e3 t3 ⟨h,s,m⟩ H=>iA [1,3,7,8,58,59,60,61]<|vQ<|cD H (fun H=>?_) (fun H=>?_)
  ·refine vK<|fQ<|jN r (fun((E,z):List Int×List (List Int))=>Z (Av [p 8 (AV.og 54),p 58 (O 18),p 59 (I (d.length:Int)),p 60 (I h)]) ((50,A 2 i64 E 0)::(54,Ob.grd 37 2 true i64 z none)::(20,bx 157 (Q2 a))::W7 d a f)) (PC h g3) (fun⟨E,z⟩ H=>?_) (fun _ n4 e4 t4=>?_)
   ·refine jB [1,3,7,8,58,59,60] H fun H=>b3 H
   refine vB<|qD (fun o=>Z (Av [p 8 (AV.og 54),p 9 (I h),p 10 (R 10),p 58 (O 18),p 59 (I (d.length:Int)),p 60 (I h)]) ((10,bx 151 (p8 true y151 o))::(54,Ob.grd 37 2 true i64 s none)::(50,A 2 i64 m 0)::(20,bx 157 (Q2 a))::W7 d a f)) H fun o H=>iA [1,3,7,8,9,10,58,59,60,66]<|cD H (fun H=>jB [1,3,7,8,58,59,60] H fun H=>fK<|n4 H) fun H=>zD (fun G=>Z (Av [p 8 (AV.og 54),p 58 (O 18),p 59 (I (d.length:Int)),p 60 (I h)]) ((54,Ob.grd 37 2 true i64 G none)::(79,A 2 i64 [] 2)::(81,A 2 i64 [h] 0)::(10,bx 151 (p8 true y151 o))::(50,A 2 i64 m 0)::(20,bx 157 (Q2 a))::W7 d a f)) H fun G H=>fK<|n4 H
  exact vE<|fE<|e3<|fX rfl<|n2 H
 refine iA [1,3,4,23,24,25]<|vB<|lX (fun((Y,v5,v6):Int×Int×List l8)=>Z [p 1 (R 1),p 3 (R 20),p 4 (I Y),p 23 (L y139 a.2.1.1),p 24 (I (a.2.1.1.length:Int)),p 25 (I v5)] ((20,bx 157 (Q2 a))::W7 d a v6)) (0,0,[]) H fun _ g1 b1 e1 t1 ⟨Y,v5,v6⟩ H=>iA [1,3,4,23,24,25,26]<|vQ<|cD H (fun H=>vK<|fQ<|vQ<|vB<|qD (fun v7=>Z [p 1 (R 1),p 3 (R 20),p 4 (I Y),p 6 (R 6),p 23 (L y139 a.2.1.1),p 24 (I (a.2.1.1.length:Int)),p 25 (I v5)] ((6,K 139 y139 v7)::(20,bx 157 (Q2 a))::W7 d a v6)) H fun v7 H=>iD o85 [1,3,4,6,23,24,25] H fun _ H=>jD LF [1,3,4,23,24,25] H fun _ H=>fK<|fQ<|jB [1,3,4,23,24,25] H fun H=>b1 H) fun H=>vE<|fE<|e1<|fX rfl<|n0 H
def LK(a:Int)(b:Int)(c:Int):Option Bool :=
 gd ((A4 a b c).isSome/\True) <|
 some (!vl (A4 a b c))
def Q0R:Ct:=k8 172 [.dat i64,.dat (.pt i64),.dat (.pt i64)] (fun x=>LK x.1 x.2.1 x.2.2.1) (fun r:Bool=>B r) (fun _=>())
theorem Uz:Ok prog Q0R:=by
 refine k9 [.tmp 4] func172 ?_;intro y ⟨_,_,_,_⟩ r H Q hn hr;have:=hz (tc X9 tn);refine iA [0,1,2]<|iB [4] H fun H=>j0<|hr H
def j0K:Unit->Option Int
 | _ =>
 some (-1)
def r0N(b:List Int)(c:Int×Int)(d:Int->Option Int):Int->Option Int
 | a =>
 if(decide (a < (b.length:Int))) then
  gd (ix a b.length/\(LK (b.getD a.toNat 0) c.1 c.2).isSome/\True) <|
  if(vl (LK (b.getD a.toNat 0) c.1 c.2)) then
   some a
  else
   gd (c9 (a+1)/\True) <|
   d (a+1)
 else
  j0K ()
def PE(a:List Int)(b:Int×Int):Option Int :=
 lp (r0N a b) 0
def z0j:Ct:=k8 200 [.dat i64.sl,.fn 172 (.pr i64.pt i64.pt)] (fun x=>PE x.1 x.2.1) (fun r:Int=>I r) (fun _=>())
theorem UA:Ok prog z0j:=by
 refine k9 [.tmp 4] func200 ?_;intro y ⟨c,b,_⟩ r H Q hn hr;have:=hz (tc Uz tn);refine iA [0,1]<|jN r (fun(_:Unit)=>Z [] []) (j0K) (fun _ H=>?_) (fun _ e i h=>?_)
 ·refine iA [4]<|j0<|hr H
 refine iA [0,1,7,8]<|vB<|lX (fun(a:Int)=>Z [p 0 (L i64 c),p 1 (AV.fn 172 [D i64.pt b.1,D i64.pt b.2]),p 7 (I (c.length:Int)),p 8 (I a)] []) 0 H fun _ j g d f a H=>iA [0,1,7,8,9]<|vQ<|cD H (fun H=>?_) (fun H=>?_)
 ·refine vK<|fQ<|vQ<|vB<|iA [0,1,5,7,8]<|iB [0,1,5,7,8,16] H fun H=>cD H (fun H=>iA [4]<|j0<|l7<|fR<|f<|l7<|h<|hr H) fun H=>vK<|fK<|fQ<|jB [0,1,7,8] H fun H=>g H
 exact vE<|fE<|d<|fX rfl<|e H
def PF(a:List Int)(b:Int×Int):Option Bool :=
 gd ((PE a b).isSome/\True)<|lt (vl (PE a b)) fun c =>
 some (decide (0<=c))
def z0m:Ct:=k8 171 [.dat i64.sl,.fn 172 (.pr (.pt i64) (.pt i64))] (fun x=>PF x.1 x.2.1) (fun r:Bool=>B r) (fun _=>())
theorem q0y:Ok prog z0m:=by
 refine k9 [.tmp 4] func171 ?_;intro y ⟨_,_,_⟩ r H Q hn hr;have:=hz (tc UA (tc Uz tn));refine iA [0,1]<|iD UA [4] H fun _ H=>j0<|hr H
def I0(a:List Int)(b:Int)(c:Int):Option Bool :=
 gd ((PF a (b,c)).isSome/\True) <|
 some (!vl (PF a (b,c)))
def R0H:Ct:=k8 123 [.dat i64.sl,.dat i64,.dat i64] (fun x=>I0 x.1 x.2.1 x.2.2.1) (fun r:Bool=>B r) (fun _=>())
theorem LL:Ok prog R0H:=by
 refine k9 [.tmp 6] func123 ?_;intro y ⟨_,_,_,_⟩ r H Q hn hr;have:=hz (tc q0y (tc Uz tn));refine iA [0,4,5]<|iB [6] H fun H=>j0<|hr H
def B0j:Unit->Option Bool
 | _ =>
 some true
def B0i(b:x9)(c:Int->Option Bool):Int->Option Bool
 | a =>
 if(decide (a < (b.1.length:Int))) then
  gd (ix a b.1.length/\True) <|
  gd (((b.1.getD a.toNat (0:Int) != (-1:Int))=false/\(a==(0:Int))=true/\True->ix (0:Int) b.2.1.length)/\(decide ((0:Int)<a)=true/\(a==(0:Int)&&(b.1.getD a.toNat (0:Int) != (-1:Int)||b.2.1.getD (Int.toNat (0:Int)) (0:Int) != (0:Int)))=false/\True->c9 (a-(1:Int)))/\(decide ((0:Int)<a)=true/\(a==(0:Int)&&(b.1.getD a.toNat (0:Int) != (-1:Int)||b.2.1.getD (Int.toNat (0:Int)) (0:Int) != (0:Int)))=false/\True->(A4 (b.1.getD a.toNat (0:Int)) (0:Int) (a-(1:Int))).isSome)/\True) <|
  if(a==(0:Int)&&(b.1.getD a.toNat (0:Int) != (-1:Int)||b.2.1.getD (Int.toNat (0:Int)) (0:Int) != (0:Int))||decide ((0:Int)<a)&&!vl (A4 (b.1.getD a.toNat (0:Int)) (0:Int) (a-(1:Int)))) then
   some false
  else
   gd (c9 (a+1)/\True) <|
   c (a+1)
 else
  B0j ()
def Cu(a:x9):Option Bool :=
 lp (B0i a) 0
def R0t:Ct:=k8 139 [.agg l9] (fun x=>Cu x.1) (fun r:Bool=>B r) (fun _=>())
theorem P0p:Ok prog R0t:=by
 refine k9 [.tmp 2] func139 ?_;intro y ⟨a,_⟩ r H Q hn hr;have:=hz (tc X9 tn);refine iA [1]<|jN r (fun(_:Unit)=>Z [] []) (B0j) (fun _ H=>?_) (fun _ e h g=>?_)
 ·refine iA [2]<|j0<|hr H
 refine iA [1,6,7,8]<|vB<|lX (fun(b:Int)=>Z [p 1 (R 1),p 6 (L i64 a.1),p 7 (I (a.1.length:Int)),p 8 (I b)] [(1,K 153 l9 a)]) 0 H fun _ i f c d b H=>iA [1,6,7,8,9]<|vQ<|cD H (fun H=>?_) (fun H=>?_)
 ·refine vK<|fQ<|vQ<|vB<|iB [1,3,4,6,7,8] H fun H=>iB [1,6,7,8,36] H fun H=>cD H (fun H=>iA [2]<|j0<|l7<|fR<|d<|l7<|g<|hr H) fun H=>vK<|fK<|fQ<|jB [1,6,7,8] H fun H=>f H
 exact vE<|fE<|c<|fX rfl<|e H
def LM(a:x9)(c:Int):Option Bool :=
 gd ((D5 a.1).isSome/\True)<|lt (vl (D5 a.1)) fun b =>
 gd ((A4 b 1 8).isSome/\(vl (A4 b 1 8)=true/\True->(D5 a.2.1).isSome)/\((vl (A4 b 1 8)&&vl (D5 a.2.1)==b)=true/\True->(D5 a.2.2.1).isSome)/\((vl (A4 b 1 8)&&vl (D5 a.2.1)==b&&vl (D5 a.2.2.1)==b)=true/\True->(Cu a).isSome)/\((vl (A4 b 1 8)&&vl (D5 a.2.1)==b&&vl (D5 a.2.2.1)==b&&vl (Cu a))=true/\True->(I0 a.2.1 0 1000).isSome)/\((vl (A4 b 1 8)&&vl (D5 a.2.1)==b&&vl (D5 a.2.2.1)==b&&vl (Cu a)&&vl (I0 a.2.1 0 1000))=true/\True->(I0 a.2.2.1 0 500).isSome)/\((vl (A4 b 1 8)&&vl (D5 a.2.1)==b&&vl (D5 a.2.2.1)==b&&vl (Cu a)&&vl (I0 a.2.1 0 1000)&&vl (I0 a.2.2.1 0 500))=true/\True->(D5 a.2.2.2).isSome)/\((vl (A4 b 1 8)&&vl (D5 a.2.1)==b&&vl (D5 a.2.2.1)==b&&vl (Cu a)&&vl (I0 a.2.1 0 1000)&&vl (I0 a.2.2.1 0 500)&&vl (D5 a.2.2.2)==c)=true/\True->c9 (b-1))/\((vl (A4 b 1 8)&&vl (D5 a.2.1)==b&&vl (D5 a.2.2.1)==b&&vl (Cu a)&&vl (I0 a.2.1 0 1000)&&vl (I0 a.2.2.1 0 500)&&vl (D5 a.2.2.2)==c)=true/\True->(I0 a.2.2.2 0 (b-1)).isSome)/\True)<|lt ((vl (D5 a.2.1),vl (D5 a.2.2.1),vl (D5 a.2.2.2))) fun(f,e,d) =>
 some (vl (A4 b 1 8)&&f==b&&e==b&&vl (Cu a)&&vl (I0 a.2.1 0 1000)&&vl (I0 a.2.2.1 0 500)&&d==c&&vl (I0 a.2.2.2 0 (b-1)))
def k84:Ct:=k8 84 [.agg l9,.dat i64] (fun x=>LM x.1 x.2.1) (fun r:Bool=>B r) (fun _=>())
theorem o84:Ok prog k84:=by
 refine k9 [.tmp 4] func84 ?_;intro y ⟨a,f,_⟩ r H Q hn hr;have:=hz (tc LL (tc LF (tc P0p (tc X9 tn))));refine iA [1,2]<|iD LF [1,2,5] H fun b H=>qD (fun(e,d,c)=>Z [p 4 (B (vl (A4 b 1 8)&&e==b&&d==b&&vl (Cu a)&&vl (I0 a.2.1 0 1000)&&vl (I0 a.2.2.1 0 500)&&c==f&&vl (I0 a.2.2.2 0 (b-1))))] [(2,K 153 l9 a)]) H fun⟨e,d,c⟩ H =>
  j0<|hr H
def UB(a:Int):Option Bool :=
 some (a != 1)
def R0u:Ct:=k8 138 [.dat i64] (fun x=>UB x.1) (fun r:Bool=>B r) (fun _=>())
theorem UC:Ok prog R0u:=by
 refine k9 [.tmp 2] func138 ?_;intro y ⟨_,_⟩ r H Q hn hr;refine iA [0]<|iA [2]<|j0<|hr H
def IZ(a:List ByteArray):Option Int :=
 some (a.length:Int)
def Q0L:Ct:=k8 178 [.dat Ty.str.sl] (fun x=>IZ x.1) (fun r:Int=>I r) (fun _=>())
theorem P0b:Ok prog Q0L:=by
 refine k9 [.tmp 2] func178 ?_;intro y ⟨_,_⟩ r H Q hn hr;refine iA [0]<|iA [2]<|j0<|hr H
def GV(a:r6)(b:Int):Option Bool :=
 gd ((IZ a.2.1).isSome/\c9 (vl (IZ a.2.1)-1)/\(A4 b 0 (vl (IZ a.2.1)-1)).isSome/\True) <|
 some (vl (A4 b 0 (vl (IZ a.2.1)-1)))
def R0v:Ct:=k8 136 [.agg y31,.dat i64] (fun x=>GV x.1 x.2.1) (fun r:Bool=>B r) (fun _=>())
theorem M0X:Ok prog R0v:=by
 refine k9 [.tmp 4] func136 ?_;intro y ⟨_,_,_⟩ r H Q hn hr;have:=hz (tc X9 (tc P0b tn));refine iA [1,2]<|iB [4] H fun H=>j0<|hr H
def Fw(a:List m6):Option Int :=
 some (a.length:Int)
def Q0N:Ct:=k8 176 [.dat y64.sl] (fun x=>Fw x.1) (fun r:Int=>I r) (fun _=>())
theorem P0c:Ok prog Q0N:=by
 refine k9 [.tmp 2] func176 ?_;intro y ⟨_,_⟩ r H Q hn hr;refine iA [0]<|iA [2]<|j0<|hr H
def LN(a:Int)(b:r6):Option Bool :=
 gd ((GV b a).isSome/\True) <|
 some (!vl (GV b a))
def Q0M:Ct:=k8 177 [.dat i64,.dat (.pt y31)] (fun x=>LN x.1 x.2.1) (fun r:Bool=>B r) (fun _=>())
theorem UD:Ok prog Q0M:=by
 refine k9 [.tmp 3] func177 ?_;intro y ⟨_,_,_⟩ r H Q hn hr;have:=hz (tc M0X tn);refine iA [0,1]<|iB [3] H fun H=>j0<|hr H
def j0J:Unit->Option Int
 | _ =>
 some (-1)
def r0M(b:List Int)(c:r6)(d:Int->Option Int):Int->Option Int
 | a =>
 if(decide (a < (b.length:Int))) then
  gd (ix a b.length/\(LN (b.getD a.toNat 0) c).isSome/\True) <|
  if(vl (LN (b.getD a.toNat 0) c)) then
   some a
  else
   gd (c9 (a+1)/\True) <|
   d (a+1)
 else
  j0J ()
def PG(a:List Int)(b:r6):Option Int :=
 lp (r0M a b) 0
def z0i:Ct:=k8 200 [.dat i64.sl,.fn 177 y31.pt] (fun x=>PG x.1 x.2.1) (fun r:Int=>I r) (fun _=>())
theorem q0w:Ok prog z0i:=by
 refine k9 [.tmp 4] func200 ?_;intro y ⟨b,c,_⟩ r H Q hn hr;have:=hz (tc UD tn);refine iA [0,1]<|jN r (fun(_:Unit)=>Z [] []) (j0J) (fun _ H=>?_) (fun _ e i h=>?_)
 ·refine iA [4]<|j0<|hr H
 refine iA [0,1,7,8]<|vB<|lX (fun(a:Int)=>Z [p 0 (L i64 b),p 1 (AV.fn 177 [D y31.pt c]),p 7 (I (b.length:Int)),p 8 (I a)] []) 0 H fun _ j g d f a H=>iA [0,1,7,8,9]<|vQ<|cD H (fun H=>?_) (fun H=>?_)
 ·refine vK<|fQ<|vQ<|vB<|iA [0,1,5,7,8]<|iB [0,1,5,7,8,16] H fun H=>cD H (fun H=>iA [4]<|j0<|l7<|fR<|f<|l7<|h<|hr H) fun H=>vK<|fK<|fQ<|jB [0,1,7,8] H fun H=>g H
 exact vE<|fE<|d<|fX rfl<|e H
def PH(a:List Int)(b:r6):Option Bool :=
 gd ((PG a b).isSome/\True)<|lt (vl (PG a b)) fun c =>
 some (decide (0<=c))
def z0l:Ct:=k8 171 [.dat i64.sl,.fn 177 (.pt y31)] (fun x=>PH x.1 x.2.1) (fun r:Bool=>B r) (fun _=>())
theorem y0I:Ok prog z0l:=by
 refine k9 [.tmp 4] func171 ?_;intro y ⟨_,_,_⟩ r H Q hn hr;have:=hz (tc UA (tc q0w (tc UD tn)));refine iA [0,1]<|iD q0w [4] H fun _ H=>j0<|hr H
def LO(c:r6)(b:List m6)(a:o4):Option Bool :=
 gd ((Fw b).isSome/\c9 (vl (Fw b)-1)/\(A4 a.2.1 0 (vl (Fw b)-1)).isSome/\(vl (A4 a.2.1 0 (vl (Fw b)-1))=true/\True->ix a.2.1 b.length)/\((vl (A4 a.2.1 0 (vl (Fw b)-1))&&(a.2.2.length:Int)==(↑(b.getD a.2.1.toNat (b7 y64)).2.2.1.length:Int))=true/\True->(PH a.2.2 c).isSome)/\True) <|
 some (vl (A4 a.2.1 0 (vl (Fw b)-1))&&(a.2.2.length:Int)==(↑(b.getD a.2.1.toNat (b7 y64)).2.2.1.length:Int)&&!vl (PH a.2.2 c))
def R0w:Ct:=k8 135 [.agg y31,.agg y64.sl,.agg y139] (fun x=>LO x.1 x.2.1 x.2.2.1) (fun r:Bool=>B r) (fun _=>())
theorem P0q:Ok prog R0w:=by
 refine k9 [.tmp 6] func135 ?_;intro y ⟨_,_,_,_⟩ r H Q hn hr;have:=hz (tc q0y (tc y0I (tc UD (tc X9 (tc P0c tn)))));refine iA [3,4,5]<|iB [6] H fun H=>j0<|hr H
def A0q:Unit->Option Int
 | _ =>
 some (-1)
def H0o(c:ByteArray)(b:List ByteArray)(d:Int->Option Int):Int->Option Int
 | a =>
 if(decide (a < (b.length:Int))) then
  gd (ix a b.length/\True) <|
  if(decide (c=b.getD a.toNat (b7 Ty.str))) then
   some a
  else
   gd (c9 (a+1)/\True) <|
   d (a+1)
 else
  A0q ()
def PJ(a:List ByteArray)(b:ByteArray):Option Int :=
 lp (H0o b a) 0
def Q0e:Ct:=k8 225 [.dat Ty.str.sl,.dat Ty.str] (fun x=>PJ x.1 x.2.1) (fun r:Int=>I r) (fun _=>())
theorem M0D:Ok prog Q0e:=by
 refine k9 [.tmp 4] func225 ?_;intro y ⟨b,c,_⟩ r H Q hn hr;refine iA [0,1]<|jN r (fun(_:Unit)=>Z [] []) (A0q) (fun _ H=>?_) (fun _ e i h=>?_)
 ·refine iA [4]<|j0<|hr H
 refine iA [0,1,7,8]<|vB<|lX (fun(a:Int)=>Z [p 0 (L Ty.str b),p 1 (U c),p 7 (I (b.length:Int)),p 8 (I a)] []) 0 H fun _ j g d f a H=>iA [0,1,7,8,9]<|vQ<|cD H (fun H=>?_) (fun H=>?_)
 ·refine vK<|fQ<|vQ<|vB<|iA [0,1,5,7,8]<|iB [0,1,5,7,8,16] H fun H=>cD H (fun H=>iA [4]<|j0<|l7<|fR<|f<|l7<|h<|hr H) fun H=>vK<|fK<|fQ<|jB [0,1,7,8] H fun H=>g H
 exact vE<|fE<|d<|fX rfl<|e H
def PK(a:List ByteArray)(b:ByteArray):Option Bool :=
 gd ((PJ a b).isSome/\True)<|lt (vl (PJ a b)) fun c =>
 some (decide (0<=c))
def Q0v:Ct:=k8 204 [.dat Ty.str.sl,.dat Ty.str] (fun x=>PK x.1 x.2.1) (fun r:Bool=>B r) (fun _=>())
theorem O0U:Ok prog Q0v:=by
 refine k9 [.tmp 4] func204 ?_;intro y ⟨_,_,_⟩ r H Q hn hr;have:=hz (tc M0D tn);refine iA [0,1]<|iD M0D [4] H fun _ H=>j0<|hr H
def P9(a:ByteArray):Option Bool :=
 gd ((A4 (a.size:Int) (1:Int) (8:Int)).isSome/\(vl (A4 (a.size:Int) (1:Int) (8:Int))=true/\True->(Fx a (ByteArray.mk #[(97:UInt8),(98:UInt8),(99:UInt8),(100:UInt8),(101:UInt8),(102:UInt8),(103:UInt8),(104:UInt8),(105:UInt8),(106:UInt8),(107:UInt8),(108:UInt8),(109:UInt8),(110:UInt8),(111:UInt8),(112:UInt8),(113:UInt8),(114:UInt8),(115:UInt8),(116:UInt8),(117:UInt8),(118:UInt8),(119:UInt8),(120:UInt8),(121:UInt8),(122:UInt8),(48:UInt8),(49:UInt8),(50:UInt8),(51:UInt8),(52:UInt8),(53:UInt8),(54:UInt8),(55:UInt8),(56:UInt8),(57:UInt8)])).isSome)/\((vl (A4 (a.size:Int) (1:Int) (8:Int))&&decide (vl (Fx a (ByteArray.mk #[(97:UInt8),(98:UInt8),(99:UInt8),(100:UInt8),(101:UInt8),(102:UInt8),(103:UInt8),(104:UInt8),(105:UInt8),(106:UInt8),(107:UInt8),(108:UInt8),(109:UInt8),(110:UInt8),(111:UInt8),(112:UInt8),(113:UInt8),(114:UInt8),(115:UInt8),(116:UInt8),(117:UInt8),(118:UInt8),(119:UInt8),(120:UInt8),(121:UInt8),(122:UInt8),(48:UInt8),(49:UInt8),(50:UInt8),(51:UInt8),(52:UInt8),(53:UInt8),(54:UInt8),(55:UInt8),(56:UInt8),(57:UInt8)]))=ByteArray.mk #[]))=true/\True->ix (0:Int) a.size)/\((vl (A4 (a.size:Int) (1:Int) (8:Int))&&decide (vl (Fx a (ByteArray.mk #[(97:UInt8),(98:UInt8),(99:UInt8),(100:UInt8),(101:UInt8),(102:UInt8),(103:UInt8),(104:UInt8),(105:UInt8),(106:UInt8),(107:UInt8),(108:UInt8),(109:UInt8),(110:UInt8),(111:UInt8),(112:UInt8),(113:UInt8),(114:UInt8),(115:UInt8),(116:UInt8),(117:UInt8),(118:UInt8),(119:UInt8),(120:UInt8),(121:UInt8),(122:UInt8),(48:UInt8),(49:UInt8),(50:UInt8),(51:UInt8),(52:UInt8),(53:UInt8),(54:UInt8),(55:UInt8),(56:UInt8),(57:UInt8)]))=ByteArray.mk #[]))=true/\True->(PL (ByteArray.mk #[(97:UInt8),(98:UInt8),(99:UInt8),(100:UInt8),(101:UInt8),(102:UInt8),(103:UInt8),(104:UInt8),(105:UInt8),(106:UInt8),(107:UInt8),(108:UInt8),(109:UInt8),(110:UInt8),(111:UInt8),(112:UInt8),(113:UInt8),(114:UInt8),(115:UInt8),(116:UInt8),(117:UInt8),(118:UInt8),(119:UInt8),(120:UInt8),(121:UInt8),(122:UInt8)]) (F0 a (Int.toNat (0:Int)))).isSome)/\True)<|lt ((vl (Fx a (ByteArray.mk #[97,98,99,100,101,102,103,104,105,106,107,108,109,110,111,112,113,114,115,116,117,118,119,120,121,122,48,49,50,51,52,53,54,55,56,57])),vl (PL (ByteArray.mk #[(97:UInt8),(98:UInt8),(99:UInt8),(100:UInt8),(101:UInt8),(102:UInt8),(103:UInt8),(104:UInt8),(105:UInt8),(106:UInt8),(107:UInt8),(108:UInt8),(109:UInt8),(110:UInt8),(111:UInt8),(112:UInt8),(113:UInt8),(114:UInt8),(115:UInt8),(116:UInt8),(117:UInt8),(118:UInt8),(119:UInt8),(120:UInt8),(121:UInt8),(122:UInt8)]) (F0 a (Int.toNat (0:Int)))))) fun(b,c) =>
 some (vl (A4 (a.size:Int) 1 8)&&decide (b=ByteArray.mk #[])&&decide (0<=c))
def R0Q:Ct:=k8 111 [.dat Ty.str] (fun x=>P9 x.1) (fun r:Bool=>B r) (fun _=>())
theorem UE:Ok prog R0Q:=by
 refine k9 [.tmp 2] func111 ?_;intro y ⟨c,_⟩ r H Q hn hr;have:=hz (tc P0j (tc P0k (tc X9 tn)));refine iA [0]<|qD (fun(a,b)=>Z [p 2 (B (vl (A4 (c.size:Int) 1 8)&&decide (a=ByteArray.mk #[])&&decide (0<=b)))] []) H fun⟨a,b⟩ H =>
  j0<|hr H
def A0N:Unit->Option Bool
 | _ =>
 some true
def A0M(b:List ByteArray)(c:Int->Option Bool):Int->Option Bool
 | a =>
 if(decide (a < (b.length:Int))) then
  gd (ix a b.length/\True) <|
  gd ((P9 (b.getD a.toNat (b7 Ty.str))).isSome/\((!vl (P9 (b.getD a.toNat (b7 Ty.str))))=false/\True->(0:Int)<=(0:Int)/\(0:Int)<=a/\a<=(b.length:Int))/\((!vl (P9 (b.getD a.toNat (b7 Ty.str))))=false/\True->(PK (List.take a.toNat b) (b.getD a.toNat (b7 Ty.str))).isSome)/\True) <|
  if(!vl (P9 (b.getD a.toNat (b7 Ty.str)))||vl (PK (List.take a.toNat b) (b.getD a.toNat (b7 Ty.str)))) then
   some false
  else
   gd (c9 (a+1)/\True) <|
   c (a+1)
 else
  A0N ()
def Y0(a:List ByteArray):Option Bool :=
 lp (A0M a) 0
def Q0O:Ct:=k8 175 [.dat Ty.str.sl] (fun x=>Y0 x.1) (fun r:Bool=>B r) (fun _=>())
theorem UG:Ok prog Q0O:=by
 refine k9 [.tmp 2] func175 ?_;intro y ⟨a,_⟩ r H Q hn hr;have:=hz (tc O0U (tc UE tn));refine iA [0]<|jN r (fun(_:Unit)=>Z [] []) (A0N) (fun _ H=>?_) (fun _ e h g=>?_)
 ·refine iA [2]<|j0<|hr H
 refine iA [0,5,6,7]<|vB<|lX (fun(b:Int)=>Z [p 0 (L Ty.str a),p 5 (L Ty.str a),p 6 (I (a.length:Int)),p 7 (I b)] []) 0 H fun _ i f c d b H=>iA [0,5,6,7,8]<|vQ<|cD H (fun H=>?_) (fun H=>?_)
 ·refine vK<|fQ<|vQ<|vB<|iB [0,3,4,5,6,7] H fun H=>iB [0,5,6,7,21] H fun H=>cD H (fun H=>iA [2]<|j0<|l7<|fR<|d<|l7<|g<|hr H) fun H=>vK<|fK<|fQ<|jB [0,5,6,7] H fun H=>f H
 exact vE<|fE<|c<|fX rfl<|e H
def LP(a:List ByteArray)(b:r6):List ByteArray->Option Bool
 | c =>
 gd (((decide ((a.length:Int)<=14)&&decide ((b.2.1.length:Int)<=30)&&decide ((c.length:Int)<=8))=true/\True->(Y0 a).isSome)/\((decide ((a.length:Int)<=14)&&decide ((b.2.1.length:Int)<=30)&&decide ((c.length:Int)<=8)&&vl (Y0 a))=true/\True->(Y0 b.2.1).isSome)/\((decide ((a.length:Int)<=14)&&decide ((b.2.1.length:Int)<=30)&&decide ((c.length:Int)<=8)&&vl (Y0 a)&&vl (Y0 b.2.1))=true/\True->(Y0 c).isSome)/\True) <|
 some (decide ((a.length:Int)<=14)&&decide ((b.2.1.length:Int)<=30)&&decide ((c.length:Int)<=8)&&vl (Y0 a)&&vl (Y0 b.2.1)&&vl (Y0 c))
def B0k(b:r6)(f:List ByteArray)(e:List ByteArray×Int->Option Bool):List ByteArray×Int->Option Bool
 | (c,a) =>
 if(decide (a < (b.2.2.length:Int))) then
  gd (ix a b.2.2.length/\True)<|lt (b.2.2.getD a.toNat (b7 y202)) fun d =>
  gd ((c.length+[d.1].length<=9223372036854775807/\(c.length+[d.1].length)*16<=140737488355328)/\True) <|
  gd (c9 (a+1)/\True) <|
  e (c++[d.1],a+1)
 else
  LP f b c
def LQ(a:r6):List ByteArray->Option Bool
 | b =>
 lp (B0k a b) ([],0)
def B0l(b:r6)(e:List ByteArray×Int->Option Bool):List ByteArray×Int->Option Bool
 | (c,a) =>
 if(decide (a < (b.1.length:Int))) then
  gd (ix a b.1.length/\True)<|lt (b.1.getD a.toNat (b7 y139)) fun d =>
  gd ((c.length+[d.1].length<=9223372036854775807/\(c.length+[d.1].length)*16<=140737488355328)/\True) <|
  gd (c9 (a+1)/\True) <|
  e (c++[d.1],a+1)
 else
  LQ b c
def PM(a:r6):Option Bool :=
 lp (B0l a) ([],0)
def R0x:Ct:=k8 134 [.agg y31] (fun x=>PM x.1) (fun r:Bool=>B r) (fun _=>())
theorem P0r:Ok prog R0x:=by
 refine k9 [.tmp 2] func134 ?_;intro y ⟨a,_⟩ r H Q hn hr;have:=hz (tc UG tn);refine iA [1]<|iA [1,3,4]<|jN r (fun(b:List ByteArray)=>Z (Dg [p 4 (nil)]) [(1,K 31 y31 a),(20,A 9 Ty.str b 0)]) (LQ a) (fun b H=>?_) (fun _ k q x=>?_)
 ·refine jN r (fun(g:List ByteArray)=>Z (Dg [p 4 (O 33)]) [(1,K 31 y31 a),(20,A 9 Ty.str b 0),(33,A 9 Ty.str g 0)]) (LP b a) (fun g H=>?_) (fun _ j w s=>?_)
  ·refine iB [2] H fun H=>j0<|hr H
  refine iA [1,3,4,23,24,25]<|vB<|lX (fun((c,f):List ByteArray×Int)=>Z (Dg [p 4 (O 33),p 23 (L y202 a.2.2),p 24 (I (a.2.2.length:Int)),p 25 (I f)]) [(1,K 31 y31 a),(20,A 9 Ty.str b 0),(33,A 9 Ty.str c 0)]) ([],0) H fun _ u m l t ⟨c,f⟩ H=>iA [1,3,4,23,24,25,26]<|vQ<|cD H (fun H=>vK<|fQ<|vQ<|vB<|qD (fun h=>Z (Dg [p 4 (O 33),p 8 (R 8),p 23 (L y202 a.2.2),p 24 (I (a.2.2.length:Int)),p 25 (I f)]) [(8,K 202 y202 h),(1,K 31 y31 a),(20,A 9 Ty.str b 0),(33,A 9 Ty.str c 0)]) H fun h H=>jB [1,3,4,23,24,25] H fun H=>fK<|fQ<|jB [1,3,4,23,24,25] H fun H=>m H) fun H=>vE<|fE<|l<|fX rfl<|j H
 refine iA [1,3,4,10,11,12]<|vB<|lX (fun((e,d):List ByteArray×Int)=>Z (Dg [p 4 (nil),p 10 (L y139 a.1),p 11 (I (a.1.length:Int)),p 12 (I d)]) [(1,K 31 y31 a),(20,A 9 Ty.str e 0)]) ([],0) H fun _ v n o z ⟨e,d⟩ H=>iA [1,3,4,10,11,12,13]<|vQ<|cD H (fun H=>vK<|fQ<|vQ<|vB<|qD (fun i=>Z (Dg [p 4 (nil),p 6 (R 6),p 10 (L y139 a.1),p 11 (I (a.1.length:Int)),p 12 (I d)]) [(6,K 139 y139 i),(1,K 31 y31 a),(20,A 9 Ty.str e 0)]) H fun i H=>jB [1,3,4,10,11,12] H fun H=>fK<|fQ<|jB [1,3,4,10,11,12] H fun H=>n H) fun H=>vE<|fE<|o<|fX rfl<|k H
def UH(a:A9)(b:Int):Option Bool :=
 some (a.1==b)
def P0U:Ct:=k8 239 [.agg y67,.dat (.pt i64)] (fun x=>UH x.1 x.2.1) (fun r:Bool=>B r) (fun _=>())
theorem UI:Ok prog P0U:=by
 refine k9 [.tmp 3] func239 ?_;intro y ⟨_,_,_⟩ r H Q hn hr;refine iA [1,2]<|iA [3]<|j0<|hr H
def j0E:Unit->Option Int
 | _ =>
 some (-1)
def r0J(b:List A9)(c:Int)(d:Int->Option Int):Int->Option Int
 | a =>
 if(decide (a < (b.length:Int))) then
  gd (ix a b.length/\(UH (b.getD a.toNat (b7 y67)) c).isSome/\True) <|
  if(vl (UH (b.getD a.toNat (b7 y67)) c)) then
   some a
  else
   gd (c9 (a+1)/\True) <|
   d (a+1)
 else
  j0E ()
def PN(a:List A9)(b:Int):Option Int :=
 lp (r0J a b) 0
def z0e:Ct:=k8 238 [.dat y67.sl,.fn 239 i64.pt] (fun x=>PN x.1 x.2.1) (fun r:Int=>I r) (fun _=>())
theorem UJ:Ok prog z0e:=by
 refine k9 [.tmp 4] func238 ?_;intro y ⟨b,c,_⟩ r H Q hn hr;have:=hz (tc UI tn);refine iA [0,1]<|jN r (fun(_:Unit)=>Z [] []) (j0E) (fun _ H=>?_) (fun _ e i h=>?_)
 ·refine iA [4]<|j0<|hr H
 refine iA [0,1,7,8]<|vB<|lX (fun(a:Int)=>Z [p 0 (L y67 b),p 1 (AV.fn 239 [D i64.pt c]),p 7 (I (b.length:Int)),p 8 (I a)] []) 0 H fun _ j g d f a H=>iA [0,1,7,8,9]<|vQ<|cD H (fun H=>?_) (fun H=>?_)
 ·refine vK<|fQ<|vQ<|vB<|iA [0,1,5,7,8]<|iB [0,1,5,7,8,16] H fun H=>cD H (fun H=>iA [4]<|j0<|l7<|fR<|f<|l7<|h<|hr H) fun H=>vK<|fK<|fQ<|jB [0,1,7,8] H fun H=>g H
 exact vE<|fE<|d<|fX rfl<|e H
def PO(a:List A9)(b:Int):Option Bool :=
 gd ((PN a b).isSome/\True)<|lt (vl (PN a b)) fun c =>
 some (decide (0<=c))
def z0g:Ct:=k8 221 [.dat y67.sl,.fn 239 (.pt i64)] (fun x=>PO x.1 x.2.1) (fun r:Bool=>B r) (fun _=>())
theorem q0v:Ok prog z0g:=by
 refine k9 [.tmp 4] func221 ?_;intro y ⟨_,_,_⟩ r H Q hn hr;have:=hz (tc UJ (tc UI tn));refine iA [0,1]<|iD UJ [4] H fun _ H=>j0<|hr H
def O4(a:m6)(b:Int):Option Bool :=
 gd ((PO a.2.2.2.1 b).isSome/\True) <|
 some (vl (PO a.2.2.2.1 b))
def Q0f:Ct:=k8 224 [.agg y64,.dat i64] (fun x=>O4 x.1 x.2.1) (fun r:Bool=>B r) (fun _=>())
theorem O0O:Ok prog Q0f:=by
 refine k9 [.tmp 4] func224 ?_;intro y ⟨_,_,_⟩ r H Q hn hr;have:=hz (tc q0v (tc UI tn));refine iA [2,3]<|iB [4] H fun H=>j0<|hr H
def Cv(a:List H9):Option Int :=
 some (a.length:Int)
def Q0l:Ct:=k8 219 [.dat y233.sl] (fun x=>Cv x.1) (fun r:Int=>I r) (fun _=>())
theorem UK:Ok prog Q0l:=by
 refine k9 [.tmp 2] func219 ?_;intro y ⟨_,_⟩ r H Q hn hr;refine iA [0]<|iA [2]<|j0<|hr H
def V0(a:m6):Option Int :=
 gd ((Cv a.2.2.1).isSome/\c9 (vl (Cv a.2.2.1)-1)/\True)<|lt (vl (Cv a.2.2.1)) fun b =>
 some (b-1)
def Q0g:Ct:=k8 223 [.agg y64] (fun x=>V0 x.1) (fun r:Int=>I r) (fun _=>())
theorem LR:Ok prog Q0g:=by
 refine k9 [.tmp 2] func223 ?_;intro y ⟨_,_⟩ r H Q hn hr;have:=hz (tc UK tn);refine iA [1]<|iD UK [2] H fun _ H=>j0<|hr H
def Ja(a:m6):Int->Option Bool
 | b =>
 if(a.2.1==1) then
  gd (((b==(0:Int))=true/\True->(V0 a).isSome)/\((b==(0:Int))=true/\True->((0:Int)<=vl (V0 a)/\vl (V0 a)<=(62:Int))/\c9 ((1:Int)*(2:Int) ^ (vl (V0 a)).toNat))/\((b==(0:Int)&&(a.2.2.2.2.1.length:Int)==(1:Int)*(2:j7 i64) ^ (vl (V0 a)).toNat)=true/\True->(I0 a.2.2.2.2.1 (0:Int) (1:Int)).isSome)/\True)<|lt (vl (V0 a)) fun c =>
  some (b==(0:Int)&&(a.2.2.2.2.1.length:Int)==(1:Int)*(2:j7 i64) ^ c.toNat&&vl (I0 a.2.2.2.2.1 (0:Int) (1:Int)))
 else
  if(a.2.1==2) then
   gd (((b==1&&(a.2.2.2.2.1.length:Int)==0)=true/\True->(O4 a 1).isSome)/\((b==1&&(a.2.2.2.2.1.length:Int)==0&&!vl (O4 a 1))=true/\True->(O4 a 2).isSome)/\((b==1&&(a.2.2.2.2.1.length:Int)==0&&!vl (O4 a 1))=true/\True->(O4 a 3).isSome)/\True) <|
   some (b==1&&(a.2.2.2.2.1.length:Int)==0&&!vl (O4 a 1)&&!vl (O4 a 2)==vl (O4 a 3))
  else
   if(a.2.1==3) then
    gd (((b==1&&(a.2.2.2.2.1.length:Int)==0)=true/\True->(O4 a 1).isSome)/\((b==1&&(a.2.2.2.2.1.length:Int)==0&&vl (O4 a 1))=true/\True->(O4 a 2).isSome)/\((b==1&&(a.2.2.2.2.1.length:Int)==0&&vl (O4 a 1)&&vl (O4 a 2))=true/\True->(O4 a 3).isSome)/\True) <|
    some (b==1&&(a.2.2.2.2.1.length:Int)==0&&vl (O4 a 1)&&vl (O4 a 2)&&!vl (O4 a 3))
   else
    some false
def PQ(a:Int)(c:Int×Int->Option Bool):Int->Option Bool
 | b =>
 gd (c9 (a+1)/\True) <|
 c (b,a+1)
def A0y(b:m6)(d:Int×Int->Option Bool):Int×Int->Option Bool
 | (c,a) =>
 if(decide (a < (b.2.2.1.length:Int))) then
  gd (ix a b.2.2.1.length/\True)<|lt (b.2.2.1.getD a.toNat (b7 y233)) fun e =>
  if e.2.2.2 then
   gd (c9 (c+1)/\True) <|
   PQ a d (c+1)
  else
   PQ a d c
 else
  Ja b c
def PR(a:m6):Option Bool :=
 lp (A0y a) (0,0)
def Q0w:Ct:=k8 203 [.agg y64] (fun x=>PR x.1) (fun r:Bool=>B r) (fun _=>())
theorem O0V:Ok prog Q0w:=by
 refine k9 [.tmp 2] func203 ?_;intro y ⟨a,_⟩ r H Q hn hr;have:=hz (tc O0O (tc LL (tc LR tn)));refine iA [1]<|iA [1,3]<|jN r (fun(g:Int)=>Z (S0 g []) [(1,K 64 y64 a)]) (Ja a) (fun g H=>?_) (fun _ i l q=>?_)
 ·refine vQ<|iA [1,3,19]<|vB<|iA [1,3,19,20]<|cD H (fun H=>iD LR [2] H fun _ H=>j0<|l7<|fR<|hr H) fun H=>iA [1,3,19,38]<|cD H (fun H=>iB [2] H fun H=>j0<|l7<|fR<|hr H) fun H=>iA [1,3,60]<|cD H (fun H=>iB [2] H fun H=>j0<|l7<|fR<|hr H) fun H=>vK<|fK<|fQ<|iA [2]<|j0<|hr H
 refine iA [1,3,7,8,9]<|vB<|lX (fun((c,b):Int×Int)=>Z (S0 c [p 7 (L y233 a.2.2.1),p 8 (I (a.2.2.1.length:Int)),p 9 (I b)]) [(1,K 64 y64 a)]) (0,0) H fun _ k j h m ⟨c,b⟩ H=>iA [1,3,7,8,9,10]<|vQ<|cD H (fun H=>?_) (fun H=>?_)
 ·refine vK<|fQ<|jN r (fun(d:Int)=>Z (S0 d [p 7 (L y233 a.2.2.1),p 8 (I (a.2.2.1.length:Int)),p 9 (I b)]) [(1,K 64 y64 a)]) (PQ b k) (fun d H=>?_) (fun _ f n o=>?_)
  ·refine jB [1,3,7,8,9] H fun H=>j H
  refine vB<|qD (fun e=>Z (S0 c [p 5 (R 5),p 7 (L y233 a.2.2.1),p 8 (I (a.2.2.1.length:Int)),p 9 (I b)]) [(5,K 233 y233 e),(1,K 64 y64 a)]) H fun e H=>iA [1,3,7,8,9,14]<|cD H (fun H=>jB [1,3,7,8,9] H fun H=>fK<|f H) fun H=>vK<|fK<|f H
 exact vE<|fE<|h<|fX rfl<|i H
def GW(a:m6)(b:Int):Option Bool :=
 gd ((V0 a).isSome/\c9 (vl (V0 a)-1)/\(A4 b 0 (vl (V0 a)-1)).isSome/\True) <|
 some (vl (A4 b 0 (vl (V0 a)-1)))
def P0V:Ct:=k8 237 [.agg y64,.dat i64] (fun x=>GW x.1 x.2.1) (fun r:Bool=>B r) (fun _=>())
theorem O0G:Ok prog P0V:=by
 refine k9 [.tmp 4] func237 ?_;intro y ⟨_,_,_⟩ r H Q hn hr;have:=hz (tc X9 (tc LR tn));refine iA [1,2]<|iB [4] H fun H=>j0<|hr H
def A0i:Int->Option Int
 | a =>
 some a
def UL(b:List Int)(d:Int×Int->Option Int):Int×Int->Option Int
 | (c,a) =>
 if(decide (a < (b.length:Int))) then
  gd (ix a b.length/\True) <|
  gd (c9 (a+1)/\True) <|
  d ((min c (b.getD a.toNat 0),a+1))
 else
  A0i c
def UM(a:List Int):Unit->Option Int
 | _ =>
 gd (ix 0 a.length/\True) <|
 lp (UL a) ((a.getD (Int.toNat (0:Int)) (0:Int),1))
def Jb(a:List Int):Option Int :=
 if(decide ((a.length:Int)<1)) then
  none
 else
  UM a ()
def P0O:Ct:=k8 249 [.dat i64.sl] (fun x=>Jb x.1) (fun r:Int=>I r) (fun _=>())
theorem M0A:Ok prog P0O:=by
 refine k9 [.tmp 2] func249 ?_;intro y ⟨a,_⟩ r H Q hn hr;refine iA [0]<|jN r (fun(_:Unit)=>Z [p 0 (L i64 a)] []) (UM a) (fun _ H=>?_) (fun _ f j k=>?_)
 ·refine iB [0,3] H fun H=>jN r (fun(b:Int)=>Z [p 3 (J b)] []) (A0i) (fun b H=>?_) (fun _ e i l=>?_)
  ·refine iA [2]<|j0<|hr H
  refine iA [0,3,4]<|vB<|lX (fun((d,c):Int×Int)=>Z [p 0 (L i64 a),p 3 (J d),p 4 (I c)] []) ((a.getD (Int.toNat (0:Int)) (0:Int),1)) H fun _ n g h m ⟨d,c⟩ H=>vQ<|iA [0,3,4,15]<|cD H (fun H=>vK<|fQ<|vQ<|vB<|jB [0,3,4] H fun H=>fK<|fQ<|jB [0,3,4] H fun H=>g H) fun H=>vE<|fE<|h<|fX rfl<|e H
 refine iA [0,7]<|cD H (fun H=>UN H) fun H=>vK<|f H
def B0x:Unit->Option Bool
 | _ =>
 some true
def B0w(b:List Int)(c:Int->Option Bool):Int->Option Bool
 | a =>
 if(decide (a < (b.length:Int))) then
  gd (c9 (a-1)/\ix (a-1) b.length/\ix a b.length/\True) <|
  if(decide (b.getD a.toNat 0<=b.getD (a-1).toNat 0)) then
   some false
  else
   gd (c9 (a+1)/\True) <|
   c (a+1)
 else
  B0x ()
def Cw(a:List Int):Option Bool :=
 lp (B0w a) 1
def R0G:Ct:=k8 124 [.dat i64.sl] (fun x=>Cw x.1) (fun r:Bool=>B r) (fun _=>())
theorem N0b:Ok prog R0G:=by
 refine k9 [.tmp 2] func124 ?_;intro y ⟨c,_⟩ r H Q hn hr;refine iA [0]<|jN r (fun(_:Unit)=>Z [] []) (B0x) (fun _ H=>?_) (fun _ e h g=>?_)
 ·refine iA [2]<|j0<|hr H
 refine iA [0,3]<|vB<|lX (fun(a:Int)=>Z [p 0 (L i64 c),p 3 (I a)] []) 1 H fun _ i f b d a H=>vQ<|iA [0,3,7]<|cD H (fun H=>?_) (fun H=>?_)
 ·refine vK<|fQ<|vQ<|vB<|iB [0,3,19] H fun H=>cD H (fun H=>iA [2]<|j0<|l7<|fR<|d<|l7<|g<|hr H) fun H=>vK<|fK<|fQ<|jB [0,3] H fun H=>f H
 exact vE<|fE<|b<|fX rfl<|e H
def AZ(a:List Int):Option Bool :=
 gd ((D5 a).isSome/\(A4 (vl (D5 a)) 1 4).isSome/\(vl (A4 (vl (D5 a)) 1 4)=true/\True->(I0 a 0 100000).isSome)/\((vl (A4 (vl (D5 a)) 1 4)&&vl (I0 a 0 100000))=true/\True->(Cw a).isSome)/\True) <|
 some (vl (A4 (vl (D5 a)) 1 4)&&vl (I0 a 0 100000)&&vl (Cw a))
def P0M:Ct:=k8 253 [.dat i64.sl] (fun x=>AZ x.1) (fun r:Bool=>B r) (fun _=>())
theorem O0D:Ok prog P0M:=by
 refine k9 [.tmp 2] func253 ?_;intro y ⟨_,_⟩ r H Q hn hr;have:=hz (tc N0b (tc LL (tc X9 (tc LF tn))));refine iA [0]<|iB [2] H fun H=>j0<|hr H
def Jc(a:u1):Option Bool :=
 gd ((AZ a.1).isSome/\(vl (AZ a.1)=true/\True->(AZ a.2.1).isSome)/\((vl (AZ a.1)&&vl (AZ a.2.1))=true/\True->c9 ((a.1.length:Int)*(a.2.1.length:Int)))/\((vl (AZ a.1)&&vl (AZ a.2.1)&&(a.2.2.length:Int)==(a.1.length:Int)*(a.2.1.length:Int))=true/\True->(I0 a.2.2 (-1000000) 1000000).isSome)/\True) <|
 some (vl (AZ a.1)&&vl (AZ a.2.1)&&(a.2.2.length:Int)==(a.1.length:Int)*(a.2.1.length:Int)&&vl (I0 a.2.2 (-1000000) 1000000))
def P0P:Ct:=k8 248 [.agg y70] (fun x=>Jc x.1) (fun r:Bool=>B r) (fun _=>())
theorem O0E:Ok prog P0P:=by
 refine k9 [.tmp 2] func248 ?_;intro y ⟨_,_⟩ r H Q hn hr;have:=hz (tc LL (tc O0D tn));refine iA [1]<|iB [2] H fun H=>j0<|hr H
def LS(a:u1)(b:Bool):Option Bool :=
 gd ((Jc a).isSome/\(b=true/\(!vl (Jc a))=false/\True->(Jb a.2.2).isSome)/\True)<|lt (vl (Jb a.2.2)) fun c =>
 some (!vl (Jc a)||b&&decide (c<0))
def P0Q:Ct:=k8 247 [.agg y70,.dat (.pt Ty.bool)] (fun x=>LS x.1 x.2.1) (fun r:Bool=>B r) (fun _=>())
theorem UO:Ok prog P0Q:=by
 refine k9 [.tmp 3] func247 ?_;intro y ⟨_,_,_⟩ r H Q hn hr;have:=hz (tc M0A (tc O0E tn));refine iA [1,2]<|iD M0A [3] H fun _ H=>j0<|hr H
def j0C:Unit->Option Int
 | _ =>
 some (-1)
def r0H(b:List u1)(c:Bool)(d:Int->Option Int):Int->Option Int
 | a =>
 if(decide (a < (b.length:Int))) then
  gd (ix a b.length/\(LS (b.getD a.toNat (b7 y70)) c).isSome/\True) <|
  if(vl (LS (b.getD a.toNat (b7 y70)) c)) then
   some a
  else
   gd (c9 (a+1)/\True) <|
   d (a+1)
 else
  j0C ()
def PS(a:List u1)(b:Bool):Option Int :=
 lp (r0H a b) 0
def z0b:Ct:=k8 252 [.dat y70.sl,.fn 247 Ty.bool.pt] (fun x=>PS x.1 x.2.1) (fun r:Int=>I r) (fun _=>())
theorem q0s:Ok prog z0b:=by
 refine k9 [.tmp 4] func252 ?_;intro y ⟨b,c,_⟩ r H Q hn hr;have:=hz (tc UO tn);refine iA [0,1]<|jN r (fun(_:Unit)=>Z [] []) (j0C) (fun _ H=>?_) (fun _ e i h=>?_)
 ·refine iA [4]<|j0<|hr H
 refine iA [0,1,7,8]<|vB<|lX (fun(a:Int)=>Z [p 0 (L y70 b),p 1 (AV.fn 247 [D Ty.bool.pt c]),p 7 (I (b.length:Int)),p 8 (I a)] []) 0 H fun _ j g d f a H=>iA [0,1,7,8,9]<|vQ<|cD H (fun H=>?_) (fun H=>?_)
 ·refine vK<|fQ<|vQ<|vB<|iA [0,1,5,7,8]<|iB [0,1,5,7,8,16] H fun H=>cD H (fun H=>iA [4]<|j0<|l7<|fR<|f<|l7<|h<|hr H) fun H=>vK<|fK<|fQ<|jB [0,1,7,8] H fun H=>g H
 exact vE<|fE<|d<|fX rfl<|e H
def PT(a:List u1)(b:Bool):Option Bool :=
 gd ((PS a b).isSome/\True)<|lt (vl (PS a b)) fun c =>
 some (decide (0<=c))
def z0d:Ct:=k8 246 [.dat y70.sl,.fn 247 (.pt Ty.bool)] (fun x=>PT x.1 x.2.1) (fun r:Bool=>B r) (fun _=>())
theorem y0G:Ok prog z0d:=by
 refine k9 [.tmp 4] func246 ?_;intro y ⟨_,_,_⟩ r H Q hn hr;have:=hz (tc q0s (tc UO tn));refine iA [0,1]<|iD q0s [4] H fun _ H=>j0<|hr H
def V2(a:List u1)(b:Bool):Option Bool :=
 gd ((((a.length:Int)==2)=true/\True->(PT a b).isSome)/\True) <|
 some ((a.length:Int)==2&&!vl (PT a b))
def P0X:Ct:=k8 235 [.dat y70.sl,.dat Ty.bool] (fun x=>V2 x.1 x.2.1) (fun r:Bool=>B r) (fun _=>())
theorem O0H:Ok prog P0X:=by
 refine k9 [.tmp 4] func235 ?_;intro y ⟨_,_,_⟩ r H Q hn hr;have:=hz (tc y0G (tc UO tn));refine iA [0,3]<|iB [4] H fun H=>j0<|hr H
end Go.Proofs.YtdjgagoledoaaaaGreatDoor
end
