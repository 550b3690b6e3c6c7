/- Functions of this program as plain functions of data, and that they are so: printed by program. -/
import Derived.Test.YtdjgagoledoaaaaGreatDoorXD
import Derived.Test.YtdjgagoledoaaaaGreatDoorXF
import Derived.Test.YtdjgagoledoaaaaGreatDoorTY
import Derived.Test.YtdjgagoledoaaaaGreatDoorLB
section
namespace Go.Proofs.YtdjgagoledoaaaaGreatDoor
open Go Go.Proofs Go.Proofs.Sv Go.Proofs.Xv Go.Proofs.Xl Go.RowKit
open Tryz
instance:HG Tryz.prog Γ:=⟨L7⟩
abbrev bx(T:TypeId)(c:List AV):Ob:=.box T c
abbrev b8:Ty:=.int .u8
abbrev Q0(x:j5 (.sl y64)×(j5 (.sl y139)×j5 (.sl Ty.str)×j5 (.sl y202))×j5 (.sl l6)):List AV:=[L y64 x.1,M y139 x.2.1.1,M Ty.str x.2.1.2.1,M y202 x.2.1.2.2,M l6 x.2.2]
abbrev Q1(x:ByteArray×Int×j5 (.sl y233)×j5 (.sl y67)×j5 (.sl i64)×Int×Int):List AV:=[S x.1,I x.2.1,M y233 x.2.2.1,M y67 x.2.2.2.1,L i64 x.2.2.2.2.1,I x.2.2.2.2.2.1,I x.2.2.2.2.2.2]
abbrev Q2(x:j5 (.sl y64)×(j5 (.sl y139)×j5 (.sl Ty.str)×j5 (.sl y202))×j5 (.sl l6)):List AV:=[L y64 x.1,L y139 x.2.1.1,L Ty.str x.2.1.2.1,L y202 x.2.1.2.2,L l6 x.2.2,AV.os 18 0,AV.os 38 0,nil,nil,nil]
abbrev Q3(x:j5 (.sl y64)×(j5 (.sl y139)×j5 (.sl Ty.str)×j5 (.sl y202))×j5 (.sl l6)):List AV:=[L y64 x.1,L y139 x.2.1.1,L Ty.str x.2.1.2.1,L y202 x.2.1.2.2,L l6 x.2.2,AV.os 18 0,AV.os 38 0,AV.os 102 0,AV.os 114 0,nil]
abbrev Q4(x:ByteArray×Int×j5 (.sl y233)×j5 (.sl y67)×Int×Int):List AV:=[S x.1,I x.2.1,M y233 x.2.2.1,M y67 x.2.2.2.1,nil,I x.2.2.2.2.1,I x.2.2.2.2.2]
abbrev Q5(x:j5 (.sl y139)×j5 (.sl Ty.str)×j5 (.sl y202)):List AV:=[AV.os 9 0,M y139 x.1,M Ty.str x.2.1,M y202 x.2.2,AV.os 1009 0]
abbrev Q60(x1:j5 (.sl y139)):List AV:=[M y139 x1,AV.os 18 0,AV.os 23 0]
abbrev Tc(x1:j5 (.sl y139))(x2:j5 (.sl Ty.str))(x3:j5 (.sl y202)):List AV:=[M y139 x1,M Ty.str x2,M y202 x3]
abbrev Da(x1:j5 (.sl y139))(x2:j5 (.sl Ty.str))(x3:j5 (.sl y202)):List AV:=[AV.os 9 0,M y139 x1,M Ty.str x2,M y202 x3,AV.os 1009 0]
abbrev A5(x1:j5 (.sl b8))(x2:Int)(x3:Int):List AV:=[L b8 x1,J x2,J x3]
abbrev Bx(x1:j5 (.sl y64))(x2:j5 (.sl y139))(x3:j5 (.sl Ty.str))(x4:j5 (.sl y202))(x5:j5 (.sl l6)):List AV:=[L y64 x1,M y139 x2,M Ty.str x3,M y202 x4,M l6 x5]
abbrev Cj(x1:ByteArray)(x2:Int)(x3:Int)(x4:Int):List AV:=[S x1,I x2,nil,nil,nil,I x3,I x4]
abbrev Ck(x1:ByteArray)(x2:Int)(x3:Int)(x4:Int)(x5:Int):List AV:=[S x1,I x2,I x3,I x4,I x5]
abbrev W0(y0:j5 (.sl y139))(y1:List (j5 y202))(y2:List (j5 Ty.str))(y3:j5 (.sl y139))(y4:j5 (.sl Ty.str))(y5:j5 (.sl y202)):List (Nat×Ob):=[(7,bx 31 (Q60 y0)),(23,A 202 y202 y1 0),(18,A 9 Ty.str y2 0),(6,bx 31 (Tc y3 y4 y5))]
abbrev W1:List (Nat×Ob):=[(3,bx 36 (Ck (ByteArray.mk #[]) 0 0 0 0)),(2,bx 34 [nil,nil,nil,nil,nil])]
abbrev W2(y0:List (j5 l6))(y1:List (j5 y64)):List (Nat×Ob):=[(1009,A 153 l6 y0 0),(9,Ob.arr 64 false y64 y1 0),(2,bx 34 [nil,nil,nil,nil,nil])]
abbrev G3(y0:Bool)(y1:Int)(t:List (Nat×Sl)):List (Nat×Sl):=p 0 (R 500000) :: p 2 (C y0) :: p 6 (R 6) :: p 7 (R 7) :: p 8 (O 25) :: p 9 (O 26) :: p 10 (O 27) :: p 11 (I y1) :: t
abbrev G4(t:List (Nat×Sl)):List (Nat×Sl):=p 0 (R 500000) :: p 2 (R 2) :: p 3 (R 3) :: p 6 (R 6) :: p 7 (R 7) :: t
abbrev W5(y0:Int)(y1:Int)(y2:Int)(y3:Int)(y4:Int)(y5:j5 K7)(y6:j5 r5)(y7:j5 l9):List (Nat×Ob):=[(17,bx 53 [J y0,J y1,J y2,J y3,J y4]),(15,bx 53 [I 0,I 0,I 0,I 0,I 0]),(12,K 44 K7 y5),(8,K 36 r5 y6),(7,K 34 l9 y7)]
abbrev W6(y0:List (j5 y151))(y1:j5 l9)(y2:List (j5 y80)):List (Nat×Ob):=[(18,A 151 y151 y0 0),(1,K 34 l9 y1),(38,A 80 y80 y2 0)]
abbrev G7(t:List (Nat×Sl)):List (Nat×Sl):=p 2 (R 2) :: p 3 (R 3) :: t
abbrev W8(y0:List (j5 i64)):List (Nat×Ob):=[(3012,A 2 i64 y0 0),(4,bx 153 [nil,nil,nil,nil])]
abbrev G9(y0:Int)(y1:Int)(y2:Int)(y3:Int)(y4:Int)(y5:Int)(y6:Int)(y7:Int)(y8:Int)(t:List (Nat×Sl)):List (Nat×Sl):=p 3 (J y0) :: p 4 (R 4) :: p 9 (I y1) :: p 10 (I y2) :: p 11 (I y3) :: p 12 (I y4) :: p 13 (I y5) :: p 14 (I y6) :: p 15 (I y7) :: p 16 (I y8) :: t
abbrev Ar(t:List (Nat×Sl)):List (Nat×Sl):=p 1 (R 1) :: p 3 (R 20) :: p 7 (O 50) :: t
abbrev By(t:List (Nat×Sl)):List (Nat×Sl):=p 0 (R 500000) :: p 4 (R 4) :: p 5 (R 5) :: t
abbrev As(y0:Int)(y1:List (j5 y80))(y2:List (j5 Ty.bool))(t:List (Nat×Sl)):List (Nat×Sl):=p 0 (J y0) :: p 1 (L y80 y1) :: p 2 (L Ty.bool y2) :: t
abbrev Db(y0:Bool)(t:List (Nat×Sl)):List (Nat×Sl):=p 0 (R 500000) :: p 2 (C y0) :: p 6 (R 6) :: p 7 (R 7) :: t
abbrev Ig(y0:j5 K7)(y1:j5 r5):List (Nat×Ob):=[(11,bx 53 [I 0,I 0,I 0,I 0,I 0]),(8,K 44 K7 y0),(6,K 36 r5 y1)]
abbrev DY(y0:Int)(t:List (Nat×Sl)):List (Nat×Sl):=p 0 (R 500000) :: p 5 (O 13) :: p 6 (O 20) :: p 7 (I y0) :: t
abbrev Ih(y0:List (j5 i64))(y1:List (j5 y53))(y2:List (j5 y64))(y3:Int)(t:List (Nat×Sl)):List (Nat×Sl):=p 3 (R 3) :: p 4 (R 4) :: p 5 (M i64 y0) :: p 6 (M y53 y1) :: p 7 (R 7) :: p 11 (L y64 y2) :: p 12 (I y3) :: t
abbrev Km(y0:List (j5 y80))(y1:List (j5 Ty.bool))(y2:Int)(t:List (Nat×Sl)):List (Nat×Sl):=p 2 (L y80 y0) :: p 3 (L Ty.bool y1) :: p 6 (J y2) :: p 7 (R 7) :: p 8 (R 8) :: p 12 (R 12) :: p 15 (R 15) :: t
abbrev Q7(y0:Int)(t:List (Nat×Sl)):List (Nat×Sl):=p 1 (R 1) :: p 3 (I y0) :: t
abbrev Ii(y0:Int)(y1:Int)(y2:Int)(y3:Int)(t:List (Nat×Sl)):List (Nat×Sl):=p 3 (J y0) :: p 4 (R 4) :: p 10 (I y1) :: p 11 (O 29) :: p 12 (I y2) :: p 13 (I y3) :: t
abbrev Kn(y0:j5 y157.pt)(y1:List (j5 Ty.bool)):List (Nat×Ob):=[(17,bx 104 [D y157.pt y0,AV.os 15 0]),(15,A 4 Ty.bool y1 0)]
abbrev Oq(y0:Int)(y1:Int)(y2:Int)(t:List (Nat×Sl)):List (Nat×Sl):=p 0 (R 500000) :: p 1 (J y0) :: p 4 (R 4) :: p 5 (O 12) :: p 6 (O 14) :: p 7 (O 15) :: p 8 (I y1) :: p 9 (I y2) :: t
abbrev Cm(t:List (Nat×Sl)):List (Nat×Sl):=p 0 (R 500000) :: p 6 (R 6) :: t
abbrev Ot(y0:j5 y104.pt)(t:List (Nat×Sl)):List (Nat×Sl):=p 0 (D y104.pt y0) :: p 6 (R 6) :: p 8 (R 8) :: p 11 (R 11) :: p 12 (R 12) :: p 13 (R 13) :: t
abbrev Ij(y0:List (j5 T3))(y1:List (j5 T3))(y2:j5 y70):List (Nat×Ob):=[(29,A 252 T3 y0 0),(22,A 252 T3 y1 0),(4,K 70 y70 y2)]
abbrev Td(y0:List (j5 y64)):List (Nat×Ob):=[(7,bx 26 [AV.os 12 0]),(12,Ob.arr 64 false y64 y0 0),(6,bx 34 [nil,nil,nil,nil,nil])]
abbrev Gp(y0:j5 y31)(y1:List (j5 y64)):List (Nat×Ob):=[(3,K 31 y31 y0),(2,bx 26 [L y64 y1])]
abbrev Ou(y0:j5 (.sl b8))(y1:Int)(y2:Int):List (Nat×Ob):=[(500000,bx 122 (A5 y0 y1 y2)),(6,bx 64 (Cj (ByteArray.mk #[]) 0 0 0))]
abbrev Ko(y0:Int)(y1:Int)(y2:Int)(y3:Int)(t:List (Nat×Sl)):List (Nat×Sl):=p 0 (O 500000) :: p 2 (J y0) :: p 3 (J y1) :: p 4 (J y2) :: p 6 (R 6) :: p 11 (I y3) :: t
abbrev Kp(y0:List (j5 i64)):List (Nat×Ob):=[(12,A 2 i64 y0 0),(4,bx 70 [nil,nil,nil])]
abbrev Ov(y0:Int)(y1:Bool)(y2:Int)(t:List (Nat×Sl)):List (Nat×Sl):=p 0 (R 500000) :: p 5 (AV.os 13 1) :: p 6 (O 20) :: p 7 (I y0) :: p 8 (B y1) :: p 9 (I y2) :: t
abbrev Dc(t:List (Nat×Sl)):List (Nat×Sl):=p 1 (R 1) :: p 3 (O 20) :: t
abbrev Tf(y0:ByteArray)(y1:Int)(y2:Int)(y3:Int)(y4:List (j5 y233)):List (Nat×Ob):=[(9,bx 64 [U y0,J y1,AV.os 27 0,nil,nil,I y2,I y3]),(27,A 233 y233 y4 0),(8,bx 64 (Cj (ByteArray.mk #[]) 0 0 0))]
abbrev Ik(y0:List (j5 Ty.bool))(y1:List (j5 i64.sl)):List (Nat×Ob):=[(16,A 4 Ty.bool y0 0),(14,A 37 i64.sl y1 0)]
abbrev Kq(y0:Int)(t:List (Nat×Sl)):List (Nat×Sl):=p 1 (R 1) :: p 3 (O 12) :: p 4 (R 4) :: p 5 (I y0) :: t
abbrev Gq(y0:List (j5 i64))(y1:j5 y31):List (Nat×Ob):=[(92,A 2 i64 y0 0),(3,K 31 y31 y1)]
abbrev Kr(y0:List (j5 y80))(y1:List (j5 Ty.bool))(y2:Bool)(y3:Bool)(t:List (Nat×Sl)):List (Nat×Sl):=p 1 (L y80 y0) :: p 2 (L Ty.bool y1) :: p 4 (C y2) :: p 11 (O 17) :: p 12 (B y3) :: t
abbrev Ow(y0:List (j5 y53))(y1:List (j5 y53))(y2:j5 m7)(y3:List (j5 r8)):List (Nat×Ob):=[(13,A 53 y53 y0 1),(78,A 53 y53 y1 0),(500000,K 122 m7 y2),(20,A 190 r8 y3 0)]
def u7(a:List Int):Option Bool :=
 some (decide (4096 < (a.length:Int)))
def k7:Ct:=j9 7 [.dat (b8.sl)] (fun x=>u7 x.1) (fun r:Bool=>B r) (fun _=>())
theorem o7:Ok prog k7:=by
 refine k8 [.tmp 2] func7 ?_;intro y ⟨_,_⟩ r H Q hn hr;refine iA [0]<|iA [2]<|j0<|hr H
def u4(a:Int)(b:Int)(c:Int):Option Bool :=
 some (decide (b<=a)&&decide (a<=c))
def R0u:Ct:=j9 101 [.dat i64,.dat i64,.dat i64] (fun x=>u4 x.1 x.2.1 x.2.2.1) (fun r:Bool=>B r) (fun _=>())
theorem Bz:Ok prog R0u:=by
 refine k8 [.tmp 6] func101 ?_;intro y ⟨_,_,_,_⟩ r H Q hn hr;refine iA [0,1,2]<|iA [6]<|j0<|hr H
def Dd(a:u3):Option Bool :=
 gd ((u4 a.1 (-1000000000) 1000000000).isSome/\(vl (u4 a.1 (-1000000000) 1000000000)=true/\True->(u4 a.2 (-1000000000) 1000000000).isSome)/\True) <|
 some (vl (u4 a.1 (-1000000000) 1000000000)&&vl (u4 a.2 (-1000000000) 1000000000)&&decide (a.1<=a.2))
def k80:Ct:=j9 80 [.agg y51] (fun x=>Dd x.1) (fun r:Bool=>B r) (fun _=>())
theorem YY:Ok prog k80:=by
 refine k8 [.tmp 2] func80 ?_;intro y ⟨_,_⟩ r H Q hn hr;have:=hz (tc Bz tn);refine iA [1]<|iB [2] H fun H=>j0<|hr H
def Ks(a:u3)(b:u3):Option u3 :=
 some (min a.1 b.1,max a.2 b.2)
def Q0Z:Ct:=j9 132 [.agg y51,.agg y51] (fun x=>Ks x.1 x.2.1) (fun r:u3=>AV.agg [I r.1,I r.2]) (fun _=>())
theorem Tg:Ok prog Q0Z:=by
 refine k8 [.cell 4 51] func132 ?_;intro y ⟨_,_,_⟩ r H Q hn hr;refine iA [2,3,4]<|iA [4]<|j0<|hr H
def V4(b:Int)(a:Int)(c:Int):Option Int :=
 gd (0<a/\True) <|
 gd (0<a/\True) <|
 if(decide (b.tmod a<0)&&c==0) then
  gd (c9 (b.tdiv a-1)/\True) <|
  some (b.tdiv a-1)
 else
  if(decide (0<b.tmod a)&&c==1) then
   gd (c9 (b.tdiv a+1)/\True) <|
   some (b.tdiv a+1)
  else
   some (b.tdiv a)
def Q0f:Ct:=j9 185 [.dat i64,.dat i64,.dat i64] (fun x=>V4 x.1 x.2.1 x.2.2.1) (fun r:Int=>I r) (fun _=>())
theorem DZ:Ok prog Q0f:=by
 refine k8 [.tmp 6] func185 ?_;intro y ⟨_,_,_,_⟩ r H Q hn hr;refine iA [0,1,2]<|iB [0,1,2,7] H fun H=>iB [2,7,8] H fun H=>vQ<|iA [2,7,8,20]<|cD H (fun H=>iB [6] H fun H=>j0<|fR<|hr H) fun H=>vK<|fQ<|vQ<|iA [7,28]<|cD H (fun H=>iB [6] H fun H=>j0<|fR<|hr H) fun H=>vK<|fQ<|iA [6]<|j0<|hr H
def Th:Int->Option Int
 | a =>
 some a
def Kt(b:Int)(c:Int):Int->Option Int
 | a =>
 gd (((b==1)=true/\True->c9 (a*a))/\True) <|
 if(b==1&&decide (a*a<c)) then
  gd (c9 (a+1)/\True) <|
  Th (a+1)
 else
  Th a
def Ox(d:Int)(e:Int)(c:Int×Int->Option Int):Int×Int->Option Int
 | (a,b) =>
 if(decide (a<b)) then
  gd (c9 (a+b)/\c9 (a+b+(1:Int))/\(0:Int) < (2:Int)/\True) <|
  gd (c9 ((a+b+1).tdiv 2*(a+b+1).tdiv 2)/\True) <|
  if(decide ((a+b+1).tdiv 2*(a+b+1).tdiv 2<=d)) then
   c (((a+b+1).tdiv 2,b))
  else
   gd (c9 ((a+b+1).tdiv 2-1)/\True) <|
   c ((a,(a+b+1).tdiv 2-1))
 else
  Kt e d a
def Cn(a:Int)(b:Int):Option Int :=
 lp (Ox a b) (0,2000000000)
def P0O:Ct:=j9 211 [.dat i64,.dat i64] (fun x=>Cn x.1 x.2.1) (fun r:Int=>I r) (fun _=>())
theorem O0t:Ok prog P0O:=by
 refine k8 [.tmp 4] func211 ?_;intro y ⟨a,b,_⟩ r H Q hn hr;refine iA [0,1]<|iA [0,1,5,6]<|jN r (fun(c:Int)=>Z [p 0 (J a),p 1 (J b),p 5 (I c)] []) (Kt b a) (fun c H=>?_) (fun _ j m l=>?_)
 ·refine jN r (fun(d:Int)=>Z [p 5 (I d)] []) (Th) (fun d H=>?_) (fun _ f n q=>?_)
  ·refine iA [4]<|j0<|hr H
  refine iB [5,32] H fun H=>cD H (fun H=>jB [5] H fun H=>f H) fun H=>vK<|f H
 refine vB<|lX (fun((e,h):Int×Int)=>Z [p 0 (J a),p 1 (J b),p 5 (I e),p 6 (I h)] []) (0,2000000000) H fun _ k g i o ⟨e,h⟩ H=>vQ<|iA [0,1,5,6,10]<|cD H (fun H=>?_) (fun H=>?_)
 ·refine vK<|fQ<|vB<|iB [0,1,5,6,7] H fun H=>iB [0,1,5,6,7,20] H fun H=>cD H (fun H=>jA [0,1,5,6]<|fK<|g H) fun H=>jB [0,1,5,6] H fun H=>fK<|g H
 exact vE<|fE<|i<|fX rfl<|j H
def Gr(c:List m4)(b:r6)(a:D1):Option Int :=
 if(decide (a.1<0)) then
  some 0
 else
  gd (ix a.1 b.1.length/\ix (b.1.getD a.1.toNat (b7 y139)).2.1 c.length/\ix a.2.1 (c.getD (b.1.getD a.1.toNat (b7 y139)).2.1.toNat (b7 y64)).2.2.1.length/\True)<|lt ((c.getD (b.1.getD a.1.toNat (b7 y139)).2.1.toNat (b7 y64)).2.2.1.getD a.2.1.toNat (b7 y233)) fun d =>
  some d.2.2.1
def P0E:Ct:=j9 227 [.agg y64.sl,.agg y31,.agg r8] (fun x=>Gr x.1 x.2.1 x.2.2.1) (fun r:Int=>I r) (fun _=>())
theorem O0p:Ok prog P0E:=by
 refine k8 [.tmp 6] func227 ?_;intro y ⟨b,c,d,_⟩ r H Q hn hr;refine iA [3,4,5]<|vQ<|iA [3,4,5,9]<|cD H (fun H=>iA [6]<|j0<|fR<|hr H) fun H=>vK<|fQ<|qD (fun a=>Z [p 6 (J a.2.2.1)] [(5,K 190 r8 d),(4,K 31 y31 c),(3,bx 26 [L y64 b])]) H fun a H=>j0<|hr H
def YZ:List D1->Option (List D1)
 | a =>
 some a
def Ti(b:r6)(e:Int×List D1->Option (List D1)):Int×List D1->Option (List D1)
 | (a,c) =>
 if(decide (a < (b.2.2.length:Int))) then
  gd (ix a b.2.2.length/\ix a b.2.2.length/\(c.length+[(-1,a,(b.2.2.getD a.toNat (b7 y202)).2.2,(b.2.2.getD a.toNat (b7 y202)).2.1==1)].length<=9223372036854775807/\(c.length+[(-1,a,(b.2.2.getD a.toNat (b7 y202)).2.2,(b.2.2.getD a.toNat (b7 y202)).2.1==1)].length)*32<=140737488355328)/\True)<|lt ((c++[(-1,a,(b.2.2.getD a.toNat (b7 y202)).2.2,(b.2.2.getD a.toNat (b7 y202)).2.1==1)],[(-1,a,(b.2.2.getD a.toNat (b7 y202)).2.2,(b.2.2.getD a.toNat (b7 y202)).2.1==1)])) fun(d,_) =>
  gd (c9 (a+1)/\True) <|
  e (a+1,d)
 else
  YZ c
def Il(b:r6):List D1->Option (List D1)
 | a =>
 lp (Ti b) (0,a)
def Oy(b:Int)(c:Int×List D1->Option (List D1)):List D1->Option (List D1)
 | a =>
 gd (c9 (b+1)/\True) <|
 c (b+1,a)
def Tj(d:Int)(b:m9)(f:Int×List D1->Option (List D1))(g:Int×List D1->Option (List D1)):Int×List D1->Option (List D1)
 | (a,c) =>
 if(decide (a < (b.2.2.length:Int))) then
  gd (ix a b.2.2.length/\c9 ((b.2.2.length:Int)-1)/\(c.length+[(d,a,b.2.2.getD a.toNat 0,a==(b.2.2.length:Int)-1)].length<=9223372036854775807/\(c.length+[(d,a,b.2.2.getD a.toNat 0,a==(b.2.2.length:Int)-1)].length)*32<=140737488355328)/\True)<|lt ((c++[(d,a,b.2.2.getD a.toNat 0,a==(b.2.2.length:Int)-1)],[(d,a,b.2.2.getD a.toNat 0,a==(b.2.2.length:Int)-1)])) fun(e,_) =>
  gd (c9 (a+1)/\True) <|
  g (a+1,e)
 else
  Oy d f c
def Tk(a:r6)(e:Int×List D1->Option (List D1)):Int×List D1->Option (List D1)
 | (b,d) =>
 if(decide (b < (a.1.length:Int))) then
  gd (ix b a.1.length/\True)<|lt (a.1.getD b.toNat (b7 y139)) fun c =>
  lp (Tj b c e) (0,d)
 else
  Il a d
def I6(a:r6):Option (List D1) :=
 lp (Tk a) (0,[])
def k94:Ct:=j9 94 [.agg y31] (fun x=>I6 x.1) (fun r:List D1=>AV.ow 190 true r8 r) (fun _=>())
theorem Aa:Ok prog k94:=by
 refine k8 [.tmp 2] func94 ?_;intro y ⟨a,_⟩ r H Q hn hr;refine iA [1]<|iA [1,3]<|jN r (fun(e:List D1)=>Z [p 1 (R 1),p 3 (O 8)] [(8,A 190 r8 e 0),(1,K 31 y31 a)]) (Il a) (fun e H=>?_) (fun _ F X G=>?_)
 ·refine jN r (fun(i:List D1)=>Z [p 3 (O 8)] [(8,A 190 r8 i 0)]) (YZ) (fun i H=>?_) (fun _ x P t4=>?_)
  ·refine iA [2]<|j0<|hr H
  refine iA [1,3,7]<|vB<|lX (fun((c,k):Int×List D1)=>Z [p 1 (R 1),p 3 (O 8),p 7 (I c)] [(8,A 190 r8 k 0),(1,K 31 y31 a)]) (0,e) H fun _ V v E W ⟨c,k⟩ H=>vQ<|iA [1,3,7,47]<|cD H (fun H=>?_) (fun H=>?_)
  ·refine vK<|fQ<|vQ<|vB<|zD (fun(l,n)=>Z [p 1 (R 1),p 3 (AV.os 8 1),p 7 (I c)] [(8,A 190 r8 l 1),(66,A 190 r8 n 0),(1,K 31 y31 a)]) H fun⟨l,n⟩ H =>
    fK<|fQ <|
    jB [1,3,7] H fun H =>
    v H
  exact vE<|fE<|E<|fX rfl<|x H
 refine iA [1,3,4]<|vB<|lX (fun((d,o):Int×List D1)=>Z [p 1 (R 1),p 3 (O 8),p 4 (I d)] [(8,A 190 r8 o 0),(1,K 31 y31 a)]) (0,[]) H fun _ q t u t1 ⟨d,o⟩ H=>vQ<|iA [1,3,4,13]<|cD H (fun H=>?_) (fun H=>?_)
 ·refine vK<|fQ<|jN r (fun(h:List D1)=>Z [p 1 (R 1),p 3 (O 8),p 4 (I d)] [(8,A 190 r8 h 0),(1,K 31 y31 a)]) (Oy d q) (fun h H=>?_) (fun _ z T t2=>?_)
  ·refine jB [1,3,4] H fun H=>t H
  refine vB<|qD (fun b=>Z [p 1 (R 1),p 3 (O 8),p 4 (I d),p 5 (L i64 b.2.2)] [(8,A 190 r8 o 0),(1,K 31 y31 a)]) H fun b H=>iA [1,3,4,5,6]<|vB<|lX (fun((f,j):Int×List D1)=>Z [p 1 (R 1),p 3 (O 8),p 4 (I d),p 5 (L i64 b.2.2),p 6 (I f)] [(8,A 190 r8 j 0),(1,K 31 y31 a)]) (0,o) H fun _ Y w s t3 ⟨f,j⟩ H=>vQ<|iA [1,3,4,5,6,25]<|cD H (fun H=>?_) (fun H=>?_)
  ·refine vK<|fQ<|vQ<|vB<|zD (fun(g,m)=>Z [p 1 (R 1),p 3 (AV.os 8 1),p 4 (I d),p 5 (L i64 b.2.2),p 6 (I f)] [(8,A 190 r8 g 1),(41,A 190 r8 m 0),(1,K 31 y31 a)]) H fun⟨g,m⟩ H =>
    fK<|fQ <|
    jB [1,3,4,5,6] H fun H =>
    w H
  exact vE<|fE<|s<|fX rfl<|fK<|z H
 exact vE<|fE<|u<|fX rfl<|F H
def Za:List Int->Option (List Int)
 | a =>
 some a
def Im(a:Int)(b:Int×List Int->Option (List Int)):List Int->Option (List Int)
 | c =>
 gd (c9 (a+1)/\True) <|
 b (a+1,c)
def Tl(b:List D1)(d:Int)(e:Int×List Int->Option (List Int)):Int×List Int->Option (List Int)
 | (a,c) =>
 if(decide (a < (b.length:Int))) then
  gd (ix a b.length/\a.toNat<b.length/\(((b.getD a.toNat (b7 r8)).2.2.1==d)=true/\True->ix a b.length)/\(((b.getD a.toNat (b7 r8)).2.2.1==d)=true/\True->a.toNat<b.length)/\True) <|
  if((b.getD a.toNat (b7 r8)).2.2.1==d&&!(b.getD a.toNat (b7 r8)).2.2.2) then
   gd ((c.length+[a].length<=9223372036854775807/\(c.length+[a].length)*8<=140737488355328)/\True) <|
   Im a e (c++[a])
  else
   Im a e c
 else
  Za c
def T4(a:r6)(c:Int):Option (List Int) :=
 gd ((I6 a).isSome/\True)<|lt (vl (I6 a)) fun b =>
 lp (Tl b c) (0,[])
def k76:Ct:=j9 76 [.agg y31,.dat i64] (fun x=>T4 x.1 x.2.1) (fun r:List Int=>AV.ow 2 true i64 r) (fun _=>())
theorem Gs:Ok prog k76:=by
 refine k8 [.tmp 4] func76 ?_;intro y ⟨_,b,_⟩ r H Q hn hr;have:=hz (tc Aa tn);refine iA [1,2]<|iA [1,2,5]<|iD Aa [1,5,6] H fun c H=>jN r (fun(e:List Int)=>Z [p 5 (O 8)] [(8,A 2 i64 e 0)]) (Za) (fun e H=>?_) (fun _ k m l=>?_)
 ·refine iA [4]<|j0<|hr H
 refine iA [1,5,6,7]<|vB<|lX (fun((a,d):Int×List Int)=>Z [p 1 (J b),p 5 (O 8),p 6 (O 10),p 7 (I a)] [(10,A 190 r8 c 0),(8,A 2 i64 d 0)]) (0,[]) H fun _ h j i o ⟨a,d⟩ H=>vQ<|iA [1,5,6,7,14]<|cD H (fun H=>?_) (fun H=>?_)
 ·refine vK<|fQ<|jN r (fun(g:List Int)=>Z [p 1 (J b),p 5 (O 8),p 6 (O 10),p 7 (I a)] [(8,A 2 i64 g 0),(10,A 190 r8 c 0)]) (Im a h) (fun g H=>?_) (fun _ f n q=>?_)
  ·refine jB [1,5,6,7] H fun H=>j H
  refine vB<|iB [1,5,6,7,31] H fun H=>cD H (fun H=>jB [1,5,6,7] H fun H=>fK<|f H) fun H=>vK<|fK<|f H
 exact vE<|fE<|i<|fX rfl<|k H
def K1(a:List Int):Option (List Int) :=
 gd ((0+a.length<=9223372036854775807/\(0+a.length)*8<=140737488355328)/\True) <|
 some ([]++a)
def Q0y:Ct:=j9 164 [.dat i64.sl] (fun x=>K1 x.1) (fun r:List Int=>AV.ow 2 true i64 r) (fun _=>())
theorem Oz:Ok prog Q0y:=by
 refine k8 [.tmp 2] func164 ?_;intro y ⟨_,_⟩ r H Q hn hr;refine iA [0]<|iB [2] H fun H=>j0<|hr H
def Tm:List Int->Option (List Int)
 | a =>
 some a
def Io(c:x8)(e:Int×List Int->Option (List Int)):Int×List Int->Option (List Int)
 | (a,b) =>
 if(decide (0<a)) then
  gd (ix a c.1.length/\ix (c.1.getD a.toNat 0) b.length/\Int.toNat (c.1.getD a.toNat 0)<b.length/\ix a b.length/\a.toNat<b.length/\c9 (b.getD (Int.toNat (c.1.getD a.toNat 0)) 0+b.getD a.toNat 0)/\ix (c.1.getD a.toNat 0) b.length/\Int.toNat (c.1.getD a.toNat 0)<b.length/\True)<|lt (b.set (Int.toNat (c.1.getD a.toNat 0)) (b.getD (Int.toNat (c.1.getD a.toNat 0)) 0+b.getD a.toNat 0)) fun d =>
  gd (c9 (a-1)/\True) <|
  e (a-1,d)
 else
  Tm b
def OA(b:x8):List Int->Option (List Int)
 | a =>
 gd (c9 ((a.length:Int)-1)/\True) <|
 lp (Io b) (((a.length:Int)-1,a))
def Zb(d:j7)(f:List D1)(b:List Int)(c:x8)(g:Int×List Int->Option (List Int)):Int×List Int->Option (List Int)
 | (a,e) =>
 if(decide (a < (b.length:Int))) then
  gd (ix a c.2.2.2.length/\ix (c.2.2.2.getD a.toNat 0) e.length/\Int.toNat (c.2.2.2.getD a.toNat 0)<e.length/\ix a b.length/\a.toNat<b.length/\ix (b.getD a.toNat 0) f.length/\Int.toNat (b.getD a.toNat 0)<f.length/\(Gr d.1 d.2.1 (f.getD (Int.toNat (b.getD a.toNat 0)) (b7 r8))).isSome/\c9 (e.getD (Int.toNat (c.2.2.2.getD a.toNat 0)) 0+vl (Gr d.1 d.2.1 (f.getD (Int.toNat (b.getD a.toNat 0)) (b7 r8))))/\ix (c.2.2.2.getD a.toNat 0) e.length/\Int.toNat (c.2.2.2.getD a.toNat 0)<e.length/\True)<|lt ((vl (Gr d.1 d.2.1 (f.getD (Int.toNat (b.getD a.toNat 0)) (b7 r8))),e.set (Int.toNat (c.2.2.2.getD a.toNat 0)) (e.getD (Int.toNat (c.2.2.2.getD a.toNat 0)) 0+vl (Gr d.1 d.2.1 (f.getD (Int.toNat (b.getD a.toNat 0)) (b7 r8)))))) fun(_,h) =>
  gd (c9 (a+1)/\True) <|
  g (a+1,h)
 else
  OA c e
def Au(a:j7)(b:Int):Option (List Int) :=
 gd (ix b a.2.2.length/\True)<|lt (a.2.2.getD b.toNat (b7 l6)) fun c =>
 gd ((K1 c.2.2.1).isSome/\True)<|lt (vl (K1 c.2.2.1)) fun f =>
 gd ((I6 a.2.1).isSome/\True)<|lt (vl (I6 a.2.1)) fun d =>
 gd ((T4 a.2.1 b).isSome/\True)<|lt (vl (T4 a.2.1 b)) fun e =>
 lp (Zb a d e c) (0,f)
def P0R:Ct:=j9 208 [.agg l9,.dat i64] (fun x=>Au x.1 x.2.1) (fun r:List Int=>AV.ow 2 true i64 r) (fun _=>())
theorem Tn:Ok prog P0R:=by
 refine k8 [.tmp 4] func208 ?_;intro y ⟨g,t,_⟩ r H Q hn hr;have:=hz (tc O0p (tc Gs (tc Aa (tc Oz tn))));refine iA [1,2]<|qD (fun b=>Z [p 1 (J t),p 2 (R 2),p 5 (R 5)] [(5,K 153 l6 b),(2,K 34 l9 g)]) H fun b H=>iD Oz [1,2,5,6] H fun q H=>iD Aa [1,2,5,6,7] H fun l H=>iD Gs [2,5,6,7,8] H fun i H=>jN r (fun(a:List Int)=>Z [p 5 (R 5),p 6 (O 18)] [(18,A 2 i64 a 0),(5,K 153 l6 b)]) (OA b) (fun a H=>?_) (fun _ w F z=>?_)
 ·refine jN r (fun(d:List Int)=>Z [p 6 (O 18)] [(18,A 2 i64 d 0)]) (Tm) (fun d H=>?_) (fun _ v E V=>?_)
  ·refine iA [4]<|j0<|hr H
  refine iB [5,6,10] H fun H=>vB<|lX (fun((c,f):Int×List Int)=>Z [p 5 (R 5),p 6 (O 18),p 10 (I c)] [(18,A 2 i64 f 0),(5,K 153 l6 b)]) (((a.length:Int)-1,a)) H fun _ G u m P ⟨c,f⟩ H=>vQ<|iA [5,6,10,58]<|cD H (fun H=>vK<|fQ<|vQ<|vB<|zD (fun e=>Z [p 5 (R 5),p 6 (O 18),p 10 (I c)] [(18,A 2 i64 e 0),(5,K 153 l6 b)]) H fun e H=>fK<|fQ<|jB [5,6,10] H fun H=>u H) fun H=>vE<|fE<|m<|fX rfl<|v H
 refine iA [2,5,6,7,8,9]<|vB<|lX (fun((h,j):Int×List Int)=>Z [p 2 (R 2),p 5 (R 5),p 6 (O 18),p 7 (O 21),p 8 (O 25),p 9 (I h)] [(25,A 2 i64 i 0),(21,A 190 r8 l 0),(18,A 2 i64 j 0),(5,K 153 l6 b),(2,K 34 l9 g)]) (0,q) H fun _ x o s T ⟨h,j⟩ H=>vQ<|iA [2,5,6,7,8,9,29]<|cD H (fun H=>?_) (fun H=>?_)
 ·refine vK<|fQ<|vQ<|vB<|zD (fun(n,k)=>Z [p 2 (R 2),p 5 (R 5),p 6 (O 18),p 7 (O 21),p 8 (O 25),p 9 (I h)] [(18,A 2 i64 k 0),(25,A 2 i64 i 0),(21,A 190 r8 l 0),(5,K 153 l6 b),(2,K 34 l9 g)]) H fun⟨n,k⟩ H =>
   fK<|fQ <|
   jB [2,5,6,7,8,9] H fun H =>
   o H
 exact vE<|fE<|s<|fX rfl<|w H
def Zc:List Int->Option (List Int)
 | a =>
 some a
def To(b:x8)(d:List Int)(e:Int×List Int->Option (List Int)):Int×List Int->Option (List Int)
 | (a,c) =>
 if(decide (a < (d.length:Int))) then
  gd (ix a b.1.length/\ix (b.1.getD a.toNat 0) c.length/\Int.toNat (b.1.getD a.toNat 0)<c.length/\ix a b.2.1.length/\ix a d.length/\a.toNat<d.length/\c9 (b.2.1.getD a.toNat 0*d.getD a.toNat 0)/\c9 (c.getD (Int.toNat (b.1.getD a.toNat 0)) 0+b.2.1.getD a.toNat 0*d.getD a.toNat 0)/\(c.length+[c.getD (Int.toNat (b.1.getD a.toNat 0)) 0+b.2.1.getD a.toNat 0*d.getD a.toNat 0].length<=9223372036854775807/\(c.length+[c.getD (Int.toNat (b.1.getD a.toNat 0)) 0+b.2.1.getD a.toNat 0*d.getD a.toNat 0].length)*8<=140737488355328)/\True)<|lt ((c++[c.getD (Int.toNat (b.1.getD a.toNat 0)) 0+b.2.1.getD a.toNat 0*d.getD a.toNat 0],[c.getD (Int.toNat (b.1.getD a.toNat 0)) 0+b.2.1.getD a.toNat 0*d.getD a.toNat 0])) fun(f,_) =>
  gd (c9 (a+1)/\True) <|
  e (a+1,f)
 else
  Zc c
def Co(a:j7)(b:Int):Option (List Int) :=
 gd (ix b a.2.2.length/\True)<|lt (a.2.2.getD b.toNat (b7 l6)) fun c =>
 gd ((Au a b).isSome/\True)<|lt (vl (Au a b)) fun d =>
 lp (To c d) (1,[0])
def P0P:Ct:=j9 210 [.agg l9,.dat i64] (fun x=>Co x.1 x.2.1) (fun r:List Int=>AV.ow 2 true i64 r) (fun _=>())
theorem Tp:Ok prog P0P:=by
 refine k8 [.tmp 4] func210 ?_;intro y ⟨i,j,_⟩ r H Q hn hr;have:=hz (tc Tn tn);refine iA [1,2]<|qD (fun a=>Z [p 1 (J j),p 2 (R 2),p 5 (R 5)] [(5,K 153 l6 a),(2,K 34 l9 i)]) H fun a H=>iD Tn [5,6] H fun g H=>iA [5,6,7]<|jN r (fun(d:List Int)=>Z [p 7 (O 17)] [(17,A 2 i64 d 0)]) (Zc) (fun d H=>?_) (fun _ l o n=>?_)
 ·refine iA [4]<|j0<|hr H
 refine iA [5,6,7,8]<|vB<|lX (fun((b,f):Int×List Int)=>Z [p 5 (R 5),p 6 (O 16),p 7 (O 17),p 8 (I b)] [(17,A 2 i64 f 0),(16,A 2 i64 g 0),(5,K 153 l6 a)]) (1,[0]) H fun _ m k h q ⟨b,f⟩ H=>vQ<|iA [5,6,7,8,21]<|cD H (fun H=>?_) (fun H=>?_)
 ·refine vK<|fQ<|vQ<|vB<|zD (fun(e,c)=>Z [p 5 (R 5),p 6 (O 16),p 7 (AV.os 17 1),p 8 (I b)] [(17,A 2 i64 e 1),(44,A 2 i64 c 0),(16,A 2 i64 g 0),(5,K 153 l6 a)]) H fun⟨e,c⟩ H =>
   fK<|fQ <|
   jB [5,6,7,8] H fun H =>
   k H
 exact vE<|fE<|h<|fX rfl<|l H
def Ku(c:j7)(d:Int)(f:Int)(a:Int)(e:Int):Option Int :=
 gd ((Co c d).isSome/\ix d c.2.2.length/\ix f (c.2.2.getD d.toNat (b7 l6)).2.2.2.length/\ix ((c.2.2.getD d.toNat (b7 l6)).2.2.2.getD f.toNat 0) (vl (Co c d)).length/\Int.toNat ((c.2.2.getD d.toNat (b7 l6)).2.2.2.getD f.toNat 0) < (vl (Co c d)).length/\True)<|lt ((vl (Co c d),(vl (Co c d)).getD (Int.toNat ((c.2.2.getD d.toNat (b7 l6)).2.2.2.getD f.toNat 0)) 0)) fun(_,b) =>
 gd (c9 (1000000*a)/\c9 (1000000*a*a)/\c9 (4*b)/\c9 (4*b*b)/\c9 (1000000*a*a+4*b*b)/\(Cn (1000000*a*a+4*b*b) e).isSome/\(V4 (vl (Cn (1000000*a*a+4*b*b) e)) 1000 e).isSome/\True)<|lt (vl (V4 (vl (Cn (1000000*a*a+4*b*b) e)) 1000 e)) fun g =>
 some g
def Q0d:Ct:=j9 187 [.agg l9,.dat i64,.dat i64,.dat i64,.dat i64] (fun x=>Ku x.1 x.2.1 x.2.2.1 x.2.2.2.1 x.2.2.2.2.1) (fun r:Int=>I r) (fun _=>())
theorem Zd:Ok prog Q0d:=by
 refine k8 [.tmp 10] func187 ?_;intro y ⟨c,_,_,d,e,_⟩ r H Q hn hr;have:=hz (tc DZ (tc O0t (tc Tp tn)));refine iA [1,2,3,4,5]<|qD (fun(a,b)=>Z [p 3 (J d),p 4 (J e),p 11 (I b)] [(14,A 2 i64 a 0),(5,K 34 l9 c)]) H fun⟨a,b⟩ H =>
  iD DZ [10] H fun _ H =>
  j0<|hr H
def BA(a:j7)(b:l7):Option Int :=
 gd ((I6 a.2.1).isSome/\(0:Int) < (2:Int)/\ix (b.2.1.tdiv (2:Int)) (vl (I6 a.2.1)).length/\(b.2.1.tdiv (2:Int)).toNat < (vl (I6 a.2.1)).length/\True)<|lt ((vl (I6 a.2.1),(vl (I6 a.2.1)).getD (b.2.1.tdiv 2).toNat (b7 r8))) fun(_,c) =>
 some c.2.2.1
def Q0g:Ct:=j9 184 [.agg l9,.agg y80] (fun x=>BA x.1 x.2.1) (fun r:Int=>I r) (fun _=>())
theorem Ze:Ok prog Q0g:=by
 refine k8 [.tmp 4] func184 ?_;intro y ⟨c,d,_⟩ r H Q hn hr;have:=hz (tc Aa tn);refine iA [2,3]<|qD (fun(a,b)=>Z [p 4 (I b.2.2.1)] [(7,A 190 r8 a 0),(3,K 80 y80 d),(2,K 34 l9 c)]) H fun⟨a,b⟩ H =>
  j0<|hr H
def Zf:Unit->Option (Int×Int×Int)
 | _ =>
 some (((0:Int),(1:Int),(0:Int)))
def De(b:List Int)(c:Int)(d:Int->Option (Int×Int×Int)):Int->Option (Int×Int×Int)
 | a =>
 if(decide (0<=a)) then
  gd (ix a b.length/\True) <|
  if(c==b.getD a.toNat 0) then
   some ((a,(1:Int),(0:Int)))
  else
   gd (ix a b.length/\True) <|
   if(decide (b.getD a.toNat 0<c)) then
    gd (c9 (a+1)/\ix (a+1) b.length/\c9 (b.getD (a+1).toNat 0-c)/\ix a b.length/\c9 (c-b.getD a.toNat 0)/\True) <|
    some ((a,b.getD (a+1).toNat 0-c,c-b.getD a.toNat 0))
   else
    gd (c9 (a-1)/\True) <|
    d (a-1)
 else
  Zf ()
def Df(a:List Int)(c:Int):Option (Int×Int×Int) :=
 gd (ix 0 a.length/\True) <|
 gd (c9 ((a.length:Int)-1)/\ix ((a.length:Int)-1) a.length/\True)<|lt (min (max c (a.getD (Int.toNat (0:Int)) (0:Int))) (a.getD ((a.length:Int)-(1:Int)).toNat (0:Int))) fun b =>
 gd (c9 ((a.length:Int)-1)/\True) <|
 lp (De a b) ((a.length:Int)-1)
def P0Q:Ct:=j9 209 [.dat i64.sl,.dat i64] (fun x=>Df x.1 x.2.1) (fun r:Int×Int×Int=>AV.tup [I r.1,I r.2.1,I r.2.2]) (fun _=>())
theorem Tq:Ok prog P0Q:=by
 refine k8 [.tmp 4,.tmp 5,.tmp 6] func209 ?_;intro y ⟨a,_,_⟩ r H Q hn hr;refine iA [0,1]<|iA [0,1,7]<|iB [0,1,7] H fun H=>qD (fun b=>Z [p 0 (L i64 a),p 1 (I b),p 7 (I (a.length:Int))] []) H fun b H=>jN r (fun(_:Unit)=>Z [] []) (Zf) (fun _ H=>?_) (fun _ h j c=>?_)
 ·refine iA [4,5,6]<|j0<|hr H
 refine iB [0,1,8] H fun H=>vB<|lX (fun(d:Int)=>Z [p 0 (L i64 a),p 1 (I b),p 8 (I d)] []) ((a.length:Int)-1) H fun _ i g f e d H=>vQ<|iA [0,1,8,26]<|cD H (fun H=>?_) (fun H=>?_)
 ·refine vK<|fQ<|vQ<|vB<|vQ<|iB [0,1,8,34] H fun H=>cD H (fun H=>iA [4,5,6]<|j0<|fR<|l8<|fR<|e<|l8<|c<|hr H) fun H=>vK<|fQ<|iB [0,1,8,41] H fun H=>cD H (fun H=>iB [4,5,6] H fun H=>j0<|l8<|fR<|e<|l8<|c<|hr H) fun H=>vK<|fK<|fQ<|jB [0,1,8] H fun H=>g H
 exact vE<|fE<|f<|fX rfl<|h H
def OB(a:Int×Int×Int)(b:Int×Int×Int)(e:Int):Int->Option Int
 | c =>
 gd (c9 (a.2.1+a.2.2)/\c9 (b.2.1+b.2.2)/\c9 ((a.2.1+a.2.2)*(b.2.1+b.2.2))/\(V4 c ((a.2.1+a.2.2)*(b.2.1+b.2.2)) e).isSome/\True)<|lt (vl (V4 c ((a.2.1+a.2.2)*(b.2.1+b.2.2)) e)) fun d =>
 some d
def Tr(a:Int)(c:Int×Int->Option Int):Int->Option Int
 | b =>
 gd (c9 (a+1)/\True) <|
 c (b,a+1)
def Ip(a:Int)(c:Int×Int->Option Int):Int->Option Int
 | b =>
 gd (c9 (a+1)/\True) <|
 c (b,a+1)
def Dg(b:Int)(f:Int)(c:s8)(e:Int×Int×Int)(a:Int)(g:Int×Int×Int)(i:Int×Int->Option Int):Int->Option Int
 | d =>
 if(decide (0<d)) then
  gd (c9 (e.1+a)/\c9 ((e.1+a)*(c.2.1.length:Int))/\c9 ((e.1+a)*(c.2.1.length:Int)+g.1)/\c9 ((e.1+a)*(c.2.1.length:Int)+g.1+b)/\ix ((e.1+a)*(c.2.1.length:Int)+g.1+b) c.2.2.length/\c9 (d*c.2.2.getD ((e.1+a)*(c.2.1.length:Int)+g.1+b).toNat 0)/\c9 (f+d*c.2.2.getD ((e.1+a)*(c.2.1.length:Int)+g.1+b).toNat 0)/\True)<|lt (f+d*c.2.2.getD ((e.1+a)*(c.2.1.length:Int)+g.1+b).toNat 0) fun h =>
  Ip b i h
 else
  Ip b i f
def Kv(b:Int)(d:Int)(g:s8)(h:Int×Int×Int)(e:Int)(c:Int×Int×Int)(f:Int×Int->Option Int):Int->Option Int
 | a =>
 if(b==0) then
  gd (c9 (a*c.2.1)/\True) <|
  Dg b d g h e c f (a*c.2.1)
 else
  gd (c9 (a*c.2.2)/\True) <|
  Dg b d g h e c f (a*c.2.2)
def Gt(f:s8)(d:Int×Int×Int)(a:Int)(g:Int×Int×Int)(h:Int×Int->Option Int)(e:Int×Int->Option Int):Int×Int->Option Int
 | (c,b) =>
 if(decide (b<2)) then
  if(a==1) then
   Kv b c f d a g e d.2.2
  else
   Kv b c f d a g e d.2.1
 else
  Tr a h c
def Iq(f:s8)(c:Int×Int×Int)(d:Int×Int×Int)(g:Int)(e:Int×Int->Option Int):Int×Int->Option Int
 | (b,a) =>
 if(decide (a<2)) then
  lp (Gt f c a d e) (b,0)
 else
  OB c d g b
def BB(a:s8)(b:Int)(c:Int)(d:Int):Option Int :=
 gd ((Df a.1 b).isSome/\True)<|lt (vl (Df a.1 b)) fun e =>
 gd ((Df a.2.1 c).isSome/\True)<|lt (vl (Df a.2.1 c)) fun f =>
 lp (Iq a e f d) (0,0)
def Q0i:Ct:=j9 182 [.agg y70,.dat i64,.dat i64,.dat i64] (fun x=>BB x.1 x.2.1 x.2.2.1 x.2.2.2.1) (fun r:Int=>I r) (fun _=>())
theorem OC:Ok prog Q0i:=by
 refine k8 [.tmp 8] func182 ?_;intro y ⟨e,_,_,g,_⟩ r H Q hn hr;have:=hz (tc DZ (tc Tq tn));refine iA [1,2,3,4]<|iD Tq [2,3,4,9,10,11] H fun b H=>iD Tq [3,4,9,10,11,12,13,14] H fun a H=>iA [3,4,9,10,11,12,13,14,15]<|iA [3,4,9,10,11,12,13,14,15,16]<|jN r (fun(m:Int)=>Z [p 3 (J g),p 10 (I b.2.1),p 11 (I b.2.2),p 13 (I a.2.1),p 14 (I a.2.2),p 16 (I m)] []) (OB b a g) (fun m H=>?_) (fun _ F e0 G=>?_)
 ·refine iD DZ [8] H fun _ H=>j0<|hr H
 refine iA [3,4,9,10,11,12,13,14,15,16,17]<|vB<|lX (fun((h,c):Int×Int)=>Z (G9 g b.1 b.2.1 b.2.2 a.1 a.2.1 a.2.2 (e.2.1.length:Int) h [p 17 (I c)]) [(4,K 70 y70 e)]) (0,0) H fun _ u w x t1 ⟨h,c⟩ H=>vQ<|iA [3,4,9,10,11,12,13,14,15,16,17,40]<|cD H (fun H=>?_) (fun H=>?_)
 ·refine vK<|fQ<|jN r (fun(i:Int)=>Z (G9 g b.1 b.2.1 b.2.2 a.1 a.2.1 a.2.2 (e.2.1.length:Int) i [p 17 (I c)]) [(4,K 70 y70 e)]) (Tr c u) (fun i H=>?_) (fun _ E V W=>?_)
  ·refine jB [3,4,9,10,11,12,13,14,15,16,17] H fun H=>w H
  refine vB<|iA [3,4,9,10,11,12,13,14,15,16,17,18]<|vB<|lX (fun((f,d):Int×Int)=>Z (G9 g b.1 b.2.1 b.2.2 a.1 a.2.1 a.2.2 (e.2.1.length:Int) f [p 17 (I c),p 18 (I d)]) [(4,K 70 y70 e)]) (h,0) H fun _ o z v t3 ⟨f,d⟩ H=>vQ<|iA [3,4,9,10,11,12,13,14,15,16,17,18,44]<|cD H (fun H=>?_) (fun H=>?_)
  ·refine vK<|fQ<|jN r (fun(l:Int)=>Z (G9 g b.1 b.2.1 b.2.2 a.1 a.2.1 a.2.2 (e.2.1.length:Int) l [p 17 (I c),p 18 (I d)]) [(4,K 70 y70 e)]) (Ip d o) (fun l H=>?_) (fun _ s P t4=>?_)
   ·refine jB [3,4,9,10,11,12,13,14,15,16,17,18] H fun H=>z H
   refine vB<|iA [3,4,9,10,11,12,13,14,15,16,17,18,19]<|jN r (fun(n:Int)=>Z (G9 g b.1 b.2.1 b.2.2 a.1 a.2.1 a.2.2 (e.2.1.length:Int) f [p 17 (I c),p 18 (I d),p 19 (I n)]) [(4,K 70 y70 e)]) (Kv d f e b c a o) (fun n H=>?_) (fun _ q e5 X=>?_)
   ·refine jN r (fun(j:Int)=>Z (G9 g b.1 b.2.1 b.2.2 a.1 a.2.1 a.2.2 (e.2.1.length:Int) f [p 17 (I c),p 18 (I d),p 19 (I j)]) [(4,K 70 y70 e)]) (Dg d f e b c a o) (fun j H=>?_) (fun _ t Y T=>?_)
    ·refine iA [3,4,9,10,11,12,13,14,15,16,17,18,19,60]<|cD H (fun H=>zD (fun k=>Z (G9 g b.1 b.2.1 b.2.2 a.1 a.2.1 a.2.2 (e.2.1.length:Int) k [p 17 (I c),p 18 (I d)]) [(4,K 70 y70 e)]) H fun k H=>fK<|s H) fun H=>vK<|fK<|s H
    refine iA [3,4,9,10,11,12,13,14,15,16,17,18,19,52]<|cD H (fun H=>jB [3,4,9,10,11,12,13,14,15,16,17,18,19] H fun H=>t H) fun H=>jB [3,4,9,10,11,12,13,14,15,16,17,18,19] H fun H=>t H
   refine iA [3,4,9,10,11,12,13,14,15,16,17,18,19,49]<|cD H (fun H=>jA [3,4,9,10,11,12,13,14,15,16,17,18,19]<|q H) fun H=>vK<|q H
  exact vE<|fE<|v<|fX rfl<|fK<|E H
 exact vE<|fE<|x<|fX rfl<|F H
def Gu(a:j7)(c:l7):Option (z7×Int) :=
 gd ((I6 a.2.1).isSome/\(0:Int) < (2:Int)/\ix (c.2.1.tdiv (2:Int)) (vl (I6 a.2.1)).length/\(c.2.1.tdiv (2:Int)).toNat < (vl (I6 a.2.1)).length/\True)<|lt ((vl (I6 a.2.1),(vl (I6 a.2.1)).getD (c.2.1.tdiv 2).toNat (b7 r8))) fun(_,b) =>
 gd (ix b.1 a.2.1.1.length/\ix (a.2.1.1.getD b.1.toNat (b7 y139)).2.1 a.1.length/\ix c.2.2.2 (a.1.getD (a.2.1.1.getD b.1.toNat (b7 y139)).2.1.toNat (b7 y64)).2.2.2.1.length/\(Au a b.2.2.1).isSome/\ix (0:Int) (vl (Au a b.2.2.1)).length/\Int.toNat (0:Int) < (vl (Au a b.2.2.1)).length/\True)<|lt ((vl (Au a b.2.2.1),(a.1.getD (a.2.1.1.getD b.1.toNat (b7 y139)).2.1.toNat (b7 y64)).2.2.2.1.getD c.2.2.2.toNat (b7 y67))) fun(d,e) =>
 some ((e,d.getD (Int.toNat (0:Int)) (0:Int)))
def Q0j:Ct:=j9 181 [.agg l9,.agg y80] (fun x=>Gu x.1 x.2.1) (fun r:z7×Int=>AV.tup [AV.agg [I r.1.1,I r.1.2.1,I r.1.2.2.1,I r.1.2.2.2.1,L y70 r.1.2.2.2.2.1,L y70 r.1.2.2.2.2.2],I r.2]) (fun _=>())
theorem OD:Ok prog Q0j:=by
 refine k8 [.cell 4 67,.tmp 5] func181 ?_;intro y ⟨d,e,_⟩ r H Q hn hr;have:=hz (tc Tn (tc Aa tn));refine iA [2,3,4]<|qD (fun(b,c)=>Z (G7 [p 4 (R 4),p 6 (R 6)]) [(6,bx 190 (p9 true r8 c)),(9,A 190 r8 b 0),(4,bx 67 [I 0,I 0,I 0,I 0,nil,nil]),(3,K 80 y80 e),(2,K 34 l9 d)]) H fun⟨b,c⟩ H =>
  qD (fun(a,f)=>Z [p 4 (R 4),p 5 (I (a.getD (Int.toNat (0:Int)) (0:Int)))] [(4,K 67 y67 f),(36,A 2 i64 a 0),(6,bx 190 (p9 true r8 c)),(9,A 190 r8 b 0),(3,K 80 y80 e),(2,K 34 l9 d)]) H fun⟨a,f⟩ H =>
  j0<|hr H
def AW(b:j7)(a:l7)(e:Int)(d:Int):Option Int :=
 if(a.2.2.1==1) then
  gd ((Gu b a).isSome/\True)<|lt (vl (Gu b a)) fun c =>
  gd ((0:Int) < (2:Int)/\ix (a.2.1.tmod (2:Int)) c.1.2.2.2.2.2.length/\(BB (c.1.2.2.2.2.2.getD (a.2.1.tmod (2:Int)).toNat (b7 y70)) e c.2 d).isSome/\True)<|lt (vl (BB (c.1.2.2.2.2.2.getD (a.2.1.tmod 2).toNat (b7 y70)) e c.2 d)) fun g =>
  some g
 else
  gd ((BA b a).isSome/\(Ku b (vl (BA b a)) a.2.2.2 e d).isSome/\True)<|lt (vl (Ku b (vl (BA b a)) a.2.2.2 e d)) fun f =>
  some (min 1000000 f)
def Q0F:Ct:=j9 155 [.agg l9,.agg y80,.dat i64,.dat i64] (fun x=>AW x.1 x.2.1 x.2.2.1 x.2.2.2.1) (fun r:Int=>I r) (fun _=>())
theorem Tt:Ok prog Q0F:=by
 refine k8 [.tmp 8] func155 ?_;intro y ⟨_,_,_,_,_⟩ r H Q hn hr;have:=hz (tc Zd (tc Ze (tc OC (tc OD tn))));refine iA [2,3,4,5]<|vQ<|iA [2,3,4,5,13]<|cD H (fun H=>iD OD [2,3,5,9,10] H fun _ H=>iD OC [8] H fun _ H=>j0<|fR<|hr H) fun H=>vK<|fQ<|iD Zd [8] H fun _ H=>j0<|hr H
def Gv(a:p5)(c:Int)(b:Int):Option Int :=
 if(c==1) then
  if(b==0) then
   some a.2.1
  else
   some a.2.2.1
 else
  if(b==0) then
   some a.2.2.2.1
  else
   some a.2.2.2.2
def Q0e:Ct:=j9 186 [.agg r5,.dat i64,.dat i64] (fun x=>Gv x.1 x.2.1 x.2.2.1) (fun r:Int=>I r) (fun _=>())
theorem O0A:Ok prog Q0e:=by
 refine k8 [.tmp 6] func186 ?_;intro y ⟨_,_,_,_⟩ r H Q hn hr;refine iA [1,2,3]<|vQ<|iA [2,3,8]<|cD H (fun H=>?_) (fun H=>?_)
 ·refine vQ<|iA [3,10]<|cD H (fun H=>iA [6]<|j0<|fR<|fR<|hr H) fun H=>vK<|fQ<|iA [6]<|j0<|fR<|hr H
 refine vK<|fQ<|vQ<|iA [3,16]<|cD H (fun H=>iA [6]<|j0<|fR<|hr H) fun H=>vK<|fQ<|iA [6]<|j0<|hr H
def Zg:List Int->Option (List Int)
 | a =>
 some a
def Zh(d:List Int)(b:j7)(c:Int)(e:Int)(g:Int×List Int->Option (List Int)):Int×List Int->Option (List Int)
 | (a,f) =>
 gd (ix c b.2.2.length/\True) <|
 if(decide (a < (↑(b.2.2.getD c.toNat (b7 l6)).2.2.2.length:Int))) then
  gd (ix c b.2.2.length/\ix a (b.2.2.getD c.toNat (b7 l6)).2.2.2.length/\ix ((b.2.2.getD c.toNat (b7 l6)).2.2.2.getD a.toNat 0) d.length/\Int.toNat ((b.2.2.getD c.toNat (b7 l6)).2.2.2.getD a.toNat 0)<d.length/\(V4 (d.getD (Int.toNat ((b.2.2.getD c.toNat (b7 l6)).2.2.2.getD a.toNat 0)) 0) 1000 e).isSome/\(f.length+[vl (V4 (d.getD (Int.toNat ((b.2.2.getD c.toNat (b7 l6)).2.2.2.getD a.toNat 0)) 0) 1000 e)].length<=9223372036854775807/\(f.length+[vl (V4 (d.getD (Int.toNat ((b.2.2.getD c.toNat (b7 l6)).2.2.2.getD a.toNat 0)) 0) 1000 e)].length)*8<=140737488355328)/\True)<|lt (vl (V4 (d.getD (Int.toNat ((b.2.2.getD c.toNat (b7 l6)).2.2.2.getD a.toNat 0)) 0) 1000 e)) fun h =>
  gd (c9 (a+1)/\True) <|
  g (a+1,f++[h])
 else
  Zg f
def Gw(a:j7)(b:Int)(d:Int):Option (List Int) :=
 gd ((Co a b).isSome/\True)<|lt (vl (Co a b)) fun c =>
 lp (Zh c a b d) (0,[])
def Q0h:Ct:=j9 183 [.agg l9,.dat i64,.dat i64] (fun x=>Gw x.1 x.2.1 x.2.2.1) (fun r:List Int=>AV.ow 2 true i64 r) (fun _=>())
theorem Zi:Ok prog Q0h:=by
 refine k8 [.tmp 6] func183 ?_;intro y ⟨e,f,g,_⟩ r H Q hn hr;have:=hz (tc DZ (tc Tp tn));refine iA [1,2,3]<|iD Tp [1,2,3,7] H fun h H=>iA [1,2,3,7,8]<|jN r (fun(c:List Int)=>Z [p 8 (O 13)] [(13,A 2 i64 c 0)]) (Zg) (fun c H=>?_) (fun _ j m l=>?_)
 ·refine iA [6]<|j0<|hr H
 refine iA [1,2,3,7,8,9]<|vB<|lX (fun((a,b):Int×List Int)=>Z [p 1 (J f),p 2 (J g),p 3 (R 3),p 7 (O 12),p 8 (O 13),p 9 (I a)] [(13,A 2 i64 b 0),(12,A 2 i64 h 0),(3,K 34 l9 e)]) (0,[]) H fun _ k i d n ⟨a,b⟩ H=>vQ<|iB [1,2,3,7,8,9,22] H fun H=>cD H (fun H=>vK<|fQ<|vQ<|vB<|jD DZ [1,2,3,7,8,9] H fun _ H=>fK<|fQ<|jB [1,2,3,7,8,9] H fun H=>i H) fun H=>vE<|fE<|d<|fX rfl<|j H
def Ir(b:p5)(c:l7)(a:Int):Int->Option Int
 | d =>
 gd ((Gv b c.2.2.1 a).isSome/\c9 (d*vl (Gv b c.2.2.1 a))/\(V4 (d*vl (Gv b c.2.2.1 a)) 1000 a).isSome/\True)<|lt (vl (V4 (d*vl (Gv b c.2.2.1 a)) 1000 a)) fun e =>
 some e
def AY(b:j7)(e:p5)(a:l7)(f:Int)(c:Int):Option Int :=
 if(a.2.2.1==1) then
  gd ((Gu b a).isSome/\True)<|lt (vl (Gu b a)) fun d =>
  gd ((0:Int) < (2:Int)/\ix (a.2.1.tmod (2:Int)) d.1.2.2.2.2.1.length/\(BB (d.1.2.2.2.2.1.getD (a.2.1.tmod (2:Int)).toNat (b7 y70)) f d.2 c).isSome/\True)<|lt (vl (BB (d.1.2.2.2.2.1.getD (a.2.1.tmod 2).toNat (b7 y70)) f d.2 c)) fun h =>
  Ir e a c h
 else
  gd ((BA b a).isSome/\(Gw b (vl (BA b a)) c).isSome/\ix a.2.2.2 (vl (Gw b (vl (BA b a)) c)).length/\a.2.2.2.toNat < (vl (Gw b (vl (BA b a)) c)).length/\True)<|lt (vl (Gw b (vl (BA b a)) c)) fun g =>
  Ir e a c (g.getD a.2.2.2.toNat 0)
def Q0G:Ct:=j9 154 [.agg l9,.agg r5,.agg y80,.dat i64,.dat i64] (fun x=>AY x.1 x.2.1 x.2.2.1 x.2.2.2.1 x.2.2.2.2.1) (fun r:Int=>I r) (fun _=>())
theorem Tu:Ok prog Q0G:=by
 refine k8 [.tmp 10] func154 ?_;intro y ⟨_,a,b,_,d,_⟩ r H Q hn hr;have:=hz (tc DZ (tc O0A (tc Zi (tc Ze (tc OC (tc OD tn))))));refine iA [3,4,5,6,7]<|iA [3,4,5,6,7]<|jN r (fun(c:Int)=>Z [p 4 (J d),p 6 (R 6),p 7 (R 7),p 11 (I c)] [(7,K 80 y80 b),(6,K 36 r5 a)]) (Ir a b d) (fun c H=>?_) (fun _ e g f=>?_)
 ·refine iD DZ [10] H fun _ H=>j0<|hr H
 refine iA [3,4,5,6,7,16]<|cD H (fun H=>iD OD [3,4,6,7,12,13] H fun _ H=>jD OC [4,6,7,11] H fun _ H=>e H) fun H=>jD Zi [4,6,7,11] H fun _ H=>e H
def Is(a:j7)(d:p5)(c:l7)(b:u3):Option (u3×u3) :=
 gd ((AY a d c b.1 0).isSome/\(AY a d c b.1 1).isSome/\True)<|lt ((vl (AY a d c b.1 0),vl (AY a d c b.1 1))) fun(h,k) =>
 gd ((AW a c b.1 0).isSome/\(AW a c b.1 1).isSome/\True)<|lt ((vl (AW a c b.1 0),vl (AW a c b.1 1))) fun(e,i) =>
 gd ((AY a d c b.2 0).isSome/\True)<|lt (vl (AY a d c b.2 0)) fun l =>
 gd ((AY a d c b.2 1).isSome/\True)<|lt (vl (AY a d c b.2 1)) fun j =>
 gd ((AW a c b.2 0).isSome/\True)<|lt (vl (AW a c b.2 0)) fun f =>
 gd ((AW a c b.2 1).isSome/\True)<|lt (vl (AW a c b.2 1)) fun g =>
 some (((min h l,max k j),min e f,max i g))
def R0r:Ct:=j9 110 [.agg l9,.agg r5,.agg y80,.agg y51] (fun x=>Is x.1 x.2.1 x.2.2.1 x.2.2.2.1) (fun r:u3×u3=>AV.tup [AV.agg [I r.1.1,I r.1.2],AV.agg [I r.2.1,I r.2.2]]) (fun _=>())
theorem Zj:Ok prog R0r:=by
 refine k8 [.cell 8 51,.cell 9 51] func110 ?_;intro y ⟨d,e,g,f,_⟩ r H Q hn hr;have:=hz (tc Tt (tc Tu tn));refine iA [4,5,6,7,8,9]<|qD (fun(a,b)=>Z [p 4 (R 4),p 5 (R 5),p 6 (R 6),p 7 (R 7),p 8 (R 8),p 9 (R 9),p 10 (R 10)] [(10,bx 51 [I a,I b]),(9,bx 51 [I 0,I 0]),(8,bx 51 [I 0,I 0]),(7,K 51 y51 f),(6,K 80 y80 g),(5,K 36 r5 e),(4,K 34 l9 d)]) H fun⟨a,b⟩ H =>
  qD (fun(c,h)=>Z [p 4 (R 4),p 5 (R 5),p 6 (R 6),p 7 (R 7),p 8 (R 8),p 9 (R 9),p 10 (R 10),p 11 (R 11)] [(11,bx 51 [I c,I h]),(10,bx 51 [I a,I b]),(9,bx 51 [I 0,I 0]),(8,bx 51 [I 0,I 0]),(7,K 51 y51 f),(6,K 80 y80 g),(5,K 36 r5 e),(4,K 34 l9 d)]) H fun⟨c,h⟩ H =>
  iD Tu [4,5,6,7,8,9,10,11] H fun _ H =>
  iD Tu [4,6,7,8,9,10,11] H fun _ H =>
  iD Tt [4,6,7,8,9,10,11] H fun _ H =>
  iD Tt [8,9,10,11] H fun _ H =>
  iA [8,9] <|
  j0<|hr H
def Kw(a:Int):Option B7 :=
 gd ((0<=a/\a=a/\a.toNat*1<=281474976710656/\a<=9223372036854775807)/\(0<=a/\a=a/\a.toNat*16<=281474976710656/\a<=9223372036854775807)/\(0<=a/\a=a/\a.toNat*16<=281474976710656/\a<=9223372036854775807)/\True) <|
 some ((List.replicate a.toNat false,List.replicate a.toNat ((0:Int),(0:Int)),List.replicate a.toNat ((0:Int),(0:Int))))
def k78:Ct:=j9 78 [.dat i64] (fun x=>Kw x.1) (fun r:B7=>AV.agg [AV.ow 4 true Ty.bool r.1,AV.ow 51 true y51 r.2.1,AV.ow 51 true y51 r.2.2]) (fun _=>())
theorem Zk:Ok prog k78:=by
 refine k8 [.cell 2 44] func78 ?_;intro y ⟨_,_⟩ r H Q hn hr;refine iA [0,2]<|iB [2] H fun H=>j0<|hr H
def X8(a:j7):Option Int :=
 gd ((I6 a.2.1).isSome/\c9 (2*(↑(vl (I6 a.2.1)).length:Int))/\True)<|lt (vl (I6 a.2.1)) fun b =>
 some (2*(b.length:Int))
def k40:Ct:=j9 40 [.agg l9] (fun x=>X8 x.1) (fun r:Int=>I r) (fun _=>())
theorem It:Ok prog k40:=by
 refine k8 [.tmp 2] func40 ?_;intro y ⟨_,_⟩ r H Q hn hr;have:=hz (tc Aa tn);refine iA [1]<|iD Aa [2] H fun _ H=>j0<|hr H
def Zl:Unit->Option Bool
 | _ =>
 some false
def Zm(b:List Int)(d:Int)(c:Int->Option Bool):Int->Option Bool
 | a =>
 if(decide (a < (b.length:Int))) then
  gd (ix a b.length/\True) <|
  if(b.getD a.toNat 0==d) then
   some true
  else
   gd (c9 (a+1)/\True) <|
   c (a+1)
 else
  Zl ()
def T5(a:List Int)(b:Int):Option Bool :=
 lp (Zm a b) 0
def k81:Ct:=j9 81 [.dat i64.sl,.dat i64] (fun x=>T5 x.1 x.2.1) (fun r:Bool=>B r) (fun _=>())
theorem Zn:Ok prog k81:=by
 refine k8 [.tmp 4] func81 ?_;intro y ⟨d,e,_⟩ r H Q hn hr;refine iA [0,1]<|jN r (fun(_:Unit)=>Z [] []) (Zl) (fun _ H=>?_) (fun _ h j b=>?_)
 ·refine iA [4]<|j0<|hr H
 refine iA [0,1,5]<|vB<|lX (fun(a:Int)=>Z [p 0 (L i64 d),p 1 (J e),p 5 (I a)] []) 0 H fun _ i f c g a H=>vQ<|iA [0,1,5,9]<|cD H (fun H=>?_) (fun H=>?_)
 ·refine vK<|fQ<|vQ<|vB<|iB [0,1,5,17] H fun H=>cD H (fun H=>iA [4]<|j0<|l8<|fR<|g<|l8<|b<|hr H) fun H=>vK<|fK<|fQ<|jB [0,1,5] H fun H=>f H
 exact vE<|fE<|c<|fX rfl<|h H
def Zo:List Bool->Option (List Bool)
 | a =>
 some a
def Zp(b:List Int)(e:List l7)(d:Int×List Bool->Option (List Bool)):Int×List Bool->Option (List Bool)
 | (a,c) =>
 if(decide (a < (e.length:Int))) then
  gd ((T5 b a).isSome/\(c.length+[!vl (T5 b a)].length<=9223372036854775807/\(c.length+[!vl (T5 b a)].length)*1<=140737488355328)/\True) <|
  gd (c9 (a+1)/\True) <|
  d ((a+1,c++[!vl (T5 b a)]))
 else
  Zo c
def AZ(a:List l7)(b:List Int):Option (List Bool) :=
 lp (Zp b a) (0,[])
def k34:Ct:=j9 34 [.dat y80.sl,.dat i64.sl] (fun x=>AZ x.1 x.2.1) (fun r:List Bool=>AV.ow 4 true Ty.bool r) (fun _=>())
theorem OE:Ok prog k34:=by
 refine k8 [.tmp 4] func34 ?_;intro y ⟨e,f,_⟩ r H Q hn hr;have:=hz (tc Zn tn);refine iA [0,1]<|iA [0,1,5]<|jN r (fun(a:List Bool)=>Z [p 5 (O 7)] [(7,A 4 Ty.bool a 0)]) (Zo) (fun a H=>?_) (fun _ h k j=>?_)
 ·refine iA [4]<|j0<|hr H
 refine iA [0,1,5,6]<|vB<|lX (fun((b,c):Int×List Bool)=>Z [p 0 (L y80 e),p 1 (L i64 f),p 5 (O 7),p 6 (I b)] [(7,A 4 Ty.bool c 0)]) (0,[]) H fun _ i g d l ⟨b,c⟩ H=>vQ<|iA [0,1,5,6,11]<|cD H (fun H=>vK<|fQ<|vQ<|vB<|jB [0,1,5,6] H fun H=>fK<|fQ<|jB [0,1,5,6] H fun H=>g H) fun H=>vE<|fE<|d<|fX rfl<|h H
def Fa(g:List l7)(a:Int)(b:Int)(c:Int)(d:Int)(f:Int)(e:Int):Option (List l7) :=
 gd (c9 (2*a)/\c9 (2*a+c)/\c9 (2*b)/\c9 (2*b+d)/\(g.length+[(2*a+c,2*b+d,f,e)].length<=9223372036854775807/\(g.length+[(2*a+c,2*b+d,f,e)].length)*32<=140737488355328)/\True) <|
 some (g++[(2*a+c,2*b+d,f,e)])
def k77:Ct:=j9 77 [.os 80 y80,.dat i64,.dat i64,.dat i64,.dat i64,.dat i64,.dat i64] (fun x=>Fa x.1 x.2.1 x.2.2.1 x.2.2.2.1 x.2.2.2.2.1 x.2.2.2.2.2.1 x.2.2.2.2.2.2.1) (fun r:List l7=>AV.ow 80 true y80 r) (fun _=>())
theorem Kx:Ok prog k77:=by
 refine k8 [.tmp 14] func77 ?_;intro y ⟨_,_,_,_,_,_,_,_⟩ r H Q hn hr;refine iA [0,1,2,3,4,5,6]<|iB [14] H fun H=>j0<|hr H
def Zq:Unit->Option Int
 | _ =>
 some (-1)
def Zr(b:List D1)(c:Int)(d:Int->Option Int):Int->Option Int
 | a =>
 if(decide (a < (b.length:Int))) then
  gd (ix a b.length/\a.toNat<b.length/\(((b.getD a.toNat (b7 r8)).2.2.1==c)=true/\True->ix a b.length)/\(((b.getD a.toNat (b7 r8)).2.2.1==c)=true/\True->a.toNat<b.length)/\True) <|
  if((b.getD a.toNat (b7 r8)).2.2.1==c&&(b.getD a.toNat (b7 r8)).2.2.2) then
   some a
  else
   gd (c9 (a+1)/\True) <|
   d (a+1)
 else
  Zq ()
def Ky(a:r6)(c:Int):Option Int :=
 gd ((I6 a).isSome/\True)<|lt (vl (I6 a)) fun b =>
 lp (Zr b c) 0
def k75:Ct:=j9 75 [.agg y31,.dat i64] (fun x=>Ky x.1 x.2.1) (fun r:Int=>I r) (fun _=>())
theorem Zs:Ok prog k75:=by
 refine k8 [.tmp 4] func75 ?_;intro y ⟨_,d,_⟩ r H Q hn hr;have:=hz (tc Aa tn);refine iA [1,2]<|iD Aa [1,5] H fun e H=>jN r (fun(_:Unit)=>Z [] []) (Zq) (fun _ H=>?_) (fun _ h j b=>?_)
 ·refine iA [4]<|j0<|hr H
 refine iA [1,5,6]<|vB<|lX (fun(a:Int)=>Z [p 1 (J d),p 5 (O 8),p 6 (I a)] [(8,A 190 r8 e 0)]) 0 H fun _ i f c g a H=>vQ<|iA [1,5,6,12]<|cD H (fun H=>?_) (fun H=>?_)
 ·refine vK<|fQ<|vQ<|vB<|iB [1,5,6,28] H fun H=>cD H (fun H=>iA [4]<|j0<|l8<|fR<|g<|l8<|b<|hr H) fun H=>vK<|fK<|fQ<|jB [1,5,6] H fun H=>f H
 exact vE<|fE<|c<|fX rfl<|h H
def Zt:List l7->Option (List l7)
 | a =>
 some a
def Tv(b:Int)(c:Int×List l7->Option (List l7)):List l7->Option (List l7)
 | a =>
 gd (c9 (b+1)/\True) <|
 c (b+1,a)
def OF(a:Int)(c:Int×List l7->Option (List l7)):List l7->Option (List l7)
 | b =>
 gd (c9 (a+1)/\True) <|
 c (a+1,b)
def Fb(a:Int)(b:List l7)(h:Int)(g:Int)(f:Int)(i:Int)(e:Int×List l7->Option (List l7)):Bool->Option (List l7)
 | d =>
 if d then
  gd ((Fa b h g f a 1 i).isSome/\True)<|lt (vl (Fa b h g f a 1 i)) fun c =>
  OF a e c
 else
  OF a e b
def OG(g:Int)(f:Int)(c:Int)(h:Int)(d:z7)(i:Int×List l7->Option (List l7))(e:Int×List l7->Option (List l7)):Int×List l7->Option (List l7)
 | (a,b) =>
 if(decide (a<=1)) then
  if(d.1==1) then
   Fb a b g f c h e (d.2.2.2.1==3||(d.2.2.2.1==1)==(c==a))
  else
   if(d.1==2) then
    Fb a b g f c h e (c==0)
   else
    if(d.1==3) then
     Fb a b g f c h e (c==1)
    else
     Fb a b g f c h e false
 else
  Tv c i b
def OH(f:Int)(e:Int)(g:Int)(d:z7)(c:Int×List l7->Option (List l7)):Int×List l7->Option (List l7)
 | (b,a) =>
 if(decide (b<=1)) then
  lp (OG f e b g d c) (0,a)
 else
  Zt a
def Gx(a:List l7)(b:z7)(d:Int)(c:Int)(e:Int):Option (List l7) :=
 lp (OH d c e b) (0,a)
def k73:Ct:=j9 73 [.os 80 y80,.agg y67,.dat i64,.dat i64,.dat i64] (fun x=>Gx x.1 x.2.1 x.2.2.1 x.2.2.2.1 x.2.2.2.2.1) (fun r:List l7=>AV.ow 80 true y80 r) (fun _=>())
theorem Zu:Ok prog k73:=by
 refine k8 [.tmp 10] func73 ?_;intro y ⟨s,j,f,g,e,_⟩ r H Q hn hr;have:=hz (tc Kx tn);refine iA [0,2,3,4,6]<|jN r (fun(i:List l7)=>Z [p 0 (O 500000)] [(500000,A 80 y80 i 0)]) (Zt) (fun i H=>?_) (fun _ z T E=>?_)
 ·refine iA [10]<|j0<|hr H
 refine iA [0,2,3,4,6,11]<|vB<|lX (fun((c,d):Int×List l7)=>Z (Ko f g e c []) [(6,K 67 y67 j),(500000,A 80 y80 d 0)]) (0,s) H fun _ q u v Y ⟨c,d⟩ H=>vQ<|iA [0,2,3,4,6,11,15]<|cD H (fun H=>?_) (fun H=>?_)
 ·refine vK<|fQ<|jN r (fun(k:List l7)=>Z (Ko f g e c []) [(6,K 67 y67 j),(500000,A 80 y80 k 0)]) (Tv c q) (fun k H=>?_) (fun _ x G t2=>?_)
  ·refine jB [0,2,3,4,6,11] H fun H=>u H
  refine vB<|iA [0,2,3,4,6,11,12]<|vB<|lX (fun((a,b):Int×List l7)=>Z (Ko f g e c [p 12 (I a)]) [(6,K 67 y67 j),(500000,A 80 y80 b 0)]) (0,d) H fun _ o w t W ⟨a,b⟩ H=>vQ<|iA [0,2,3,4,6,11,12,19]<|cD H (fun H=>?_) (fun H=>?_)
  ·refine vK<|fQ<|jN r (fun(h:List l7)=>Z (Ko f g e c [p 12 (I a)]) [(500000,A 80 y80 h 0),(6,K 67 y67 j)]) (OF a o) (fun h H=>?_) (fun _ n F V=>?_)
   ·refine jB [0,2,3,4,6,11,12] H fun H=>w H
   refine vB<|iA [0,2,3,4,6,11,12,13]<|jN r (fun(l:Bool)=>Z (Ko f g e c [p 12 (I a),p 13 (B l)]) [(6,K 67 y67 j),(500000,A 80 y80 b 0)]) (Fb a b f g c e o) (fun l H=>?_) (fun _ m X P=>?_)
   ·refine iA [0,2,3,4,6,11,12,46]<|cD H (fun H=>jD Kx [0,2,3,4,6,11,12] H fun _ H=>fK<|n H) fun H=>vK<|fK<|n H
   refine iA [0,2,3,4,6,11,12,13,23]<|vB<|iA [0,2,3,4,6,11,12,13,23,24]<|cD H (fun H=>jA [0,2,3,4,6,11,12,13]<|fK<|m H) fun H=>iA [0,2,3,4,6,11,12,13,23,38]<|cD H (fun H=>jA [0,2,3,4,6,11,12,13]<|fK<|m H) fun H=>iA [0,2,3,4,6,11,12,13,42]<|cD H (fun H=>jA [0,2,3,4,6,11,12,13]<|fK<|m H) fun H=>vK<|fK<|m H
  exact vE<|fE<|t<|fX rfl<|fK<|x H
 exact vE<|fE<|v<|fX rfl<|z H
def Zv:Unit->Option Int
 | _ =>
 some (-1)
def Zw(b:List D1)(c:Int)(e:Int)(d:Int->Option Int):Int->Option Int
 | a =>
 if(decide (a < (b.length:Int))) then
  gd (ix a b.length/\a.toNat<b.length/\(((b.getD a.toNat (b7 r8)).1==c)=true/\True->ix a b.length)/\(((b.getD a.toNat (b7 r8)).1==c)=true/\True->a.toNat<b.length)/\True) <|
  if((b.getD a.toNat (b7 r8)).1==c&&(b.getD a.toNat (b7 r8)).2.1==e) then
   some a
  else
   gd (c9 (a+1)/\True) <|
   d (a+1)
 else
  Zv ()
def X9(a:r6)(c:Int)(d:Int):Option Int :=
 gd ((I6 a).isSome/\True)<|lt (vl (I6 a)) fun b =>
 lp (Zw b c d) 0
def k74:Ct:=j9 74 [.agg y31,.dat i64,.dat i64] (fun x=>X9 x.1 x.2.1 x.2.2.1) (fun r:Int=>I r) (fun _=>())
theorem o74:Ok prog k74:=by
 refine k8 [.tmp 6] func74 ?_;intro y ⟨_,d,e,_⟩ r H Q hn hr;have:=hz (tc Aa tn);refine iA [1,2,3]<|iD Aa [1,2,7] H fun f H=>jN r (fun(_:Unit)=>Z [] []) (Zv) (fun _ H=>?_) (fun _ i k b=>?_)
 ·refine iA [6]<|j0<|hr H
 refine iA [1,2,7,8]<|vB<|lX (fun(a:Int)=>Z [p 1 (J d),p 2 (J e),p 7 (O 10),p 8 (I a)] [(10,A 190 r8 f 0)]) 0 H fun _ j g c h a H=>vQ<|iA [1,2,7,8,14]<|cD H (fun H=>?_) (fun H=>?_)
 ·refine vK<|fQ<|vQ<|vB<|iB [1,2,7,8,32] H fun H=>cD H (fun H=>iA [6]<|j0<|l8<|fR<|h<|l8<|b<|hr H) fun H=>vK<|fK<|fQ<|jB [1,2,7,8] H fun H=>g H
 exact vE<|fE<|c<|fX rfl<|i H
def Zx:List l7->Option (List l7)
 | a =>
 some a
def Tw(a:Int)(c:Int×List l7->Option (List l7)):List l7->Option (List l7)
 | b =>
 gd (c9 (a+1)/\True) <|
 c (a+1,b)
def Zy(c:Int)(b:List Int)(f:Int)(i:Int×List l7->Option (List l7))(h:Int×List l7->Option (List l7)):Int×List l7->Option (List l7)
 | (a,d) =>
 if(decide (a < (b.length:Int))) then
  gd (ix a b.length/\a.toNat<b.length/\(Fa d c (b.getD a.toNat 0) 0 0 2 a).isSome/\True)<|lt (vl (Fa d c (b.getD a.toNat 0) 0 0 2 a)) fun e =>
  gd (ix a b.length/\a.toNat<b.length/\(Fa e c (b.getD a.toNat 0) 1 1 2 a).isSome/\True)<|lt (vl (Fa e c (b.getD a.toNat 0) 1 1 2 a)) fun g =>
  gd (c9 (a+1)/\True) <|
  h (a+1,g)
 else
  Tw f i d
def Zz(b:j7)(f:Int×List l7->Option (List l7)):Int×List l7->Option (List l7)
 | (a,c) =>
 if(decide (a < (b.2.1.2.1.length:Int))) then
  gd ((Ky b.2.1 a).isSome/\True)<|lt (vl (Ky b.2.1 a)) fun e =>
  gd ((T4 b.2.1 a).isSome/\True)<|lt (vl (T4 b.2.1 a)) fun d =>
  lp (Zy e d a f) (0,c)
 else
  Zx c
def OI(b:j7):List l7->Option (List l7)
 | a =>
 lp (Zz b) (0,a)
def Tx(b:Int)(c:Int×List l7->Option (List l7)):List l7->Option (List l7)
 | a =>
 gd (c9 (b+1)/\True) <|
 c (b+1,a)
def Kz(a:Int)(c:Int×List l7->Option (List l7)):List l7->Option (List l7)
 | b =>
 gd (c9 (a+1)/\True) <|
 c (a+1,b)
def ZA(b:m4)(e:j7)(d:Int)(h:Int×List l7->Option (List l7))(g:Int×List l7->Option (List l7)):Int×List l7->Option (List l7)
 | (a,c) =>
 if(decide (a < (b.2.2.2.1.length:Int))) then
  gd (ix a b.2.2.2.1.length/\True) <|
  if(decide ((b.2.2.2.1.getD a.toNat (b7 y67)).1<=3)) then
   gd (ix a b.2.2.2.1.length/\ix a b.2.2.2.1.length/\(X9 e.2.1 d (b.2.2.2.1.getD a.toNat (b7 y67)).2.1).isSome/\ix a b.2.2.2.1.length/\(X9 e.2.1 d (b.2.2.2.1.getD a.toNat (b7 y67)).2.2.1).isSome/\(Gx c (b.2.2.2.1.getD a.toNat (b7 y67)) (vl (X9 e.2.1 d (b.2.2.2.1.getD a.toNat (b7 y67)).2.1)) (vl (X9 e.2.1 d (b.2.2.2.1.getD a.toNat (b7 y67)).2.2.1)) a).isSome/\True)<|lt (vl (Gx c (b.2.2.2.1.getD a.toNat (b7 y67)) (vl (X9 e.2.1 d (b.2.2.2.1.getD a.toNat (b7 y67)).2.1)) (vl (X9 e.2.1 d (b.2.2.2.1.getD a.toNat (b7 y67)).2.2.1)) a)) fun f =>
   Kz a g f
  else
   Kz a g c
 else
  Tx d h c
def ZB(a:j7)(e:Int×List l7->Option (List l7)):Int×List l7->Option (List l7)
 | (b,d) =>
 if(decide (b < (a.2.1.1.length:Int))) then
  gd (ix b a.2.1.1.length/\ix (a.2.1.1.getD b.toNat (b7 y139)).2.1 a.1.length/\True)<|lt (a.1.getD (a.2.1.1.getD b.toNat (b7 y139)).2.1.toNat (b7 y64)) fun c =>
  lp (ZA c a b e) (0,d)
 else
  OI a d
def u32(a:j7):Option (List l7) :=
 lp (ZB a) (0,[])
def k32:Ct:=j9 32 [.agg l9] (fun x=>u32 x.1) (fun r:List l7=>AV.ow 80 true y80 r) (fun _=>())
theorem Cp:Ok prog k32:=by
 refine k8 [.tmp 2] func32 ?_;intro y ⟨a,_⟩ r H Q hn hr;have:=hz (tc Kx (tc Gs (tc Zs (tc Zu (tc o74 tn)))));refine iA [1]<|iA [1,3]<|iA [1,3,4]<|jN r (fun(f:List l7)=>Z [p 3 (O 12),p 4 (R 4)] [(4,K 31 y31 a.2.1),(12,A 80 y80 f 0)]) (OI a) (fun f H=>?_) (fun _ X e0 Y=>?_)
 ·refine jN r (fun(m:List l7)=>Z [p 3 (O 12)] [(12,A 80 y80 m 0)]) (Zx) (fun m H=>?_) (fun _ x e5 t5=>?_)
  ·refine iA [2]<|j0<|hr H
  refine iA [3,4,8]<|vB<|lX (fun((b,g):Int×List l7)=>Z [p 3 (O 12),p 4 (R 4),p 8 (I b)] [(4,K 31 y31 a.2.1),(12,A 80 y80 g 0)]) (0,f) H fun _ P E F t6 ⟨b,g⟩ H=>vQ<|iA [3,4,8,73]<|cD H (fun H=>?_) (fun H=>?_)
  ·refine vK<|fQ<|jN r (fun(j:List l7)=>Z [p 3 (O 12),p 4 (R 4),p 8 (I b)] [(4,K 31 y31 a.2.1),(12,A 80 y80 j 0)]) (Tw b P) (fun j H=>?_) (fun _ V e7 t7=>?_)
   ·refine jB [3,4,8] H fun H=>E H
   refine vB<|iD Zs [3,4,8,9] H fun q H=>iD Gs [3,4,8,9,10] H fun s H=>iA [3,4,8,9,10,11]<|vB<|lX (fun((k,l):Int×List l7)=>Z [p 3 (O 12),p 4 (R 4),p 8 (I b),p 9 (I q),p 10 (O 81),p 11 (I k)] [(81,A 2 i64 s 0),(4,K 31 y31 a.2.1),(12,A 80 y80 l 0)]) (0,g) H fun _ g8 b8 e8 t8 ⟨k,l⟩ H=>vQ<|iA [3,4,8,9,10,11,85]<|cD H (fun H=>vK<|fQ<|vQ<|vB<|iD Kx [3,4,8,9,10,11] H fun _ H=>jD Kx [3,4,8,9,10,11] H fun _ H=>fK<|fQ<|jB [3,4,8,9,10,11] H fun H=>b8 H) fun H=>vE<|fE<|e8<|fX rfl<|fK<|V H
  exact vE<|fE<|F<|fX rfl<|x H
 refine iA [1,3,4,5]<|vB<|lX (fun((e,o):Int×List l7)=>Z (Kq e []) [(4,K 31 y31 a.2.1),(12,A 80 y80 o 0),(1,K 34 l9 a)]) (0,[]) H fun _ u w z t1 ⟨e,o⟩ H=>vQ<|iA [1,3,4,5,19]<|cD H (fun H=>?_) (fun H=>?_)
 ·refine vK<|fQ<|jN r (fun(h:List l7)=>Z (Kq e []) [(4,K 31 y31 a.2.1),(12,A 80 y80 h 0),(1,K 34 l9 a)]) (Tx e u) (fun h H=>?_) (fun _ W e2 t2=>?_)
  ·refine jB [1,3,4,5] H fun H=>w H
  refine vB<|qD (fun d=>Z (Kq e [p 6 (L y67 d.2.2.2.1)]) [(4,K 31 y31 a.2.1),(12,A 80 y80 o 0),(1,K 34 l9 a)]) H fun d H=>iA [1,3,4,5,6,7]<|vB<|lX (fun((c,i):Int×List l7)=>Z (Kq e [p 6 (L y67 d.2.2.2.1),p 7 (I c)]) [(4,K 31 y31 a.2.1),(12,A 80 y80 i 0),(1,K 34 l9 a)]) (0,o) H fun _ T G v t3 ⟨c,i⟩ H=>vQ<|iA [1,3,4,5,6,7,37]<|cD H (fun H=>?_) (fun H=>?_)
  ·refine vK<|fQ<|jN r (fun(n:List l7)=>Z (Kq e [p 6 (L y67 d.2.2.2.1),p 7 (I c)]) [(12,A 80 y80 n 0),(4,K 31 y31 a.2.1),(1,K 34 l9 a)]) (Kz c T) (fun n H=>?_) (fun _ t e4 t4=>?_)
   ·refine jB [1,3,4,5,6,7] H fun H=>G H
   refine vB<|iB [1,3,4,5,6,7,45] H fun H=>cD H (fun H=>jD Zu [1,3,4,5,6,7] H fun _ H=>fK<|t H) fun H=>vK<|fK<|t H
  exact vE<|fE<|v<|fX rfl<|fK<|W H
 exact vE<|fE<|z<|fX rfl<|X H
def ZC:List Int->Option (List Int×Bool)
 | a =>
 some (a,true)
def Iu(c:List Bool)(b:List Int)(e:Int)(d:List Bool×List Int->Option (List Int×Bool)):Int->Option (List Int×Bool)
 | a =>
 if(a==e) then
  some ([],false)
 else
  gd (ix a c.length/\a.toNat<c.length/\True) <|
  gd ((b.length+[a].length<=9223372036854775807/\(b.length+[a].length)*8<=140737488355328)/\True) <|
  d (c.set a.toNat true,b++[a])
def ZD(d:List Bool)(f:List Int)(c:Int)(b:List Bool)(e:List Bool×List Int->Option (List Int×Bool))(g:Int->Option (List Int×Bool)):Int->Option (List Int×Bool)
 | a =>
 gd ((decide (a<c)=true/\True->ix a d.length)/\(decide (a<c)=true/\True->a.toNat<d.length)/\(d.getD a.toNat false=false/\decide (a<c)=true/\True->ix a b.length)/\(d.getD a.toNat false=false/\decide (a<c)=true/\True->a.toNat<b.length)/\True) <|
 if(decide (a<c)&&(d.getD a.toNat false||b.getD a.toNat false)) then
  gd (c9 (a+1)/\True) <|
  g (a+1)
 else
  Iu d f c e a
def KA(e:List Bool)(c:List Int)(d:Int)(b:List Bool×List Int->Option (List Int×Bool)):List Bool->Option (List Int×Bool)
 | a =>
 lp (ZD e c d a b) 0
def Tz(a:Int)(c:Int×List Bool->Option (List Int×Bool)):List Bool->Option (List Int×Bool)
 | b =>
 gd (c9 (a+1)/\True) <|
 c (a+1,b)
def ZE(c:List l7)(d:List Bool)(e:List Bool)(h:List Int)(i:Int)(g:List Bool×List Int->Option (List Int×Bool))(f:Int×List Bool->Option (List Int×Bool)):Int×List Bool->Option (List Int×Bool)
 | (a,b) =>
 if(decide (a < (c.length:Int))) then
  gd (ix a d.length/\(d.getD a.toNat false=true/\True->ix a c.length)/\(d.getD a.toNat false=true/\True->ix (c.getD a.toNat (b7 y80)).1 e.length)/\(d.getD a.toNat false=true/\True->(c.getD a.toNat (b7 y80)).1.toNat<e.length)/\True) <|
  if(d.getD a.toNat false&&!e.getD (c.getD a.toNat (b7 y80)).1.toNat false) then
   gd (ix a c.length/\ix (c.getD a.toNat (b7 y80)).2.1 b.length/\(c.getD a.toNat (b7 y80)).2.1.toNat<b.length/\True) <|
   Tz a f (b.set (c.getD a.toNat (b7 y80)).2.1.toNat true)
  else
   Tz a f b
 else
  KA e h i g b
def ZF(d:List l7)(e:List Bool)(a:Int)(c:List Bool×List Int->Option (List Int×Bool)):List Bool×List Int->Option (List Int×Bool)
 | (f,b) =>
 if(decide ((b.length:Int)<a)) then
  gd ((0<=a/\a=a/\a.toNat*1<=281474976710656/\a<=9223372036854775807)/\True) <|
  lp (ZE d e f b a c) (0,List.replicate a.toNat false)
 else
  ZC b
def KB(a:Int)(b:List l7)(c:List Bool):Option (List Int×Bool) :=
 gd ((0<=a/\a=a/\a.toNat*1<=281474976710656/\a<=9223372036854775807)/\True) <|
 lp (ZF b c a) (List.replicate a.toNat false,[])
def R0a:Ct:=j9 131 [.dat i64,.dat y80.sl,.dat Ty.bool.sl] (fun x=>KB x.1 x.2.1 x.2.2.1) (fun r:List Int×Bool=>AV.tup [AV.ow 2 true i64 r.1,B r.2]) (fun _=>())
theorem O0V:Ok prog R0a:=by
 refine k8 [.tmp 6,.tmp 7] func131 ?_;intro y ⟨a,f,g,_⟩ r H Q hn hr;refine iA [0,1,2]<|iA [0,1,2,8]<|iB [0,1,2,8,9] H fun H=>jN r (fun(j:List Int)=>Z [p 8 (O 13)] [(13,A 2 i64 j 0)]) (ZC) (fun j H=>?_) (fun _ G X o=>?_)
 ·refine iA [6,7]<|j0<|hr H
 refine vB<|lX (fun((b,c):List Bool×List Int)=>Z (As a f g [p 8 (O 13),p 9 (O 15)]) [(15,A 4 Ty.bool b 0),(13,A 2 i64 c 0)]) (List.replicate a.toNat false,[]) H fun _ m s u F ⟨b,c⟩ H=>vQ<|iA [0,1,2,8,9,19]<|cD H (fun H=>?_) (fun H=>?_)
 ·refine vK<|fQ<|vB<|iB [0,1,2,8,9,10] H fun H=>jN r (fun(e:List Bool)=>Z (As a f g [p 8 (O 13),p 9 (O 15),p 10 (O 21)]) [(21,A 4 Ty.bool e 0),(15,A 4 Ty.bool b 0),(13,A 2 i64 c 0)]) (KA b c a m) (fun e H=>?_) (fun _ E V t2=>?_)
  ·refine iA [0,1,2,8,9,10,12]<|jN r (fun(h:Int)=>Z (As a f g [p 8 (O 13),p 9 (O 15),p 12 (I h)]) [(15,A 4 Ty.bool b 0),(13,A 2 i64 c 0)]) (Iu b c a m) (fun h H=>?_) (fun _ t e5 W=>?_)
   ·refine vQ<|iA [0,1,2,8,9,12,69]<|cD H (fun H=>iA [6,7]<|j0<|fR<|l8<|F<|l8<|o<|hr H) fun H=>vK<|fQ<|iB [0,1,2,8,9,12] H fun H=>jB [0,1,2,8,9] H fun H=>fK<|s H
   refine vB<|lX (fun(k:Int)=>Z (As a f g [p 8 (O 13),p 9 (O 15),p 10 (O 21),p 12 (I k)]) [(21,A 4 Ty.bool e 0),(15,A 4 Ty.bool b 0),(13,A 2 i64 c 0)]) 0 H fun _ Y v w T k H=>vQ<|iB [0,1,2,8,9,10,12,64] H fun H=>cD H (fun H=>vK<|fQ<|vB<|jB [0,1,2,8,9,10,12] H fun H=>fK<|v H) fun H=>vE<|fE<|w<|fX rfl<|t H
  refine iA [0,1,2,8,9,10,11]<|vB<|lX (fun((d,l):Int×List Bool)=>Z (As a f g [p 8 (O 13),p 9 (O 15),p 10 (O 21),p 11 (I d)]) [(21,A 4 Ty.bool l 0),(15,A 4 Ty.bool b 0),(13,A 2 i64 c 0)]) (0,List.replicate a.toNat false) H fun _ z x q t3 ⟨d,l⟩ H=>vQ<|iA [0,1,2,8,9,10,11,25]<|cD H (fun H=>?_) (fun H=>?_)
  ·refine vK<|fQ<|jN r (fun(i:List Bool)=>Z (As a f g [p 8 (O 13),p 9 (O 15),p 10 (O 21),p 11 (I d)]) [(21,A 4 Ty.bool i 0),(15,A 4 Ty.bool b 0),(13,A 2 i64 c 0)]) (Tz d z) (fun i H=>?_) (fun _ n P t4=>?_)
   ·refine jB [0,1,2,8,9,10,11] H fun H=>x H
   refine vB<|iB [0,1,2,8,9,10,11,42] H fun H=>cD H (fun H=>jB [0,1,2,8,9,10,11] H fun H=>fK<|n H) fun H=>vK<|fK<|n H
  exact vE<|fE<|q<|fX rfl<|E H
 exact vE<|fE<|u<|fX rfl<|G H
def ZG:Unit->Option Bool
 | _ =>
 some true
def ZH(b:List Int)(c:Int)(d:Int->Option Bool):Int->Option Bool
 | a =>
 if(decide (a < (b.length:Int))) then
  gd (ix a b.length/\c9 (c-1)/\(u4 (b.getD a.toNat 0) 0 (c-1)).isSome/\(decide (0<a)=true/\(!vl (u4 (b.getD a.toNat 0) 0 (c-1)))=false/\True->c9 (a-1))/\(decide (0<a)=true/\(!vl (u4 (b.getD a.toNat 0) 0 (c-1)))=false/\True->ix (a-1) b.length)/\(decide (0<a)=true/\(!vl (u4 (b.getD a.toNat 0) 0 (c-1)))=false/\True->ix a b.length)/\True) <|
  if(!vl (u4 (b.getD a.toNat 0) 0 (c-1))||decide (0<a)&&decide (b.getD a.toNat 0<=b.getD (a-1).toNat 0)) then
   some false
  else
   gd (c9 (a+1)/\True) <|
   d (a+1)
 else
  ZG ()
def OJ(a:List Int)(b:Int):Option Bool :=
 lp (ZH a b) 0
def R0b:Ct:=j9 130 [.dat i64.sl,.dat i64] (fun x=>OJ x.1 x.2.1) (fun r:Bool=>B r) (fun _=>())
theorem O0W:Ok prog R0b:=by
 refine k8 [.tmp 4] func130 ?_;intro y ⟨d,e,_⟩ r H Q hn hr;have:=hz (tc Bz tn);refine iA [0,1]<|jN r (fun(_:Unit)=>Z [] []) (ZG) (fun _ H=>?_) (fun _ h j b=>?_)
 ·refine iA [4]<|j0<|hr H
 refine iA [0,1,5]<|vB<|lX (fun(a:Int)=>Z [p 0 (L i64 d),p 1 (J e),p 5 (I a)] []) 0 H fun _ i f c g a H=>vQ<|iA [0,1,5,9]<|cD H (fun H=>?_) (fun H=>?_)
 ·refine vK<|fQ<|vQ<|vB<|iB [0,1,5,35] H fun H=>cD H (fun H=>iA [4]<|j0<|l8<|fR<|g<|l8<|b<|hr H) fun H=>vK<|fK<|fQ<|jB [0,1,5] H fun H=>f H
 exact vE<|fE<|c<|fX rfl<|h H
def ZI:Unit->Option Bool
 | _ =>
 some true
def ZJ(a:x8)(c:Int->Option Bool):Int->Option Bool
 | b =>
 if(decide (b < (a.2.2.2.length:Int))) then
  gd (ix b a.2.2.2.length/\c9 ((a.1.length:Int)-1)/\(u4 (a.2.2.2.getD b.toNat 0) 0 ((a.1.length:Int)-1)).isSome/\True) <|
  if(!vl (u4 (a.2.2.2.getD b.toNat 0) 0 ((a.1.length:Int)-1))) then
   some false
  else
   gd (c9 (b+1)/\True) <|
   c (b+1)
 else
  ZI ()
def OK(a:x8):Unit->Option Bool
 | _ =>
 lp (ZJ a) 0
def ZK(b:x8)(c:Int->Option Bool):Int->Option Bool
 | a =>
 if(decide (a < (b.1.length:Int))) then
  gd (ix a b.2.2.1.length/\(u4 (b.2.2.1.getD a.toNat 0) 0 500).isSome/\((!vl (u4 (b.2.2.1.getD a.toNat 0) 0 500))=false/\True->ix a b.2.1.length)/\((!vl (u4 (b.2.2.1.getD a.toNat 0) 0 500))=false/\True->(u4 (b.2.1.getD a.toNat 0) 0 1000).isSome)/\True) <|
  if(!vl (u4 (b.2.2.1.getD a.toNat 0) 0 500)||!vl (u4 (b.2.1.getD a.toNat 0) 0 1000)) then
   some false
  else
   gd (((a==0)=true/\True->ix a b.1.length)/\((b.1.getD a.toNat 0 != -1)=false/\(a==0)=true/\True->ix a b.2.1.length)/\(decide (0<a)=true/\(a==0&&(b.1.getD a.toNat 0 != -1||b.2.1.getD a.toNat 0 != 0))=false/\True->ix a b.1.length)/\(decide (0<a)=true/\(a==0&&(b.1.getD a.toNat 0 != -1||b.2.1.getD a.toNat 0 != 0))=false/\True->c9 (a-1))/\(decide (0<a)=true/\(a==0&&(b.1.getD a.toNat 0 != -1||b.2.1.getD a.toNat 0 != 0))=false/\True->(u4 (b.1.getD a.toNat 0) 0 (a-1)).isSome)/\True) <|
   if(a==0&&(b.1.getD a.toNat 0 != -1||b.2.1.getD a.toNat 0 != 0)||decide (0<a)&&!vl (u4 (b.1.getD a.toNat 0) 0 (a-1))) then
    some false
   else
    gd (c9 (a+1)/\True) <|
    c (a+1)
 else
  OK b ()
def KC(a:x8)(b:Int):Option Bool :=
 if(decide ((a.1.length:Int)<1)||decide (8 < (a.1.length:Int))||(a.2.1.length:Int) != (a.1.length:Int)||(a.2.2.1.length:Int) != (a.1.length:Int)||(a.2.2.2.length:Int) != b) then
  some false
 else
  lp (ZK a) 0
def k93:Ct:=j9 93 [.agg l6,.dat i64] (fun x=>KC x.1 x.2.1) (fun r:Bool=>B r) (fun _=>())
theorem o93:Ok prog k93:=by
 refine k8 [.tmp 4] func93 ?_;intro y ⟨a,_,_⟩ r H Q hn hr;have:=hz (tc Bz tn);refine iA [1,2]<|iA [1,2,5]<|vQ<|iA [2,5,37]<|cD H (fun H=>iA [4]<|j0<|fR<|hr H) fun H=>vK<|fQ<|jN r (fun(_:Unit)=>Z [p 2 (R 2),p 5 (I (a.1.length:Int))] [(2,K 153 l6 a)]) (OK a) (fun _ H=>?_) (fun _ m q b=>?_)
 ·refine jN r (fun(_:Unit)=>Z [] []) (ZI) (fun _ H=>?_) (fun _ h s l=>?_)
  ·refine iA [4]<|j0<|hr H
  refine iA [2,5,7]<|vB<|lX (fun(d:Int)=>Z [p 2 (R 2),p 5 (I (a.1.length:Int)),p 7 (I d)] [(2,K 153 l6 a)]) 0 H fun _ n k g i d H=>vQ<|iA [2,5,7,96]<|cD H (fun H=>?_) (fun H=>?_)
  ·refine vK<|fQ<|vQ<|vB<|iB [2,5,7,107] H fun H=>cD H (fun H=>iA [4]<|j0<|l8<|fR<|i<|l8<|l<|hr H) fun H=>vK<|fK<|fQ<|jB [2,5,7] H fun H=>k H
  exact vE<|fE<|g<|fX rfl<|h H
 refine iA [2,5,6]<|vB<|lX (fun(c:Int)=>Z [p 2 (R 2),p 5 (I (a.1.length:Int)),p 6 (I c)] [(2,K 153 l6 a)]) 0 H fun _ o j f e c H=>vQ<|iA [2,5,6,40]<|cD H (fun H=>?_) (fun H=>?_)
 ·refine vK<|fQ<|vQ<|vB<|vQ<|iB [2,5,6,58] H fun H=>cD H (fun H=>iA [4]<|j0<|fR<|l8<|fR<|e<|l8<|b<|hr H) fun H=>vK<|fQ<|iB [2,5,6,91] H fun H=>cD H (fun H=>iA [4]<|j0<|l8<|fR<|e<|l8<|b<|hr H) fun H=>vK<|fK<|fQ<|jB [2,5,6] H fun H=>j H
 exact vE<|fE<|f<|fX rfl<|m H
def OL(a:ByteArray):Unit->Option Bool
 | _ =>
 some (decide (1<=(a.size:Int))&&decide ((a.size:Int)<=8))
def ZL(b:ByteArray)(c:Int->Option Bool):Int->Option Bool
 | a =>
 if(decide (a < (b.size:Int))) then
  gd (ix a b.size/\(decide (97<=F3 b a.toNat)=true/\True->ix a b.size)/\True) <|
  gd (ix a b.size/\(decide (48<=F3 b a.toNat)=true/\True->ix a b.size)/\True) <|
  if(!(decide (97<=F3 b a.toNat)&&decide (F3 b a.toNat<=122))&&!(decide (48<=F3 b a.toNat)&&decide (F3 b a.toNat<=57)&&decide (0<a))) then
   some false
  else
   gd (c9 (a+1)/\True) <|
   c (a+1)
 else
  OL b ()
def Ab(a:ByteArray):Option Bool :=
 lp (ZL a) 0
def R0c:Ct:=j9 129 [.dat Ty.str] (fun x=>Ab x.1) (fun r:Bool=>B r) (fun _=>())
theorem OM:Ok prog R0c:=by
 refine k8 [.tmp 2] func129 ?_;intro y ⟨a,_⟩ r H Q hn hr;refine iA [0]<|jN r (fun(_:Unit)=>Z [p 0 (U a)] []) (OL a) (fun _ H=>?_) (fun _ g i c=>?_)
 ·refine iA [2]<|j0<|hr H
 refine iA [0,3]<|vB<|lX (fun(b:Int)=>Z [p 0 (U a),p 3 (I b)] []) 0 H fun _ h e d f b H=>vQ<|iA [0,3,9]<|cD H (fun H=>?_) (fun H=>?_)
 ·refine vK<|fQ<|vQ<|vB<|iB [0,3,4] H fun H=>iB [0,3,4,5] H fun H=>iA [0,3,41]<|cD H (fun H=>iA [2]<|j0<|l8<|fR<|f<|l8<|c<|hr H) fun H=>vK<|fK<|fQ<|jB [0,3] H fun H=>e H
 exact vE<|fE<|d<|fX rfl<|g H
def ZM:Unit->Option Bool
 | _ =>
 some true
def TA(a:Int)(b:Int->Option Bool):Unit->Option Bool
 | _ =>
 gd (c9 (a+1)/\True) <|
 b (a+1)
def ZN(b:List ByteArray)(c:Int)(d:Int->Option Bool)(e:Int->Option Bool):Int->Option Bool
 | a =>
 if(decide (a<c)) then
  gd (ix a b.length/\ix c b.length/\True) <|
  if(decide (b.getD a.toNat (b7 Ty.str)=b.getD c.toNat (b7 Ty.str))) then
   some false
  else
   gd (c9 (a+1)/\True) <|
   e (a+1)
 else
  TA c d ()
def ZO(a:List ByteArray)(c:Int->Option Bool):Int->Option Bool
 | b =>
 if(decide (b < (a.length:Int))) then
  gd (ix b a.length/\(Ab (a.getD b.toNat (b7 Ty.str))).isSome/\True) <|
  if(!vl (Ab (a.getD b.toNat (b7 Ty.str)))) then
   some false
  else
   lp (ZN a b c) 0
 else
  ZM ()
def BC(a:List ByteArray):Option Bool :=
 lp (ZO a) 0
def Q0K:Ct:=j9 148 [.dat Ty.str.sl] (fun x=>BC x.1) (fun r:Bool=>B r) (fun _=>())
theorem O0N:Ok prog Q0K:=by
 refine k8 [.tmp 2] func148 ?_;intro y ⟨b,_⟩ r H Q hn hr;have:=hz (tc OM tn);refine iA [0]<|jN r (fun(_:Unit)=>Z [] []) (ZM) (fun _ H=>?_) (fun _ n q c=>?_)
 ·refine iA [2]<|j0<|hr H
 refine iA [0,3]<|vB<|lX (fun(a:Int)=>Z [p 0 (L Ty.str b),p 3 (I a)] []) 0 H fun _ g j h e a H=>vQ<|iA [0,3,8]<|cD H (fun H=>?_) (fun H=>?_)
 ·refine vK<|fQ<|jN r (fun(_:Unit)=>Z [p 0 (L Ty.str b),p 3 (I a)] []) (TA a g) (fun _ H=>?_) (fun _ k s f=>?_)
  ·refine jB [0,3] H fun H=>j H
  refine vB<|vQ<|iB [0,3,16] H fun H=>cD H (fun H=>iA [2]<|j0<|fR<|l8<|f<|e<|l8<|c<|hr H) fun H=>vK<|fQ<|iA [0,3,4]<|vB<|lX (fun(d:Int)=>Z [p 0 (L Ty.str b),p 3 (I a),p 4 (I d)] []) 0 H fun _ o m i l d H=>vQ<|iA [0,3,4,19]<|cD H (fun H=>?_) (fun H=>?_)
  ·refine vK<|fQ<|vQ<|vB<|iB [0,3,4,30] H fun H=>cD H (fun H=>iA [2]<|j0<|l8<|fR<|l<|l8<|l8<|f<|e<|l8<|c<|hr H) fun H=>vK<|fK<|fQ<|jB [0,3,4] H fun H=>m H
  exact vE<|fE<|i<|fX rfl<|fK<|k H
 exact vE<|fE<|h<|fX rfl<|n H
def ZP:Unit->Option Bool
 | _ =>
 some true
def ZQ(a:r6)(c:Int->Option Bool):Int->Option Bool
 | b =>
 if(decide (b < (a.2.2.length:Int))) then
  gd (ix b a.2.2.length/\(u4 (a.2.2.getD b.toNat (b7 y202)).2.1 1 2).isSome/\((!vl (u4 (a.2.2.getD b.toNat (b7 y202)).2.1 1 2))=false/\True->ix b a.2.2.length)/\((!vl (u4 (a.2.2.getD b.toNat (b7 y202)).2.1 1 2))=false/\True->c9 ((a.2.1.length:Int)-1))/\((!vl (u4 (a.2.2.getD b.toNat (b7 y202)).2.1 1 2))=false/\True->(u4 (a.2.2.getD b.toNat (b7 y202)).2.2 0 ((a.2.1.length:Int)-1)).isSome)/\True) <|
  if(!vl (u4 (a.2.2.getD b.toNat (b7 y202)).2.1 1 2)||!vl (u4 (a.2.2.getD b.toNat (b7 y202)).2.2 0 ((a.2.1.length:Int)-1))) then
   some false
  else
   gd (c9 (b+1)/\True) <|
   c (b+1)
 else
  ZP ()
def ON(a:r6):Unit->Option Bool
 | _ =>
 lp (ZQ a) 0
def ZR(a:Int)(b:Int->Option Bool):Unit->Option Bool
 | _ =>
 gd (c9 (a+1)/\True) <|
 b (a+1)
def ZS(b:m9)(c:r6)(f:Int)(d:Int->Option Bool)(e:Int->Option Bool):Int->Option Bool
 | a =>
 if(decide (a < (b.2.2.length:Int))) then
  gd (ix a b.2.2.length/\c9 ((c.2.1.length:Int)-1)/\(u4 (b.2.2.getD a.toNat 0) 0 ((c.2.1.length:Int)-1)).isSome/\True) <|
  if(!vl (u4 (b.2.2.getD a.toNat 0) 0 ((c.2.1.length:Int)-1))) then
   some false
  else
   gd (c9 (a+1)/\True) <|
   e (a+1)
 else
  ZR f d ()
def ZT(c:r6)(b:List m4)(e:Int->Option Bool):Int->Option Bool
 | d =>
 if(decide (d < (c.1.length:Int))) then
  gd (ix d c.1.length/\True)<|lt (c.1.getD d.toNat (b7 y139)) fun a =>
  gd (c9 ((b.length:Int)-1)/\(u4 a.2.1 0 ((b.length:Int)-1)).isSome/\((!vl (u4 a.2.1 0 ((b.length:Int)-1)))=false/\True->ix a.2.1 b.length)/\True) <|
  if(!vl (u4 a.2.1 0 ((b.length:Int)-1))||(a.2.2.length:Int) != (↑(b.getD a.2.1.toNat (b7 y64)).2.2.1.length:Int)) then
   some false
  else
   lp (ZS a c d e) 0
 else
  ON c ()
def OO(a:List m4)(b:r6):Option Bool :=
 lp (ZT b a) 0
def Q0L:Ct:=j9 147 [.agg y64.sl,.agg y31] (fun x=>OO x.1 x.2.1) (fun r:Bool=>B r) (fun _=>())
theorem O0O:Ok prog Q0L:=by
 refine k8 [.tmp 4] func147 ?_;intro y ⟨c,a,_⟩ r H Q hn hr;have:=hz (tc Bz tn);refine iA [2,3]<|iA [2,3,5]<|jN r (fun(_:Unit)=>Z [p 3 (R 3),p 5 (I (a.2.1.length:Int))] [(3,K 31 y31 a)]) (ON a) (fun _ H=>?_) (fun _ x G e=>?_)
 ·refine jN r (fun(_:Unit)=>Z [] []) (ZP) (fun _ H=>?_) (fun _ s z t=>?_)
  ·refine iA [4]<|j0<|hr H
  refine iA [3,5,9]<|vB<|lX (fun(g:Int)=>Z [p 3 (R 3),p 5 (I (a.2.1.length:Int)),p 9 (I g)] [(3,K 31 y31 a)]) 0 H fun _ F o w m g H=>vQ<|iA [3,5,9,67]<|cD H (fun H=>?_) (fun H=>?_)
  ·refine vK<|fQ<|vQ<|vB<|iB [3,5,9,89] H fun H=>cD H (fun H=>iA [4]<|j0<|l8<|fR<|m<|l8<|t<|hr H) fun H=>vK<|fK<|fQ<|jB [3,5,9] H fun H=>o H
  exact vE<|fE<|w<|fX rfl<|s H
 refine iA [2,3,5,6]<|vB<|lX (fun(b:Int)=>Z (G7 [p 5 (I (a.2.1.length:Int)),p 6 (I b)]) (Gp a c)) 0 H fun _ j l n h b H=>vQ<|iA [2,3,5,6,17]<|cD H (fun H=>?_) (fun H=>?_)
 ·refine vK<|fQ<|jN r (fun(_:Unit)=>Z (G7 [p 5 (I (a.2.1.length:Int)),p 6 (I b)]) (Gp a c)) (ZR b j) (fun _ H=>?_) (fun _ u E i=>?_)
  ·refine jB [2,3,5,6] H fun H=>l H
  refine vB<|qD (fun d=>Z (G7 [p 5 (I (a.2.1.length:Int)),p 6 (I b),p 7 (R 7)]) ((7,K 139 y139 d)::Gp a c)) H fun d H=>vQ<|iB [2,3,5,6,7,46] H fun H=>cD H (fun H=>iA [4]<|j0<|fR<|l8<|i<|h<|l8<|e<|hr H) fun H=>vK<|fQ<|iA [2,3,5,6,7,8]<|vB<|lX (fun(f:Int)=>Z (G7 [p 5 (I (a.2.1.length:Int)),p 6 (I b),p 7 (R 7),p 8 (I f)]) ((7,K 139 y139 d)::Gp a c)) 0 H fun _ P q k v f H=>vQ<|iA [2,3,5,6,7,8,51]<|cD H (fun H=>?_) (fun H=>?_)
  ·refine vK<|fQ<|vQ<|vB<|iB [2,3,5,6,7,8,62] H fun H=>cD H (fun H=>iA [4]<|j0<|l8<|fR<|v<|l8<|l8<|i<|h<|l8<|e<|hr H) fun H=>vK<|fK<|fQ<|jB [2,3,5,6,7,8] H fun H=>q H
  exact vE<|fE<|k<|fX rfl<|fK<|u H
 exact vE<|fE<|n<|fX rfl<|x H
def ZU:List Int->Option (List Int)
 | a =>
 some a
def ZV(b:m4)(d:Int×List Int->Option (List Int)):Int×List Int->Option (List Int)
 | (a,c) =>
 if(decide (a < (b.2.2.2.1.length:Int))) then
  gd (ix a b.2.2.2.1.length/\ix (b.2.2.2.1.getD a.toNat (b7 y67)).1 c.length/\(b.2.2.2.1.getD a.toNat (b7 y67)).1.toNat<c.length/\c9 (c.getD (b.2.2.2.1.getD a.toNat (b7 y67)).1.toNat 0+1)/\ix (b.2.2.2.1.getD a.toNat (b7 y67)).1 c.length/\(b.2.2.2.1.getD a.toNat (b7 y67)).1.toNat<c.length/\True)<|lt (c.set (b.2.2.2.1.getD a.toNat (b7 y67)).1.toNat (c.getD (b.2.2.2.1.getD a.toNat (b7 y67)).1.toNat 0+1)) fun e =>
  gd (c9 (a+1)/\True) <|
  d (a+1,e)
 else
  ZU c
def KD(a:m4):Option (List Int) :=
 gd (((0:Int)<=(6:Int)/\(6:Int)=(6:Int)/\Int.toNat (6:Int)*8<=281474976710656/\(6:Int)<=(9223372036854775807:Int))/\True) <|
 lp (ZV a) ((0,List.replicate (Int.toNat (6:Int)) (0:Int)))
def P0S:Ct:=j9 207 [.agg y64] (fun x=>KD x.1) (fun r:List Int=>AV.ow 2 true i64 r) (fun _=>())
theorem ZW:Ok prog P0S:=by
 refine k8 [.tmp 2] func207 ?_;intro y ⟨c,_⟩ r H Q hn hr;refine iA [1]<|iB [1,3] H fun H=>jN r (fun(e:List Int)=>Z [p 3 (O 5)] [(5,A 2 i64 e 0)]) (ZU) (fun e H=>?_) (fun _ h k j=>?_)
 ·refine iA [2]<|j0<|hr H
 refine iA [1,3,4]<|vB<|lX (fun((a,b):Int×List Int)=>Z [p 1 (R 1),p 3 (O 5),p 4 (I a)] [(5,A 2 i64 b 0),(1,K 64 y64 c)]) ((0,List.replicate (Int.toNat (6:Int)) (0:Int))) H fun _ i g f l ⟨a,b⟩ H=>vQ<|iA [1,3,4,10]<|cD H (fun H=>vK<|fQ<|vQ<|vB<|zD (fun d=>Z [p 1 (R 1),p 3 (O 5),p 4 (I a)] [(5,A 2 i64 d 0),(1,K 64 y64 c)]) H fun d H=>fK<|fQ<|jB [1,3,4] H fun H=>g H) fun H=>vE<|fE<|f<|fX rfl<|h H
def OP(a:List Int):Unit->Option Bool
 | _ =>
 some (decide (1<=(a.length:Int))&&decide ((a.length:Int)<=4))
def ZX(b:List Int)(c:Int->Option Bool):Int->Option Bool
 | a =>
 if(decide (a < (b.length:Int))) then
  gd (ix a b.length/\(u4 (b.getD a.toNat 0) 0 100000).isSome/\(decide (0<a)=true/\(!vl (u4 (b.getD a.toNat 0) 0 100000))=false/\True->c9 (a-1))/\(decide (0<a)=true/\(!vl (u4 (b.getD a.toNat 0) 0 100000))=false/\True->ix (a-1) b.length)/\(decide (0<a)=true/\(!vl (u4 (b.getD a.toNat 0) 0 100000))=false/\True->ix a b.length)/\True) <|
  if(!vl (u4 (b.getD a.toNat 0) 0 100000)||decide (0<a)&&decide (b.getD a.toNat 0<=b.getD (a-1).toNat 0)) then
   some false
  else
   gd (c9 (a+1)/\True) <|
   c (a+1)
 else
  OP b ()
def Dh(a:List Int):Option Bool :=
 lp (ZX a) 0
def R0s:Ct:=j9 103 [.dat i64.sl] (fun x=>Dh x.1) (fun r:Bool=>B r) (fun _=>())
theorem P0d:Ok prog R0s:=by
 refine k8 [.tmp 2] func103 ?_;intro y ⟨a,_⟩ r H Q hn hr;have:=hz (tc Bz tn);refine iA [0]<|jN r (fun(_:Unit)=>Z [p 0 (L i64 a)] []) (OP a) (fun _ H=>?_) (fun _ g i c=>?_)
 ·refine iA [2]<|j0<|hr H
 refine iA [0,3]<|vB<|lX (fun(b:Int)=>Z [p 0 (L i64 a),p 3 (I b)] []) 0 H fun _ h e d f b H=>vQ<|iA [0,3,7]<|cD H (fun H=>?_) (fun H=>?_)
 ·refine vK<|fQ<|vQ<|vB<|iB [0,3,31] H fun H=>cD H (fun H=>iA [2]<|j0<|l8<|fR<|f<|l8<|c<|hr H) fun H=>vK<|fK<|fQ<|jB [0,3] H fun H=>e H
 exact vE<|fE<|d<|fX rfl<|g H
def ZY:Unit->Option Bool
 | _ =>
 some true
def ZZ(b:s8)(c:Int->Option Bool):Int->Option Bool
 | a =>
 if(decide (a < (b.2.2.length:Int))) then
  gd (ix a b.2.2.length/\(u4 (b.2.2.getD a.toNat 0) (-1000000) 1000000).isSome/\True) <|
  if(!vl (u4 (b.2.2.getD a.toNat 0) (-1000000) 1000000)) then
   some false
  else
   gd (c9 (a+1)/\True) <|
   c (a+1)
 else
  ZY ()
def Gy(a:s8):Option Bool :=
 gd ((Dh a.1).isSome/\((!vl (Dh a.1))=false/\True->(Dh a.2.1).isSome)/\((!vl (Dh a.1)||!vl (Dh a.2.1))=false/\True->c9 ((a.1.length:Int)*(a.2.1.length:Int)))/\True) <|
 if(!vl (Dh a.1)||!vl (Dh a.2.1)||(a.2.2.length:Int) != (a.1.length:Int)*(a.2.1.length:Int)) then
  some false
 else
  lp (ZZ a) 0
def Cq:Ct:=j9 45 [.agg y70] (fun x=>Gy x.1) (fun r:Bool=>B r) (fun _=>())
theorem o45:Ok prog Cq:=by
 refine k8 [.tmp 2] func45 ?_;intro y ⟨d,_⟩ r H Q hn hr;have:=hz (tc Bz (tc P0d tn));refine iA [1]<|vQ<|iB [1,26] H fun H=>cD H (fun H=>iA [2]<|j0<|fR<|hr H) fun H=>vK<|fQ<|jN r (fun(_:Unit)=>Z [] []) (ZY) (fun _ H=>?_) (fun _ g i b=>?_)
 ·refine iA [2]<|j0<|hr H
 refine iA [1,3]<|vB<|lX (fun(a:Int)=>Z (Q7 a []) [(1,K 70 y70 d)]) 0 H fun _ h e c f a H=>vQ<|iA [1,3,31]<|cD H (fun H=>?_) (fun H=>?_)
 ·refine vK<|fQ<|vQ<|vB<|iB [1,3,40] H fun H=>cD H (fun H=>iA [2]<|j0<|l8<|fR<|f<|l8<|b<|hr H) fun H=>vK<|fK<|fQ<|jB [1,3] H fun H=>e H
 exact vE<|fE<|c<|fX rfl<|g H
def A0e:Int×Int->Option (u3×Int)
 | (a,b) =>
 some (((a,b),(0:Int)))
def TB(b:s8)(e:Int×Int×Int->Option (u3×Int)):Int×Int×Int->Option (u3×Int)
 | (a,c,d) =>
 if(decide (a < (b.2.2.length:Int))) then
  gd (ix a b.2.2.length/\True) <|
  gd (ix a b.2.2.length/\True) <|
  gd (c9 (a+1)/\True) <|
  e ((a+1,min c (b.2.2.getD a.toNat 0),max d (b.2.2.getD a.toNat 0)))
 else
  A0e (c,d)
def KE(a:s8):Option (u3×Int) :=
 gd ((Gy a).isSome/\True) <|
 if(!vl (Gy a)) then
  some ((((0:Int),(0:Int)),(1:Int)))
 else
  gd (ix 0 a.2.2.length/\ix 0 a.2.2.length/\True) <|
  lp (TB a) ((1,a.2.2.getD (Int.toNat (0:Int)) (0:Int),a.2.2.getD (Int.toNat (0:Int)) (0:Int)))
def P0v:Ct:=j9 240 [.agg y70] (fun x=>KE x.1) (fun r:u3×Int=>AV.tup [AV.agg [I r.1.1,I r.1.2],I r.2]) (fun _=>())
theorem M0p:Ok prog P0v:=by
 refine k8 [.cell 2 51,.tmp 3] func240 ?_;intro y ⟨a,_⟩ r H Q hn hr;have:=hz (tc o45 tn);refine iA [1,2]<|vQ<|iB [1,2,8] H fun H=>cD H (fun H=>iA [2,3]<|j0<|fR<|hr H) fun H=>vK<|fQ<|iB [1,2,4] H fun H=>jN r (fun((e,c):Int×Int)=>Z [p 2 (R 2),p 4 (R 4)] [(4,bx 51 [J e,J c]),(2,bx 51 [I 0,I 0])]) (A0e) (fun⟨e,c⟩ H=>?_) (fun _ i l k=>?_)
 ·refine iA [2,3]<|j0<|hr H
 refine iA [1,2,4,5]<|vB<|lX (fun((b,d,f):Int×Int×Int)=>Z [p 1 (R 1),p 2 (R 2),p 4 (R 4),p 5 (I b)] [(4,bx 51 [J d,J f]),(2,bx 51 [I 0,I 0]),(1,K 70 y70 a)]) ((1,a.2.2.getD (Int.toNat (0:Int)) (0:Int),a.2.2.getD (Int.toNat (0:Int)) (0:Int))) H fun _ j h g m ⟨b,d,f⟩ H=>vQ<|iA [1,2,4,5,23]<|cD H (fun H=>vK<|fQ<|vQ<|vB<|iB [1,2,4,5] H fun H=>jB [1,2,4,5] H fun H=>fK<|fQ<|jB [1,2,4,5] H fun H=>h H) fun H=>vE<|fE<|g<|fX rfl<|i H
def A0i:Unit->Option Bool
 | _ =>
 some true
def TC(e:Bool)(b:List s8)(d:Int->Option Bool):Int->Option Bool
 | a =>
 if(decide (a<2)) then
  gd (ix a b.length/\(KE (b.getD a.toNat (b7 y70))).isSome/\True)<|lt (vl (KE (b.getD a.toNat (b7 y70)))) fun c =>
  if(c.2 != 0||e&&decide (c.1.1<0)) then
   some false
  else
   gd (c9 (a+1)/\True) <|
   d (a+1)
 else
  A0i ()
def Y0(a:List s8)(b:Bool):Option Bool :=
 if((a.length:Int) != 2) then
  some false
 else
  lp (TC b a) 0
def P0F:Ct:=j9 226 [.dat y70.sl,.dat Ty.bool] (fun x=>Y0 x.1 x.2.1) (fun r:Bool=>B r) (fun _=>())
theorem O0q:Ok prog P0F:=by
 refine k8 [.tmp 4] func226 ?_;intro y ⟨d,e,_⟩ r H Q hn hr;have:=hz (tc M0p tn);refine iA [0,1]<|vQ<|iA [0,1,10]<|cD H (fun H=>iA [4]<|j0<|fR<|hr H) fun H=>vK<|fQ<|jN r (fun(_:Unit)=>Z [] []) (A0i) (fun _ H=>?_) (fun _ h j b=>?_)
 ·refine iA [4]<|j0<|hr H
 refine iA [0,1,5]<|vB<|lX (fun(a:Int)=>Z [p 0 (L y70 d),p 1 (C e),p 5 (I a)] []) 0 H fun _ i f c g a H=>vQ<|iA [0,1,5,12]<|cD H (fun H=>?_) (fun H=>?_)
 ·refine vK<|fQ<|vQ<|vB<|iD M0p [0,1,5,6,7] H fun _ H=>iA [0,1,5,32]<|cD H (fun H=>iA [4]<|j0<|l8<|fR<|g<|l8<|b<|hr H) fun H=>vK<|fK<|fQ<|jB [0,1,5] H fun H=>f H
 exact vE<|fE<|c<|fX rfl<|h H
def Gz(c:I2)(a:z7)(b:m4):Bool->Option Bool
 | d =>
 if d then
  gd (((c.2.2.2&&decide (a.2.2.1 < (b.2.2.1.length:Int)-1))=true/\True->ix a.2.2.1 b.2.2.1.length)/\((c.2.2.2&&decide (a.2.2.1 < (b.2.2.1.length:Int)-1)&&!(b.2.2.1.getD a.2.2.1.toNat (b7 y233)).2.2.2&&a.2.2.2.1==0)=true/\True->(Y0 a.2.2.2.2.1 false).isSome)/\True) <|
  some (c.2.2.2&&decide (a.2.2.1 < (b.2.2.1.length:Int)-1)&&!(b.2.2.1.getD a.2.2.1.toNat (b7 y233)).2.2.2&&a.2.2.2.1==0&&vl (Y0 a.2.2.2.2.1 false)&&(a.2.2.2.2.2.length:Int)==0)
 else
  some false
def KF(b:I2)(a:z7)(c:m4):Bool->Option Bool
 | d =>
 if d then
  gd (((b.2.2.2&&a.2.2.1==(c.2.2.1.length:Int)-1&&a.2.2.2.1==0)=true/\True->(Y0 a.2.2.2.2.1 true).isSome)/\((b.2.2.2&&a.2.2.1==(c.2.2.1.length:Int)-1&&a.2.2.2.1==0&&vl (Y0 a.2.2.2.2.1 true))=true/\True->(Y0 a.2.2.2.2.2 true).isSome)/\True) <|
  some (b.2.2.2&&a.2.2.1==(c.2.2.1.length:Int)-1&&a.2.2.2.1==0&&vl (Y0 a.2.2.2.2.1 true)&&vl (Y0 a.2.2.2.2.2 true))
 else
  if(a.1==4) then
   Gz b a c (a.1==4)
  else
   Gz b a c (a.1==5)
def KG(b:m4)(a:z7):Option Bool :=
 gd (c9 ((b.2.2.1.length:Int)-1)/\True) <|
 gd (c9 ((b.2.2.1.length:Int)-1-1)/\(u4 a.2.1 0 ((b.2.2.1.length:Int)-1-1)).isSome/\((!vl (u4 a.2.1 0 ((b.2.2.1.length:Int)-1-1)))=false/\True->(u4 a.2.2.1 0 ((b.2.2.1.length:Int)-1)).isSome)/\True) <|
 if(!vl (u4 a.2.1 0 ((b.2.2.1.length:Int)-1-1))||!vl (u4 a.2.2.1 0 ((b.2.2.1.length:Int)-1))) then
  some false
 else
  gd (ix a.2.1 b.2.2.1.length/\True)<|lt (b.2.2.1.getD a.2.1.toNat (b7 y233)) fun c =>
  if(a.1==1) then
   gd (((!c.2.2.2&&a.2.2.1==(b.2.2.1.length:Int)-1)=true/\True->(u4 a.2.2.2.1 1 3).isSome)/\((!c.2.2.2&&a.2.2.1==(b.2.2.1.length:Int)-1&&vl (u4 a.2.2.2.1 1 3))=true/\True->(Y0 a.2.2.2.2.1 true).isSome)/\((!c.2.2.2&&a.2.2.1==(b.2.2.1.length:Int)-1&&vl (u4 a.2.2.2.1 1 3)&&vl (Y0 a.2.2.2.2.1 true))=true/\True->(Y0 a.2.2.2.2.2 true).isSome)/\True) <|
   some (!c.2.2.2&&a.2.2.1==(b.2.2.1.length:Int)-1&&vl (u4 a.2.2.2.1 1 3)&&vl (Y0 a.2.2.2.2.1 true)&&vl (Y0 a.2.2.2.2.2 true))
  else
   if(a.1==2) then
    KF c a b (a.1==2)
   else
    KF c a b (a.1==3)
def P0T:Ct:=j9 206 [.agg y64,.agg y67] (fun x=>KG x.1 x.2.1) (fun r:Bool=>B r) (fun _=>())
theorem O0u:Ok prog P0T:=by
 refine k8 [.tmp 4] func206 ?_;intro y ⟨a,b,_⟩ r H Q hn hr;have:=hz (tc O0q (tc Bz tn));refine iA [2,3]<|iB [2,3,5] H fun H=>vQ<|iB [2,3,5,23] H fun H=>cD H (fun H=>iA [4]<|j0<|fR<|hr H) fun H=>vK<|fQ<|qD (fun c=>Z (G7 [p 5 (I ((a.2.2.1.length:Int)-1)),p 6 (C c.2.2.2)]) [(3,K 67 y67 b),(2,K 64 y64 a)]) H fun c H=>vQ<|iA [2,3,5,6,32]<|vB<|iA [2,3,5,6,32,33]<|cD H (fun H=>iB [4] H fun H=>j0<|l8<|fR<|hr H) fun H=>jN r (fun(f:Bool)=>Z (G7 [p 5 (I ((a.2.2.1.length:Int)-1)),p 6 (C c.2.2.2),p 32 (J b.1),p 58 (B f)]) [(3,K 67 y67 b),(2,K 64 y64 a)]) (KF c b a) (fun f H=>?_) (fun _ g j h=>?_)
 ·refine cD H (fun H=>iB [4] H fun H=>j0<|l8<|fR<|hr H) fun H=>jN r (fun(d:Bool)=>Z (G7 [p 5 (I ((a.2.2.1.length:Int)-1)),p 6 (C c.2.2.2),p 83 (B d)]) [(3,K 67 y67 b),(2,K 64 y64 a)]) (Gz c b a) (fun d H=>?_) (fun _ e i k=>?_)
  ·refine cD H (fun H=>iB [4] H fun H=>j0<|l8<|fR<|hr H) fun H=>vK<|fK<|fQ<|iA [4]<|j0<|hr H
  refine iA [2,3,5,6,32,83]<|cD H (fun H=>vK<|e H) fun H=>jA [2,3,5,6,83]<|e H
 refine iA [2,3,5,6,32,58]<|cD H (fun H=>vK<|g H) fun H=>jA [2,3,5,6,32,58]<|g H
def TD:Int->Option (Int×Bool)
 | a =>
 some (a,true)
def OQ(a:Int)(b:Int×Int->Option (Int×Bool)):Int->Option (Int×Bool)
 | c =>
 gd (c9 (a+1)/\True) <|
 b (c,a+1)
def OR(c:Int)(d:Int)(a:I2)(b:m4)(e:Int×Int->Option (Int×Bool)):Unit->Option (Int×Bool)
 | _ =>
 gd ((Ab a.1).isSome/\((!vl (Ab a.1))=false/\True->(u4 a.2.2.1 0 500).isSome)/\True) <|
 if(!vl (Ab a.1)||!vl (u4 a.2.2.1 0 500)) then
  some (((0:Int),false))
 else
  gd (c9 ((b.2.2.1.length:Int)-1)/\((c==(b.2.2.1.length:Int)-1&&(a.2.1 != 2||a.2.2.1 != 0||a.2.2.2))=false/\True->c9 ((b.2.2.1.length:Int)-1))/\True) <|
  if(c==(b.2.2.1.length:Int)-1&&(a.2.1 != 2||a.2.2.1 != 0||a.2.2.2)||decide (c < (b.2.2.1.length:Int)-1)&&a.2.1 != 1) then
   some (((0:Int),false))
  else
   if a.2.2.2 then
    gd (c9 (d+1)/\True) <|
    OQ c e (d+1)
   else
    OQ c e d
def A0p(b:m4)(c:I2)(d:Int)(g:Int)(e:Int×Int->Option (Int×Bool))(f:Int->Option (Int×Bool)):Int->Option (Int×Bool)
 | a =>
 if(decide (a<d)) then
  gd (ix a b.2.2.1.length/\True) <|
  if(decide ((b.2.2.1.getD a.toNat (b7 y233)).1=c.1)) then
   some (((0:Int),false))
  else
   gd (c9 (a+1)/\True) <|
   f (a+1)
 else
  OR d g c b e ()
def A0q(a:m4)(d:Int×Int->Option (Int×Bool)):Int×Int->Option (Int×Bool)
 | (c,b) =>
 if(decide (b < (a.2.2.1.length:Int))) then
  gd (ix b a.2.2.1.length/\True)<|lt (a.2.2.1.getD b.toNat (b7 y233)) fun e =>
  lp (A0p a e b c d) 0
 else
  TD c
def KH(a:m4):Option (Int×Bool) :=
 if(decide ((a.2.2.1.length:Int)<2)||decide (5 < (a.2.2.1.length:Int))) then
  some (((0:Int),false))
 else
  lp (A0q a) (0,0)
def P0U:Ct:=j9 205 [.agg y64] (fun x=>KH x.1) (fun r:Int×Bool=>AV.tup [I r.1,B r.2]) (fun _=>())
theorem M0u:Ok prog P0U:=by
 refine k8 [.tmp 2,.tmp 3] func205 ?_;intro y ⟨a,_⟩ r H Q hn hr;have:=hz (tc Bz (tc OM tn));refine iA [1]<|iA [1,4]<|vQ<|iA [1,4,17]<|cD H (fun H=>iA [2,3]<|j0<|fR<|hr H) fun H=>vK<|fQ<|iA [1,4,5]<|jN r (fun(i:Int)=>Z [p 5 (I i)] []) (TD) (fun i H=>?_) (fun _ u z e=>?_)
 ·refine iA [2,3]<|j0<|hr H
 refine iA [1,4,5,6]<|vB<|lX (fun((c,b):Int×Int)=>Z [p 1 (R 1),p 4 (I (a.2.2.1.length:Int)),p 5 (I c),p 6 (I b)] [(1,K 64 y64 a)]) (0,0) H fun _ h n o f ⟨c,b⟩ H=>vQ<|iA [1,4,5,6,20]<|cD H (fun H=>?_) (fun H=>?_)
 ·refine vK<|fQ<|jN r (fun(k:Int)=>Z [p 1 (R 1),p 4 (I (a.2.2.1.length:Int)),p 5 (I k),p 6 (I b)] [(1,K 64 y64 a)]) (OQ b h) (fun k H=>?_) (fun _ l w g=>?_)
  ·refine jB [1,4,5,6] H fun H=>n H
  refine vB<|qD (fun d=>Z [p 1 (R 1),p 4 (I (a.2.2.1.length:Int)),p 5 (I c),p 6 (I b),p 7 (R 7)] [(7,K 233 y233 d),(1,K 64 y64 a)]) H fun d H=>jN r (fun(_:Unit)=>Z [p 1 (R 1),p 4 (I (a.2.2.1.length:Int)),p 5 (I c),p 6 (I b),p 7 (R 7)] [(7,K 233 y233 d),(1,K 64 y64 a)]) (OR b c d a h) (fun _ H=>?_) (fun _ n3 v s=>?_)
  ·refine vQ<|iB [1,4,5,6,7,51] H fun H=>cD H (fun H=>iA [2,3]<|j0<|fR<|l8<|g<|f<|l8<|e<|hr H) fun H=>vK<|fQ<|vQ<|iB [1,4,5,6,7,80] H fun H=>cD H (fun H=>iA [2,3]<|j0<|fR<|l8<|g<|f<|l8<|e<|hr H) fun H=>vK<|fQ<|iA [1,4,5,6,82]<|cD H (fun H=>jB [1,4,5,6] H fun H=>fK<|l H) fun H=>vK<|fK<|l H
  refine iA [1,4,5,6,7,8]<|vB<|lX (fun(j:Int)=>Z [p 1 (R 1),p 4 (I (a.2.2.1.length:Int)),p 5 (I c),p 6 (I b),p 7 (R 7),p 8 (I j)] [(7,K 233 y233 d),(1,K 64 y64 a)]) 0 H fun _ x t m q j H=>vQ<|iA [1,4,5,6,7,8,30]<|cD H (fun H=>?_) (fun H=>?_)
  ·refine vK<|fQ<|vQ<|vB<|iB [1,4,5,6,7,8,41] H fun H=>cD H (fun H=>iA [2,3]<|j0<|l8<|fR<|q<|l8<|s<|l8<|g<|f<|l8<|e<|hr H) fun H=>vK<|fK<|fQ<|jB [1,4,5,6,7,8] H fun H=>t H
  exact vE<|fE<|m<|fX rfl<|n3 H
 exact vE<|fE<|o<|fX rfl<|u H
def A0C:Unit->Option Bool
 | _ =>
 some false
def KI(b:Int×Bool)(a:m4):Unit->Option Bool
 | _ =>
 gd (((b.1==(0:Int))=true/\True->c9 ((a.2.2.1.length:Int)-(1:Int)))/\((b.1==(0:Int))=true/\True->(0:Int)<=(a.2.2.1.length:Int)-(1:Int)/\(a.2.2.1.length:Int)-(1:Int)<=(18446744073709551615:Int))/\((b.1==(0:Int))=true/\True->((0:Int)<=(a.2.2.1.length:Int)-(1:Int)/\(a.2.2.1.length:Int)-(1:Int)<=(62:Int))/\c9 ((1:Int)*(2:Int) ^ ((a.2.2.1.length:Int)-(1:Int)).toNat))/\True) <|
 some (b.1==(0:Int)&&(a.2.2.2.2.1.length:Int)==(1:Int)*(2:j5 i64) ^ ((a.2.2.1.length:Int)-(1:Int)).toNat)
def A0z(b:m4)(c:Int×Bool)(d:Int->Option Bool):Int->Option Bool
 | a =>
 if(decide (a < (b.2.2.2.2.1.length:Int))) then
  gd (ix a b.2.2.2.2.1.length/\(u4 (b.2.2.2.2.1.getD a.toNat 0) 0 1).isSome/\True) <|
  if(!vl (u4 (b.2.2.2.2.1.getD a.toNat 0) 0 1)) then
   some false
  else
   gd (c9 (a+1)/\True) <|
   d (a+1)
 else
  KI c b ()
def OS(c:m4)(b:Int×Bool):Unit->Option Bool
 | _ =>
 gd ((KD c).isSome/\True)<|lt (vl (KD c)) fun a =>
 if(c.2.1==1) then
  lp (A0z c b) 0
 else
  if(c.2.1==2) then
   gd (((b.1==(1:Int))=true/\True->ix (1:Int) a.length)/\((b.1==(1:Int))=true/\True->Int.toNat (1:Int)<a.length)/\((b.1==(1:Int)&&a.getD (Int.toNat (1:Int)) (0:Int)==(0:Int))=true/\True->ix (2:Int) a.length)/\((b.1==(1:Int)&&a.getD (Int.toNat (1:Int)) (0:Int)==(0:Int))=true/\True->Int.toNat (2:Int)<a.length)/\((b.1==(1:Int)&&a.getD (Int.toNat (1:Int)) (0:Int)==(0:Int))=true/\True->ix (3:Int) a.length)/\((b.1==(1:Int)&&a.getD (Int.toNat (1:Int)) (0:Int)==(0:Int))=true/\True->Int.toNat (3:Int)<a.length)/\True) <|
   some (b.1==(1:Int)&&a.getD (Int.toNat (1:Int)) (0:Int)==(0:Int)&&!decide ((0:Int)<a.getD (Int.toNat (2:Int)) (0:Int))==decide ((0:Int)<a.getD (Int.toNat (3:Int)) (0:Int))&&(c.2.2.2.2.1.length:Int)==(0:Int))
  else
   if(c.2.1==3) then
    gd (((b.1==(1:Int))=true/\True->ix (1:Int) a.length)/\((b.1==(1:Int))=true/\True->Int.toNat (1:Int)<a.length)/\((b.1==(1:Int)&&decide ((0:Int)<a.getD (Int.toNat (1:Int)) (0:Int)))=true/\True->ix (2:Int) a.length)/\((b.1==(1:Int)&&decide ((0:Int)<a.getD (Int.toNat (1:Int)) (0:Int)))=true/\True->Int.toNat (2:Int)<a.length)/\((b.1==(1:Int)&&decide ((0:Int)<a.getD (Int.toNat (1:Int)) (0:Int))&&decide ((0:Int)<a.getD (Int.toNat (2:Int)) (0:Int)))=true/\True->ix (3:Int) a.length)/\((b.1==(1:Int)&&decide ((0:Int)<a.getD (Int.toNat (1:Int)) (0:Int))&&decide ((0:Int)<a.getD (Int.toNat (2:Int)) (0:Int)))=true/\True->Int.toNat (3:Int)<a.length)/\True) <|
    some (b.1==(1:Int)&&decide ((0:Int)<a.getD (Int.toNat (1:Int)) (0:Int))&&decide ((0:Int)<a.getD (Int.toNat (2:Int)) (0:Int))&&a.getD (Int.toNat (3:Int)) (0:Int)==(0:Int)&&(c.2.2.2.2.1.length:Int)==(0:Int))
   else
    A0C ()
def A0D(a:Int)(b:Int->Option Bool):Unit->Option Bool
 | _ =>
 gd (c9 (a+1)/\True) <|
 b (a+1)
def A0A(b:m4)(c:z7)(d:Int)(e:Int->Option Bool)(f:Int->Option Bool):Int->Option Bool
 | a =>
 if(decide (a<d)) then
  gd (ix a b.2.2.2.1.length/\(((b.2.2.2.1.getD a.toNat (b7 y67)).1==c.1)=true/\True->ix a b.2.2.2.1.length)/\(((b.2.2.2.1.getD a.toNat (b7 y67)).1==c.1&&(b.2.2.2.1.getD a.toNat (b7 y67)).2.1==c.2.1)=true/\True->ix a b.2.2.2.1.length)/\True) <|
  if((b.2.2.2.1.getD a.toNat (b7 y67)).1==c.1&&(b.2.2.2.1.getD a.toNat (b7 y67)).2.1==c.2.1&&(b.2.2.2.1.getD a.toNat (b7 y67)).2.2.1==c.2.2.1) then
   some false
  else
   gd (c9 (a+1)/\True) <|
   f (a+1)
 else
  A0D d e ()
def A0B(a:m4)(e:Int×Bool)(d:Int->Option Bool):Int->Option Bool
 | b =>
 if(decide (b < (a.2.2.2.1.length:Int))) then
  gd (ix b a.2.2.2.1.length/\True)<|lt (a.2.2.2.1.getD b.toNat (b7 y67)) fun c =>
  gd ((KG a c).isSome/\True) <|
  if(!vl (KG a c)) then
   some false
  else
   lp (A0A a c b d) 0
 else
  OS a e ()
def KJ(a:m4):Option Bool :=
 gd ((KH a).isSome/\True)<|lt (vl (KH a)) fun b =>
 gd (((!b.2)=false/\True->(Ab a.1).isSome)/\((!b.2||!vl (Ab a.1)||decide (8 < (a.2.2.2.1.length:Int)))=false/\True->(u4 a.2.2.2.2.2.1 0 100000).isSome)/\((!b.2||!vl (Ab a.1)||decide (8 < (a.2.2.2.1.length:Int))||!vl (u4 a.2.2.2.2.2.1 0 100000))=false/\True->(u4 a.2.2.2.2.2.2 0 100000).isSome)/\True) <|
 if(!b.2||!vl (Ab a.1)||decide (8 < (a.2.2.2.1.length:Int))||!vl (u4 a.2.2.2.2.2.1 0 100000)||!vl (u4 a.2.2.2.2.2.2 0 100000)) then
  some false
 else
  lp (A0B a b) 0
def Q0k:Ct:=j9 180 [.agg y64] (fun x=>KJ x.1) (fun r:Bool=>B r) (fun _=>())
theorem O0B:Ok prog Q0k:=by
 refine k8 [.tmp 2] func180 ?_;intro y ⟨a,_⟩ r H Q hn hr;have:=hz (tc Bz (tc ZW (tc O0u (tc OM (tc M0u tn)))));refine iA [1]<|iD M0u [1,3,4] H fun b H=>vQ<|iB [1,3,40] H fun H=>cD H (fun H=>iA [2]<|j0<|fR<|hr H) fun H=>vK<|fQ<|jN r (fun(_:Unit)=>Z (Q7 b.1 []) [(1,K 64 y64 a)]) (OS a b) (fun _ H=>?_) (fun _ E P f=>?_)
 ·refine iD ZW [1,3,8] H fun _ H=>jN r (fun(_:Unit)=>Z [] []) (A0C) (fun _ H=>?_) (fun _ w F d=>?_)
  ·refine iA [2]<|j0<|hr H
  refine iA [1,3,8,96]<|vB<|iA [1,3,8,96,97]<|cD H (fun H=>?_) (fun H=>?_)
  ·refine jN r (fun(_:Unit)=>Z (Q7 b.1 []) [(1,K 64 y64 a)]) (KI b a) (fun _ H=>?_) (fun _ o W q=>?_)
   ·refine iB [2] H fun H=>j0<|l8<|d<|hr H
   refine iA [1,3,9]<|vB<|lX (fun(g:Int)=>Z (Q7 b.1 [p 9 (I g)]) [(1,K 64 y64 a)]) 0 H fun _ T t u l g H=>vQ<|iA [1,3,9,103]<|cD H (fun H=>?_) (fun H=>?_)
   ·refine vK<|fQ<|vQ<|vB<|iB [1,3,9,112] H fun H=>cD H (fun H=>iA [2]<|j0<|l8<|fR<|l<|l8<|q<|l8<|d<|hr H) fun H=>vK<|fK<|fQ<|jB [1,3,9] H fun H=>t H
   exact vE<|fE<|u<|fX rfl<|o H
  refine iA [1,3,8,96,127]<|cD H (fun H=>iB [2] H fun H=>j0<|l8<|d<|hr H) fun H=>iA [1,3,8,154]<|cD H (fun H=>iB [2] H fun H=>j0<|l8<|d<|hr H) fun H=>vK<|fK<|w H
 refine iA [1,3,5]<|vB<|lX (fun(c:Int)=>Z (Q7 b.1 [p 5 (I c)]) [(1,K 64 y64 a)]) 0 H fun _ k n s i c H=>vQ<|iA [1,3,5,45]<|cD H (fun H=>?_) (fun H=>?_)
 ·refine vK<|fQ<|jN r (fun(_:Unit)=>Z (Q7 b.1 [p 5 (I c)]) [(1,K 64 y64 a)]) (A0D c k) (fun _ H=>?_) (fun _ x G j=>?_)
  ·refine jB [1,3,5] H fun H=>n H
  refine vB<|qD (fun e=>Z (Q7 b.1 [p 5 (I c),p 6 (R 6)]) [(6,K 67 y67 e),(1,K 64 y64 a)]) H fun e H=>vQ<|iB [1,3,5,6,56] H fun H=>cD H (fun H=>iA [2]<|j0<|fR<|l8<|j<|i<|l8<|f<|hr H) fun H=>vK<|fQ<|iA [1,3,5,6,7]<|vB<|lX (fun(h:Int)=>Z (Q7 b.1 [p 5 (I c),p 6 (R 6),p 7 (I h)]) [(6,K 67 y67 e),(1,K 64 y64 a)]) 0 H fun _ V v m z h H=>vQ<|iA [1,3,5,6,7,59]<|cD H (fun H=>?_) (fun H=>?_)
  ·refine vK<|fQ<|vQ<|vB<|iB [1,3,5,6,7,92] H fun H=>cD H (fun H=>iA [2]<|j0<|l8<|fR<|z<|l8<|l8<|j<|i<|l8<|f<|hr H) fun H=>vK<|fK<|fQ<|jB [1,3,5,6,7] H fun H=>v H
  exact vE<|fE<|m<|fX rfl<|fK<|x H
 exact vE<|fE<|s<|fX rfl<|E H
def OT(a:List m4):Unit->Option Bool
 | _ =>
 some (decide ((a.length:Int)<=8))
def A0X(a:Int)(b:Int->Option Bool):Unit->Option Bool
 | _ =>
 gd (c9 (a+1)/\True) <|
 b (a+1)
def A0V(b:List m4)(c:Int)(d:Int->Option Bool)(e:Int->Option Bool):Int->Option Bool
 | a =>
 if(decide (a<c)) then
  gd (ix a b.length/\ix c b.length/\True) <|
  if(decide ((b.getD a.toNat (b7 y64)).1=(b.getD c.toNat (b7 y64)).1)) then
   some false
  else
   gd (c9 (a+1)/\True) <|
   e (a+1)
 else
  A0X c d ()
def A0W(a:List m4)(c:Int->Option Bool):Int->Option Bool
 | b =>
 if(decide (b < (a.length:Int))) then
  gd (ix b a.length/\(KJ (a.getD b.toNat (b7 y64))).isSome/\True) <|
  if(!vl (KJ (a.getD b.toNat (b7 y64)))) then
   some false
  else
   lp (A0V a b c) 0
 else
  OT a ()
def KK(a:List m4):Option Bool :=
 lp (A0W a) 0
def Q0M:Ct:=j9 146 [.agg y64.sl] (fun x=>KK x.1) (fun r:Bool=>B r) (fun _=>())
theorem O0P:Ok prog Q0M:=by
 refine k8 [.tmp 2] func146 ?_;intro y ⟨a,_⟩ r H Q hn hr;have:=hz (tc O0B tn);refine iA [1]<|jN r (fun(_:Unit)=>Z [p 1 (R 1)] [(1,bx 26 [L y64 a])]) (OT a) (fun _ H=>?_) (fun _ n q c=>?_)
 ·refine iA [2]<|j0<|hr H
 refine iA [1,3]<|vB<|lX (fun(b:Int)=>Z (Q7 b []) [(1,bx 26 [L y64 a])]) 0 H fun _ g j h e b H=>vQ<|iA [1,3,9]<|cD H (fun H=>?_) (fun H=>?_)
 ·refine vK<|fQ<|jN r (fun(_:Unit)=>Z (Q7 b []) [(1,bx 26 [L y64 a])]) (A0X b g) (fun _ H=>?_) (fun _ k s f=>?_)
  ·refine jB [1,3] H fun H=>j H
  refine vB<|vQ<|iB [1,3,18] H fun H=>cD H (fun H=>iA [2]<|j0<|fR<|l8<|f<|e<|l8<|c<|hr H) fun H=>vK<|fQ<|iA [1,3,4]<|vB<|lX (fun(d:Int)=>Z (Q7 b [p 4 (I d)]) [(1,bx 26 [L y64 a])]) 0 H fun _ o m i l d H=>vQ<|iA [1,3,4,21]<|cD H (fun H=>?_) (fun H=>?_)
  ·refine vK<|fQ<|vQ<|vB<|iB [1,3,4,36] H fun H=>cD H (fun H=>iA [2]<|j0<|l8<|fR<|l<|l8<|l8<|f<|e<|l8<|c<|hr H) fun H=>vK<|fK<|fQ<|jB [1,3,4] H fun H=>m H
  exact vE<|fE<|i<|fX rfl<|fK<|k H
 exact vE<|fE<|h<|fX rfl<|n H
def F0H:Unit->Option Bool
 | _ =>
 some true
def A0a(b:List Int)(c:Int->Option Bool):Int->Option Bool
 | a =>
 if(decide (a < (b.length:Int))) then
  gd (ix a b.length/\a.toNat<b.length/\True) <|
  if(b.getD a.toNat 0 != 1) then
   some false
  else
   gd (c9 (a+1)/\True) <|
   c (a+1)
 else
  F0H ()
def KL:List Int->Option Bool
 | a =>
 lp (A0a a) 0
def OU(a:Int)(c:Int×List Int->Option Bool):List Int->Option Bool
 | b =>
 gd (c9 (a+1)/\True) <|
 c (a+1,b)
def F0E(c:r6)(e:Int×List Int->Option Bool):Int×List Int->Option Bool
 | (a,b) =>
 if(decide (a < (c.2.2.length:Int))) then
  gd (ix a c.2.2.length/\True) <|
  if((c.2.2.getD a.toNat (b7 y202)).2.1==1) then
   gd (ix a c.2.2.length/\ix (c.2.2.getD a.toNat (b7 y202)).2.2 b.length/\(c.2.2.getD a.toNat (b7 y202)).2.2.toNat<b.length/\c9 (b.getD (c.2.2.getD a.toNat (b7 y202)).2.2.toNat 0+1)/\ix (c.2.2.getD a.toNat (b7 y202)).2.2 b.length/\(c.2.2.getD a.toNat (b7 y202)).2.2.toNat<b.length/\True)<|lt (b.set (c.2.2.getD a.toNat (b7 y202)).2.2.toNat (b.getD (c.2.2.getD a.toNat (b7 y202)).2.2.toNat 0+1)) fun d =>
   OU a e d
  else
   OU a e b
 else
  KL b
def KM(b:r6):List Int->Option Bool
 | a =>
 lp (F0E b) (0,a)
def TE(d:r6)(f:Int×List Int->Option Bool):Int×List Int->Option Bool
 | (c,b) =>
 if(decide (c < (d.1.length:Int))) then
  gd (ix c d.1.length/\True)<|lt (d.1.getD c.toNat (b7 y139)) fun a =>
  gd (c9 ((a.2.2.length:Int)-1)/\ix ((a.2.2.length:Int)-1) a.2.2.length/\ix (a.2.2.getD ((a.2.2.length:Int)-1).toNat 0) b.length/\Int.toNat (a.2.2.getD ((a.2.2.length:Int)-1).toNat 0)<b.length/\c9 (b.getD (Int.toNat (a.2.2.getD ((a.2.2.length:Int)-1).toNat 0)) 0+1)/\ix (a.2.2.getD ((a.2.2.length:Int)-1).toNat 0) b.length/\Int.toNat (a.2.2.getD ((a.2.2.length:Int)-1).toNat 0)<b.length/\True)<|lt (b.set (Int.toNat (a.2.2.getD ((a.2.2.length:Int)-1).toNat 0)) (b.getD (Int.toNat (a.2.2.getD ((a.2.2.length:Int)-1).toNat 0)) 0+1)) fun e =>
  gd (c9 (c+1)/\True) <|
  f (c+1,e)
 else
  KM d b
def KN(a:r6)(b:List ByteArray):List ByteArray->Option Bool
 | c =>
 gd ((BC b).isSome/\((!vl (BC b))=false/\True->(BC c).isSome)/\((!vl (BC b)||!vl (BC c))=false/\True->(BC a.2.1).isSome)/\True) <|
 if(!vl (BC b)||!vl (BC c)||!vl (BC a.2.1)) then
  some false
 else
  gd ((0<=(a.2.1.length:Int)/\(a.2.1.length:Int)=(a.2.1.length:Int)/\(a.2.1.length:Int).toNat*8<=281474976710656/\(a.2.1.length:Int)<=9223372036854775807)/\True) <|
  lp (TE a) ((0,List.replicate (a.2.1.length:Int).toNat 0))
def F0F(b:r6)(e:List ByteArray)(d:Int×List ByteArray->Option Bool):Int×List ByteArray->Option Bool
 | (a,c) =>
 if(decide (a < (b.2.2.length:Int))) then
  gd (ix a b.2.2.length/\(c.length+[(b.2.2.getD a.toNat (b7 y202)).1].length<=9223372036854775807/\(c.length+[(b.2.2.getD a.toNat (b7 y202)).1].length)*16<=140737488355328)/\True) <|
  gd (c9 (a+1)/\True) <|
  d ((a+1,c++[(b.2.2.getD a.toNat (b7 y202)).1]))
 else
  KN b e c
def KO(b:r6):List ByteArray->Option Bool
 | a =>
 lp (F0F b a) (0,[])
def F0G(b:r6)(d:Int×List ByteArray->Option Bool):Int×List ByteArray->Option Bool
 | (a,c) =>
 if(decide (a < (b.1.length:Int))) then
  gd (ix a b.1.length/\(c.length+[(b.1.getD a.toNat (b7 y139)).1].length<=9223372036854775807/\(c.length+[(b.1.getD a.toNat (b7 y139)).1].length)*16<=140737488355328)/\True) <|
  gd (c9 (a+1)/\True) <|
  d ((a+1,c++[(b.1.getD a.toNat (b7 y139)).1]))
 else
  KO b c
def KP(b:List m4)(a:r6):Option Bool :=
 gd ((KK b).isSome/\((!vl (KK b)||decide (14 < (a.1.length:Int))||decide (30 < (a.2.1.length:Int))||decide (8 < (a.2.2.length:Int)))=false/\True->(OO b a).isSome)/\True) <|
 if(!vl (KK b)||decide (14 < (a.1.length:Int))||decide (30 < (a.2.1.length:Int))||decide (8 < (a.2.2.length:Int))||!vl (OO b a)) then
  some false
 else
  lp (F0G a) (0,[])
def k92:Ct:=j9 92 [.agg y64.sl,.agg y31] (fun x=>KP x.1 x.2.1) (fun r:Bool=>B r) (fun _=>())
theorem o92:Ok prog k92:=by
 refine k8 [.tmp 4] func92 ?_;intro y ⟨_,a,_⟩ r H Q hn hr;have:=hz (tc O0N (tc O0O (tc O0P tn)));refine iA [2,3]<|vQ<|iB [3,40] H fun H=>cD H (fun H=>iA [4]<|j0<|fR<|hr H) fun H=>vK<|fQ<|iA [3,5]<|jN r (fun(h:List ByteArray)=>Z [p 3 (R 3),p 5 (O 41)] [(41,A 9 Ty.str h 0),(3,K 31 y31 a)]) (KO a) (fun h H=>?_) (fun _ n0 e0 t0=>?_)
 ·refine iA [3,5,7]<|jN r (fun(s:List ByteArray)=>Z [p 3 (R 3),p 5 (O 41),p 7 (O 58)] [(58,A 9 Ty.str s 0),(41,A 9 Ty.str h 0),(3,K 31 y31 a)]) (KN a h) (fun s H=>?_) (fun _ n2 e2 t2=>?_)
  ·refine vQ<|iB [3,88] H fun H=>cD H (fun H=>iA [4]<|j0<|fR<|hr H) fun H=>vK<|fQ<|iB [3,9] H fun H=>jN r (fun(d:List Int)=>Z [p 3 (R 3),p 9 (O 92)] (Gq d a)) (KM a) (fun d H=>?_) (fun _ X e4 t4=>?_)
   ·refine jN r (fun(c:List Int)=>Z [p 9 (O 92)] [(92,A 2 i64 c 0)]) (KL) (fun c H=>?_) (fun _ n6 e6 t6=>?_)
    ·refine jN r (fun(_:Unit)=>Z [] []) (F0H) (fun _ H=>?_) (fun _ n9 e9 P=>?_)
     ·refine iA [4]<|j0<|hr H
     refine iA [9,13]<|vB<|lX (fun(l:Int)=>Z [p 9 (O 92),p 13 (I l)] [(92,A 2 i64 c 0)]) 0 H fun _ Y q o n l H=>vQ<|iA [9,13,145]<|cD H (fun H=>?_) (fun H=>?_)
     ·refine vK<|fQ<|vQ<|vB<|iB [9,13,152] H fun H=>cD H (fun H=>iA [4]<|j0<|l8<|fR<|n<|l8<|P<|hr H) fun H=>vK<|fK<|fQ<|jB [9,13] H fun H=>q H
     exact vE<|fE<|o<|fX rfl<|n9 H
    refine iA [3,9,12]<|vB<|lX (fun((b,f):Int×List Int)=>Z [p 3 (R 3),p 9 (O 92),p 12 (I b)] (Gq f a)) (0,d) H fun _ g7 F G t7 ⟨b,f⟩ H=>vQ<|iA [3,9,12,121]<|cD H (fun H=>?_) (fun H=>?_)
    ·refine vK<|fQ<|jN r (fun(j:List Int)=>Z [p 3 (R 3),p 9 (O 92),p 12 (I b)] (Gq j a)) (OU b g7) (fun j H=>?_) (fun _ v e8 t8=>?_)
     ·refine jB [3,9,12] H fun H=>F H
     refine vB<|iB [3,9,12,130] H fun H=>cD H (fun H=>zD (fun g=>Z [p 3 (R 3),p 9 (O 92),p 12 (I b)] (Gq g a)) H fun g H=>fK<|v H) fun H=>vK<|fK<|v H
    exact vE<|fE<|G<|fX rfl<|n6 H
   refine iA [3,9,10]<|vB<|lX (fun((m,e):Int×List Int)=>Z [p 3 (R 3),p 9 (O 92),p 10 (I m)] (Gq e a)) ((0,List.replicate (a.2.1.length:Int).toNat 0)) H fun _ g5 V e5 t5 ⟨m,e⟩ H=>vQ<|iA [3,9,10,97]<|cD H (fun H=>vK<|fQ<|vQ<|vB<|qD (fun k=>Z [p 3 (R 3),p 9 (O 92),p 10 (I m),p 11 (L i64 k.2.2)] (Gq e a)) H fun k H=>zD (fun i=>Z [p 3 (R 3),p 9 (O 92),p 10 (I m)] (Gq i a)) H fun i H=>fK<|fQ<|jB [3,9,10] H fun H=>V H) fun H=>vE<|fE<|e5<|fX rfl<|X H
  refine iA [3,5,7,8]<|vB<|lX (fun((t,w):Int×List ByteArray)=>Z [p 3 (R 3),p 5 (O 41),p 7 (O 58),p 8 (I t)] [(58,A 9 Ty.str w 0),(41,A 9 Ty.str h 0),(3,K 31 y31 a)]) (0,[]) H fun _ g3 W z t3 ⟨t,w⟩ H=>vQ<|iA [3,5,7,8,63]<|cD H (fun H=>vK<|fQ<|vQ<|vB<|jB [3,5,7,8] H fun H=>fK<|fQ<|jB [3,5,7,8] H fun H=>W H) fun H=>vE<|fE<|z<|fX rfl<|n2 H
 refine iA [3,5,6]<|vB<|lX (fun((x,u):Int×List ByteArray)=>Z [p 3 (R 3),p 5 (O 41),p 6 (I x)] [(41,A 9 Ty.str u 0),(3,K 31 y31 a)]) (0,[]) H fun _ g1 E T t1 ⟨x,u⟩ H=>vQ<|iA [3,5,6,46]<|cD H (fun H=>vK<|fQ<|vQ<|vB<|jB [3,5,6] H fun H=>fK<|fQ<|jB [3,5,6] H fun H=>E H) fun H=>vE<|fE<|T<|fX rfl<|n0 H
def G0B:Unit->Option Bool
 | _ =>
 some true
def G0A(b:j7)(c:Int->Option Bool):Int->Option Bool
 | a =>
 if(decide (a < (b.2.2.length:Int))) then
  gd (ix a b.2.2.length/\(T4 b.2.1 a).isSome/\(KC (b.2.2.getD a.toNat (b7 l6)) (↑(vl (T4 b.2.1 a)).length:Int)).isSome/\True)<|lt (vl (T4 b.2.1 a)) fun d =>
  if(!vl (KC (b.2.2.getD a.toNat (b7 l6)) (d.length:Int))) then
   some false
  else
   gd (c9 (a+1)/\True) <|
   c (a+1)
 else
  G0B ()
def Y1(a:j7):Option Bool :=
 gd ((KP a.1 a.2.1).isSome/\True) <|
 if(!vl (KP a.1 a.2.1)||(a.2.2.length:Int) != (a.2.1.2.1.length:Int)) then
  some false
 else
  lp (G0A a) 0
def k39:Ct:=j9 39 [.agg l9] (fun x=>Y1 x.1) (fun r:Bool=>B r) (fun _=>())
theorem KQ:Ok prog k39:=by
 refine k8 [.tmp 2] func39 ?_;intro y ⟨d,_⟩ r H Q hn hr;have:=hz (tc o93 (tc Gs (tc o92 tn)));refine iA [1]<|vQ<|iB [1,19] H fun H=>cD H (fun H=>iA [2]<|j0<|fR<|hr H) fun H=>vK<|fQ<|jN r (fun(_:Unit)=>Z [] []) (G0B) (fun _ H=>?_) (fun _ g i b=>?_)
 ·refine iA [2]<|j0<|hr H
 refine iA [1,3]<|vB<|lX (fun(a:Int)=>Z (Q7 a []) [(1,K 34 l9 d)]) 0 H fun _ h e c f a H=>vQ<|iA [1,3,24]<|cD H (fun H=>?_) (fun H=>?_)
 ·refine vK<|fQ<|vQ<|vB<|iD Gs [1,3,38] H fun _ H=>cD H (fun H=>iA [2]<|j0<|l8<|fR<|f<|l8<|b<|hr H) fun H=>vK<|fK<|fQ<|jB [1,3] H fun H=>e H
 exact vE<|fE<|c<|fX rfl<|g H
def Fc(a:j7)(b:List Int):Option Int :=
 gd ((Y1 a).isSome/\True) <|
 if(!vl (Y1 a)) then
  some 1
 else
  gd ((u32 a).isSome/\(OJ b (↑(vl (u32 a)).length:Int)).isSome/\True)<|lt (vl (u32 a)) fun c =>
  if(!vl (OJ b (c.length:Int))) then
   some 2
  else
   some 0
def k71:Ct:=j9 71 [.agg l9,.dat i64.sl] (fun x=>Fc x.1 x.2.1) (fun r:Int=>I r) (fun _=>())
theorem OV:Ok prog k71:=by
 refine k8 [.tmp 4] func71 ?_;intro y ⟨_,_,_⟩ r H Q hn hr;have:=hz (tc O0W (tc Cp (tc KQ tn)));refine iA [1,2]<|vQ<|iB [1,2,7] H fun H=>cD H (fun H=>iA [4]<|j0<|fR<|hr H) fun H=>vK<|fQ<|vQ<|iD Cp [13] H fun _ H=>cD H (fun H=>iA [4]<|j0<|fR<|hr H) fun H=>vK<|fQ<|iA [4]<|j0<|hr H
def KS(a:j7)(b:List Int):Option (List Int×Int) :=
 gd ((Fc a b).isSome/\True)<|lt (vl (Fc a b)) fun e =>
 if(e != 0) then
  some ([],e)
 else
  gd ((u32 a).isSome/\True)<|lt (vl (u32 a)) fun c =>
  gd ((X8 a).isSome/\(AZ c b).isSome/\(KB (vl (X8 a)) c (vl (AZ c b))).isSome/\True)<|lt ((vl (KB (vl (X8 a)) c (vl (AZ c b))),vl (AZ c b))) fun(d,_) =>
  if(!d.2) then
   some (([],(7:Int)))
  else
   some ((d.1,(0:Int)))
def k72:Ct:=j9 72 [.agg l9,.dat i64.sl] (fun x=>KS x.1 x.2.1) (fun r:List Int×Int=>AV.tup [AV.ow 2 true i64 r.1,I r.2]) (fun _=>())
theorem o72:Ok prog k72:=by
 refine k8 [.tmp 4,.tmp 5] func72 ?_;intro y ⟨d,_,_⟩ r H Q hn hr;have:=hz (tc O0V (tc OE (tc It (tc Cp (tc OV tn)))));refine iA [1,2]<|vQ<|iD OV [1,2,6] H fun _ H=>iA [1,2,6,14]<|cD H (fun H=>iA [4,5]<|j0<|fR<|hr H) fun H=>vK<|fQ<|iD Cp [1,2,7] H fun c H=>qD (fun(a,b)=>Z [p 8 (O 26),p 9 (B a.2)] [(26,A 2 i64 a.1 0),(25,A 4 Ty.bool b 0),(18,A 80 y80 c 0),(2,K 34 l9 d)]) H fun⟨a,b⟩ H =>
  vQ <|
  iA [8,30] <|
  cD H (fun H=>iA [4,5]<|j0<|fR<|hr H) fun H=>vK<|fQ<|iA [4,5]<|j0<|hr H
def KT(a:u3):Option Bool :=
 some (decide (0<=a.1)&&decide (a.1<=a.2)&&decide (a.2<=1000000))
def R0t:Ct:=j9 102 [.agg y51] (fun x=>KT x.1) (fun r:Bool=>B r) (fun _=>())
theorem P0e:Ok prog R0t:=by
 refine k8 [.tmp 2] func102 ?_;intro y ⟨_,_⟩ r H Q hn hr;refine iA [1]<|iA [2]<|j0<|hr H
def G0x:Unit->Option Bool
 | _ =>
 some true
def G0w(b:List m6)(c:Int)(d:Int->Option Bool):Int->Option Bool
 | a =>
 if(decide (a < (b.length:Int))) then
  gd (ix a b.length/\c9 (c-1)/\(u4 (b.getD a.toNat (b7 y53)).1 0 (c-1)).isSome/\(decide (0<a)=true/\(!vl (u4 (b.getD a.toNat (b7 y53)).1 0 (c-1)))=false/\True->c9 (a-1))/\(decide (0<a)=true/\(!vl (u4 (b.getD a.toNat (b7 y53)).1 0 (c-1)))=false/\True->ix (a-1) b.length)/\(decide (0<a)=true/\(!vl (u4 (b.getD a.toNat (b7 y53)).1 0 (c-1)))=false/\True->ix a b.length)/\((!vl (u4 (b.getD a.toNat (b7 y53)).1 0 (c-1))||decide (0<a)&&decide ((b.getD a.toNat (b7 y53)).1<=(b.getD (a-1).toNat (b7 y53)).1))=false/\True->ix a b.length)/\((!vl (u4 (b.getD a.toNat (b7 y53)).1 0 (c-1))||decide (0<a)&&decide ((b.getD a.toNat (b7 y53)).1<=(b.getD (a-1).toNat (b7 y53)).1))=false/\True->(Dd (b.getD a.toNat (b7 y53)).2.1).isSome)/\((!vl (u4 (b.getD a.toNat (b7 y53)).1 0 (c-1))||decide (0<a)&&decide ((b.getD a.toNat (b7 y53)).1<=(b.getD (a-1).toNat (b7 y53)).1)||!vl (Dd (b.getD a.toNat (b7 y53)).2.1))=false/\True->ix a b.length)/\((!vl (u4 (b.getD a.toNat (b7 y53)).1 0 (c-1))||decide (0<a)&&decide ((b.getD a.toNat (b7 y53)).1<=(b.getD (a-1).toNat (b7 y53)).1)||!vl (Dd (b.getD a.toNat (b7 y53)).2.1))=false/\True->(KT (b.getD a.toNat (b7 y53)).2.2).isSome)/\True) <|
  if(!vl (u4 (b.getD a.toNat (b7 y53)).1 0 (c-1))||decide (0<a)&&decide ((b.getD a.toNat (b7 y53)).1<=(b.getD (a-1).toNat (b7 y53)).1)||!vl (Dd (b.getD a.toNat (b7 y53)).2.1)||!vl (KT (b.getD a.toNat (b7 y53)).2.2)) then
   some false
  else
   gd (c9 (a+1)/\True) <|
   d (a+1)
 else
  G0x ()
def KU(a:j7)(c:List m6):Option Bool :=
 gd ((X8 a).isSome/\True)<|lt (vl (X8 a)) fun b =>
 lp (G0w c b) 0
def k44:Ct:=j9 44 [.agg l9,.dat y53.sl] (fun x=>KU x.1 x.2.1) (fun r:Bool=>B r) (fun _=>())
theorem o44:Ok prog k44:=by
 refine k8 [.tmp 4] func44 ?_;intro y ⟨_,d,_⟩ r H Q hn hr;have:=hz (tc P0e (tc YY (tc Bz (tc It tn))));refine iA [1,2]<|iD It [1,5] H fun e H=>jN r (fun(_:Unit)=>Z [] []) (G0x) (fun _ H=>?_) (fun _ h j b=>?_)
 ·refine iA [4]<|j0<|hr H
 refine iA [1,5,6]<|vB<|lX (fun(a:Int)=>Z [p 1 (L y53 d),p 5 (I e),p 6 (I a)] []) 0 H fun _ i f c g a H=>vQ<|iA [1,5,6,12]<|cD H (fun H=>?_) (fun H=>?_)
 ·refine vK<|fQ<|vQ<|vB<|iB [1,5,6,59] H fun H=>cD H (fun H=>iA [4]<|j0<|l8<|fR<|g<|l8<|b<|hr H) fun H=>vK<|fK<|fQ<|jB [1,5,6] H fun H=>f H
 exact vE<|fE<|c<|fX rfl<|h H
def KV(a:p5):Unit->Option Bool
 | _ =>
 gd ((Ab a.1).isSome/\True) <|
 some (vl (Ab a.1)&&decide (a.2.1<=a.2.2.1)&&decide (a.2.2.2.1<=a.2.2.2.2))
def OW(b:List Int)(d:p5)(c:Int->Option Bool):Int->Option Bool
 | a =>
 if(decide (a < (b.length:Int))) then
  gd (ix a b.length/\a.toNat<b.length/\(u4 (b.getD a.toNat 0) 100 5000).isSome/\True) <|
  if(!vl (u4 (b.getD a.toNat 0) 100 5000)) then
   some false
  else
   gd (c9 (a+1)/\True) <|
   c (a+1)
 else
  KV d ()
def KW(a:p5):Option Bool :=
 lt ([a.2.1,a.2.2.1,a.2.2.2.1,a.2.2.2.2]) fun b =>
 lp (OW b a) 0
def k70:Ct:=j9 70 [.agg r5] (fun x=>KW x.1) (fun r:Bool=>B r) (fun _=>())
theorem o70:Ok prog k70:=by
 refine k8 [.tmp 2] func70 ?_;intro y ⟨a,_⟩ r H Q hn hr;have:=hz (tc OM (tc Bz tn));refine iA [1]<|qC (fun b=>Z [p 1 (R 1),p 3 (O 13)] [(13,A 2 i64 b 0),(1,K 36 r5 a)]) H fun b H=>jN r (fun(_:Unit)=>Z [p 1 (R 1)] [(1,K 36 r5 a)]) (KV a) (fun _ H=>?_) (fun _ h j d=>?_)
 ·refine iB [2] H fun H=>j0<|hr H
 refine iA [1,3,4]<|vB<|lX (fun(c:Int)=>Z [p 1 (R 1),p 3 (O 13),p 4 (I c)] [(13,A 2 i64 b 0),(1,K 36 r5 a)]) 0 H fun _ i f e g c H=>vQ<|iA [1,3,4,17]<|cD H (fun H=>?_) (fun H=>?_)
 ·refine vK<|fQ<|vQ<|vB<|iB [1,3,4,25] H fun H=>cD H (fun H=>iA [2]<|j0<|l8<|fR<|g<|l8<|d<|hr H) fun H=>vK<|fK<|fQ<|jB [1,3,4] H fun H=>f H
 exact vE<|fE<|e<|fX rfl<|h H
def KX(a:j7)(c:p5)(b:List Int)(d:List m6):Option (List Int×Int) :=
 gd ((Y1 a).isSome/\((!vl (Y1 a))=false/\True->(KW c).isSome)/\True) <|
 if(!vl (Y1 a)||!vl (KW c)) then
  some (([],(1:Int)))
 else
  gd ((Fc a b).isSome/\((vl (Fc a b) != 0)=false/\True->(KU a d).isSome)/\True)<|lt (vl (Fc a b)) fun e =>
  if(e != 0||!vl (KU a d)) then
   some (([],(2:Int)))
  else
   gd ((KS a b).isSome/\True)<|lt (vl (KS a b)) fun f =>
   some f
def k31:Ct:=j9 31 [.agg l9,.agg r5,.dat i64.sl,.dat y53.sl] (fun x=>KX x.1 x.2.1 x.2.2.1 x.2.2.2.1) (fun r:List Int×Int=>AV.tup [AV.ow 2 true i64 r.1,I r.2]) (fun _=>())
theorem o31:Ok prog k31:=by
 refine k8 [.tmp 8,.tmp 9] func31 ?_;intro y ⟨_,_,_,_,_⟩ r H Q hn hr;have:=hz (tc o72 (tc o44 (tc OV (tc o70 (tc KQ tn)))));refine iA [2,3,4,5]<|vQ<|iB [2,3,4,17] H fun H=>cD H (fun H=>iA [8,9]<|j0<|fR<|hr H) fun H=>vK<|fQ<|vQ<|iD OV [2,4,28] H fun _ H=>cD H (fun H=>iA [8,9]<|j0<|fR<|hr H) fun H=>vK<|fQ<|iD o72 [8,9] H fun _ H=>j0<|hr H
def G0J:Unit->Option Bool
 | _ =>
 some true
def G0I(b:List u3)(c:List u3)(d:Int->Option Bool):Int->Option Bool
 | a =>
 if(decide (a < (b.length:Int))) then
  gd (ix a b.length/\ix a c.length/\True) <|
  if(!((b.getD a.toNat (b7 y51)).1==(c.getD a.toNat (b7 y51)).1&&((b.getD a.toNat (b7 y51)).2==(c.getD a.toNat (b7 y51)).2&&true))) then
   some false
  else
   gd (c9 (a+1)/\True) <|
   d (a+1)
 else
  G0J ()
def Fe(a:List u3)(b:List u3):Option Bool :=
 if((a.length:Int) != (b.length:Int)) then
  some false
 else
  lp (G0I a b) 0
def k35:Ct:=j9 35 [.dat y51.sl,.dat y51.sl] (fun x=>Fe x.1 x.2.1) (fun r:Bool=>B r) (fun _=>())
theorem o35:Ok prog k35:=by
 refine k8 [.tmp 4] func35 ?_;intro y ⟨d,e,_⟩ r H Q hn hr;refine iA [0,1]<|vQ<|iA [0,1,10]<|cD H (fun H=>iA [4]<|j0<|fR<|hr H) fun H=>vK<|fQ<|jN r (fun(_:Unit)=>Z [] []) (G0J) (fun _ H=>?_) (fun _ h j b=>?_)
 ·refine iA [4]<|j0<|hr H
 refine iA [0,1,5]<|vB<|lX (fun(a:Int)=>Z [p 0 (L y51 d),p 1 (L y51 e),p 5 (I a)] []) 0 H fun _ i f c g a H=>vQ<|iA [0,1,5,14]<|cD H (fun H=>?_) (fun H=>?_)
 ·refine vK<|fQ<|vQ<|vB<|iB [0,1,5,25] H fun H=>cD H (fun H=>iA [4]<|j0<|l8<|fR<|g<|l8<|b<|hr H) fun H=>vK<|fK<|fQ<|jB [0,1,5] H fun H=>f H
 exact vE<|fE<|c<|fX rfl<|h H
def TF(a:B7)(b:B7):Unit->Option Bool
 | _ =>
 gd ((Fe a.2.1 b.2.1).isSome/\(vl (Fe a.2.1 b.2.1)=true/\True->(Fe a.2.2 b.2.2).isSome)/\True) <|
 some (vl (Fe a.2.1 b.2.1)&&vl (Fe a.2.2 b.2.2))
def H0C(b:B7)(c:B7)(d:Int->Option Bool):Int->Option Bool
 | a =>
 if(decide (a < (b.1.length:Int))) then
  gd (ix a b.1.length/\ix a c.1.length/\True) <|
  if(!b.1.getD a.toNat false==c.1.getD a.toNat false) then
   some false
  else
   gd (c9 (a+1)/\True) <|
   d (a+1)
 else
  TF b c ()
def GA(a:B7)(b:B7):Option Bool :=
 if((a.1.length:Int) != (b.1.length:Int)) then
  some false
 else
  lp (H0C a b) 0
def k11:Ct:=j9 11 [.agg K7,.agg K7] (fun x=>GA x.1 x.2.1) (fun r:Bool=>B r) (fun _=>())
theorem o11:Ok prog k11:=by
 refine k8 [.tmp 4] func11 ?_;intro y ⟨a,b,_⟩ r H Q hn hr;have:=hz (tc o35 tn);refine iA [2,3]<|vQ<|iA [2,3,12]<|cD H (fun H=>iA [4]<|j0<|fR<|hr H) fun H=>vK<|fQ<|jN r (fun(_:Unit)=>Z (G7 []) [(3,K 44 K7 b),(2,K 44 K7 a)]) (TF a b) (fun _ H=>?_) (fun _ h j d=>?_)
 ·refine iB [4] H fun H=>j0<|hr H
 refine iA [2,3,5]<|vB<|lX (fun(c:Int)=>Z (G7 [p 5 (I c)]) [(3,K 44 K7 b),(2,K 44 K7 a)]) 0 H fun _ i f e g c H=>vQ<|iA [2,3,5,17]<|cD H (fun H=>?_) (fun H=>?_)
 ·refine vK<|fQ<|vQ<|vB<|iB [2,3,5,30] H fun H=>cD H (fun H=>iA [4]<|j0<|l8<|fR<|g<|l8<|d<|hr H) fun H=>vK<|fK<|fQ<|jB [2,3,5] H fun H=>f H
 exact vE<|fE<|e<|fX rfl<|h H
def A8(a:Int)(b:Int)(c:Int):Option Bool :=
 some (decide (b<=a)&&decide (a<=c))
def k95:Ct:=j9 95 [.dat i64,.dat i64,.dat i64] (fun x=>A8 x.1 x.2.1 x.2.2.1) (fun r:Bool=>B r) (fun _=>())
theorem Ac:Ok prog k95:=by
 refine k8 [.tmp 6] func95 ?_;intro y ⟨_,_,_,_⟩ r H Q hn hr;refine iA [0,1,2]<|iA [6]<|j0<|hr H
def Ff(a:Int):Option Bool :=
 gd ((A8 a 0 1000000).isSome/\True) <|
 some (vl (A8 a 0 1000000))
def R0n:Ct:=j9 114 [.dat i64] (fun x=>Ff x.1) (fun r:Bool=>B r) (fun _=>())
theorem P0a:Ok prog R0n:=by
 refine k8 [.tmp 2] func114 ?_;intro y ⟨_,_⟩ r H Q hn hr;have:=hz (tc Ac tn);refine iA [0]<|iB [2] H fun H=>j0<|hr H
def Fg(a:Int):Option Bool :=
 gd ((A8 a (-1000000000) 1000000000).isSome/\True) <|
 some (vl (A8 a (-1000000000) 1000000000))
def R0v:Ct:=j9 100 [.dat i64] (fun x=>Fg x.1) (fun r:Bool=>B r) (fun _=>())
theorem P0f:Ok prog R0v:=by
 refine k8 [.tmp 2] func100 ?_;intro y ⟨_,_⟩ r H Q hn hr;have:=hz (tc Ac tn);refine iA [0]<|iB [2] H fun H=>j0<|hr H
def M4(a:u3):Option Bool :=
 gd ((Fg a.1).isSome/\(vl (Fg a.1)=true/\True->(Fg a.2).isSome)/\True) <|
 some (vl (Fg a.1)&&vl (Fg a.2)&&decide (a.1<=a.2))
def k43:Ct:=j9 43 [.agg y51] (fun x=>M4 x.1) (fun r:Bool=>B r) (fun _=>())
theorem OX:Ok prog k43:=by
 refine k8 [.tmp 2] func43 ?_;intro y ⟨_,_⟩ r H Q hn hr;have:=hz (tc P0f tn);refine iA [1]<|iB [2] H fun H=>j0<|hr H
def Ba(a:u3):Option Bool :=
 gd ((M4 a).isSome/\(vl (M4 a)=true/\True->(Ff a.1).isSome)/\((vl (M4 a)&&vl (Ff a.1))=true/\True->(Ff a.2).isSome)/\True) <|
 some (vl (M4 a)&&vl (Ff a.1)&&vl (Ff a.2))
def k56:Ct:=j9 56 [.agg y51] (fun x=>Ba x.1) (fun r:Bool=>B r) (fun _=>())
theorem o56:Ok prog k56:=by
 refine k8 [.tmp 2] func56 ?_;intro y ⟨_,_⟩ r H Q hn hr;have:=hz (tc P0a (tc OX tn));refine iA [1]<|iB [2] H fun H=>j0<|hr H
def Iv(a:List u3):Option Int :=
 some (a.length:Int)
def k91:Ct:=j9 91 [.dat y51.sl] (fun x=>Iv x.1) (fun r:Int=>I r) (fun _=>())
theorem o91:Ok prog k91:=by
 refine k8 [.tmp 2] func91 ?_;intro y ⟨_,_⟩ r H Q hn hr;refine iA [0]<|iA [2]<|j0<|hr H
def KY(a:List Bool):Option Int :=
 some (a.length:Int)
def k90:Ct:=j9 90 [.dat Ty.bool.sl] (fun x=>KY x.1) (fun r:Int=>I r) (fun _=>())
theorem o90:Ok prog k90:=by
 refine k8 [.tmp 2] func90 ?_;intro y ⟨_,_⟩ r H Q hn hr;refine iA [0]<|iA [2]<|j0<|hr H
def KZ(a:List B8):Option Int :=
 some (a.length:Int)
def Q0N:Ct:=j9 145 [.dat y151.sl] (fun x=>KZ x.1) (fun r:Int=>I r) (fun _=>())
theorem M0G:Ok prog Q0N:=by
 refine k8 [.tmp 2] func145 ?_;intro y ⟨_,_⟩ r H Q hn hr;refine iA [0]<|iA [2]<|j0<|hr H
def Q8(a:C4):Option Int :=
 gd ((KZ a.2.1).isSome/\c9 (2*vl (KZ a.2.1))/\True)<|lt (vl (KZ a.2.1)) fun b =>
 some (2*b)
def k89:Ct:=j9 89 [.dat y157.pt] (fun x=>Q8 x.1) (fun r:Int=>I r) (fun _=>())
theorem GB:Ok prog k89:=by
 refine k8 [.tmp 2] func89 ?_;intro y ⟨_,_⟩ r H Q hn hr;have:=hz (tc M0G tn);refine iA [0]<|iD M0G [2] H fun _ H=>j0<|hr H
def G0C:Unit->Option Bool
 | _ =>
 some true
def K0j(b:B7)(c:Int->Option Bool):Int->Option Bool
 | a =>
 if(decide (a < (b.1.length:Int))) then
  gd (ix a b.1.length/\True) <|
  gd (ix a b.2.1.length/\(M4 (b.2.1.getD a.toNat (b7 y51))).isSome/\((!vl (M4 (b.2.1.getD a.toNat (b7 y51))))=false/\True->ix a b.2.2.length)/\((!vl (M4 (b.2.1.getD a.toNat (b7 y51))))=false/\True->(Ba (b.2.2.getD a.toNat (b7 y51))).isSome)/\((!b.1.getD a.toNat false)=true/\(!vl (M4 (b.2.1.getD a.toNat (b7 y51)))||!vl (Ba (b.2.2.getD a.toNat (b7 y51))))=false/\True->ix a b.2.1.length)/\((!((b.2.1.getD a.toNat (b7 y51)).1==0&&((b.2.1.getD a.toNat (b7 y51)).2==0&&true)))=false/\(!b.1.getD a.toNat false)=true/\(!vl (M4 (b.2.1.getD a.toNat (b7 y51)))||!vl (Ba (b.2.2.getD a.toNat (b7 y51))))=false/\True->ix a b.2.2.length)/\True)<|lt (!vl (M4 (b.2.1.getD a.toNat (b7 y51)))||!vl (Ba (b.2.2.getD a.toNat (b7 y51)))||!b.1.getD a.toNat false&&(!((b.2.1.getD a.toNat (b7 y51)).1==0&&((b.2.1.getD a.toNat (b7 y51)).2==0&&true))||!((b.2.2.getD a.toNat (b7 y51)).1==0&&((b.2.2.getD a.toNat (b7 y51)).2==0&&true)))) fun d =>
  if d then
   some false
  else
   gd (c9 (a+1)/\True) <|
   c (a+1)
 else
  G0C ()
def u38(c:C4)(a:B7):Option Bool :=
 gd ((Q8 c).isSome/\True)<|lt (vl (Q8 c)) fun b =>
 gd ((KY a.1).isSome/\((vl (KY a.1) != b)=false/\True->(Iv a.2.1).isSome)/\((vl (KY a.1) != b||vl (Iv a.2.1) != b)=false/\True->(Iv a.2.2).isSome)/\True)<|lt ((vl (KY a.1),vl (Iv a.2.1),vl (Iv a.2.2))) fun(f,d,e) =>
 if(f != b||d != b||e != b) then
  some false
 else
  lp (K0j a) 0
def k38:Ct:=j9 38 [.dat y157.pt,.agg K7] (fun x=>u38 x.1 x.2.1) (fun r:Bool=>B r) (fun _=>())
theorem o38:Ok prog k38:=by
 refine k8 [.tmp 4] func38 ?_;intro y ⟨_,a,_⟩ r H Q hn hr;have:=hz (tc o56 (tc OX (tc o91 (tc o90 (tc GB tn)))));refine iA [0,3]<|iD GB [3,5] H fun b H=>vQ<|qD (fun(g,d,f)=>Z [p 3 (R 3),p 28 (B (g != b||d != b||f != b))] [(3,K 44 K7 a)]) H fun⟨g,d,f⟩ H =>
  cD H (fun H=>iA [4]<|j0<|fR<|hr H) fun H=>vK<|fQ<|jN r (fun(_:Unit)=>Z [] []) (G0C) (fun _ H=>?_) (fun _ l n h=>?_)
 ·refine iA [4]<|j0<|hr H
 refine iA [3,30,31,32]<|vB<|lX (fun(c:Int)=>Z [p 3 (R 3),p 30 (L Ty.bool a.1),p 31 (I (a.1.length:Int)),p 32 (I c)] [(3,K 44 K7 a)]) 0 H fun _ m j i k c H=>iA [3,30,31,32,33]<|vQ<|cD H (fun H=>?_) (fun H=>?_)
 ·refine vK<|fQ<|vQ<|vB<|iB [3,6,7,30,31,32] H fun H=>qD (fun e=>Z [p 3 (R 3),p 30 (L Ty.bool a.1),p 31 (I (a.1.length:Int)),p 32 (I c),p 74 (B e)] [(3,K 44 K7 a)]) H fun e H=>cD H (fun H=>iA [4]<|j0<|l8<|fR<|k<|l8<|h<|hr H) fun H=>vK<|fK<|fQ<|jB [3,30,31,32] H fun H=>j H
 exact vE<|fE<|i<|fX rfl<|l H
def GC(b:r6)(c:List m4)(a:B8):Option Int :=
 if(decide (a.1<0)) then
  some 0
 else
  gd (ix a.1 b.1.length/\ix (b.1.getD a.1.toNat (b7 y139)).2.1 c.length/\ix a.2.1 (c.getD (b.1.getD a.1.toNat (b7 y139)).2.1.toNat (b7 y64)).2.2.1.length/\True)<|lt ((c.getD (b.1.getD a.1.toNat (b7 y139)).2.1.toNat (b7 y64)).2.2.1.getD a.2.1.toNat (b7 y233)) fun d =>
  some d.2.2.1
def Q0P:Ct:=j9 143 [.agg y31,.agg y64.sl,.agg y151] (fun x=>GC x.1 x.2.1 x.2.2.1) (fun r:Int=>I r) (fun _=>())
theorem O0Q:Ok prog Q0P:=by
 refine k8 [.tmp 6] func143 ?_;intro y ⟨b,c,d,_⟩ r H Q hn hr;refine iA [3,4,5]<|vQ<|iA [3,4,5,9]<|cD H (fun H=>iA [6]<|j0<|fR<|hr H) fun H=>vK<|fQ<|qD (fun a=>Z [p 6 (J a.2.2.1)] [(5,K 151 y151 d),(4,bx 26 [L y64 c]),(3,K 31 y31 b)]) H fun a H=>j0<|hr H
def F0P:List B8->Option (List B8)
 | a =>
 some a
def F0M(d:r6)(e:Int×List B8->Option (List B8)):Int×List B8->Option (List B8)
 | (a,c) =>
 if(decide (a < (d.2.2.length:Int))) then
  gd (ix a d.2.2.length/\True)<|lt (d.2.2.getD a.toNat (b7 y202)) fun b =>
  gd ((c.length+[(-1,a,b.2.2,b.2.1==1)].length<=9223372036854775807/\(c.length+[(-1,a,b.2.2,b.2.1==1)].length)*32<=140737488355328)/\True) <|
  gd (c9 (a+1)/\True) <|
  e ((a+1,c++[(-1,a,b.2.2,b.2.1==1)]))
 else
  F0P c
def La(b:r6):List B8->Option (List B8)
 | a =>
 lp (F0M b) (0,a)
def TH(b:Int)(c:List B8×Int->Option (List B8)):List B8->Option (List B8)
 | a =>
 gd (c9 (b+1)/\True) <|
 c (a,b+1)
def F0N(d:Int)(b:m9)(f:List B8×Int->Option (List B8))(g:Int×List B8->Option (List B8)):Int×List B8->Option (List B8)
 | (a,c) =>
 if(decide (a < (b.2.2.length:Int))) then
  gd (ix a b.2.2.length/\True) <|
  gd (c9 ((b.2.2.length:Int)-1)/\(c.length+[(d,a,b.2.2.getD a.toNat 0,a==(b.2.2.length:Int)-1)].length<=9223372036854775807/\(c.length+[(d,a,b.2.2.getD a.toNat 0,a==(b.2.2.length:Int)-1)].length)*32<=140737488355328)/\True)<|lt ((c++[(d,a,b.2.2.getD a.toNat 0,a==(b.2.2.length:Int)-1)],[(d,a,b.2.2.getD a.toNat 0,a==(b.2.2.length:Int)-1)])) fun(e,_) =>
  gd (c9 (a+1)/\True) <|
  g (a+1,e)
 else
  TH d f c
def F0O(a:r6)(d:List B8×Int->Option (List B8)):List B8×Int->Option (List B8)
 | (c,b) =>
 if(decide (b < (a.1.length:Int))) then
  gd (ix b a.1.length/\True)<|lt (a.1.getD b.toNat (b7 y139)) fun e =>
  lp (F0N b e d) (0,c)
 else
  La a c
def BD(a:r6):Option (List B8) :=
 lp (F0O a) ([],0)
def k83:Ct:=j9 83 [.agg y31] (fun x=>BD x.1) (fun r:List B8=>AV.ow 151 true y151 r) (fun _=>())
theorem Fh:Ok prog k83:=by
 refine k8 [.tmp 2] func83 ?_;intro y ⟨a,_⟩ r H Q hn hr;refine iA [1]<|iA [1,3]<|jN r (fun(e:List B8)=>Z [p 1 (R 1),p 3 (O 38)] [(1,K 31 y31 a),(38,A 151 y151 e 0)]) (La a) (fun e H=>?_) (fun _ E W F=>?_)
 ·refine jN r (fun(l:List B8)=>Z [p 3 (O 38)] [(38,A 151 y151 l 0)]) (F0P) (fun l H=>?_) (fun _ w G Y=>?_)
  ·refine iA [2]<|j0<|hr H
  refine iA [3,42,43,44]<|vB<|lX (fun((c,f):Int×List B8)=>Z [p 3 (O 38),p 42 (L y202 a.2.2),p 43 (I (a.2.2.length:Int)),p 44 (I c)] [(38,A 151 y151 f 0)]) (0,e) H fun _ T u z V ⟨c,f⟩ H=>iA [3,42,43,44,45]<|vQ<|cD H (fun H=>vK<|fQ<|vQ<|vB<|qD (fun j=>Z [p 3 (O 38),p 8 (I c),p 9 (R 9),p 42 (L y202 a.2.2),p 43 (I (a.2.2.length:Int)),p 44 (I c)] [(9,K 202 y202 j),(38,A 151 y151 f 0)]) H fun j H=>jB [3,42,43,44] H fun H=>fK<|fQ<|jB [3,42,43,44] H fun H=>u H) fun H=>vE<|fE<|z<|fX rfl<|w H
 refine iA [1,3,11,12,13]<|vB<|lX (fun((n,b):List B8×Int)=>Z [p 1 (R 1),p 3 (O 38),p 11 (L y139 a.1),p 12 (I (a.1.length:Int)),p 13 (I b)] [(1,K 31 y31 a),(38,A 151 y151 n 0)]) ([],0) H fun _ o s t t1 ⟨n,b⟩ H=>iA [1,3,11,12,13,14]<|vQ<|cD H (fun H=>?_) (fun H=>?_)
 ·refine vK<|fQ<|jN r (fun(k:List B8)=>Z [p 1 (R 1),p 3 (O 38),p 11 (L y139 a.1),p 12 (I (a.1.length:Int)),p 13 (I b)] [(1,K 31 y31 a),(38,A 151 y151 k 0)]) (TH b o) (fun k H=>?_) (fun _ x P t2=>?_)
  ·refine jB [1,3,11,12,13] H fun H=>s H
  refine vB<|qD (fun d=>Z [p 1 (R 1),p 3 (O 38),p 4 (I b),p 5 (R 5),p 11 (L y139 a.1),p 12 (I (a.1.length:Int)),p 13 (I b)] [(5,K 139 y139 d),(1,K 31 y31 a),(38,A 151 y151 n 0)]) H fun d H=>iA [1,3,4,5,11,12,13,19,20,21]<|vB<|lX (fun((g,m):Int×List B8)=>Z [p 1 (R 1),p 3 (O 38),p 4 (I b),p 5 (R 5),p 11 (L y139 a.1),p 12 (I (a.1.length:Int)),p 13 (I b),p 19 (L i64 d.2.2),p 20 (I (d.2.2.length:Int)),p 21 (I g)] [(5,K 139 y139 d),(1,K 31 y31 a),(38,A 151 y151 m 0)]) (0,n) H fun _ X v q t3 ⟨g,m⟩ H=>iA [1,3,4,5,11,12,13,19,20,21,22]<|vQ<|cD H (fun H=>?_) (fun H=>?_)
  ·refine vK<|fQ<|vQ<|vB<|iB [1,3,4,5,6,7,11,12,13,19,20,21] H fun H=>zD (fun(i,h)=>Z [p 1 (R 1),p 3 (AV.os 38 1),p 4 (I b),p 5 (R 5),p 11 (L y139 a.1),p 12 (I (a.1.length:Int)),p 13 (I b),p 19 (L i64 d.2.2),p 20 (I (d.2.2.length:Int)),p 21 (I g)] [(38,A 151 y151 i 1),(37,A 151 y151 h 0),(5,K 139 y139 d),(1,K 31 y31 a)]) H fun⟨i,h⟩ H =>
    fK<|fQ <|
    jB [1,3,4,5,11,12,13,19,20,21] H fun H =>
    v H
  exact vE<|fE<|q<|fX rfl<|fK<|x H
 exact vE<|fE<|t<|fX rfl<|E H
def B0a:List Int->Option (List Int)
 | a =>
 some a
def OY(a:Int)(b:List Int×Int->Option (List Int)):List Int->Option (List Int)
 | c =>
 gd (c9 (a+1)/\True) <|
 b (c,a+1)
def A0Z(f:Int)(c:List B8)(d:List Int×Int->Option (List Int)):List Int×Int->Option (List Int)
 | (b,a) =>
 if(decide (a < (c.length:Int))) then
  gd (ix a c.length/\a.toNat<c.length/\True)<|lt (c.getD a.toNat (b7 y151)) fun e =>
  if(e.2.2.1==f&&!e.2.2.2) then
   gd ((b.length+[a].length<=9223372036854775807/\(b.length+[a].length)*8<=140737488355328)/\True) <|
   OY a d (b++[a])
  else
   OY a d b
 else
  B0a b
def Lb(a:r6)(c:Int):Option (List Int) :=
 gd ((BD a).isSome/\True)<|lt (vl (BD a)) fun b =>
 lp (A0Z c b) ([],0)
def Q0Q:Ct:=j9 142 [.agg y31,.dat i64] (fun x=>Lb x.1 x.2.1) (fun r:List Int=>AV.ow 2 true i64 r) (fun _=>())
theorem M0I:Ok prog Q0Q:=by
 refine k8 [.tmp 4] func142 ?_;intro y ⟨_,c,_⟩ r H Q hn hr;have:=hz (tc Fh tn);refine iA [1,2]<|iA [1,2,5]<|jN r (fun(e:List Int)=>Z [p 5 (O 28)] [(28,A 2 i64 e 0)]) (B0a) (fun e H=>?_) (fun _ l n m=>?_)
 ·refine iA [4]<|j0<|hr H
 refine iD Fh [1,5,9,10,11] H fun a H=>vB<|lX (fun((d,b):List Int×Int)=>Z [p 1 (J c),p 5 (O 28),p 9 (O 9),p 10 (I (a.length:Int)),p 11 (I b)] [(9,A 151 y151 a 0),(28,A 2 i64 d 0)]) ([],0) H fun _ i k j q ⟨d,b⟩ H=>iA [1,5,9,10,11,12]<|vQ<|cD H (fun H=>?_) (fun H=>?_)
 ·refine vK<|fQ<|jN r (fun(f:List Int)=>Z [p 1 (J c),p 5 (O 28),p 9 (O 9),p 10 (I (a.length:Int)),p 11 (I b)] [(28,A 2 i64 f 0),(9,A 151 y151 a 0)]) (OY b i) (fun f H=>?_) (fun _ g o s=>?_)
  ·refine jB [1,5,9,10,11] H fun H=>k H
  refine vB<|qD (fun h=>Z [p 1 (J c),p 5 (O 28),p 6 (I b),p 7 (R 7),p 9 (O 9),p 10 (I (a.length:Int)),p 11 (I b)] [(7,bx 151 (p9 true y151 h)),(9,A 151 y151 a 0),(28,A 2 i64 d 0)]) H fun h H=>iA [1,5,6,9,10,11,24]<|cD H (fun H=>jB [1,5,9,10,11] H fun H=>fK<|g H) fun H=>vK<|fK<|g H
 exact vE<|fE<|j<|fX rfl<|l H
def TJ:List Int->Option (List Int)
 | a =>
 some a
def Iw(c:x8)(e:Int×List Int->Option (List Int)):Int×List Int->Option (List Int)
 | (a,b) =>
 if(decide (0<a)) then
  gd (ix a c.1.length/\ix (c.1.getD a.toNat 0) b.length/\Int.toNat (c.1.getD a.toNat 0)<b.length/\ix a b.length/\a.toNat<b.length/\c9 (b.getD (Int.toNat (c.1.getD a.toNat 0)) 0+b.getD a.toNat 0)/\ix (c.1.getD a.toNat 0) b.length/\Int.toNat (c.1.getD a.toNat 0)<b.length/\True)<|lt (b.set (Int.toNat (c.1.getD a.toNat 0)) (b.getD (Int.toNat (c.1.getD a.toNat 0)) 0+b.getD a.toNat 0)) fun d =>
  gd (c9 (a-1)/\True) <|
  e (a-1,d)
 else
  TJ b
def OZ(b:x8):List Int->Option (List Int)
 | a =>
 gd (c9 ((a.length:Int)-1)/\True) <|
 lp (Iw b) (((a.length:Int)-1,a))
def F0K(d:j7)(f:List B8)(b:List Int)(c:x8)(g:Int×List Int->Option (List Int)):Int×List Int->Option (List Int)
 | (a,e) =>
 if(decide (a < (b.length:Int))) then
  gd (ix a b.length/\a.toNat<b.length/\True) <|
  gd (ix a c.2.2.2.length/\ix (c.2.2.2.getD a.toNat 0) e.length/\Int.toNat (c.2.2.2.getD a.toNat 0)<e.length/\ix (b.getD a.toNat 0) f.length/\Int.toNat (b.getD a.toNat 0)<f.length/\(GC d.2.1 d.1 (f.getD (Int.toNat (b.getD a.toNat 0)) (b7 y151))).isSome/\c9 (e.getD (Int.toNat (c.2.2.2.getD a.toNat 0)) 0+vl (GC d.2.1 d.1 (f.getD (Int.toNat (b.getD a.toNat 0)) (b7 y151))))/\ix (c.2.2.2.getD a.toNat 0) e.length/\Int.toNat (c.2.2.2.getD a.toNat 0)<e.length/\True)<|lt ((vl (GC d.2.1 d.1 (f.getD (Int.toNat (b.getD a.toNat 0)) (b7 y151))),e.set (Int.toNat (c.2.2.2.getD a.toNat 0)) (e.getD (Int.toNat (c.2.2.2.getD a.toNat 0)) 0+vl (GC d.2.1 d.1 (f.getD (Int.toNat (b.getD a.toNat 0)) (b7 y151)))))) fun(_,h) =>
  gd (c9 (a+1)/\True) <|
  g (a+1,h)
 else
  OZ c e
def BE(a:j7)(b:Int):Option (List Int) :=
 gd (ix b a.2.2.length/\True)<|lt (a.2.2.getD b.toNat (b7 l6)) fun c =>
 gd ((Pb c.2.2.1).isSome/\True)<|lt (vl (Pb c.2.2.1)) fun f =>
 gd ((BD a.2.1).isSome/\True)<|lt (vl (BD a.2.1)) fun d =>
 gd ((Lb a.2.1 b).isSome/\True)<|lt (vl (Lb a.2.1 b)) fun e =>
 lp (F0K a d e c) (0,f)
def k87:Ct:=j9 87 [.agg l9,.dat i64] (fun x=>BE x.1 x.2.1) (fun r:List Int=>AV.ow 2 true i64 r) (fun _=>())
theorem TK:Ok prog k87:=by
 refine k8 [.tmp 4] func87 ?_;intro y ⟨h,t,_⟩ r H Q hn hr;have:=hz (tc O0Q (tc M0I (tc Fh (tc M0J tn))));refine iA [1,2]<|qD (fun b=>Z [p 1 (J t),p 2 (R 2),p 5 (R 5)] [(5,K 153 l6 b),(2,K 34 l9 h)]) H fun b H=>iD M0J [1,2,5,6] H fun q H=>iD Fh [1,2,5,6,7] H fun l H=>jN r (fun(a:List Int)=>Z [p 5 (R 5),p 6 (O 18)] [(18,A 2 i64 a 0),(5,K 153 l6 b)]) (OZ b) (fun a H=>?_) (fun _ w F z=>?_)
 ·refine jN r (fun(d:List Int)=>Z [p 6 (O 18)] [(18,A 2 i64 d 0)]) (TJ) (fun d H=>?_) (fun _ v E V=>?_)
  ·refine iA [4]<|j0<|hr H
  refine iB [5,6,10] H fun H=>vB<|lX (fun((c,f):Int×List Int)=>Z [p 5 (R 5),p 6 (O 18),p 10 (I c)] [(18,A 2 i64 f 0),(5,K 153 l6 b)]) (((a.length:Int)-1,a)) H fun _ G u m P ⟨c,f⟩ H=>vQ<|iA [5,6,10,56]<|cD H (fun H=>vK<|fQ<|vQ<|vB<|zD (fun e=>Z [p 5 (R 5),p 6 (O 18),p 10 (I c)] [(18,A 2 i64 e 0),(5,K 153 l6 b)]) H fun e H=>fK<|fQ<|jB [5,6,10] H fun H=>u H) fun H=>vE<|fE<|m<|fX rfl<|v H
 refine iD M0I [2,5,6,7,25,26,27] H fun g H=>vB<|lX (fun((i,j):Int×List Int)=>Z [p 2 (R 2),p 5 (R 5),p 6 (O 18),p 7 (O 21),p 25 (O 25),p 26 (I (g.length:Int)),p 27 (I i)] [(25,A 2 i64 g 0),(21,A 151 y151 l 0),(18,A 2 i64 j 0),(5,K 153 l6 b),(2,K 34 l9 h)]) (0,q) H fun _ x o s T ⟨i,j⟩ H=>iA [2,5,6,7,25,26,27,28]<|vQ<|cD H (fun H=>?_) (fun H=>?_)
 ·refine vK<|fQ<|vQ<|vB<|iB [2,5,6,7,8,9,25,26,27] H fun H=>zD (fun(n,k)=>Z [p 2 (R 2),p 5 (R 5),p 6 (O 18),p 7 (O 21),p 25 (O 25),p 26 (I (g.length:Int)),p 27 (I i)] [(18,A 2 i64 k 0),(25,A 2 i64 g 0),(21,A 151 y151 l 0),(5,K 153 l6 b),(2,K 34 l9 h)]) H fun⟨n,k⟩ H =>
   fK<|fQ <|
   jB [2,5,6,7,25,26,27] H fun H =>
   o H
 exact vE<|fE<|s<|fX rfl<|w H
def A0Y:List Int->Option (List Int)
 | a =>
 some a
def Lc(b:x8)(d:List Int)(e:Int×List Int->Option (List Int)):Int×List Int->Option (List Int)
 | (a,c) =>
 if(decide (a < (c.length:Int))) then
  gd (ix a b.1.length/\ix (b.1.getD a.toNat 0) c.length/\Int.toNat (b.1.getD a.toNat 0)<c.length/\ix a b.2.1.length/\ix a d.length/\a.toNat<d.length/\c9 (b.2.1.getD a.toNat 0*d.getD a.toNat 0)/\c9 (c.getD (Int.toNat (b.1.getD a.toNat 0)) 0+b.2.1.getD a.toNat 0*d.getD a.toNat 0)/\ix a c.length/\a.toNat<c.length/\True)<|lt (c.set a.toNat (c.getD (Int.toNat (b.1.getD a.toNat 0)) 0+b.2.1.getD a.toNat 0*d.getD a.toNat 0)) fun f =>
  gd (c9 (a+1)/\True) <|
  e (a+1,f)
 else
  A0Y c
def Ld(b:j7)(c:Int):Option (List Int) :=
 gd (ix c b.2.2.length/\(BE b c).isSome/\True)<|lt ((vl (BE b c),b.2.2.getD c.toNat (b7 l6))) fun(a,d) =>
 gd ((0<=(a.length:Int)/\(a.length:Int)=(a.length:Int)/\(a.length:Int).toNat*8<=281474976710656/\(a.length:Int)<=9223372036854775807)/\True) <|
 lp (Lc d a) ((1,List.replicate (a.length:Int).toNat 0))
def Q0O:Ct:=j9 144 [.agg l9,.dat i64] (fun x=>Ld x.1 x.2.1) (fun r:List Int=>AV.ow 2 true i64 r) (fun _=>())
theorem M0H:Ok prog Q0O:=by
 refine k8 [.tmp 4] func144 ?_;intro y ⟨h,_,_⟩ r H Q hn hr;have:=hz (tc TK tn);refine iA [1,2]<|qD (fun(a,b)=>Z [p 5 (R 5),p 6 (O 16)] [(5,K 153 l6 b),(16,A 2 i64 a 0),(2,K 34 l9 h)]) H fun w H=>?_
 obtain⟨a,b⟩:=w;refine iB [5,6,7] H fun H=>jN r (fun(d:List Int)=>Z [p 7 (O 19)] [(19,A 2 i64 d 0)]) (A0Y) (fun d H=>?_) (fun _ j m l=>?_)
 ·refine iA [4]<|j0<|hr H
 refine iA [5,6,7,8]<|vB<|lX (fun((c,f):Int×List Int)=>Z [p 5 (R 5),p 6 (O 16),p 7 (O 19),p 8 (I c)] [(19,A 2 i64 f 0),(5,K 153 l6 b),(16,A 2 i64 a 0)]) ((1,List.replicate (a.length:Int).toNat 0)) H fun _ k i g n ⟨c,f⟩ H=>vQ<|iA [5,6,7,8,23]<|cD H (fun H=>vK<|fQ<|vQ<|vB<|zD (fun e=>Z [p 5 (R 5),p 6 (O 16),p 7 (O 19),p 8 (I c)] [(19,A 2 i64 e 0),(5,K 153 l6 b),(16,A 2 i64 a 0)]) H fun e H=>fK<|fQ<|jB [5,6,7,8] H fun H=>i H) fun H=>vE<|fE<|g<|fX rfl<|j H
def F0J:List Int->Option (List Int)
 | a =>
 some a
def F0I(c:List Int)(b:x8)(e:List Int×Int->Option (List Int)):List Int×Int->Option (List Int)
 | (d,a) =>
 if(decide (a < (b.2.2.2.length:Int))) then
  gd (ix a b.2.2.2.length/\True) <|
  gd (ix (b.2.2.2.getD a.toNat 0) c.length/\Int.toNat (b.2.2.2.getD a.toNat 0)<c.length/\(d.length+[c.getD (Int.toNat (b.2.2.2.getD a.toNat 0)) 0].length<=9223372036854775807/\(d.length+[c.getD (Int.toNat (b.2.2.2.getD a.toNat 0)) 0].length)*8<=140737488355328)/\True)<|lt (d++[c.getD (Int.toNat (b.2.2.2.getD a.toNat 0)) 0]) fun f =>
  gd (c9 (a+1)/\True) <|
  e (f,a+1)
 else
  F0J d
def Fi(a:j7)(b:Int):Option (List Int) :=
 gd ((Ld a b).isSome/\True)<|lt (vl (Ld a b)) fun c =>
 gd (ix b a.2.2.length/\True)<|lt (a.2.2.getD b.toNat (b7 l6)) fun d =>
 lp (F0I c d) ([],0)
def k88:Ct:=j9 88 [.agg l9,.dat i64] (fun x=>Fi x.1 x.2.1) (fun r:List Int=>AV.ow 2 true i64 r) (fun _=>())
theorem o88:Ok prog k88:=by
 refine k8 [.tmp 4] func88 ?_;intro y ⟨h,_,_⟩ r H Q hn hr;have:=hz (tc M0H tn);refine iA [1,2]<|iD M0H [1,2,5] H fun b H=>iA [1,2,5,6]<|jN r (fun(d:List Int)=>Z [p 6 (O 29)] [(29,A 2 i64 d 0)]) (F0J) (fun d H=>?_) (fun _ j m l=>?_)
 ·refine iA [4]<|j0<|hr H
 refine qD (fun a=>Z [p 5 (O 11),p 6 (nil),p 17 (L i64 a.2.2.2),p 18 (I (a.2.2.2.length:Int)),p 19 (I 0)] [(11,A 2 i64 b 0),(2,K 34 l9 h)]) H fun a H=>vB<|lX (fun((e,c):List Int×Int)=>Z [p 5 (O 11),p 6 (O 29),p 17 (L i64 a.2.2.2),p 18 (I (a.2.2.2.length:Int)),p 19 (I c)] [(11,A 2 i64 b 0),(29,A 2 i64 e 0)]) ([],0) H fun _ k i g n ⟨e,c⟩ H=>iA [5,6,17,18,19,20]<|vQ<|cD H (fun H=>vK<|fQ<|vQ<|vB<|iB [5,6,8,17,18,19] H fun H=>zD (fun f=>Z [p 5 (O 11),p 6 (AV.os 29 1),p 17 (L i64 a.2.2.2),p 18 (I (a.2.2.2.length:Int)),p 19 (I c)] [(29,A 2 i64 f 1),(28,A 2 i64 [b.getD (Int.toNat (a.2.2.2.getD c.toNat 0)) 0] 0),(11,A 2 i64 b 0)]) H fun f H=>fK<|fQ<|jB [5,6,17,18,19] H fun H=>i H) fun H=>vE<|fE<|g<|fX rfl<|j H
def P0m:Ct:=j9 88 [.agg l9,.dat i64] (fun x=>Fi x.1 x.2.1) (fun r=>frz ((fun r:List Int=>AV.ow 2 true i64 r) r)) (fun _=>())
theorem O0f:Ok prog P0m:=TL o88
def D6(a:List Int):Option Int :=
 some (a.length:Int)
def k86:Ct:=j9 86 [.dat i64.sl] (fun x=>D6 x.1) (fun r:Int=>I r) (fun _=>())
theorem Le:Ok prog k86:=by
 refine k8 [.tmp 2] func86 ?_;intro y ⟨_,_⟩ r H Q hn hr;refine iA [0]<|iA [2]<|j0<|hr H
def Lf(a:z7):Option (List (Int×Int)) :=
 if(a.1==2) then
  some ([((0:Int),(0:Int)),((0:Int),(1:Int))])
 else
  if(a.1==3) then
   some ([((1:Int),(0:Int)),((1:Int),(1:Int))])
  else
   if(a.1 != 1) then
    some []
   else
    if(a.2.2.2.1==1) then
     some ([((0:Int),(0:Int)),((1:Int),(1:Int))])
    else
     if(a.2.2.2.1==2) then
      some ([((0:Int),(1:Int)),((1:Int),(0:Int))])
     else
      lt ([((0:Int),(0:Int)),((0:Int),(1:Int)),((1:Int),(0:Int)),((1:Int),(1:Int))]) fun b =>
      some b
def Q0S:Ct:=j9 140 [.agg y67] (fun x=>Lf x.1) (fun r:List (Int×Int)=>AV.ow 207 true (i64.pr i64) r) (fun _=>())
theorem M0K:Ok prog Q0S:=by
 refine k8 [.tmp 2] func140 ?_;intro y ⟨b,_⟩ r H Q hn hr;refine iA [1]<|iA [1,3]<|iA [1,3,4]<|vQ<|vB<|iA [1,3,4,11]<|cD H (fun H=>iA [2]<|j0<|l8<|fR<|hr H) fun H=>iA [1,3,4,18]<|cD H (fun H=>iA [2]<|j0<|l8<|fR<|hr H) fun H=>iA [1,3,4,25]<|cD H (fun H=>iA [2]<|j0<|l8<|fR<|hr H) fun H=>iA [1,3,4,29]<|cD H (fun H=>iA [2]<|j0<|l8<|fR<|hr H) fun H=>iA [4,34]<|cD H (fun H=>iA [2]<|j0<|l8<|fR<|hr H) fun H=>vK<|fK<|fQ<|qC (fun a=>Z [p 2 (O 43)] [(43,A 207 (i64.pr i64) a 0),(10,A 207 (i64.pr i64) [((0:Int),(1:Int)),((1:Int),(0:Int))] 0),(7,A 207 (i64.pr i64) [((0:Int),(0:Int)),((1:Int),(1:Int))] 0),(1,K 67 y67 b)]) H fun a H=>j0<|hr H
def F0L:List l7->Option (List l7)
 | a =>
 some a
def TM(a:Int)(c:List l7×Int->Option (List l7)):List l7->Option (List l7)
 | b =>
 gd (c9 (a+1)/\True) <|
 c (b,a+1)
def TN(c:Int)(a:z7)(e:Int)(g:List (Int×Int))(i:List l7×Int->Option (List l7))(j:Int×List l7->Option (List l7)):Int×List l7->Option (List l7)
 | (d,f) =>
 if(decide (d < (g.length:Int))) then
  gd (ix d g.length/\d.toNat<g.length/\True)<|lt (g.getD d.toNat (b7 (i64.pr i64))) fun b =>
  gd (c9 (c+a.2.1)/\c9 ((2:Int)*(c+a.2.1))/\ix (0:Int) 2/\c9 ((2:Int)*(c+a.2.1)+b.1)/\c9 (c+a.2.2.1)/\c9 ((2:Int)*(c+a.2.2.1))/\ix (1:Int) 2/\c9 ((2:Int)*(c+a.2.2.1)+b.2)/\(f.length+[((2:Int)*(c+a.2.1)+b.1,(2:Int)*(c+a.2.2.1)+b.2,(1:Int),e)].length<=9223372036854775807/\(f.length+[((2:Int)*(c+a.2.1)+b.1,(2:Int)*(c+a.2.2.1)+b.2,(1:Int),e)].length)*32<=140737488355328)/\True)<|lt ((f++[((2:Int)*(c+a.2.1)+b.1,(2:Int)*(c+a.2.2.1)+b.2,(1:Int),e)],[((2:Int)*(c+a.2.1)+b.1,(2:Int)*(c+a.2.2.1)+b.2,(1:Int),e)])) fun(h,_) =>
  gd (c9 (d+1)/\True) <|
  j (d+1,h)
 else
  TM e i f
def TO(g:Int)(d:m4)(f:List l7×Int->Option (List l7)):List l7×Int->Option (List l7)
 | (c,a) =>
 if(decide (a < (d.2.2.2.1.length:Int))) then
  gd (ix a d.2.2.2.1.length/\True)<|lt (d.2.2.2.1.getD a.toNat (b7 y67)) fun b =>
  gd ((Lf b).isSome/\True)<|lt (vl (Lf b)) fun e =>
  lp (TN g b a e f) (0,c)
 else
  F0L c
def Fj(a:j7)(b:m9)(d:Int):Option (List l7) :=
 gd (ix b.2.1 a.1.length/\True)<|lt (a.1.getD b.2.1.toNat (b7 y64)) fun c =>
 lp (TO d c) ([],0)
def k85:Ct:=j9 85 [.agg l9,.agg y139,.dat i64] (fun x=>Fj x.1 x.2.1 x.2.2.1) (fun r:List l7=>AV.ow 80 true y80 r) (fun _=>())
theorem o85:Ok prog k85:=by
 refine k8 [.tmp 6] func85 ?_;intro y ⟨o,u,h,_⟩ r H Q hn hr;have:=hz (tc M0K tn);refine iA [2,3,4]<|iA [2,3,4,7]<|jN r (fun(l:List l7)=>Z [p 7 (O 53)] [(53,A 80 y80 l 0)]) (F0L) (fun l H=>?_) (fun _ x G z=>?_)
 ·refine iA [6]<|j0<|hr H
 refine qD (fun b=>Z [p 2 (J h),p 7 (nil),p 19 (L y67 b.2.2.2.1),p 20 (I (b.2.2.2.1.length:Int)),p 21 (I 0)] [(4,K 139 y139 u),(3,K 34 l9 o)]) H fun b H=>vB<|lX (fun((f,a):List l7×Int)=>Z [p 2 (J h),p 7 (O 53),p 19 (L y67 b.2.2.2.1),p 20 (I (b.2.2.2.1.length:Int)),p 21 (I a)] [(53,A 80 y80 f 0)]) ([],0) H fun _ n s t V ⟨f,a⟩ H=>iA [2,7,19,20,21,22]<|vQ<|cD H (fun H=>?_) (fun H=>?_)
 ·refine vK<|fQ<|jN r (fun(k:List l7)=>Z [p 2 (J h),p 7 (O 53),p 19 (L y67 b.2.2.2.1),p 20 (I (b.2.2.2.1.length:Int)),p 21 (I a)] [(53,A 80 y80 k 0)]) (TM a n) (fun k H=>?_) (fun _ w E F=>?_)
  ·refine jB [2,7,19,20,21] H fun H=>s H
  refine vB<|qD (fun d=>Z [p 2 (J h),p 7 (O 53),p 8 (I a),p 9 (R 9),p 19 (L y67 b.2.2.2.1),p 20 (I (b.2.2.2.1.length:Int)),p 21 (I a)] [(9,K 67 y67 d),(53,A 80 y80 f 0)]) H fun d H=>iD M0K [2,7,8,9,19,20,21,27,28,29] H fun c H=>vB<|lX (fun((e,i):Int×List l7)=>Z [p 2 (J h),p 7 (O 53),p 8 (I a),p 9 (R 9),p 19 (L y67 b.2.2.2.1),p 20 (I (b.2.2.2.1.length:Int)),p 21 (I a),p 27 (O 27),p 28 (I (c.length:Int)),p 29 (I e)] [(27,A 207 (i64.pr i64) c 0),(9,K 67 y67 d),(53,A 80 y80 i 0)]) (0,f) H fun _ P v q T ⟨e,i⟩ H=>iA [2,7,8,9,19,20,21,27,28,29,30]<|vQ<|cD H (fun H=>?_) (fun H=>?_)
  ·refine vK<|fQ<|vQ<|vB<|qD (fun g=>Z [p 2 (J h),p 7 (O 53),p 8 (I a),p 9 (R 9),p 11 (R 11),p 19 (L y67 b.2.2.2.1),p 20 (I (b.2.2.2.1.length:Int)),p 21 (I a),p 27 (O 27),p 28 (I (c.length:Int)),p 29 (I e)] [(11,bx 207 (p9 true (i64.pr i64) g)),(27,A 207 (i64.pr i64) c 0),(9,K 67 y67 d),(53,A 80 y80 i 0)]) H fun g H=>zD (fun(m,j)=>Z [p 2 (J h),p 7 (AV.os 53 1),p 8 (I a),p 9 (R 9),p 19 (L y67 b.2.2.2.1),p 20 (I (b.2.2.2.1.length:Int)),p 21 (I a),p 27 (O 27),p 28 (I (c.length:Int)),p 29 (I e)] [(53,A 80 y80 m 1),(52,A 80 y80 j 0),(11,bx 207 (p9 true (i64.pr i64) g)),(27,A 207 (i64.pr i64) c 0),(9,K 67 y67 d)]) H fun⟨m,j⟩ H =>
    fK<|fQ <|
    jB [2,7,8,9,19,20,21,27,28,29] H fun H =>
    v H
  exact vE<|fE<|q<|fX rfl<|fK<|w H
 exact vE<|fE<|t<|fX rfl<|x H
def G0E(d:j7)(e:List B8):List l7×List Int×List (List Int)->Option C4
 | (b,a,c) =>
 some (d,e,b,a,c,[])
def TP(a:Int)(e:Int×List Int×List (List Int)×List l7->Option C4):List (List Int)×List Int×List l7->Option C4
 | (d,c,b) =>
 gd (c9 (a+1)/\True) <|
 e (a+1,c,d,b)
def TQ(a:Int)(c:Int×List l7->Option C4):List l7->Option C4
 | b =>
 gd (c9 (a+1)/\True) <|
 c (a+1,b)
def Lg(d:List Int)(a:Int)(e:List (List Int))(c:Int)(i:Int×List l7->Option C4)(g:Int×List l7->Option C4):Int×List l7->Option C4
 | (b,f) =>
 if(decide (b<2)) then
  gd (ix a d.length/\a.toNat<d.length/\c9 ((2:Int)*d.getD a.toNat (0:Int))/\c9 ((2:Int)*d.getD a.toNat (0:Int)+b)/\c9 ((2:Int)*List.getD (e.getD a.toNat []) c.toNat (0:Int))/\c9 ((2:Int)*List.getD (e.getD a.toNat []) c.toNat (0:Int)+b)/\(f.length+[((2:Int)*d.getD a.toNat (0:Int)+b,(2:Int)*List.getD (e.getD a.toNat []) c.toNat (0:Int)+b,(2:Int),c)].length<=9223372036854775807/\(f.length+[((2:Int)*d.getD a.toNat (0:Int)+b,(2:Int)*List.getD (e.getD a.toNat []) c.toNat (0:Int)+b,(2:Int),c)].length)*32<=140737488355328)/\True)<|lt ((f++[((2:Int)*d.getD a.toNat (0:Int)+b,(2:Int)*List.getD (e.getD a.toNat []) c.toNat (0:Int)+b,(2:Int),c)],[((2:Int)*d.getD a.toNat (0:Int)+b,(2:Int)*List.getD (e.getD a.toNat []) c.toNat (0:Int)+b,(2:Int),c)])) fun(h,_) =>
  gd (c9 (b+1)/\True) <|
  g (b+1,h)
 else
  TQ c i f
def GD(h:List Int)(a:Int)(c:List (List Int))(f:List (List Int))(g:List Int)(i:List Int)(e:List Int)(k:Int×List Int×List (List Int)×List l7->Option C4)(j:Int×List l7->Option C4):Int×List l7->Option C4
 | (b,d) =>
 if(decide (b < (↑(List.length (c.getD a.toNat [])):Int))) then
  gd (ix b (List.length (c.getD a.toNat []))/\True) <|
  lp (Lg h a c b j) (0,d)
 else
  TP a k ((f++[g],i++[e.getD (Int.toNat (0:Int)) (0:Int)],d))
def TR(i:List Int)(f:List (List Int))(b:j7)(j:List B8)(k:Int×List Int×List (List Int)×List l7->Option C4):Int×List Int×List (List Int)×List l7->Option C4
 | (a,d,c,e) =>
 if(decide (a < (b.2.2.length:Int))) then
  gd ((BE b a).isSome/\ix (0:Int) (vl (BE b a)).length/\Int.toNat (0:Int) < (vl (BE b a)).length/\(d.length+[(vl (BE b a)).getD (Int.toNat (0:Int)) (0:Int)].length<=9223372036854775807/\(d.length+[(vl (BE b a)).getD (Int.toNat (0:Int)) (0:Int)].length)*8<=140737488355328)/\True)<|lt (vl (BE b a)) fun g =>
  gd ((Fi b a).isSome/\(c.length+[vl (Fi b a)].length<=9223372036854775807/\(c.length+[vl (Fi b a)].length)*24<=140737488355328)/\True)<|lt (vl (Fi b a)) fun h =>
  gd (ix a f.length/\True) <|
  lp (GD i a f c h d g k) (0,e)
 else
  G0E b j (e,d,c)
def TS(d:j7)(e:List B8)(c:List l7):List (List Int)×List Int->Option C4
 | (b,a) =>
 lp (TR a b d e) (0,[],[],c)
def Pc(a:Int)(d:Int×List (List Int)×List Int->Option C4):List Int×List (List Int)->Option C4
 | (b,c) =>
 gd (c9 (a+1)/\True) <|
 d (a+1,c,b)
def TT(e:List B8)(i:j7)(g:List l7)(h:Int×List (List Int)×List Int->Option C4):Int×List (List Int)×List Int->Option C4
 | (c,b,d) =>
 if(decide (c < (e.length:Int))) then
  gd (ix c e.length/\c.toNat<e.length/\True)<|lt (e.getD c.toNat (b7 y151)) fun a =>
  if a.2.2.2 then
   gd (ix a.2.2.1 d.length/\a.2.2.1.toNat<d.length/\True) <|
   Pc c h (d.set a.2.2.1.toNat c,b)
  else
   gd (ix a.2.2.1 b.length/\a.2.2.1.toNat<b.length/\((b.getD a.2.2.1.toNat []).length+[c].length<=9223372036854775807/\((b.getD a.2.2.1.toNat []).length+[c].length)*8<=140737488355328)/\ix a.2.2.1 b.length/\(a.2.2.1.toNat<b.length/\a.2.2.1.toNat=a.2.2.1.toNat)/\True)<|lt (b.set a.2.2.1.toNat (b.getD a.2.2.1.toNat []++[c])) fun f =>
   Pc c h (d,f)
 else
  TS i e g (b,d)
def Lh(c:List B8)(a:j7):List l7->Option C4
 | b =>
 gd ((0<=(a.2.2.length:Int)/\(a.2.2.length:Int)=(a.2.2.length:Int)/\(a.2.2.length:Int).toNat*8<=281474976710656/\(a.2.2.length:Int)<=9223372036854775807)/\True) <|
 gd ((0<=(a.2.2.length:Int)/\(a.2.2.length:Int)=(a.2.2.length:Int)/\(a.2.2.length:Int).toNat*24<=281474976710656/\(a.2.2.length:Int)<=9223372036854775807)/\True) <|
 lp (TT c a b) ((0,List.replicate (a.2.2.length:Int).toNat [],List.replicate (a.2.2.length:Int).toNat 0))
def G0D(a:j7)(i:List B8)(f:Int×Int×List l7->Option C4):Int×Int×List l7->Option C4
 | (c,d,e) =>
 if(decide (d < (a.2.1.1.length:Int))) then
  gd (ix d a.2.1.1.length/\True)<|lt (a.2.1.1.getD d.toNat (b7 y139)) fun b =>
  gd ((Fj a b c).isSome/\(e.length+(vl (Fj a b c)).length<=9223372036854775807/\(e.length+(vl (Fj a b c)).length)*32<=140737488355328)/\True)<|lt (vl (Fj a b c)) fun h =>
  gd ((D6 b.2.2).isSome/\c9 (c+vl (D6 b.2.2))/\True)<|lt (vl (D6 b.2.2)) fun g =>
  gd (c9 (d+1)/\True) <|
  f (c+g,d+1,e++h)
 else
  Lh i a e
def Li(a:j7):Option C4 :=
 gd ((BD a.2.1).isSome/\True)<|lt (vl (BD a.2.1)) fun b =>
 lp (G0D a b) (0,0,[])
def k37:Ct:=j9 37 [.agg l9] (fun x=>Li x.1) (fun r:C4=>D y157.pt r) (fun _=>())
theorem o37:Ok prog k37:=by
 refine k8 [.tmp 2] func37 ?_;intro y ⟨a,_⟩ r H Q hn hr;have:=hz (tc O0f (tc TK (tc Le (tc o85 (tc Fh tn)))));refine iA [1]<|iD Fh [1,3] H fun d H=>iA [1,3,4]<|jN r (fun(f:List l7)=>Z [p 1 (R 1),p 3 (R 20)] ((20,bx 157 (Q2 a))::W6 d a f)) (Lh d a) (fun f H=>?_) (fun _ n0 e0 t0=>?_)
 ·refine iB [1,3,7] H fun H=>iB [1,3,7,8] H fun H=>jN r (fun((c,g):List (List Int)×List Int)=>Z (Ar [p 8 (AV.og 54)]) ((54,Ob.grd 37 2 true i64 c none)::(50,A 2 i64 g 0)::(20,bx 157 (Q2 a))::W6 d a f)) (TS a d f) (fun⟨c,g⟩ H=>?_) (fun _ n2 e2 t2=>?_)
  ·refine jN r (fun((T,v,P):List l7×List Int×List (List Int))=>Z [p 3 (R 20)] [(20,bx 157 (Q3 a)),(18,A 151 y151 d 0),(38,A 80 y80 T 0),(102,A 2 i64 v 0),(114,A 37 i64.sl P 0)]) (G0E a d) (fun⟨T,v,P⟩ H=>?_) (fun _ n5 e5 t5=>?_)
   ·refine iA [2]<|j0<|hr H
   refine iA [1,3,7,8,87,88]<|vB<|fZ 54 (Z (Ar [p 8 (M i64.sl c),p 87 (I (a.2.2.length:Int)),p 88 (I 0)]) ((50,A 2 i64 g 0)::(20,bx 157 (Q2 a))::W6 d a f))<|lX (fun((b,j,l,m):Int×List Int×List (List Int)×List l7)=>Z (Ar [p 8 (M i64.sl c),p 87 (I (a.2.2.length:Int)),p 88 (I b)]) [(50,A 2 i64 g 0),(20,bx 157 (Q3 a)),(18,A 151 y151 d 0),(1,K 34 l9 a),(38,A 80 y80 m 0),(102,A 2 i64 j 0),(114,A 37 i64.sl l 0)]) (0,[],[],f) H fun _ g6 b6 e6 t6 ⟨b,j,l,m⟩ H=>iA [1,3,7,8,87,88,89]<|vQ<|cD H (fun H=>?_) (fun H=>?_)
   ·refine vK<|fQ<|jN r (fun((G,V,w):List (List Int)×List Int×List l7)=>Z (Ar [p 8 (M i64.sl c),p 87 (I (a.2.2.length:Int)),p 88 (I b)]) ((20,bx 157 (Q3 a))::(114,A 37 i64.sl G 0)::(102,A 2 i64 V 0)::(50,A 2 i64 g 0)::W6 d a w)) (TP b g6) (fun⟨G,V,w⟩ H=>?_) (fun _ n7 e7 t7=>?_)
    ·refine jB [1,3,7,8,87,88] H fun H=>b6 H
    refine vB<|iA [1,3,7,8,11,87,88]<|iD TK [1,3,7,8,11,87,88] H fun k H=>qD (fun i=>Z (Ar [p 8 (M i64.sl c),p 11 (I b),p 87 (I (a.2.2.length:Int)),p 88 (I b)]) ((20,bx 157 [L y64 a.1,L y139 a.2.1.1,L Ty.str a.2.1.2.1,L y202 a.2.1.2.2,L l6 a.2.2,AV.os 18 0,AV.os 38 0,AV.os 102 1,AV.os 114 1,nil])::(114,A 37 i64.sl (l++[i]) 1)::(113,A 37 i64.sl [i] 0)::(102,A 2 i64 (j++[k.getD (Int.toNat (0:Int)) (0:Int)]) 1)::(101,A 2 i64 [k.getD (Int.toNat (0:Int)) (0:Int)] 0)::(98,A 2 i64 k 0)::(50,A 2 i64 g 0)::W6 d a m)) H fun i H=>iB [1,3,7,8,11,87,88,120,121,122] H fun H=>vB<|lX (fun((e,s):Int×List l7)=>Z (Ar [p 8 (M i64.sl c),p 11 (I b),p 87 (I (a.2.2.length:Int)),p 88 (I b),p 120 (M i64 (c.getD b.toNat [])),p 121 (I (↑(List.length (c.getD b.toNat [])):Int)),p 122 (I e)]) ((20,bx 157 (Q3 a))::(114,A 37 i64.sl (l++[i]) 0)::(102,A 2 i64 (j++[k.getD (Int.toNat (0:Int)) (0:Int)]) 0)::(50,A 2 i64 g 0)::W6 d a s)) (0,m) H fun _ g8 b8 e8 t8 ⟨e,s⟩ H=>iA [1,3,7,8,11,87,88,120,121,122,123]<|vQ<|cD H (fun H=>?_) (fun H=>?_)
    ·refine vK<|fQ<|jN r (fun(u:List l7)=>Z (Ar [p 8 (M i64.sl c),p 11 (I b),p 87 (I (a.2.2.length:Int)),p 88 (I b),p 120 (M i64 (c.getD b.toNat [])),p 121 (I (↑(List.length (c.getD b.toNat [])):Int)),p 122 (I e)]) ((20,bx 157 (Q3 a))::(114,A 37 i64.sl (l++[i]) 0)::(102,A 2 i64 (j++[k.getD (Int.toNat (0:Int)) (0:Int)]) 0)::(50,A 2 i64 g 0)::W6 d a u)) (TQ e g8) (fun u H=>?_) (fun _ n9 e9 t9=>?_)
     ·refine jB [1,3,7,8,11,87,88,120,121,122] H fun H=>b8 H
     refine vB<|iB [1,3,7,8,11,12,13,87,88,120,121,122] H fun H=>iA [1,3,7,8,11,12,13,87,88,120,121,122,127]<|vB<|lX (fun((q,E):Int×List l7)=>Z (Ar [p 8 (M i64.sl c),p 11 (I b),p 12 (I e),p 13 (I (List.getD (c.getD b.toNat []) e.toNat (0:Int))),p 87 (I (a.2.2.length:Int)),p 88 (I b),p 120 (M i64 (c.getD b.toNat [])),p 121 (I (↑(List.length (c.getD b.toNat [])):Int)),p 122 (I e),p 127 (I q)]) ((20,bx 157 (Q3 a))::(114,A 37 i64.sl (l++[i]) 0)::(102,A 2 i64 (j++[k.getD (Int.toNat (0:Int)) (0:Int)]) 0)::(50,A 2 i64 g 0)::W6 d a E)) (0,s) H fun _ aD aB aA aC ⟨q,E⟩ H=>iA [1,3,7,8,11,12,13,87,88,120,121,122,127,128]<|vQ<|cD H (fun H=>?_) (fun H=>?_)
     ·refine vK<|fQ<|vQ<|vB<|iA [1,3,7,8,11,12,13,14,87,88,120,121,122,127]<|zD (fun(X,F)=>Z (Ar [p 8 (M i64.sl c),p 11 (I b),p 12 (I e),p 13 (I (List.getD (c.getD b.toNat []) e.toNat (0:Int))),p 87 (I (a.2.2.length:Int)),p 88 (I b),p 120 (M i64 (c.getD b.toNat [])),p 121 (I (↑(List.length (c.getD b.toNat [])):Int)),p 122 (I e),p 127 (I q)]) [(20,bx 157 [L y64 a.1,L y139 a.2.1.1,L Ty.str a.2.1.2.1,L y202 a.2.1.2.2,L l6 a.2.2,AV.os 18 0,AV.os 38 1,AV.os 102 0,AV.os 114 0,nil]),(38,A 80 y80 X 1),(148,A 80 y80 F 0),(114,A 37 i64.sl (l++[i]) 0),(102,A 2 i64 (j++[k.getD (Int.toNat (0:Int)) (0:Int)]) 0),(50,A 2 i64 g 0),(18,A 151 y151 d 0),(1,K 34 l9 a)]) H fun⟨X,F⟩ H =>
       fK<|fQ <|
       jB [1,3,7,8,11,12,13,87,88,120,121,122,127] H fun H =>
       aB H
     exact vE<|fE<|aA<|fX rfl<|fK<|n9 H
    exact vE<|fE<|e8<|fX rfl<|fK<|n7 H
   exact vE<|fE<|e6<|fX rfl<|n5 H
  refine iA [1,3,7,8,58,59,60]<|vB<|lX (fun((h,o,n):Int×List (List Int)×List Int)=>Z (Ar [p 8 (AV.og 54),p 58 (O 18),p 59 (I (d.length:Int)),p 60 (I h)]) ((54,Ob.grd 37 2 true i64 o none)::(50,A 2 i64 n 0)::(20,bx 157 (Q2 a))::W6 d a f)) ((0,List.replicate (a.2.2.length:Int).toNat [],List.replicate (a.2.2.length:Int).toNat 0)) H fun _ g3 b3 e3 t3 ⟨h,o,n⟩ H=>iA [1,3,7,8,58,59,60,61]<|vQ<|cD H (fun H=>?_) (fun H=>?_)
  ·refine vK<|fQ<|jN r (fun((W,z):List Int×List (List Int))=>Z (Ar [p 8 (AV.og 54),p 58 (O 18),p 59 (I (d.length:Int)),p 60 (I h)]) ((50,A 2 i64 W 0)::(54,Ob.grd 37 2 true i64 z none)::(20,bx 157 (Q2 a))::W6 d a f)) (Pc h g3) (fun⟨W,z⟩ H=>?_) (fun _ n4 e4 t4=>?_)
   ·refine jB [1,3,7,8,58,59,60] H fun H=>b3 H
   refine vB<|qD (fun t=>Z (Ar [p 8 (AV.og 54),p 9 (I h),p 10 (R 10),p 58 (O 18),p 59 (I (d.length:Int)),p 60 (I h)]) ((10,bx 151 (p9 true y151 t))::(54,Ob.grd 37 2 true i64 o none)::(50,A 2 i64 n 0)::(20,bx 157 (Q2 a))::W6 d a f)) H fun t H=>iA [1,3,7,8,9,10,58,59,60,66]<|cD H (fun H=>jB [1,3,7,8,58,59,60] H fun H=>fK<|n4 H) fun H=>zD (fun x=>Z (Ar [p 8 (AV.og 54),p 58 (O 18),p 59 (I (d.length:Int)),p 60 (I h)]) ((54,Ob.grd 37 2 true i64 x none)::(79,A 2 i64 [] 2)::(81,A 2 i64 [h] 0)::(10,bx 151 (p9 true y151 t))::(50,A 2 i64 n 0)::(20,bx 157 (Q2 a))::W6 d a f)) H fun x H=>fK<|n4 H
  exact vE<|fE<|e3<|fX rfl<|n2 H
 refine iA [1,3,4,23,24,25]<|vB<|lX (fun((v4,v5,Y):Int×Int×List l7)=>Z [p 1 (R 1),p 3 (R 20),p 4 (I v4),p 23 (L y139 a.2.1.1),p 24 (I (a.2.1.1.length:Int)),p 25 (I v5)] ((20,bx 157 (Q2 a))::W6 d a Y)) (0,0,[]) H fun _ g1 b1 e1 t1 ⟨v4,v5,Y⟩ H=>iA [1,3,4,23,24,25,26]<|vQ<|cD H (fun H=>vK<|fQ<|vQ<|vB<|qD (fun v7=>Z [p 1 (R 1),p 3 (R 20),p 4 (I v4),p 6 (R 6),p 23 (L y139 a.2.1.1),p 24 (I (a.2.1.1.length:Int)),p 25 (I v5)] ((6,K 139 y139 v7)::(20,bx 157 (Q2 a))::W6 d a Y)) H fun v7 H=>iD o85 [1,3,4,6,23,24,25] H fun _ H=>jD Le [1,3,4,23,24,25] H fun _ H=>fK<|fQ<|jB [1,3,4,23,24,25] H fun H=>b1 H) fun H=>vE<|fE<|e1<|fX rfl<|n0 H
def Lj(a:Int)(b:Int)(c:Int):Option Bool :=
 gd ((A8 a b c).isSome/\True) <|
 some (!vl (A8 a b c))
def Q0r:Ct:=j9 172 [.dat i64,.dat (.pt i64),.dat (.pt i64)] (fun x=>Lj x.1 x.2.1 x.2.2.1) (fun r:Bool=>B r) (fun _=>())
theorem TU:Ok prog Q0r:=by
 refine k8 [.tmp 4] func172 ?_;intro y ⟨_,_,_,_⟩ r H Q hn hr;have:=hz (tc Ac tn);refine iA [0,1,2]<|iB [4] H fun H=>j0<|hr H
def j0H:Unit->Option Int
 | _ =>
 some (-1)
def r0K(b:List Int)(c:Int×Int)(d:Int->Option Int):Int->Option Int
 | a =>
 if(decide (a < (b.length:Int))) then
  gd (ix a b.length/\(Lj (b.getD a.toNat 0) c.1 c.2).isSome/\True) <|
  if(vl (Lj (b.getD a.toNat 0) c.1 c.2)) then
   some a
  else
   gd (c9 (a+1)/\True) <|
   d (a+1)
 else
  j0H ()
def Pd(a:List Int)(b:Int×Int):Option Int :=
 lp (r0K a b) 0
def z0e:Ct:=j9 200 [.dat i64.sl,.fn 172 (.pr i64.pt i64.pt)] (fun x=>Pd x.1 x.2.1) (fun r:Int=>I r) (fun _=>())
theorem TV:Ok prog z0e:=by
 refine k8 [.tmp 4] func200 ?_;intro y ⟨a,b,_⟩ r H Q hn hr;have:=hz (tc TU tn);refine iA [0,1]<|jN r (fun(_:Unit)=>Z [] []) (j0H) (fun _ H=>?_) (fun _ h j d=>?_)
 ·refine iA [4]<|j0<|hr H
 refine iA [0,1,7,8]<|vB<|lX (fun(c:Int)=>Z [p 0 (L i64 a),p 1 (AV.fn 172 [D i64.pt b.1,D i64.pt b.2]),p 7 (I (a.length:Int)),p 8 (I c)] []) 0 H fun _ i f e g c H=>iA [0,1,7,8,9]<|vQ<|cD H (fun H=>?_) (fun H=>?_)
 ·refine vK<|fQ<|vQ<|vB<|iA [0,1,5,7,8]<|iB [0,1,5,7,8,16] H fun H=>cD H (fun H=>iA [4]<|j0<|l8<|fR<|g<|l8<|d<|hr H) fun H=>vK<|fK<|fQ<|jB [0,1,7,8] H fun H=>f H
 exact vE<|fE<|e<|fX rfl<|h H
def Pe(a:List Int)(b:Int×Int):Option Bool :=
 gd ((Pd a b).isSome/\True)<|lt (vl (Pd a b)) fun c =>
 some (decide (0<=c))
def z0h:Ct:=j9 171 [.dat i64.sl,.fn 172 (.pr (.pt i64) (.pt i64))] (fun x=>Pe x.1 x.2.1) (fun r:Bool=>B r) (fun _=>())
theorem q0s:Ok prog z0h:=by
 refine k8 [.tmp 4] func171 ?_;intro y ⟨_,_,_⟩ r H Q hn hr;have:=hz (tc TV (tc TU tn));refine iA [0,1]<|iD TV [4] H fun _ H=>j0<|hr H
def I3(a:List Int)(b:Int)(c:Int):Option Bool :=
 gd ((Pe a (b,c)).isSome/\True) <|
 some (!vl (Pe a (b,c)))
def R0h:Ct:=j9 123 [.dat i64.sl,.dat i64,.dat i64] (fun x=>I3 x.1 x.2.1 x.2.2.1) (fun r:Bool=>B r) (fun _=>())
theorem Lk:Ok prog R0h:=by
 refine k8 [.tmp 6] func123 ?_;intro y ⟨_,_,_,_⟩ r H Q hn hr;have:=hz (tc q0s (tc TU tn));refine iA [0,4,5]<|iB [6] H fun H=>j0<|hr H
def B0c:Unit->Option Bool
 | _ =>
 some true
def B0b(b:x8)(c:Int->Option Bool):Int->Option Bool
 | a =>
 if(decide (a < (b.1.length:Int))) then
  gd (ix a b.1.length/\True) <|
  gd (((b.1.getD a.toNat (0:Int) != (-1:Int))=false/\(a==(0:Int))=true/\True->ix (0:Int) b.2.1.length)/\(decide ((0:Int)<a)=true/\(a==(0:Int)&&(b.1.getD a.toNat (0:Int) != (-1:Int)||b.2.1.getD (Int.toNat (0:Int)) (0:Int) != (0:Int)))=false/\True->c9 (a-(1:Int)))/\(decide ((0:Int)<a)=true/\(a==(0:Int)&&(b.1.getD a.toNat (0:Int) != (-1:Int)||b.2.1.getD (Int.toNat (0:Int)) (0:Int) != (0:Int)))=false/\True->(A8 (b.1.getD a.toNat (0:Int)) (0:Int) (a-(1:Int))).isSome)/\True) <|
  if(a==(0:Int)&&(b.1.getD a.toNat (0:Int) != (-1:Int)||b.2.1.getD (Int.toNat (0:Int)) (0:Int) != (0:Int))||decide ((0:Int)<a)&&!vl (A8 (b.1.getD a.toNat (0:Int)) (0:Int) (a-(1:Int)))) then
   some false
  else
   gd (c9 (a+1)/\True) <|
   c (a+1)
 else
  B0c ()
def Cr(a:x8):Option Bool :=
 lp (B0b a) 0
def Q0T:Ct:=j9 139 [.agg l6] (fun x=>Cr x.1) (fun r:Bool=>B r) (fun _=>())
theorem O0R:Ok prog Q0T:=by
 refine k8 [.tmp 2] func139 ?_;intro y ⟨a,_⟩ r H Q hn hr;have:=hz (tc Ac tn);refine iA [1]<|jN r (fun(_:Unit)=>Z [] []) (B0c) (fun _ H=>?_) (fun _ g i c=>?_)
 ·refine iA [2]<|j0<|hr H
 refine iA [1,6,7,8]<|vB<|lX (fun(b:Int)=>Z [p 1 (R 1),p 6 (L i64 a.1),p 7 (I (a.1.length:Int)),p 8 (I b)] [(1,K 153 l6 a)]) 0 H fun _ h e d f b H=>iA [1,6,7,8,9]<|vQ<|cD H (fun H=>?_) (fun H=>?_)
 ·refine vK<|fQ<|vQ<|vB<|iB [1,3,4,6,7,8] H fun H=>iB [1,6,7,8,36] H fun H=>cD H (fun H=>iA [2]<|j0<|l8<|fR<|f<|l8<|c<|hr H) fun H=>vK<|fK<|fQ<|jB [1,6,7,8] H fun H=>e H
 exact vE<|fE<|d<|fX rfl<|g H
def Ll(a:x8)(c:Int):Option Bool :=
 gd ((D6 a.1).isSome/\True)<|lt (vl (D6 a.1)) fun b =>
 gd ((A8 b 1 8).isSome/\(vl (A8 b 1 8)=true/\True->(D6 a.2.1).isSome)/\((vl (A8 b 1 8)&&vl (D6 a.2.1)==b)=true/\True->(D6 a.2.2.1).isSome)/\((vl (A8 b 1 8)&&vl (D6 a.2.1)==b&&vl (D6 a.2.2.1)==b)=true/\True->(Cr a).isSome)/\((vl (A8 b 1 8)&&vl (D6 a.2.1)==b&&vl (D6 a.2.2.1)==b&&vl (Cr a))=true/\True->(I3 a.2.1 0 1000).isSome)/\((vl (A8 b 1 8)&&vl (D6 a.2.1)==b&&vl (D6 a.2.2.1)==b&&vl (Cr a)&&vl (I3 a.2.1 0 1000))=true/\True->(I3 a.2.2.1 0 500).isSome)/\((vl (A8 b 1 8)&&vl (D6 a.2.1)==b&&vl (D6 a.2.2.1)==b&&vl (Cr a)&&vl (I3 a.2.1 0 1000)&&vl (I3 a.2.2.1 0 500))=true/\True->(D6 a.2.2.2).isSome)/\((vl (A8 b 1 8)&&vl (D6 a.2.1)==b&&vl (D6 a.2.2.1)==b&&vl (Cr a)&&vl (I3 a.2.1 0 1000)&&vl (I3 a.2.2.1 0 500)&&vl (D6 a.2.2.2)==c)=true/\True->c9 (b-1))/\((vl (A8 b 1 8)&&vl (D6 a.2.1)==b&&vl (D6 a.2.2.1)==b&&vl (Cr a)&&vl (I3 a.2.1 0 1000)&&vl (I3 a.2.2.1 0 500)&&vl (D6 a.2.2.2)==c)=true/\True->(I3 a.2.2.2 0 (b-1)).isSome)/\True)<|lt ((vl (D6 a.2.1),vl (D6 a.2.2.1),vl (D6 a.2.2.2))) fun(f,d,e) =>
 some (vl (A8 b 1 8)&&f==b&&d==b&&vl (Cr a)&&vl (I3 a.2.1 0 1000)&&vl (I3 a.2.2.1 0 500)&&e==c&&vl (I3 a.2.2.2 0 (b-1)))
def k84:Ct:=j9 84 [.agg l6,.dat i64] (fun x=>Ll x.1 x.2.1) (fun r:Bool=>B r) (fun _=>())
theorem o84:Ok prog k84:=by
 refine k8 [.tmp 4] func84 ?_;intro y ⟨a,f,_⟩ r H Q hn hr;have:=hz (tc Lk (tc Le (tc O0R (tc Ac tn))));refine iA [1,2]<|iD Le [1,2,5] H fun b H=>qD (fun(e,c,d)=>Z [p 4 (B (vl (A8 b 1 8)&&e==b&&c==b&&vl (Cr a)&&vl (I3 a.2.1 0 1000)&&vl (I3 a.2.2.1 0 500)&&d==f&&vl (I3 a.2.2.2 0 (b-1))))] [(2,K 153 l6 a)]) H fun⟨e,c,d⟩ H =>
  j0<|hr H
def TW(a:Int):Option Bool :=
 some (a != 1)
def Q0U:Ct:=j9 138 [.dat i64] (fun x=>TW x.1) (fun r:Bool=>B r) (fun _=>())
theorem TX:Ok prog Q0U:=by
 refine k8 [.tmp 2] func138 ?_;intro y ⟨_,_⟩ r H Q hn hr;refine iA [0]<|iA [2]<|j0<|hr H
def Ix(a:List ByteArray):Option Int :=
 some (a.length:Int)
def Q0l:Ct:=j9 178 [.dat Ty.str.sl] (fun x=>Ix x.1) (fun r:Int=>I r) (fun _=>())
theorem O0C:Ok prog Q0l:=by
 refine k8 [.tmp 2] func178 ?_;intro y ⟨_,_⟩ r H Q hn hr;refine iA [0]<|iA [2]<|j0<|hr H
def GF(a:r6)(b:Int):Option Bool :=
 gd ((Ix a.2.1).isSome/\c9 (vl (Ix a.2.1)-1)/\(A8 b 0 (vl (Ix a.2.1)-1)).isSome/\True) <|
 some (vl (A8 b 0 (vl (Ix a.2.1)-1)))
def Q0V:Ct:=j9 136 [.agg y31,.dat i64] (fun x=>GF x.1 x.2.1) (fun r:Bool=>B r) (fun _=>())
theorem M0L:Ok prog Q0V:=by
 refine k8 [.tmp 4] func136 ?_;intro y ⟨_,_,_⟩ r H Q hn hr;have:=hz (tc Ac (tc O0C tn));refine iA [1,2]<|iB [4] H fun H=>j0<|hr H
def Fk(a:List m4):Option Int :=
 some (a.length:Int)
def Q0n:Ct:=j9 176 [.dat y64.sl] (fun x=>Fk x.1) (fun r:Int=>I r) (fun _=>())
theorem O0D:Ok prog Q0n:=by
 refine k8 [.tmp 2] func176 ?_;intro y ⟨_,_⟩ r H Q hn hr;refine iA [0]<|iA [2]<|j0<|hr H
def Lm(a:Int)(b:r6):Option Bool :=
 gd ((GF b a).isSome/\True) <|
 some (!vl (GF b a))
def Q0m:Ct:=j9 177 [.dat i64,.dat (.pt y31)] (fun x=>Lm x.1 x.2.1) (fun r:Bool=>B r) (fun _=>())
theorem TY:Ok prog Q0m:=by
 refine k8 [.tmp 3] func177 ?_;intro y ⟨_,_,_⟩ r H Q hn hr;have:=hz (tc M0L tn);refine iA [0,1]<|iB [3] H fun H=>j0<|hr H
def j0G:Unit->Option Int
 | _ =>
 some (-1)
def r0J(b:List Int)(c:r6)(d:Int->Option Int):Int->Option Int
 | a =>
 if(decide (a < (b.length:Int))) then
  gd (ix a b.length/\(Lm (b.getD a.toNat 0) c).isSome/\True) <|
  if(vl (Lm (b.getD a.toNat 0) c)) then
   some a
  else
   gd (c9 (a+1)/\True) <|
   d (a+1)
 else
  j0G ()
def Pf(a:List Int)(b:r6):Option Int :=
 lp (r0J a b) 0
def z0d:Ct:=j9 200 [.dat i64.sl,.fn 177 y31.pt] (fun x=>Pf x.1 x.2.1) (fun r:Int=>I r) (fun _=>())
theorem q0q:Ok prog z0d:=by
 refine k8 [.tmp 4] func200 ?_;intro y ⟨a,e,_⟩ r H Q hn hr;have:=hz (tc TY tn);refine iA [0,1]<|jN r (fun(_:Unit)=>Z [] []) (j0G) (fun _ H=>?_) (fun _ h j c=>?_)
 ·refine iA [4]<|j0<|hr H
 refine iA [0,1,7,8]<|vB<|lX (fun(b:Int)=>Z [p 0 (L i64 a),p 1 (AV.fn 177 [D y31.pt e]),p 7 (I (a.length:Int)),p 8 (I b)] []) 0 H fun _ i f d g b H=>iA [0,1,7,8,9]<|vQ<|cD H (fun H=>?_) (fun H=>?_)
 ·refine vK<|fQ<|vQ<|vB<|iA [0,1,5,7,8]<|iB [0,1,5,7,8,16] H fun H=>cD H (fun H=>iA [4]<|j0<|l8<|fR<|g<|l8<|c<|hr H) fun H=>vK<|fK<|fQ<|jB [0,1,7,8] H fun H=>f H
 exact vE<|fE<|d<|fX rfl<|h H
def Pg(a:List Int)(b:r6):Option Bool :=
 gd ((Pf a b).isSome/\True)<|lt (vl (Pf a b)) fun c =>
 some (decide (0<=c))
def z0g:Ct:=j9 171 [.dat i64.sl,.fn 177 (.pt y31)] (fun x=>Pg x.1 x.2.1) (fun r:Bool=>B r) (fun _=>())
theorem y0D:Ok prog z0g:=by
 refine k8 [.tmp 4] func171 ?_;intro y ⟨_,_,_⟩ r H Q hn hr;have:=hz (tc TV (tc q0q (tc TY tn)));refine iA [0,1]<|iD q0q [4] H fun _ H=>j0<|hr H
def Ln(c:r6)(b:List m4)(a:m9):Option Bool :=
 gd ((Fk b).isSome/\c9 (vl (Fk b)-1)/\(A8 a.2.1 0 (vl (Fk b)-1)).isSome/\(vl (A8 a.2.1 0 (vl (Fk b)-1))=true/\True->ix a.2.1 b.length)/\((vl (A8 a.2.1 0 (vl (Fk b)-1))&&(a.2.2.length:Int)==(↑(b.getD a.2.1.toNat (b7 y64)).2.2.1.length:Int))=true/\True->(Pg a.2.2 c).isSome)/\True) <|
 some (vl (A8 a.2.1 0 (vl (Fk b)-1))&&(a.2.2.length:Int)==(↑(b.getD a.2.1.toNat (b7 y64)).2.2.1.length:Int)&&!vl (Pg a.2.2 c))
def Q0W:Ct:=j9 135 [.agg y31,.agg y64.sl,.agg y139] (fun x=>Ln x.1 x.2.1 x.2.2.1) (fun r:Bool=>B r) (fun _=>())
theorem O0S:Ok prog Q0W:=by
 refine k8 [.tmp 6] func135 ?_;intro y ⟨_,_,_,_⟩ r H Q hn hr;have:=hz (tc q0s (tc y0D (tc TY (tc Ac (tc O0D tn)))));refine iA [3,4,5]<|iB [6] H fun H=>j0<|hr H
def A0j:Unit->Option Int
 | _ =>
 some (-1)
def H0a(d:ByteArray)(b:List ByteArray)(c:Int->Option Int):Int->Option Int
 | a =>
 if(decide (a < (b.length:Int))) then
  gd (ix a b.length/\True) <|
  if(decide (d=b.getD a.toNat (b7 Ty.str))) then
   some a
  else
   gd (c9 (a+1)/\True) <|
   c (a+1)
 else
  A0j ()
def Ph(a:List ByteArray)(b:ByteArray):Option Int :=
 lp (H0a b a) 0
def P0G:Ct:=j9 225 [.dat Ty.str.sl,.dat Ty.str] (fun x=>Ph x.1 x.2.1) (fun r:Int=>I r) (fun _=>())
theorem M0r:Ok prog P0G:=by
 refine k8 [.tmp 4] func225 ?_;intro y ⟨a,e,_⟩ r H Q hn hr;refine iA [0,1]<|jN r (fun(_:Unit)=>Z [] []) (A0j) (fun _ H=>?_) (fun _ h j c=>?_)
 ·refine iA [4]<|j0<|hr H
 refine iA [0,1,7,8]<|vB<|lX (fun(b:Int)=>Z [p 0 (L Ty.str a),p 1 (U e),p 7 (I (a.length:Int)),p 8 (I b)] []) 0 H fun _ i f d g b H=>iA [0,1,7,8,9]<|vQ<|cD H (fun H=>?_) (fun H=>?_)
 ·refine vK<|fQ<|vQ<|vB<|iA [0,1,5,7,8]<|iB [0,1,5,7,8,16] H fun H=>cD H (fun H=>iA [4]<|j0<|l8<|fR<|g<|l8<|c<|hr H) fun H=>vK<|fK<|fQ<|jB [0,1,7,8] H fun H=>f H
 exact vE<|fE<|d<|fX rfl<|h H
def Pj(a:List ByteArray)(b:ByteArray):Option Bool :=
 gd ((Ph a b).isSome/\True)<|lt (vl (Ph a b)) fun c =>
 some (decide (0<=c))
def P0V:Ct:=j9 204 [.dat Ty.str.sl,.dat Ty.str] (fun x=>Pj x.1 x.2.1) (fun r:Bool=>B r) (fun _=>())
theorem O0v:Ok prog P0V:=by
 refine k8 [.tmp 4] func204 ?_;intro y ⟨_,_,_⟩ r H Q hn hr;have:=hz (tc M0r tn);refine iA [0,1]<|iD M0r [4] H fun _ H=>j0<|hr H
def Q9(a:ByteArray):Option Bool :=
 gd ((A8 (a.size:Int) (1:Int) (8:Int)).isSome/\(vl (A8 (a.size:Int) (1:Int) (8:Int))=true/\True->(Fl a (ByteArray.mk #[(97:UInt8),(98:UInt8),(99:UInt8),(100:UInt8),(101:UInt8),(102:UInt8),(103:UInt8),(104:UInt8),(105:UInt8),(106:UInt8),(107:UInt8),(108:UInt8),(109:UInt8),(110:UInt8),(111:UInt8),(112:UInt8),(113:UInt8),(114:UInt8),(115:UInt8),(116:UInt8),(117:UInt8),(118:UInt8),(119:UInt8),(120:UInt8),(121:UInt8),(122:UInt8),(48:UInt8),(49:UInt8),(50:UInt8),(51:UInt8),(52:UInt8),(53:UInt8),(54:UInt8),(55:UInt8),(56:UInt8),(57:UInt8)])).isSome)/\((vl (A8 (a.size:Int) (1:Int) (8:Int))&&decide (vl (Fl a (ByteArray.mk #[(97:UInt8),(98:UInt8),(99:UInt8),(100:UInt8),(101:UInt8),(102:UInt8),(103:UInt8),(104:UInt8),(105:UInt8),(106:UInt8),(107:UInt8),(108:UInt8),(109:UInt8),(110:UInt8),(111:UInt8),(112:UInt8),(113:UInt8),(114:UInt8),(115:UInt8),(116:UInt8),(117:UInt8),(118:UInt8),(119:UInt8),(120:UInt8),(121:UInt8),(122:UInt8),(48:UInt8),(49:UInt8),(50:UInt8),(51:UInt8),(52:UInt8),(53:UInt8),(54:UInt8),(55:UInt8),(56:UInt8),(57:UInt8)]))=ByteArray.mk #[]))=true/\True->ix (0:Int) a.size)/\((vl (A8 (a.size:Int) (1:Int) (8:Int))&&decide (vl (Fl a (ByteArray.mk #[(97:UInt8),(98:UInt8),(99:UInt8),(100:UInt8),(101:UInt8),(102:UInt8),(103:UInt8),(104:UInt8),(105:UInt8),(106:UInt8),(107:UInt8),(108:UInt8),(109:UInt8),(110:UInt8),(111:UInt8),(112:UInt8),(113:UInt8),(114:UInt8),(115:UInt8),(116:UInt8),(117:UInt8),(118:UInt8),(119:UInt8),(120:UInt8),(121:UInt8),(122:UInt8),(48:UInt8),(49:UInt8),(50:UInt8),(51:UInt8),(52:UInt8),(53:UInt8),(54:UInt8),(55:UInt8),(56:UInt8),(57:UInt8)]))=ByteArray.mk #[]))=true/\True->(Pk (ByteArray.mk #[(97:UInt8),(98:UInt8),(99:UInt8),(100:UInt8),(101:UInt8),(102:UInt8),(103:UInt8),(104:UInt8),(105:UInt8),(106:UInt8),(107:UInt8),(108:UInt8),(109:UInt8),(110:UInt8),(111:UInt8),(112:UInt8),(113:UInt8),(114:UInt8),(115:UInt8),(116:UInt8),(117:UInt8),(118:UInt8),(119:UInt8),(120:UInt8),(121:UInt8),(122:UInt8)]) (F3 a (Int.toNat (0:Int)))).isSome)/\True)<|lt ((vl (Fl a (ByteArray.mk #[97,98,99,100,101,102,103,104,105,106,107,108,109,110,111,112,113,114,115,116,117,118,119,120,121,122,48,49,50,51,52,53,54,55,56,57])),vl (Pk (ByteArray.mk #[(97:UInt8),(98:UInt8),(99:UInt8),(100:UInt8),(101:UInt8),(102:UInt8),(103:UInt8),(104:UInt8),(105:UInt8),(106:UInt8),(107:UInt8),(108:UInt8),(109:UInt8),(110:UInt8),(111:UInt8),(112:UInt8),(113:UInt8),(114:UInt8),(115:UInt8),(116:UInt8),(117:UInt8),(118:UInt8),(119:UInt8),(120:UInt8),(121:UInt8),(122:UInt8)]) (F3 a (Int.toNat (0:Int)))))) fun(b,c) =>
 some (vl (A8 (a.size:Int) 1 8)&&decide (b=ByteArray.mk #[])&&decide (0<=c))
def R0q:Ct:=j9 111 [.dat Ty.str] (fun x=>Q9 x.1) (fun r:Bool=>B r) (fun _=>())
theorem TZ:Ok prog R0q:=by
 refine k8 [.tmp 2] func111 ?_;intro y ⟨c,_⟩ r H Q hn hr;have:=hz (tc O0K (tc O0L (tc Ac tn)));refine iA [0]<|qD (fun(a,b)=>Z [p 2 (B (vl (A8 (c.size:Int) 1 8)&&decide (a=ByteArray.mk #[])&&decide (0<=b)))] []) H fun⟨a,b⟩ H =>
  j0<|hr H
def A0G:Unit->Option Bool
 | _ =>
 some true
def A0F(b:List ByteArray)(c:Int->Option Bool):Int->Option Bool
 | a =>
 if(decide (a < (b.length:Int))) then
  gd (ix a b.length/\True) <|
  gd ((Q9 (b.getD a.toNat (b7 Ty.str))).isSome/\((!vl (Q9 (b.getD a.toNat (b7 Ty.str))))=false/\True->(0:Int)<=(0:Int)/\(0:Int)<=a/\a<=(b.length:Int))/\((!vl (Q9 (b.getD a.toNat (b7 Ty.str))))=false/\True->(Pj (List.take a.toNat b) (b.getD a.toNat (b7 Ty.str))).isSome)/\True) <|
  if(!vl (Q9 (b.getD a.toNat (b7 Ty.str)))||vl (Pj (List.take a.toNat b) (b.getD a.toNat (b7 Ty.str)))) then
   some false
  else
   gd (c9 (a+1)/\True) <|
   c (a+1)
 else
  A0G ()
def Y2(a:List ByteArray):Option Bool :=
 lp (A0F a) 0
def Q0o:Ct:=j9 175 [.dat Ty.str.sl] (fun x=>Y2 x.1) (fun r:Bool=>B r) (fun _=>())
theorem Ua:Ok prog Q0o:=by
 refine k8 [.tmp 2] func175 ?_;intro y ⟨a,_⟩ r H Q hn hr;have:=hz (tc O0v (tc TZ tn));refine iA [0]<|jN r (fun(_:Unit)=>Z [] []) (A0G) (fun _ H=>?_) (fun _ g i c=>?_)
 ·refine iA [2]<|j0<|hr H
 refine iA [0,5,6,7]<|vB<|lX (fun(b:Int)=>Z [p 0 (L Ty.str a),p 5 (L Ty.str a),p 6 (I (a.length:Int)),p 7 (I b)] []) 0 H fun _ h e d f b H=>iA [0,5,6,7,8]<|vQ<|cD H (fun H=>?_) (fun H=>?_)
 ·refine vK<|fQ<|vQ<|vB<|iB [0,3,4,5,6,7] H fun H=>iB [0,5,6,7,21] H fun H=>cD H (fun H=>iA [2]<|j0<|l8<|fR<|f<|l8<|c<|hr H) fun H=>vK<|fK<|fQ<|jB [0,5,6,7] H fun H=>e H
 exact vE<|fE<|d<|fX rfl<|g H
def Lo(a:List ByteArray)(b:r6):List ByteArray->Option Bool
 | c =>
 gd (((decide ((a.length:Int)<=14)&&decide ((b.2.1.length:Int)<=30)&&decide ((c.length:Int)<=8))=true/\True->(Y2 a).isSome)/\((decide ((a.length:Int)<=14)&&decide ((b.2.1.length:Int)<=30)&&decide ((c.length:Int)<=8)&&vl (Y2 a))=true/\True->(Y2 b.2.1).isSome)/\((decide ((a.length:Int)<=14)&&decide ((b.2.1.length:Int)<=30)&&decide ((c.length:Int)<=8)&&vl (Y2 a)&&vl (Y2 b.2.1))=true/\True->(Y2 c).isSome)/\True) <|
 some (decide ((a.length:Int)<=14)&&decide ((b.2.1.length:Int)<=30)&&decide ((c.length:Int)<=8)&&vl (Y2 a)&&vl (Y2 b.2.1)&&vl (Y2 c))
def B0d(b:r6)(f:List ByteArray)(e:List ByteArray×Int->Option Bool):List ByteArray×Int->Option Bool
 | (c,a) =>
 if(decide (a < (b.2.2.length:Int))) then
  gd (ix a b.2.2.length/\True)<|lt (b.2.2.getD a.toNat (b7 y202)) fun d =>
  gd ((c.length+[d.1].length<=9223372036854775807/\(c.length+[d.1].length)*16<=140737488355328)/\True) <|
  gd (c9 (a+1)/\True) <|
  e (c++[d.1],a+1)
 else
  Lo f b c
def Lp(a:r6):List ByteArray->Option Bool
 | b =>
 lp (B0d a b) ([],0)
def B0e(b:r6)(e:List ByteArray×Int->Option Bool):List ByteArray×Int->Option Bool
 | (c,a) =>
 if(decide (a < (b.1.length:Int))) then
  gd (ix a b.1.length/\True)<|lt (b.1.getD a.toNat (b7 y139)) fun d =>
  gd ((c.length+[d.1].length<=9223372036854775807/\(c.length+[d.1].length)*16<=140737488355328)/\True) <|
  gd (c9 (a+1)/\True) <|
  e (c++[d.1],a+1)
 else
  Lp b c
def Pl(a:r6):Option Bool :=
 lp (B0e a) ([],0)
def Q0X:Ct:=j9 134 [.agg y31] (fun x=>Pl x.1) (fun r:Bool=>B r) (fun _=>())
theorem O0T:Ok prog Q0X:=by
 refine k8 [.tmp 2] func134 ?_;intro y ⟨a,_⟩ r H Q hn hr;have:=hz (tc Ua tn);refine iA [1]<|iA [1,3,4]<|jN r (fun(b:List ByteArray)=>Z (Dc [p 4 (nil)]) [(1,K 31 y31 a),(20,A 9 Ty.str b 0)]) (Lp a) (fun b H=>?_) (fun _ o u s=>?_)
 ·refine jN r (fun(i:List ByteArray)=>Z (Dc [p 4 (O 33)]) [(1,K 31 y31 a),(20,A 9 Ty.str b 0),(33,A 9 Ty.str i 0)]) (Lo b a) (fun i H=>?_) (fun _ n t z=>?_)
  ·refine iB [2] H fun H=>j0<|hr H
  refine iA [1,3,4,23,24,25]<|vB<|lX (fun((c,d):List ByteArray×Int)=>Z (Dc [p 4 (O 33),p 23 (L y202 a.2.2),p 24 (I (a.2.2.length:Int)),p 25 (I d)]) [(1,K 31 y31 a),(20,A 9 Ty.str b 0),(33,A 9 Ty.str c 0)]) ([],0) H fun _ v m j w ⟨c,d⟩ H=>iA [1,3,4,23,24,25,26]<|vQ<|cD H (fun H=>vK<|fQ<|vQ<|vB<|qD (fun g=>Z (Dc [p 4 (O 33),p 8 (R 8),p 23 (L y202 a.2.2),p 24 (I (a.2.2.length:Int)),p 25 (I d)]) [(8,K 202 y202 g),(1,K 31 y31 a),(20,A 9 Ty.str b 0),(33,A 9 Ty.str c 0)]) H fun g H=>jB [1,3,4,23,24,25] H fun H=>fK<|fQ<|jB [1,3,4,23,24,25] H fun H=>m H) fun H=>vE<|fE<|j<|fX rfl<|n H
 refine iA [1,3,4,10,11,12]<|vB<|lX (fun((e,f):List ByteArray×Int)=>Z (Dc [p 4 (nil),p 10 (L y139 a.1),p 11 (I (a.1.length:Int)),p 12 (I f)]) [(1,K 31 y31 a),(20,A 9 Ty.str e 0)]) ([],0) H fun _ q k l x ⟨e,f⟩ H=>iA [1,3,4,10,11,12,13]<|vQ<|cD H (fun H=>vK<|fQ<|vQ<|vB<|qD (fun h=>Z (Dc [p 4 (nil),p 6 (R 6),p 10 (L y139 a.1),p 11 (I (a.1.length:Int)),p 12 (I f)]) [(6,K 139 y139 h),(1,K 31 y31 a),(20,A 9 Ty.str e 0)]) H fun h H=>jB [1,3,4,10,11,12] H fun H=>fK<|fQ<|jB [1,3,4,10,11,12] H fun H=>k H) fun H=>vE<|fE<|l<|fX rfl<|o H
def Ub(a:z7)(b:Int):Option Bool :=
 some (a.1==b)
def P0w:Ct:=j9 239 [.agg y67,.dat (.pt i64)] (fun x=>Ub x.1 x.2.1) (fun r:Bool=>B r) (fun _=>())
theorem Uc:Ok prog P0w:=by
 refine k8 [.tmp 3] func239 ?_;intro y ⟨_,_,_⟩ r H Q hn hr;refine iA [1,2]<|iA [3]<|j0<|hr H
def j0B:Unit->Option Int
 | _ =>
 some (-1)
def r0G(b:List z7)(c:Int)(d:Int->Option Int):Int->Option Int
 | a =>
 if(decide (a < (b.length:Int))) then
  gd (ix a b.length/\(Ub (b.getD a.toNat (b7 y67)) c).isSome/\True) <|
  if(vl (Ub (b.getD a.toNat (b7 y67)) c)) then
   some a
  else
   gd (c9 (a+1)/\True) <|
   d (a+1)
 else
  j0B ()
def Pm(a:List z7)(b:Int):Option Int :=
 lp (r0G a b) 0
def y0Z:Ct:=j9 238 [.dat y67.sl,.fn 239 i64.pt] (fun x=>Pm x.1 x.2.1) (fun r:Int=>I r) (fun _=>())
theorem Ud:Ok prog y0Z:=by
 refine k8 [.tmp 4] func238 ?_;intro y ⟨a,e,_⟩ r H Q hn hr;have:=hz (tc Uc tn);refine iA [0,1]<|jN r (fun(_:Unit)=>Z [] []) (j0B) (fun _ H=>?_) (fun _ h j c=>?_)
 ·refine iA [4]<|j0<|hr H
 refine iA [0,1,7,8]<|vB<|lX (fun(b:Int)=>Z [p 0 (L y67 a),p 1 (AV.fn 239 [D i64.pt e]),p 7 (I (a.length:Int)),p 8 (I b)] []) 0 H fun _ i f d g b H=>iA [0,1,7,8,9]<|vQ<|cD H (fun H=>?_) (fun H=>?_)
 ·refine vK<|fQ<|vQ<|vB<|iA [0,1,5,7,8]<|iB [0,1,5,7,8,16] H fun H=>cD H (fun H=>iA [4]<|j0<|l8<|fR<|g<|l8<|c<|hr H) fun H=>vK<|fK<|fQ<|jB [0,1,7,8] H fun H=>f H
 exact vE<|fE<|d<|fX rfl<|h H
def Pn(a:List z7)(b:Int):Option Bool :=
 gd ((Pm a b).isSome/\True)<|lt (vl (Pm a b)) fun c =>
 some (decide (0<=c))
def z0b:Ct:=j9 221 [.dat y67.sl,.fn 239 (.pt i64)] (fun x=>Pn x.1 x.2.1) (fun r:Bool=>B r) (fun _=>())
theorem q0p:Ok prog z0b:=by
 refine k8 [.tmp 4] func221 ?_;intro y ⟨_,_,_⟩ r H Q hn hr;have:=hz (tc Ud (tc Uc tn));refine iA [0,1]<|iD Ud [4] H fun _ H=>j0<|hr H
def O5(a:m4)(b:Int):Option Bool :=
 gd ((Pn a.2.2.2.1 b).isSome/\True) <|
 some (vl (Pn a.2.2.2.1 b))
def P0H:Ct:=j9 224 [.agg y64,.dat i64] (fun x=>O5 x.1 x.2.1) (fun r:Bool=>B r) (fun _=>())
theorem O0r:Ok prog P0H:=by
 refine k8 [.tmp 4] func224 ?_;intro y ⟨_,_,_⟩ r H Q hn hr;have:=hz (tc q0p (tc Uc tn));refine iA [2,3]<|iB [4] H fun H=>j0<|hr H
def Cs(a:List I2):Option Int :=
 some (a.length:Int)
def P0L:Ct:=j9 219 [.dat y233.sl] (fun x=>Cs x.1) (fun r:Int=>I r) (fun _=>())
theorem Ue:Ok prog P0L:=by
 refine k8 [.tmp 2] func219 ?_;intro y ⟨_,_⟩ r H Q hn hr;refine iA [0]<|iA [2]<|j0<|hr H
def V5(a:m4):Option Int :=
 gd ((Cs a.2.2.1).isSome/\c9 (vl (Cs a.2.2.1)-1)/\True)<|lt (vl (Cs a.2.2.1)) fun b =>
 some (b-1)
def P0I:Ct:=j9 223 [.agg y64] (fun x=>V5 x.1) (fun r:Int=>I r) (fun _=>())
theorem Lq:Ok prog P0I:=by
 refine k8 [.tmp 2] func223 ?_;intro y ⟨_,_⟩ r H Q hn hr;have:=hz (tc Ue tn);refine iA [1]<|iD Ue [2] H fun _ H=>j0<|hr H
def Iy(a:m4):Int->Option Bool
 | b =>
 if(a.2.1==1) then
  gd (((b==(0:Int))=true/\True->(V5 a).isSome)/\((b==(0:Int))=true/\True->((0:Int)<=vl (V5 a)/\vl (V5 a)<=(62:Int))/\c9 ((1:Int)*(2:Int) ^ (vl (V5 a)).toNat))/\((b==(0:Int)&&(a.2.2.2.2.1.length:Int)==(1:Int)*(2:j5 i64) ^ (vl (V5 a)).toNat)=true/\True->(I3 a.2.2.2.2.1 (0:Int) (1:Int)).isSome)/\True)<|lt (vl (V5 a)) fun c =>
  some (b==(0:Int)&&(a.2.2.2.2.1.length:Int)==(1:Int)*(2:j5 i64) ^ c.toNat&&vl (I3 a.2.2.2.2.1 (0:Int) (1:Int)))
 else
  if(a.2.1==2) then
   gd (((b==1&&(a.2.2.2.2.1.length:Int)==0)=true/\True->(O5 a 1).isSome)/\((b==1&&(a.2.2.2.2.1.length:Int)==0&&!vl (O5 a 1))=true/\True->(O5 a 2).isSome)/\((b==1&&(a.2.2.2.2.1.length:Int)==0&&!vl (O5 a 1))=true/\True->(O5 a 3).isSome)/\True) <|
   some (b==1&&(a.2.2.2.2.1.length:Int)==0&&!vl (O5 a 1)&&!vl (O5 a 2)==vl (O5 a 3))
  else
   if(a.2.1==3) then
    gd (((b==1&&(a.2.2.2.2.1.length:Int)==0)=true/\True->(O5 a 1).isSome)/\((b==1&&(a.2.2.2.2.1.length:Int)==0&&vl (O5 a 1))=true/\True->(O5 a 2).isSome)/\((b==1&&(a.2.2.2.2.1.length:Int)==0&&vl (O5 a 1)&&vl (O5 a 2))=true/\True->(O5 a 3).isSome)/\True) <|
    some (b==1&&(a.2.2.2.2.1.length:Int)==0&&vl (O5 a 1)&&vl (O5 a 2)&&!vl (O5 a 3))
   else
    some false
def Po(a:Int)(b:Int×Int->Option Bool):Int->Option Bool
 | c =>
 gd (c9 (a+1)/\True) <|
 b (c,a+1)
def A0r(c:m4)(d:Int×Int->Option Bool):Int×Int->Option Bool
 | (b,a) =>
 if(decide (a < (c.2.2.1.length:Int))) then
  gd (ix a c.2.2.1.length/\True)<|lt (c.2.2.1.getD a.toNat (b7 y233)) fun e =>
  if e.2.2.2 then
   gd (c9 (b+1)/\True) <|
   Po a d (b+1)
  else
   Po a d b
 else
  Iy c b
def Pp(a:m4):Option Bool :=
 lp (A0r a) (0,0)
def P0W:Ct:=j9 203 [.agg y64] (fun x=>Pp x.1) (fun r:Bool=>B r) (fun _=>())
theorem O0w:Ok prog P0W:=by
 refine k8 [.tmp 2] func203 ?_;intro y ⟨a,_⟩ r H Q hn hr;have:=hz (tc O0r (tc Lk (tc Lq tn)));refine iA [1]<|iA [1,3]<|jN r (fun(d:Int)=>Z (Q7 d []) [(1,K 64 y64 a)]) (Iy a) (fun d H=>?_) (fun _ k m l=>?_)
 ·refine vQ<|iA [1,3,19]<|vB<|iA [1,3,19,20]<|cD H (fun H=>iD Lq [2] H fun _ H=>j0<|l8<|fR<|hr H) fun H=>iA [1,3,19,38]<|cD H (fun H=>iB [2] H fun H=>j0<|l8<|fR<|hr H) fun H=>iA [1,3,60]<|cD H (fun H=>iB [2] H fun H=>j0<|l8<|fR<|hr H) fun H=>vK<|fK<|fQ<|iA [2]<|j0<|hr H
 refine iA [1,3,7,8,9]<|vB<|lX (fun((c,b):Int×Int)=>Z (Q7 c [p 7 (L y233 a.2.2.1),p 8 (I (a.2.2.1.length:Int)),p 9 (I b)]) [(1,K 64 y64 a)]) (0,0) H fun _ h j i o ⟨c,b⟩ H=>iA [1,3,7,8,9,10]<|vQ<|cD H (fun H=>?_) (fun H=>?_)
 ·refine vK<|fQ<|jN r (fun(e:Int)=>Z (Q7 e [p 7 (L y233 a.2.2.1),p 8 (I (a.2.2.1.length:Int)),p 9 (I b)]) [(1,K 64 y64 a)]) (Po b h) (fun e H=>?_) (fun _ f n q=>?_)
  ·refine jB [1,3,7,8,9] H fun H=>j H
  refine vB<|qD (fun g=>Z (Q7 c [p 5 (R 5),p 7 (L y233 a.2.2.1),p 8 (I (a.2.2.1.length:Int)),p 9 (I b)]) [(5,K 233 y233 g),(1,K 64 y64 a)]) H fun g H=>iA [1,3,7,8,9,14]<|cD H (fun H=>jB [1,3,7,8,9] H fun H=>fK<|f H) fun H=>vK<|fK<|f H
 exact vE<|fE<|i<|fX rfl<|k H
def GG(a:m4)(b:Int):Option Bool :=
 gd ((V5 a).isSome/\c9 (vl (V5 a)-1)/\(A8 b 0 (vl (V5 a)-1)).isSome/\True) <|
 some (vl (A8 b 0 (vl (V5 a)-1)))
def P0x:Ct:=j9 237 [.agg y64,.dat i64] (fun x=>GG x.1 x.2.1) (fun r:Bool=>B r) (fun _=>())
theorem O0j:Ok prog P0x:=by
 refine k8 [.tmp 4] func237 ?_;intro y ⟨_,_,_⟩ r H Q hn hr;have:=hz (tc Ac (tc Lq tn));refine iA [1,2]<|iB [4] H fun H=>j0<|hr H
def A0b:Int->Option Int
 | a =>
 some a
def Uf(b:List Int)(d:Int×Int->Option Int):Int×Int->Option Int
 | (c,a) =>
 if(decide (a < (b.length:Int))) then
  gd (ix a b.length/\True) <|
  gd (c9 (a+1)/\True) <|
  d ((min c (b.getD a.toNat 0),a+1))
 else
  A0b c
def Ug(a:List Int):Unit->Option Int
 | _ =>
 gd (ix 0 a.length/\True) <|
 lp (Uf a) ((a.getD (Int.toNat (0:Int)) (0:Int),1))
def Iz(a:List Int):Option Int :=
 if(decide ((a.length:Int)<1)) then
  none
 else
  Ug a ()
def P0q:Ct:=j9 249 [.dat i64.sl] (fun x=>Iz x.1) (fun r:Int=>I r) (fun _=>())
theorem M0o:Ok prog P0q:=by
 refine k8 [.tmp 2] func249 ?_;intro y ⟨a,_⟩ r H Q hn hr;refine iA [0]<|jN r (fun(_:Unit)=>Z [p 0 (L i64 a)] []) (Ug a) (fun _ H=>?_) (fun _ h k i=>?_)
 ·refine iB [0,3] H fun H=>jN r (fun(c:Int)=>Z [p 3 (J c)] []) (A0b) (fun c H=>?_) (fun _ e j m=>?_)
  ·refine iA [2]<|j0<|hr H
  refine iA [0,3,4]<|vB<|lX (fun((d,b):Int×Int)=>Z [p 0 (L i64 a),p 3 (J d),p 4 (I b)] []) ((a.getD (Int.toNat (0:Int)) (0:Int),1)) H fun _ l g f n ⟨d,b⟩ H=>vQ<|iA [0,3,4,15]<|cD H (fun H=>vK<|fQ<|vQ<|vB<|jB [0,3,4] H fun H=>fK<|fQ<|jB [0,3,4] H fun H=>g H) fun H=>vE<|fE<|f<|fX rfl<|e H
 refine iA [0,7]<|cD H (fun H=>N0f H) fun H=>vK<|h H
def B0q:Unit->Option Bool
 | _ =>
 some true
def B0p(b:List Int)(c:Int->Option Bool):Int->Option Bool
 | a =>
 if(decide (a < (b.length:Int))) then
  gd (c9 (a-1)/\ix (a-1) b.length/\ix a b.length/\True) <|
  if(decide (b.getD a.toNat 0<=b.getD (a-1).toNat 0)) then
   some false
  else
   gd (c9 (a+1)/\True) <|
   c (a+1)
 else
  B0q ()
def Cu(a:List Int):Option Bool :=
 lp (B0p a) 1
def R0g:Ct:=j9 124 [.dat i64.sl] (fun x=>Cu x.1) (fun r:Bool=>B r) (fun _=>())
theorem M0P:Ok prog R0g:=by
 refine k8 [.tmp 2] func124 ?_;intro y ⟨d,_⟩ r H Q hn hr;refine iA [0]<|jN r (fun(_:Unit)=>Z [] []) (B0q) (fun _ H=>?_) (fun _ g i b=>?_)
 ·refine iA [2]<|j0<|hr H
 refine iA [0,3]<|vB<|lX (fun(a:Int)=>Z [p 0 (L i64 d),p 3 (I a)] []) 1 H fun _ h e c f a H=>vQ<|iA [0,3,7]<|cD H (fun H=>?_) (fun H=>?_)
 ·refine vK<|fQ<|vQ<|vB<|iB [0,3,19] H fun H=>cD H (fun H=>iA [2]<|j0<|l8<|fR<|f<|l8<|b<|hr H) fun H=>vK<|fK<|fQ<|jB [0,3] H fun H=>e H
 exact vE<|fE<|c<|fX rfl<|g H
def Bb(a:List Int):Option Bool :=
 gd ((D6 a).isSome/\(A8 (vl (D6 a)) 1 4).isSome/\(vl (A8 (vl (D6 a)) 1 4)=true/\True->(I3 a 0 100000).isSome)/\((vl (A8 (vl (D6 a)) 1 4)&&vl (I3 a 0 100000))=true/\True->(Cu a).isSome)/\True) <|
 some (vl (A8 (vl (D6 a)) 1 4)&&vl (I3 a 0 100000)&&vl (Cu a))
def P0o:Ct:=j9 253 [.dat i64.sl] (fun x=>Bb x.1) (fun r:Bool=>B r) (fun _=>())
theorem O0g:Ok prog P0o:=by
 refine k8 [.tmp 2] func253 ?_;intro y ⟨_,_⟩ r H Q hn hr;have:=hz (tc M0P (tc Lk (tc Ac (tc Le tn))));refine iA [0]<|iB [2] H fun H=>j0<|hr H
end Go.Proofs.YtdjgagoledoaaaaGreatDoor
end
