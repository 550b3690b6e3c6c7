/- Functions of this program as plain functions of data, and that they are so: printed by program. -/
import Derived.Test.YtdjgagoledoaaaaGreatDoorXD
import Derived.Test.YtdjgagoledoaaaaGreatDoorXF
import Derived.Test.YtdjgagoledoaaaaGreatDoorTY
import Derived.Test.YtdjgagoledoaaaaGreatDoorLB
section
namespace Go.Proofs.YtdjgagoledoaaaaGreatDoor
open Go Go.Proofs Go.Proofs.Sv Go.Proofs.Xv Go.Proofs.Xl Go.RowKit
open Tryz
instance:HG Tryz.prog Γ:=⟨M1⟩
abbrev bx(T:TypeId)(c:List AV):Ob:=.box T c
abbrev b8:Ty:=.int .u8
abbrev Q0(x:ByteArray×Int×j6 (.sl y233)×j6 (.sl y67)×j6 (.sl i64)×Int×Int):List AV:=[S x.1,I x.2.1,M y233 x.2.2.1,M y67 x.2.2.2.1,L i64 x.2.2.2.2.1,I x.2.2.2.2.2.1,I x.2.2.2.2.2.2]
abbrev Q1(x:j6 (.sl y64)×(j6 (.sl y139)×j6 (.sl Ty.str)×j6 (.sl y202))×j6 (.sl l7)):List AV:=[L y64 x.1,L y139 x.2.1.1,L Ty.str x.2.1.2.1,L y202 x.2.1.2.2,L l7 x.2.2,AV.os 18 0,AV.os 38 0,nil,nil,nil]
abbrev Q2(x:j6 (.sl y64)×(j6 (.sl y139)×j6 (.sl Ty.str)×j6 (.sl y202))×j6 (.sl l7)):List AV:=[L y64 x.1,M y139 x.2.1.1,M Ty.str x.2.1.2.1,M y202 x.2.1.2.2,M l7 x.2.2]
abbrev Q3(x:j6 (.sl y64)×(j6 (.sl y139)×j6 (.sl Ty.str)×j6 (.sl y202))×j6 (.sl l7)):List AV:=[L y64 x.1,L y139 x.2.1.1,L Ty.str x.2.1.2.1,L y202 x.2.1.2.2,L l7 x.2.2,AV.os 18 0,AV.os 38 0,AV.os 102 0,AV.os 114 0,nil]
abbrev Q4(x:ByteArray×Int×j6 (.sl y233)×j6 (.sl y67)×Int×Int):List AV:=[S x.1,I x.2.1,M y233 x.2.2.1,M y67 x.2.2.2.1,nil,I x.2.2.2.2.1,I x.2.2.2.2.2]
abbrev Q5(x:j6 (.sl y139)×j6 (.sl Ty.str)×j6 (.sl y202)):List AV:=[AV.os 9 0,M y139 x.1,M Ty.str x.2.1,M y202 x.2.2,AV.os 1009 0]
abbrev Q60(x1:j6 (.sl y139)):List AV:=[M y139 x1,AV.os 18 0,AV.os 23 0]
abbrev Td(x1:j6 (.sl y139))(x2:j6 (.sl Ty.str))(x3:j6 (.sl y202)):List AV:=[M y139 x1,M Ty.str x2,M y202 x3]
abbrev Df(x1:j6 (.sl y139))(x2:j6 (.sl Ty.str))(x3:j6 (.sl y202)):List AV:=[AV.os 9 0,M y139 x1,M Ty.str x2,M y202 x3,AV.os 1009 0]
abbrev A8(x1:j6 (.sl b8))(x2:Int)(x3:Int):List AV:=[L b8 x1,J x2,J x3]
abbrev BE(x1:j6 (.sl y64))(x2:j6 (.sl y139))(x3:j6 (.sl Ty.str))(x4:j6 (.sl y202))(x5:j6 (.sl l7)):List AV:=[L y64 x1,M y139 x2,M Ty.str x3,M y202 x4,M l7 x5]
abbrev Co(x1:ByteArray)(x2:Int)(x3:Int)(x4:Int):List AV:=[S x1,I x2,nil,nil,nil,I x3,I x4]
abbrev Cp(x1:ByteArray)(x2:Int)(x3:Int)(x4:Int)(x5:Int):List AV:=[S x1,I x2,I x3,I x4,I x5]
abbrev W0(y0:j6 (.sl y139))(y1:List (j6 y202))(y2:List (j6 Ty.str))(y3:j6 (.sl y139))(y4:j6 (.sl Ty.str))(y5:j6 (.sl y202)):List (Nat×Ob):=[(7,bx 31 (Q60 y0)),(23,A 202 y202 y1 0),(18,A 9 Ty.str y2 0),(6,bx 31 (Td y3 y4 y5))]
abbrev W1:List (Nat×Ob):=[(3,bx 36 (Cp (ByteArray.mk #[]) 0 0 0 0)),(2,bx 34 [nil,nil,nil,nil,nil])]
abbrev W2(y0:List (j6 l7))(y1:List (j6 y64)):List (Nat×Ob):=[(1009,A 153 l7 y0 0),(9,Ob.arr 64 false y64 y1 0),(2,bx 34 [nil,nil,nil,nil,nil])]
abbrev G3(y0:Bool)(y1:Int)(t:List (Nat×Sl)):List (Nat×Sl):=p 0 (R 500000) :: p 2 (C y0) :: p 6 (R 6) :: p 7 (R 7) :: p 8 (O 25) :: p 9 (O 26) :: p 10 (O 27) :: p 11 (I y1) :: t
abbrev G4(t:List (Nat×Sl)):List (Nat×Sl):=p 0 (R 500000) :: p 2 (R 2) :: p 3 (R 3) :: p 6 (R 6) :: p 7 (R 7) :: t
abbrev W5(y0:Int)(y1:Int)(y2:Int)(y3:Int)(y4:Int)(y5:j6 P0)(y6:j6 r7)(y7:j6 l9):List (Nat×Ob):=[(17,bx 53 [J y0,J y1,J y2,J y3,J y4]),(15,bx 53 [I 0,I 0,I 0,I 0,I 0]),(12,K 44 P0 y5),(8,K 36 r7 y6),(7,K 34 l9 y7)]
abbrev W6(y0:List (j6 y151))(y1:j6 l9)(y2:List (j6 y80)):List (Nat×Ob):=[(18,A 151 y151 y0 0),(1,K 34 l9 y1),(38,A 80 y80 y2 0)]
abbrev G7(t:List (Nat×Sl)):List (Nat×Sl):=p 2 (R 2) :: p 3 (R 3) :: t
abbrev W8(y0:List (j6 i64)):List (Nat×Ob):=[(3012,A 2 i64 y0 0),(4,bx 153 [nil,nil,nil,nil])]
abbrev G9(y0:Int)(y1:Int)(y2:Int)(y3:Int)(y4:Int)(y5:Int)(y6:Int)(y7:Int)(y8:Int)(t:List (Nat×Sl)):List (Nat×Sl):=p 3 (J y0) :: p 4 (R 4) :: p 9 (I y1) :: p 10 (I y2) :: p 11 (I y3) :: p 12 (I y4) :: p 13 (I y5) :: p 14 (I y6) :: p 15 (I y7) :: p 16 (I y8) :: t
abbrev Ay(t:List (Nat×Sl)):List (Nat×Sl):=p 1 (R 1) :: p 3 (R 20) :: p 7 (O 50) :: t
abbrev BF(t:List (Nat×Sl)):List (Nat×Sl):=p 0 (R 500000) :: p 4 (R 4) :: p 5 (R 5) :: t
abbrev Az(y0:Int)(y1:List (j6 y80))(y2:List (j6 Ty.bool))(t:List (Nat×Sl)):List (Nat×Sl):=p 0 (J y0) :: p 1 (L y80 y1) :: p 2 (L Ty.bool y2) :: t
abbrev Dg(y0:Bool)(t:List (Nat×Sl)):List (Nat×Sl):=p 0 (R 500000) :: p 2 (C y0) :: p 6 (R 6) :: p 7 (R 7) :: t
abbrev Ij(y0:j6 P0)(y1:j6 r7):List (Nat×Ob):=[(11,bx 53 [I 0,I 0,I 0,I 0,I 0]),(8,K 44 P0 y0),(6,K 36 r7 y1)]
abbrev Fb(y0:Int)(t:List (Nat×Sl)):List (Nat×Sl):=p 0 (R 500000) :: p 5 (O 13) :: p 6 (O 20) :: p 7 (I y0) :: t
abbrev Ks(y0:List (j6 y80))(y1:List (j6 Ty.bool))(y2:Int)(t:List (Nat×Sl)):List (Nat×Sl):=p 2 (L y80 y0) :: p 3 (L Ty.bool y1) :: p 6 (J y2) :: p 7 (R 7) :: p 8 (R 8) :: p 12 (R 12) :: p 15 (R 15) :: t
abbrev Ik(y0:Int)(y1:Int)(y2:Int)(y3:Int)(t:List (Nat×Sl)):List (Nat×Sl):=p 3 (J y0) :: p 4 (R 4) :: p 10 (I y1) :: p 11 (O 29) :: p 12 (I y2) :: p 13 (I y3) :: t
abbrev U5(y0:Int)(t:List (Nat×Sl)):List (Nat×Sl):=p 1 (R 1) :: p 3 (I y0) :: t
abbrev Kt(y0:j6 y157.pt)(y1:List (j6 Ty.bool)):List (Nat×Ob):=[(17,bx 104 [D y157.pt y0,AV.os 15 0]),(15,A 4 Ty.bool y1 0)]
abbrev Oy(y0:Int)(y1:Int)(y2:Int)(t:List (Nat×Sl)):List (Nat×Sl):=p 0 (R 500000) :: p 1 (J y0) :: p 4 (R 4) :: p 5 (O 12) :: p 6 (O 14) :: p 7 (O 15) :: p 8 (I y1) :: p 9 (I y2) :: t
abbrev Cq(t:List (Nat×Sl)):List (Nat×Sl):=p 0 (R 500000) :: p 6 (R 6) :: t
abbrev Oz(y0:j6 y104.pt)(t:List (Nat×Sl)):List (Nat×Sl):=p 0 (D y104.pt y0) :: p 6 (R 6) :: p 8 (R 8) :: p 11 (R 11) :: p 12 (R 12) :: p 13 (R 13) :: t
abbrev Il(y0:List (j6 U6))(y1:List (j6 U6))(y2:j6 y70):List (Nat×Ob):=[(29,A 252 U6 y0 0),(22,A 252 U6 y1 0),(4,K 70 y70 y2)]
abbrev Tf(y0:List (j6 y64)):List (Nat×Ob):=[(7,bx 26 [AV.os 12 0]),(12,Ob.arr 64 false y64 y0 0),(6,bx 34 [nil,nil,nil,nil,nil])]
abbrev Gt(y0:j6 y31)(y1:List (j6 y64)):List (Nat×Ob):=[(3,K 31 y31 y0),(2,bx 26 [L y64 y1])]
abbrev OA(y0:j6 (.sl b8))(y1:Int)(y2:Int):List (Nat×Ob):=[(500000,bx 122 (A8 y0 y1 y2)),(6,bx 64 (Co (ByteArray.mk #[]) 0 0 0))]
abbrev Ku(y0:Int)(y1:Int)(y2:Int)(y3:Int)(t:List (Nat×Sl)):List (Nat×Sl):=p 0 (O 500000) :: p 2 (J y0) :: p 3 (J y1) :: p 4 (J y2) :: p 6 (R 6) :: p 11 (I y3) :: t
abbrev Kv(y0:List (j6 i64)):List (Nat×Ob):=[(12,A 2 i64 y0 0),(4,bx 70 [nil,nil,nil])]
abbrev OB(y0:Int)(y1:Bool)(y2:Int)(t:List (Nat×Sl)):List (Nat×Sl):=p 0 (R 500000) :: p 5 (AV.os 13 1) :: p 6 (O 20) :: p 7 (I y0) :: p 8 (B y1) :: p 9 (I y2) :: t
abbrev Dh(t:List (Nat×Sl)):List (Nat×Sl):=p 1 (R 1) :: p 3 (O 20) :: t
abbrev Tg(y0:ByteArray)(y1:Int)(y2:Int)(y3:Int)(y4:List (j6 y233)):List (Nat×Ob):=[(9,bx 64 [U y0,J y1,AV.os 27 0,nil,nil,I y2,I y3]),(27,A 233 y233 y4 0),(8,bx 64 (Co (ByteArray.mk #[]) 0 0 0))]
abbrev Im(y0:List (j6 Ty.bool))(y1:List (j6 i64.sl)):List (Nat×Ob):=[(16,A 4 Ty.bool y0 0),(14,A 37 i64.sl y1 0)]
abbrev Kw(y0:Int)(t:List (Nat×Sl)):List (Nat×Sl):=p 1 (R 1) :: p 3 (O 12) :: p 4 (R 4) :: p 5 (I y0) :: t
abbrev Gu(y0:List (j6 i64))(y1:j6 y31):List (Nat×Ob):=[(92,A 2 i64 y0 0),(3,K 31 y31 y1)]
abbrev Kx(y0:List (j6 y80))(y1:List (j6 Ty.bool))(y2:Bool)(y3:Bool)(t:List (Nat×Sl)):List (Nat×Sl):=p 1 (L y80 y0) :: p 2 (L Ty.bool y1) :: p 4 (C y2) :: p 11 (O 17) :: p 12 (B y3) :: t
abbrev OC(y0:List (j6 y53))(y1:List (j6 y53))(y2:j6 m8)(y3:List (j6 u0)):List (Nat×Ob):=[(13,A 53 y53 y0 1),(78,A 53 y53 y1 0),(500000,K 122 m8 y2),(20,A 190 u0 y3 0)]
def u7(a:List Int):Option Bool :=
 some (decide (4096 < (a.length:Int)))
def k7:Ct:=k6 7 [.dat (b8.sl)] (fun x=>u7 x.1) (fun r:Bool=>B r) (fun _=>())
theorem o7:Ok prog k7:=by
 refine l5 [.tmp 2] func7 ?_;intro y ⟨_,_⟩ r H Q hn hr;refine iA [0]<|iA [2]<|j5<|hr H
def w7(a:Int)(b:Int)(c:Int):Option Bool :=
 some (decide (b<=a)&&decide (a<=c))
def R0v:Ct:=k6 101 [.dat i64,.dat i64,.dat i64] (fun x=>w7 x.1 x.2.1 x.2.2.1) (fun r:Bool=>B r) (fun _=>())
theorem BG:Ok prog R0v:=by
 refine l5 [.tmp 6] func101 ?_;intro y ⟨_,_,_,_⟩ r H Q hn hr;refine iA [0,1,2]<|iA [6]<|j5<|hr H
def Di(a:r8):Option Bool :=
 gd ((w7 a.1 (-1000000000) 1000000000).isSome/\(vl (w7 a.1 (-1000000000) 1000000000)=true/\True->(w7 a.2 (-1000000000) 1000000000).isSome)/\True) <|
 some (vl (w7 a.1 (-1000000000) 1000000000)&&vl (w7 a.2 (-1000000000) 1000000000)&&decide (a.1<=a.2))
def k80:Ct:=k6 80 [.agg y51] (fun x=>Di x.1) (fun r:Bool=>B r) (fun _=>())
theorem Zg:Ok prog k80:=by
 refine l5 [.tmp 2] func80 ?_;intro y ⟨_,_⟩ r H Q hn hr;have:=hz (tc BG tn);refine iA [1]<|iB [2] H fun H=>j5<|hr H
def Ky(b:r8)(a:r8):Option r8 :=
 some (min b.1 a.1,max b.2 a.2)
def R0a:Ct:=k6 132 [.agg y51,.agg y51] (fun x=>Ky x.1 x.2.1) (fun r:r8=>AV.agg [I r.1,I r.2]) (fun _=>())
theorem Th:Ok prog R0a:=by
 refine l5 [.cell 4 51] func132 ?_;intro y ⟨_,_,_⟩ r H Q hn hr;refine iA [2,3,4]<|iA [4]<|j5<|hr H
def W4(b:Int)(a:Int)(c:Int):Option Int :=
 gd (0<a/\True) <|
 gd (0<a/\True) <|
 if(decide (b.tmod a<0)&&c==0) then
  gd (j0 (b.tdiv a-1)/\True) <|
  some (b.tdiv a-1)
 else
  if(decide (0<b.tmod a)&&c==1) then
   gd (j0 (b.tdiv a+1)/\True) <|
   some (b.tdiv a+1)
  else
   some (b.tdiv a)
def Q0g:Ct:=k6 185 [.dat i64,.dat i64,.dat i64] (fun x=>W4 x.1 x.2.1 x.2.2.1) (fun r:Int=>I r) (fun _=>())
theorem Fc:Ok prog Q0g:=by
 refine l5 [.tmp 6] func185 ?_;intro y ⟨_,_,_,_⟩ r H Q hn hr;refine iA [0,1,2]<|iB [0,1,2,7] H fun H=>iB [2,7,8] H fun H=>vQ<|iA [2,7,8,20]<|cD H (fun H=>iB [6] H fun H=>j5<|fR<|hr H) fun H=>vK<|fQ<|vQ<|iA [7,28]<|cD H (fun H=>iB [6] H fun H=>j5<|fR<|hr H) fun H=>vK<|fQ<|iA [6]<|j5<|hr H
def Ti:Int->Option Int
 | a =>
 some a
def Kz(b:Int)(c:Int):Int->Option Int
 | a =>
 gd (((b==1)=true/\True->j0 (a*a))/\True) <|
 if(b==1&&decide (a*a<c)) then
  gd (j0 (a+1)/\True) <|
  Ti (a+1)
 else
  Ti a
def OD(c:Int)(e:Int)(d:Int×Int->Option Int):Int×Int->Option Int
 | (a,b) =>
 if(decide (a<b)) then
  gd (j0 (a+b)/\j0 (a+b+(1:Int))/\(0:Int) < (2:Int)/\True) <|
  gd (j0 ((a+b+1).tdiv 2*(a+b+1).tdiv 2)/\True) <|
  if(decide ((a+b+1).tdiv 2*(a+b+1).tdiv 2<=c)) then
   d (((a+b+1).tdiv 2,b))
  else
   gd (j0 ((a+b+1).tdiv 2-1)/\True) <|
   d ((a,(a+b+1).tdiv 2-1))
 else
  Kz e c a
def Cr(b:Int)(a:Int):Option Int :=
 lp (OD b a) (0,2000000000)
def P0P:Ct:=k6 211 [.dat i64,.dat i64] (fun x=>Cr x.1 x.2.1) (fun r:Int=>I r) (fun _=>())
theorem O0y:Ok prog P0P:=by
 refine l5 [.tmp 4] func211 ?_;intro y ⟨b,a,_⟩ r H Q hn hr;refine iA [0,1]<|iA [0,1,5,6]<|jN r (fun(g:Int)=>Z [p 0 (J b),p 1 (J a),p 5 (I g)] []) (Kz a b) (fun g H=>?_) (fun _ i k q=>?_)
 ·refine jN r (fun(d:Int)=>Z [p 5 (I d)] []) (Ti) (fun d H=>?_) (fun _ e l m=>?_)
  ·refine iA [4]<|j5<|hr H
  refine iB [5,32] H fun H=>cD H (fun H=>jB [5] H fun H=>e H) fun H=>vK<|e H
 refine vB<|lX (fun((c,f):Int×Int)=>Z [p 0 (J b),p 1 (J a),p 5 (I c),p 6 (I f)] []) (0,2000000000) H fun _ n h j o ⟨c,f⟩ H=>vQ<|iA [0,1,5,6,10]<|cD H (fun H=>?_) (fun H=>?_)
 ·refine vK<|fQ<|vB<|iB [0,1,5,6,7] H fun H=>iB [0,1,5,6,7,20] H fun H=>cD H (fun H=>jA [0,1,5,6]<|fK<|h H) fun H=>jB [0,1,5,6] H fun H=>fK<|h H
 exact vE<|fE<|j<|fX rfl<|i H
def Gv(c:List m5)(b:r9)(a:D3):Option Int :=
 if(decide (a.1<0)) then
  some 0
 else
  gd (ix a.1 b.1.length/\ix (b.1.getD a.1.toNat (a6 y139)).2.1 c.length/\ix a.2.1 (c.getD (b.1.getD a.1.toNat (a6 y139)).2.1.toNat (a6 y64)).2.2.1.length/\True)<|lt ((c.getD (b.1.getD a.1.toNat (a6 y139)).2.1.toNat (a6 y64)).2.2.1.getD a.2.1.toNat (a6 y233)) fun d =>
  some d.2.2.1
def P0F:Ct:=k6 227 [.agg y64.sl,.agg y31,.agg u0] (fun x=>Gv x.1 x.2.1 x.2.2.1) (fun r:Int=>I r) (fun _=>())
theorem O0u:Ok prog P0F:=by
 refine l5 [.tmp 6] func227 ?_;intro y ⟨b,c,d,_⟩ r H Q hn hr;refine iA [3,4,5]<|vQ<|iA [3,4,5,9]<|cD H (fun H=>iA [6]<|j5<|fR<|hr H) fun H=>vK<|fQ<|qD (fun a=>Z [p 6 (J a.2.2.1)] [(5,K 190 u0 d),(4,K 31 y31 c),(3,bx 26 [L y64 b])]) H fun a H=>j5<|hr H
def Zh:List D3->Option (List D3)
 | a =>
 some a
def Tj(b:r9)(e:Int×List D3->Option (List D3)):Int×List D3->Option (List D3)
 | (a,c) =>
 if(decide (a < (b.2.2.length:Int))) then
  gd (ix a b.2.2.length/\ix a b.2.2.length/\(c.length+[(-1,a,(b.2.2.getD a.toNat (a6 y202)).2.2,(b.2.2.getD a.toNat (a6 y202)).2.1==1)].length<=9223372036854775807/\(c.length+[(-1,a,(b.2.2.getD a.toNat (a6 y202)).2.2,(b.2.2.getD a.toNat (a6 y202)).2.1==1)].length)*32<=140737488355328)/\True)<|lt ((c++[(-1,a,(b.2.2.getD a.toNat (a6 y202)).2.2,(b.2.2.getD a.toNat (a6 y202)).2.1==1)],[(-1,a,(b.2.2.getD a.toNat (a6 y202)).2.2,(b.2.2.getD a.toNat (a6 y202)).2.1==1)])) fun(d,_) =>
  gd (j0 (a+1)/\True) <|
  e (a+1,d)
 else
  Zh c
def Io(b:r9):List D3->Option (List D3)
 | a =>
 lp (Tj b) (0,a)
def OE(b:Int)(c:Int×List D3->Option (List D3)):List D3->Option (List D3)
 | a =>
 gd (j0 (b+1)/\True) <|
 c (b+1,a)
def Tk(d:Int)(b:o3)(f:Int×List D3->Option (List D3))(g:Int×List D3->Option (List D3)):Int×List D3->Option (List D3)
 | (a,c) =>
 if(decide (a < (b.2.2.length:Int))) then
  gd (ix a b.2.2.length/\j0 ((b.2.2.length:Int)-1)/\(c.length+[(d,a,b.2.2.getD a.toNat 0,a==(b.2.2.length:Int)-1)].length<=9223372036854775807/\(c.length+[(d,a,b.2.2.getD a.toNat 0,a==(b.2.2.length:Int)-1)].length)*32<=140737488355328)/\True)<|lt ((c++[(d,a,b.2.2.getD a.toNat 0,a==(b.2.2.length:Int)-1)],[(d,a,b.2.2.getD a.toNat 0,a==(b.2.2.length:Int)-1)])) fun(e,_) =>
  gd (j0 (a+1)/\True) <|
  g (a+1,e)
 else
  OE d f c
def Tl(a:r9)(e:Int×List D3->Option (List D3)):Int×List D3->Option (List D3)
 | (b,d) =>
 if(decide (b < (a.1.length:Int))) then
  gd (ix b a.1.length/\True)<|lt (a.1.getD b.toNat (a6 y139)) fun c =>
  lp (Tk b c e) (0,d)
 else
  Io a d
def J3(a:r9):Option (List D3) :=
 lp (Tl a) (0,[])
def k94:Ct:=k6 94 [.agg y31] (fun x=>J3 x.1) (fun r:List D3=>AV.ow 190 true u0 r) (fun _=>())
theorem Ag:Ok prog k94:=by
 refine l5 [.tmp 2] func94 ?_;intro y ⟨b,_⟩ r H Q hn hr;refine iA [1]<|iA [1,3]<|jN r (fun(c:List D3)=>Z [p 1 (R 1),p 3 (O 8)] [(8,A 190 u0 c 0),(1,K 31 y31 b)]) (Io b) (fun c H=>?_) (fun _ w Y W=>?_)
 ·refine jN r (fun(i:List D3)=>Z [p 3 (O 8)] [(8,A 190 u0 i 0)]) (Zh) (fun i H=>?_) (fun _ q G V=>?_)
  ·refine iA [2]<|j5<|hr H
  refine iA [1,3,7]<|vB<|lX (fun((d,j):Int×List D3)=>Z [p 1 (R 1),p 3 (O 8),p 7 (I d)] [(8,A 190 u0 j 0),(1,K 31 y31 b)]) (0,c) H fun _ T u x t5 ⟨d,j⟩ H=>vQ<|iA [1,3,7,47]<|cD H (fun H=>?_) (fun H=>?_)
  ·refine vK<|fQ<|vQ<|vB<|zD (fun(g,n)=>Z [p 1 (R 1),p 3 (AV.os 8 1),p 7 (I d)] [(8,A 190 u0 g 1),(66,A 190 u0 n 0),(1,K 31 y31 b)]) H fun⟨g,n⟩ H =>
    fK<|fQ <|
    jB [1,3,7] H fun H =>
    u H
  exact vE<|fE<|x<|fX rfl<|q H
 refine iA [1,3,4]<|vB<|lX (fun((f,o):Int×List D3)=>Z [p 1 (R 1),p 3 (O 8),p 4 (I f)] [(8,A 190 u0 o 0),(1,K 31 y31 b)]) (0,[]) H fun _ z F t t1 ⟨f,o⟩ H=>vQ<|iA [1,3,4,13]<|cD H (fun H=>?_) (fun H=>?_)
 ·refine vK<|fQ<|jN r (fun(l:List D3)=>Z [p 1 (R 1),p 3 (O 8),p 4 (I f)] [(8,A 190 u0 l 0),(1,K 31 y31 b)]) (OE f z) (fun l H=>?_) (fun _ s e2 P=>?_)
  ·refine jB [1,3,4] H fun H=>F H
  refine vB<|qD (fun a=>Z [p 1 (R 1),p 3 (O 8),p 4 (I f),p 5 (L i64 a.2.2)] [(8,A 190 u0 o 0),(1,K 31 y31 b)]) H fun a H=>iA [1,3,4,5,6]<|vB<|lX (fun((e,k):Int×List D3)=>Z [p 1 (R 1),p 3 (O 8),p 4 (I f),p 5 (L i64 a.2.2),p 6 (I e)] [(8,A 190 u0 k 0),(1,K 31 y31 b)]) (0,o) H fun _ X v E t3 ⟨e,k⟩ H=>vQ<|iA [1,3,4,5,6,25]<|cD H (fun H=>?_) (fun H=>?_)
  ·refine vK<|fQ<|vQ<|vB<|zD (fun(h,m)=>Z [p 1 (R 1),p 3 (AV.os 8 1),p 4 (I f),p 5 (L i64 a.2.2),p 6 (I e)] [(8,A 190 u0 h 1),(41,A 190 u0 m 0),(1,K 31 y31 b)]) H fun⟨h,m⟩ H =>
    fK<|fQ <|
    jB [1,3,4,5,6] H fun H =>
    v H
  exact vE<|fE<|E<|fX rfl<|fK<|s H
 exact vE<|fE<|t<|fX rfl<|w H
def Zi:List Int->Option (List Int)
 | a =>
 some a
def Ip(a:Int)(c:Int×List Int->Option (List Int)):List Int->Option (List Int)
 | b =>
 gd (j0 (a+1)/\True) <|
 c (a+1,b)
def Tm(b:List D3)(d:Int)(e:Int×List Int->Option (List Int)):Int×List Int->Option (List Int)
 | (a,c) =>
 if(decide (a < (b.length:Int))) then
  gd (ix a b.length/\a.toNat<b.length/\(((b.getD a.toNat (a6 u0)).2.2.1==d)=true/\True->ix a b.length)/\(((b.getD a.toNat (a6 u0)).2.2.1==d)=true/\True->a.toNat<b.length)/\True) <|
  if((b.getD a.toNat (a6 u0)).2.2.1==d&&!(b.getD a.toNat (a6 u0)).2.2.2) then
   gd ((c.length+[a].length<=9223372036854775807/\(c.length+[a].length)*8<=140737488355328)/\True) <|
   Ip a e (c++[a])
  else
   Ip a e c
 else
  Zi c
def U7(a:r9)(c:Int):Option (List Int) :=
 gd ((J3 a).isSome/\True)<|lt (vl (J3 a)) fun b =>
 lp (Tm b c) (0,[])
def k76:Ct:=k6 76 [.agg y31,.dat i64] (fun x=>U7 x.1 x.2.1) (fun r:List Int=>AV.ow 2 true i64 r) (fun _=>())
theorem Gw:Ok prog k76:=by
 refine l5 [.tmp 4] func76 ?_;intro y ⟨_,d,_⟩ r H Q hn hr;have:=hz (tc Ag tn);refine iA [1,2]<|iA [1,2,5]<|iD Ag [1,5,6] H fun b H=>jN r (fun(g:List Int)=>Z [p 5 (O 8)] [(8,A 2 i64 g 0)]) (Zi) (fun g H=>?_) (fun _ h l q=>?_)
 ·refine iA [4]<|j5<|hr H
 refine iA [1,5,6,7]<|vB<|lX (fun((a,e):Int×List Int)=>Z [p 1 (J d),p 5 (O 8),p 6 (O 10),p 7 (I a)] [(10,A 190 u0 b 0),(8,A 2 i64 e 0)]) (0,[]) H fun _ i k j o ⟨a,e⟩ H=>vQ<|iA [1,5,6,7,14]<|cD H (fun H=>?_) (fun H=>?_)
 ·refine vK<|fQ<|jN r (fun(c:List Int)=>Z [p 1 (J d),p 5 (O 8),p 6 (O 10),p 7 (I a)] [(8,A 2 i64 c 0),(10,A 190 u0 b 0)]) (Ip a i) (fun c H=>?_) (fun _ f m n=>?_)
  ·refine jB [1,5,6,7] H fun H=>k H
  refine vB<|iB [1,5,6,7,31] H fun H=>cD H (fun H=>jB [1,5,6,7] H fun H=>fK<|f H) fun H=>vK<|fK<|f H
 exact vE<|fE<|j<|fX rfl<|h H
def L3(a:List Int):Option (List Int) :=
 gd ((0+a.length<=9223372036854775807/\(0+a.length)*8<=140737488355328)/\True) <|
 some ([]++a)
def Q0z:Ct:=k6 164 [.dat i64.sl] (fun x=>L3 x.1) (fun r:List Int=>AV.ow 2 true i64 r) (fun _=>())
theorem OF:Ok prog Q0z:=by
 refine l5 [.tmp 2] func164 ?_;intro y ⟨_,_⟩ r H Q hn hr;refine iA [0]<|iB [2] H fun H=>j5<|hr H
def Tn:List Int->Option (List Int)
 | a =>
 some a
def Iq(c:z6)(e:Int×List Int->Option (List Int)):Int×List Int->Option (List Int)
 | (a,b) =>
 if(decide (0<a)) then
  gd (ix a c.1.length/\ix (c.1.getD a.toNat 0) b.length/\Int.toNat (c.1.getD a.toNat 0)<b.length/\ix a b.length/\a.toNat<b.length/\j0 (b.getD (Int.toNat (c.1.getD a.toNat 0)) 0+b.getD a.toNat 0)/\ix (c.1.getD a.toNat 0) b.length/\Int.toNat (c.1.getD a.toNat 0)<b.length/\True)<|lt (b.set (Int.toNat (c.1.getD a.toNat 0)) (b.getD (Int.toNat (c.1.getD a.toNat 0)) 0+b.getD a.toNat 0)) fun d =>
  gd (j0 (a-1)/\True) <|
  e (a-1,d)
 else
  Tn b
def OG(b:z6):List Int->Option (List Int)
 | a =>
 gd (j0 ((a.length:Int)-1)/\True) <|
 lp (Iq b) (((a.length:Int)-1,a))
def Zj(e:j9)(f:List D3)(c:List Int)(b:z6)(h:Int×List Int->Option (List Int)):Int×List Int->Option (List Int)
 | (a,d) =>
 if(decide (a < (c.length:Int))) then
  gd (ix a b.2.2.2.length/\ix (b.2.2.2.getD a.toNat 0) d.length/\Int.toNat (b.2.2.2.getD a.toNat 0)<d.length/\ix a c.length/\a.toNat<c.length/\ix (c.getD a.toNat 0) f.length/\Int.toNat (c.getD a.toNat 0)<f.length/\(Gv e.1 e.2.1 (f.getD (Int.toNat (c.getD a.toNat 0)) (a6 u0))).isSome/\j0 (d.getD (Int.toNat (b.2.2.2.getD a.toNat 0)) 0+vl (Gv e.1 e.2.1 (f.getD (Int.toNat (c.getD a.toNat 0)) (a6 u0))))/\ix (b.2.2.2.getD a.toNat 0) d.length/\Int.toNat (b.2.2.2.getD a.toNat 0)<d.length/\True)<|lt ((vl (Gv e.1 e.2.1 (f.getD (Int.toNat (c.getD a.toNat 0)) (a6 u0))),d.set (Int.toNat (b.2.2.2.getD a.toNat 0)) (d.getD (Int.toNat (b.2.2.2.getD a.toNat 0)) 0+vl (Gv e.1 e.2.1 (f.getD (Int.toNat (c.getD a.toNat 0)) (a6 u0)))))) fun(_,g) =>
  gd (j0 (a+1)/\True) <|
  h (a+1,g)
 else
  OG b d
def AA(a:j9)(b:Int):Option (List Int) :=
 gd (ix b a.2.2.length/\True)<|lt (a.2.2.getD b.toNat (a6 l7)) fun c =>
 gd ((L3 c.2.2.1).isSome/\True)<|lt (vl (L3 c.2.2.1)) fun e =>
 gd ((J3 a.2.1).isSome/\True)<|lt (vl (J3 a.2.1)) fun f =>
 gd ((U7 a.2.1 b).isSome/\True)<|lt (vl (U7 a.2.1 b)) fun d =>
 lp (Zj a f d c) (0,e)
def P0S:Ct:=k6 208 [.agg l9,.dat i64] (fun x=>AA x.1 x.2.1) (fun r:List Int=>AV.ow 2 true i64 r) (fun _=>())
theorem To:Ok prog P0S:=by
 refine l5 [.tmp 4] func208 ?_;intro y ⟨h,s,_⟩ r H Q hn hr;have:=hz (tc O0u (tc Gw (tc Ag (tc OF tn))));refine iA [1,2]<|qD (fun b=>Z [p 1 (J s),p 2 (R 2),p 5 (R 5)] [(5,K 153 l7 b),(2,K 34 l9 h)]) H fun b H=>iD OF [1,2,5,6] H fun u H=>iD Ag [1,2,5,6,7] H fun j H=>iD Gw [2,5,6,7,8] H fun k H=>jN r (fun(a:List Int)=>Z [p 5 (R 5),p 6 (O 18)] [(18,A 2 i64 a 0),(5,K 153 l7 b)]) (OG b) (fun a H=>?_) (fun _ q F z=>?_)
 ·refine jN r (fun(d:List Int)=>Z [p 6 (O 18)] [(18,A 2 i64 d 0)]) (Tn) (fun d H=>?_) (fun _ m G x=>?_)
  ·refine iA [4]<|j5<|hr H
  refine iB [5,6,10] H fun H=>vB<|lX (fun((c,f):Int×List Int)=>Z [p 5 (R 5),p 6 (O 18),p 10 (I c)] [(18,A 2 i64 f 0),(5,K 153 l7 b)]) (((a.length:Int)-1,a)) H fun _ E o t P ⟨c,f⟩ H=>vQ<|iA [5,6,10,58]<|cD H (fun H=>vK<|fQ<|vQ<|vB<|zD (fun e=>Z [p 5 (R 5),p 6 (O 18),p 10 (I c)] [(18,A 2 i64 e 0),(5,K 153 l7 b)]) H fun e H=>fK<|fQ<|jB [5,6,10] H fun H=>o H) fun H=>vE<|fE<|t<|fX rfl<|m H
 refine iA [2,5,6,7,8,9]<|vB<|lX (fun((g,i):Int×List Int)=>Z [p 2 (R 2),p 5 (R 5),p 6 (O 18),p 7 (O 21),p 8 (O 25),p 9 (I g)] [(25,A 2 i64 k 0),(21,A 190 u0 j 0),(18,A 2 i64 i 0),(5,K 153 l7 b),(2,K 34 l9 h)]) (0,u) H fun _ V w n T ⟨g,i⟩ H=>vQ<|iA [2,5,6,7,8,9,29]<|cD H (fun H=>?_) (fun H=>?_)
 ·refine vK<|fQ<|vQ<|vB<|zD (fun(v,l)=>Z [p 2 (R 2),p 5 (R 5),p 6 (O 18),p 7 (O 21),p 8 (O 25),p 9 (I g)] [(18,A 2 i64 l 0),(25,A 2 i64 k 0),(21,A 190 u0 j 0),(5,K 153 l7 b),(2,K 34 l9 h)]) H fun⟨v,l⟩ H =>
   fK<|fQ <|
   jB [2,5,6,7,8,9] H fun H =>
   w H
 exact vE<|fE<|n<|fX rfl<|q H
def Zk:List Int->Option (List Int)
 | a =>
 some a
def Tp(b:z6)(d:List Int)(f:Int×List Int->Option (List Int)):Int×List Int->Option (List Int)
 | (a,c) =>
 if(decide (a < (d.length:Int))) then
  gd (ix a b.1.length/\ix (b.1.getD a.toNat 0) c.length/\Int.toNat (b.1.getD a.toNat 0)<c.length/\ix a b.2.1.length/\ix a d.length/\a.toNat<d.length/\j0 (b.2.1.getD a.toNat 0*d.getD a.toNat 0)/\j0 (c.getD (Int.toNat (b.1.getD a.toNat 0)) 0+b.2.1.getD a.toNat 0*d.getD a.toNat 0)/\(c.length+[c.getD (Int.toNat (b.1.getD a.toNat 0)) 0+b.2.1.getD a.toNat 0*d.getD a.toNat 0].length<=9223372036854775807/\(c.length+[c.getD (Int.toNat (b.1.getD a.toNat 0)) 0+b.2.1.getD a.toNat 0*d.getD a.toNat 0].length)*8<=140737488355328)/\True)<|lt ((c++[c.getD (Int.toNat (b.1.getD a.toNat 0)) 0+b.2.1.getD a.toNat 0*d.getD a.toNat 0],[c.getD (Int.toNat (b.1.getD a.toNat 0)) 0+b.2.1.getD a.toNat 0*d.getD a.toNat 0])) fun(e,_) =>
  gd (j0 (a+1)/\True) <|
  f (a+1,e)
 else
  Zk c
def Cs(a:j9)(b:Int):Option (List Int) :=
 gd (ix b a.2.2.length/\True)<|lt (a.2.2.getD b.toNat (a6 l7)) fun d =>
 gd ((AA a b).isSome/\True)<|lt (vl (AA a b)) fun c =>
 lp (Tp d c) (1,[0])
def P0Q:Ct:=k6 210 [.agg l9,.dat i64] (fun x=>Cs x.1 x.2.1) (fun r:List Int=>AV.ow 2 true i64 r) (fun _=>())
theorem Tq:Ok prog P0Q:=by
 refine l5 [.tmp 4] func210 ?_;intro y ⟨i,h,_⟩ r H Q hn hr;have:=hz (tc To tn);refine iA [1,2]<|qD (fun a=>Z [p 1 (J h),p 2 (R 2),p 5 (R 5)] [(5,K 153 l7 a),(2,K 34 l9 i)]) H fun a H=>iD To [5,6] H fun e H=>iA [5,6,7]<|jN r (fun(f:List Int)=>Z [p 7 (O 17)] [(17,A 2 i64 f 0)]) (Zk) (fun f H=>?_) (fun _ j m q=>?_)
 ·refine iA [4]<|j5<|hr H
 refine iA [5,6,7,8]<|vB<|lX (fun((b,g):Int×List Int)=>Z [p 5 (R 5),p 6 (O 16),p 7 (O 17),p 8 (I b)] [(17,A 2 i64 g 0),(16,A 2 i64 e 0),(5,K 153 l7 a)]) (1,[0]) H fun _ n l k o ⟨b,g⟩ H=>vQ<|iA [5,6,7,8,21]<|cD H (fun H=>?_) (fun H=>?_)
 ·refine vK<|fQ<|vQ<|vB<|zD (fun(c,d)=>Z [p 5 (R 5),p 6 (O 16),p 7 (AV.os 17 1),p 8 (I b)] [(17,A 2 i64 c 1),(44,A 2 i64 d 0),(16,A 2 i64 e 0),(5,K 153 l7 a)]) H fun⟨c,d⟩ H =>
   fK<|fQ <|
   jB [5,6,7,8] H fun H =>
   l H
 exact vE<|fE<|k<|fX rfl<|j H
def KA(d:j9)(c:Int)(f:Int)(a:Int)(e:Int):Option Int :=
 gd ((Cs d c).isSome/\ix c d.2.2.length/\ix f (d.2.2.getD c.toNat (a6 l7)).2.2.2.length/\ix ((d.2.2.getD c.toNat (a6 l7)).2.2.2.getD f.toNat 0) (vl (Cs d c)).length/\Int.toNat ((d.2.2.getD c.toNat (a6 l7)).2.2.2.getD f.toNat 0) < (vl (Cs d c)).length/\True)<|lt ((vl (Cs d c),(vl (Cs d c)).getD (Int.toNat ((d.2.2.getD c.toNat (a6 l7)).2.2.2.getD f.toNat 0)) 0)) fun(_,b) =>
 gd (j0 (1000000*a)/\j0 (1000000*a*a)/\j0 (4*b)/\j0 (4*b*b)/\j0 (1000000*a*a+4*b*b)/\(Cr (1000000*a*a+4*b*b) e).isSome/\(W4 (vl (Cr (1000000*a*a+4*b*b) e)) 1000 e).isSome/\True)<|lt (vl (W4 (vl (Cr (1000000*a*a+4*b*b) e)) 1000 e)) fun g =>
 some g
def Q0e:Ct:=k6 187 [.agg l9,.dat i64,.dat i64,.dat i64,.dat i64] (fun x=>KA x.1 x.2.1 x.2.2.1 x.2.2.2.1 x.2.2.2.2.1) (fun r:Int=>I r) (fun _=>())
theorem Zl:Ok prog Q0e:=by
 refine l5 [.tmp 10] func187 ?_;intro y ⟨d,_,_,e,c,_⟩ r H Q hn hr;have:=hz (tc Fc (tc O0y (tc Tq tn)));refine iA [1,2,3,4,5]<|qD (fun(a,b)=>Z [p 3 (J e),p 4 (J c),p 11 (I b)] [(14,A 2 i64 a 0),(5,K 34 l9 d)]) H fun⟨a,b⟩ H =>
  iD Fc [10] H fun _ H =>
  j5<|hr H
def BH(a:j9)(b:l8):Option Int :=
 gd ((J3 a.2.1).isSome/\(0:Int) < (2:Int)/\ix (b.2.1.tdiv (2:Int)) (vl (J3 a.2.1)).length/\(b.2.1.tdiv (2:Int)).toNat < (vl (J3 a.2.1)).length/\True)<|lt ((vl (J3 a.2.1),(vl (J3 a.2.1)).getD (b.2.1.tdiv 2).toNat (a6 u0))) fun(_,c) =>
 some c.2.2.1
def Q0h:Ct:=k6 184 [.agg l9,.agg y80] (fun x=>BH x.1 x.2.1) (fun r:Int=>I r) (fun _=>())
theorem Zm:Ok prog Q0h:=by
 refine l5 [.tmp 4] func184 ?_;intro y ⟨c,d,_⟩ r H Q hn hr;have:=hz (tc Ag tn);refine iA [2,3]<|qD (fun(b,a)=>Z [p 4 (I a.2.2.1)] [(7,A 190 u0 b 0),(3,K 80 y80 d),(2,K 34 l9 c)]) H fun⟨b,a⟩ H =>
  j5<|hr H
def Zn:Unit->Option (Int×Int×Int)
 | _ =>
 some (((0:Int),(1:Int),(0:Int)))
def Dj(b:List Int)(c:Int)(d:Int->Option (Int×Int×Int)):Int->Option (Int×Int×Int)
 | a =>
 if(decide (0<=a)) then
  gd (ix a b.length/\True) <|
  if(c==b.getD a.toNat 0) then
   some ((a,(1:Int),(0:Int)))
  else
   gd (ix a b.length/\True) <|
   if(decide (b.getD a.toNat 0<c)) then
    gd (j0 (a+1)/\ix (a+1) b.length/\j0 (b.getD (a+1).toNat 0-c)/\ix a b.length/\j0 (c-b.getD a.toNat 0)/\True) <|
    some ((a,b.getD (a+1).toNat 0-c,c-b.getD a.toNat 0))
   else
    gd (j0 (a-1)/\True) <|
    d (a-1)
 else
  Zn ()
def Dk(a:List Int)(c:Int):Option (Int×Int×Int) :=
 gd (ix 0 a.length/\True) <|
 gd (j0 ((a.length:Int)-1)/\ix ((a.length:Int)-1) a.length/\True)<|lt (min (max c (a.getD (Int.toNat (0:Int)) (0:Int))) (a.getD ((a.length:Int)-(1:Int)).toNat (0:Int))) fun b =>
 gd (j0 ((a.length:Int)-1)/\True) <|
 lp (Dj a b) ((a.length:Int)-1)
def P0R:Ct:=k6 209 [.dat i64.sl,.dat i64] (fun x=>Dk x.1 x.2.1) (fun r:Int×Int×Int=>AV.tup [I r.1,I r.2.1,I r.2.2]) (fun _=>())
theorem Tr:Ok prog P0R:=by
 refine l5 [.tmp 4,.tmp 5,.tmp 6] func209 ?_;intro y ⟨a,_,_⟩ r H Q hn hr;refine iA [0,1]<|iA [0,1,7]<|iB [0,1,7] H fun H=>qD (fun b=>Z [p 0 (L i64 a),p 1 (I b),p 7 (I (a.length:Int))] []) H fun b H=>jN r (fun(_:Unit)=>Z [] []) (Zn) (fun _ H=>?_) (fun _ f i d=>?_)
 ·refine iA [4,5,6]<|j5<|hr H
 refine iB [0,1,8] H fun H=>vB<|lX (fun(e:Int)=>Z [p 0 (L i64 a),p 1 (I b),p 8 (I e)] []) ((a.length:Int)-1) H fun _ j h g c e H=>vQ<|iA [0,1,8,26]<|cD H (fun H=>?_) (fun H=>?_)
 ·refine vK<|fQ<|vQ<|vB<|vQ<|iB [0,1,8,34] H fun H=>cD H (fun H=>iA [4,5,6]<|j5<|fR<|m4<|fR<|c<|m4<|d<|hr H) fun H=>vK<|fQ<|iB [0,1,8,41] H fun H=>cD H (fun H=>iB [4,5,6] H fun H=>j5<|m4<|fR<|c<|m4<|d<|hr H) fun H=>vK<|fK<|fQ<|jB [0,1,8] H fun H=>h H
 exact vE<|fE<|g<|fX rfl<|f H
def OH(a:Int×Int×Int)(b:Int×Int×Int)(e:Int):Int->Option Int
 | c =>
 gd (j0 (a.2.1+a.2.2)/\j0 (b.2.1+b.2.2)/\j0 ((a.2.1+a.2.2)*(b.2.1+b.2.2))/\(W4 c ((a.2.1+a.2.2)*(b.2.1+b.2.2)) e).isSome/\True)<|lt (vl (W4 c ((a.2.1+a.2.2)*(b.2.1+b.2.2)) e)) fun d =>
 some d
def Tt(a:Int)(c:Int×Int->Option Int):Int->Option Int
 | b =>
 gd (j0 (a+1)/\True) <|
 c (b,a+1)
def Ir(a:Int)(c:Int×Int->Option Int):Int->Option Int
 | b =>
 gd (j0 (a+1)/\True) <|
 c (b,a+1)
def Dl(b:Int)(f:Int)(c:w8)(e:Int×Int×Int)(a:Int)(g:Int×Int×Int)(i:Int×Int->Option Int):Int->Option Int
 | d =>
 if(decide (0<d)) then
  gd (j0 (e.1+a)/\j0 ((e.1+a)*(c.2.1.length:Int))/\j0 ((e.1+a)*(c.2.1.length:Int)+g.1)/\j0 ((e.1+a)*(c.2.1.length:Int)+g.1+b)/\ix ((e.1+a)*(c.2.1.length:Int)+g.1+b) c.2.2.length/\j0 (d*c.2.2.getD ((e.1+a)*(c.2.1.length:Int)+g.1+b).toNat 0)/\j0 (f+d*c.2.2.getD ((e.1+a)*(c.2.1.length:Int)+g.1+b).toNat 0)/\True)<|lt (f+d*c.2.2.getD ((e.1+a)*(c.2.1.length:Int)+g.1+b).toNat 0) fun h =>
  Ir b i h
 else
  Ir b i f
def KB(b:Int)(d:Int)(g:w8)(f:Int×Int×Int)(e:Int)(c:Int×Int×Int)(h:Int×Int->Option Int):Int->Option Int
 | a =>
 if(b==0) then
  gd (j0 (a*c.2.1)/\True) <|
  Dl b d g f e c h (a*c.2.1)
 else
  gd (j0 (a*c.2.2)/\True) <|
  Dl b d g f e c h (a*c.2.2)
def Gx(e:w8)(d:Int×Int×Int)(a:Int)(f:Int×Int×Int)(h:Int×Int->Option Int)(g:Int×Int->Option Int):Int×Int->Option Int
 | (c,b) =>
 if(decide (b<2)) then
  if(a==1) then
   KB b c e d a f g d.2.2
  else
   KB b c e d a f g d.2.1
 else
  Tt a h c
def Is(e:w8)(c:Int×Int×Int)(d:Int×Int×Int)(g:Int)(f:Int×Int->Option Int):Int×Int->Option Int
 | (b,a) =>
 if(decide (a<2)) then
  lp (Gx e c a d f) (b,0)
 else
  OH c d g b
def BI(a:w8)(b:Int)(c:Int)(e:Int):Option Int :=
 gd ((Dk a.1 b).isSome/\True)<|lt (vl (Dk a.1 b)) fun d =>
 gd ((Dk a.2.1 c).isSome/\True)<|lt (vl (Dk a.2.1 c)) fun f =>
 lp (Is a d f e) (0,0)
def Q0j:Ct:=k6 182 [.agg y70,.dat i64,.dat i64,.dat i64] (fun x=>BI x.1 x.2.1 x.2.2.1 x.2.2.2.1) (fun r:Int=>I r) (fun _=>())
theorem OI:Ok prog Q0j:=by
 refine l5 [.tmp 8] func182 ?_;intro y ⟨e,_,_,g,_⟩ r H Q hn hr;have:=hz (tc Fc (tc Tr tn));refine iA [1,2,3,4]<|iD Tr [2,3,4,9,10,11] H fun a H=>iD Tr [3,4,9,10,11,12,13,14] H fun b H=>iA [3,4,9,10,11,12,13,14,15]<|iA [3,4,9,10,11,12,13,14,15,16]<|jN r (fun(n:Int)=>Z [p 3 (J g),p 10 (I a.2.1),p 11 (I a.2.2),p 13 (I b.2.1),p 14 (I b.2.2),p 16 (I n)] []) (OH a b g) (fun n H=>?_) (fun _ x W V=>?_)
 ·refine iD Fc [8] H fun _ H=>j5<|hr H
 refine iA [3,4,9,10,11,12,13,14,15,16,17]<|vB<|lX (fun((h,c):Int×Int)=>Z (G9 g a.1 a.2.1 a.2.2 b.1 b.2.1 b.2.2 (e.2.1.length:Int) h [p 17 (I c)]) [(4,K 70 y70 e)]) (0,0) H fun _ E F v t1 ⟨h,c⟩ H=>vQ<|iA [3,4,9,10,11,12,13,14,15,16,17,40]<|cD H (fun H=>?_) (fun H=>?_)
 ·refine vK<|fQ<|jN r (fun(j:Int)=>Z (G9 g a.1 a.2.1 a.2.2 b.1 b.2.1 b.2.2 (e.2.1.length:Int) j [p 17 (I c)]) [(4,K 70 y70 e)]) (Tt c E) (fun j H=>?_) (fun _ u X P=>?_)
  ·refine jB [3,4,9,10,11,12,13,14,15,16,17] H fun H=>F H
  refine vB<|iA [3,4,9,10,11,12,13,14,15,16,17,18]<|vB<|lX (fun((f,d):Int×Int)=>Z (G9 g a.1 a.2.1 a.2.2 b.1 b.2.1 b.2.2 (e.2.1.length:Int) f [p 17 (I c),p 18 (I d)]) [(4,K 70 y70 e)]) (h,0) H fun _ o w z t3 ⟨f,d⟩ H=>vQ<|iA [3,4,9,10,11,12,13,14,15,16,17,18,44]<|cD H (fun H=>?_) (fun H=>?_)
  ·refine vK<|fQ<|jN r (fun(m:Int)=>Z (G9 g a.1 a.2.1 a.2.2 b.1 b.2.1 b.2.2 (e.2.1.length:Int) m [p 17 (I c),p 18 (I d)]) [(4,K 70 y70 e)]) (Ir d o) (fun m H=>?_) (fun _ q G T=>?_)
   ·refine jB [3,4,9,10,11,12,13,14,15,16,17,18] H fun H=>w H
   refine vB<|iA [3,4,9,10,11,12,13,14,15,16,17,18,19]<|jN r (fun(l:Int)=>Z (G9 g a.1 a.2.1 a.2.2 b.1 b.2.1 b.2.2 (e.2.1.length:Int) f [p 17 (I c),p 18 (I d),p 19 (I l)]) [(4,K 70 y70 e)]) (KB d f e a c b o) (fun l H=>?_) (fun _ s e5 t5=>?_)
   ·refine jN r (fun(k:Int)=>Z (G9 g a.1 a.2.1 a.2.2 b.1 b.2.1 b.2.2 (e.2.1.length:Int) f [p 17 (I c),p 18 (I d),p 19 (I k)]) [(4,K 70 y70 e)]) (Dl d f e a c b o) (fun k H=>?_) (fun _ t e6 Y=>?_)
    ·refine iA [3,4,9,10,11,12,13,14,15,16,17,18,19,60]<|cD H (fun H=>zD (fun i=>Z (G9 g a.1 a.2.1 a.2.2 b.1 b.2.1 b.2.2 (e.2.1.length:Int) i [p 17 (I c),p 18 (I d)]) [(4,K 70 y70 e)]) H fun i H=>fK<|q H) fun H=>vK<|fK<|q H
    refine iA [3,4,9,10,11,12,13,14,15,16,17,18,19,52]<|cD H (fun H=>jB [3,4,9,10,11,12,13,14,15,16,17,18,19] H fun H=>t H) fun H=>jB [3,4,9,10,11,12,13,14,15,16,17,18,19] H fun H=>t H
   refine iA [3,4,9,10,11,12,13,14,15,16,17,18,19,49]<|cD H (fun H=>jA [3,4,9,10,11,12,13,14,15,16,17,18,19]<|s H) fun H=>vK<|s H
  exact vE<|fE<|z<|fX rfl<|fK<|u H
 exact vE<|fE<|v<|fX rfl<|x H
def Gy(a:j9)(c:l8):Option (B3×Int) :=
 gd ((J3 a.2.1).isSome/\(0:Int) < (2:Int)/\ix (c.2.1.tdiv (2:Int)) (vl (J3 a.2.1)).length/\(c.2.1.tdiv (2:Int)).toNat < (vl (J3 a.2.1)).length/\True)<|lt ((vl (J3 a.2.1),(vl (J3 a.2.1)).getD (c.2.1.tdiv 2).toNat (a6 u0))) fun(_,b) =>
 gd (ix b.1 a.2.1.1.length/\ix (a.2.1.1.getD b.1.toNat (a6 y139)).2.1 a.1.length/\ix c.2.2.2 (a.1.getD (a.2.1.1.getD b.1.toNat (a6 y139)).2.1.toNat (a6 y64)).2.2.2.1.length/\(AA a b.2.2.1).isSome/\ix (0:Int) (vl (AA a b.2.2.1)).length/\Int.toNat (0:Int) < (vl (AA a b.2.2.1)).length/\True)<|lt ((vl (AA a b.2.2.1),(a.1.getD (a.2.1.1.getD b.1.toNat (a6 y139)).2.1.toNat (a6 y64)).2.2.2.1.getD c.2.2.2.toNat (a6 y67))) fun(e,d) =>
 some ((d,e.getD (Int.toNat (0:Int)) (0:Int)))
def Q0k:Ct:=k6 181 [.agg l9,.agg y80] (fun x=>Gy x.1 x.2.1) (fun r:B3×Int=>AV.tup [AV.agg [I r.1.1,I r.1.2.1,I r.1.2.2.1,I r.1.2.2.2.1,L y70 r.1.2.2.2.2.1,L y70 r.1.2.2.2.2.2],I r.2]) (fun _=>())
theorem OJ:Ok prog Q0k:=by
 refine l5 [.cell 4 67,.tmp 5] func181 ?_;intro y ⟨f,d,_⟩ r H Q hn hr;have:=hz (tc To (tc Ag tn));refine iA [2,3,4]<|qD (fun(a,b)=>Z (G7 [p 4 (R 4),p 6 (R 6)]) [(6,bx 190 (r5 true u0 b)),(9,A 190 u0 a 0),(4,bx 67 [I 0,I 0,I 0,I 0,nil,nil]),(3,K 80 y80 d),(2,K 34 l9 f)]) H fun⟨a,b⟩ H =>
  qD (fun(c,e)=>Z [p 4 (R 4),p 5 (I (c.getD (Int.toNat (0:Int)) (0:Int)))] [(4,K 67 y67 e),(36,A 2 i64 c 0),(6,bx 190 (r5 true u0 b)),(9,A 190 u0 a 0),(3,K 80 y80 d),(2,K 34 l9 f)]) H fun⟨c,e⟩ H =>
  j5<|hr H
def Be(b:j9)(a:l8)(e:Int)(d:Int):Option Int :=
 if(a.2.2.1==1) then
  gd ((Gy b a).isSome/\True)<|lt (vl (Gy b a)) fun c =>
  gd ((0:Int) < (2:Int)/\ix (a.2.1.tmod (2:Int)) c.1.2.2.2.2.2.length/\(BI (c.1.2.2.2.2.2.getD (a.2.1.tmod (2:Int)).toNat (a6 y70)) e c.2 d).isSome/\True)<|lt (vl (BI (c.1.2.2.2.2.2.getD (a.2.1.tmod 2).toNat (a6 y70)) e c.2 d)) fun f =>
  some f
 else
  gd ((BH b a).isSome/\(KA b (vl (BH b a)) a.2.2.2 e d).isSome/\True)<|lt (vl (KA b (vl (BH b a)) a.2.2.2 e d)) fun g =>
  some (min 1000000 g)
def Q0G:Ct:=k6 155 [.agg l9,.agg y80,.dat i64,.dat i64] (fun x=>Be x.1 x.2.1 x.2.2.1 x.2.2.2.1) (fun r:Int=>I r) (fun _=>())
theorem Tu:Ok prog Q0G:=by
 refine l5 [.tmp 8] func155 ?_;intro y ⟨_,_,_,_,_⟩ r H Q hn hr;have:=hz (tc Zl (tc Zm (tc OI (tc OJ tn))));refine iA [2,3,4,5]<|vQ<|iA [2,3,4,5,13]<|cD H (fun H=>iD OJ [2,3,5,9,10] H fun _ H=>iD OI [8] H fun _ H=>j5<|fR<|hr H) fun H=>vK<|fQ<|iD Zl [8] H fun _ H=>j5<|hr H
def Gz(a:p8)(c:Int)(b:Int):Option Int :=
 if(c==1) then
  if(b==0) then
   some a.2.1
  else
   some a.2.2.1
 else
  if(b==0) then
   some a.2.2.2.1
  else
   some a.2.2.2.2
def Q0f:Ct:=k6 186 [.agg r7,.dat i64,.dat i64] (fun x=>Gz x.1 x.2.1 x.2.2.1) (fun r:Int=>I r) (fun _=>())
theorem O0F:Ok prog Q0f:=by
 refine l5 [.tmp 6] func186 ?_;intro y ⟨_,_,_,_⟩ r H Q hn hr;refine iA [1,2,3]<|vQ<|iA [2,3,8]<|cD H (fun H=>?_) (fun H=>?_)
 ·refine vQ<|iA [3,10]<|cD H (fun H=>iA [6]<|j5<|fR<|fR<|hr H) fun H=>vK<|fQ<|iA [6]<|j5<|fR<|hr H
 refine vK<|fQ<|vQ<|iA [3,16]<|cD H (fun H=>iA [6]<|j5<|fR<|hr H) fun H=>vK<|fQ<|iA [6]<|j5<|hr H
def Zo:List Int->Option (List Int)
 | a =>
 some a
def Zp(d:List Int)(b:j9)(a:Int)(f:Int)(h:Int×List Int->Option (List Int)):Int×List Int->Option (List Int)
 | (c,e) =>
 gd (ix a b.2.2.length/\True) <|
 if(decide (c < (↑(b.2.2.getD a.toNat (a6 l7)).2.2.2.length:Int))) then
  gd (ix a b.2.2.length/\ix c (b.2.2.getD a.toNat (a6 l7)).2.2.2.length/\ix ((b.2.2.getD a.toNat (a6 l7)).2.2.2.getD c.toNat 0) d.length/\Int.toNat ((b.2.2.getD a.toNat (a6 l7)).2.2.2.getD c.toNat 0)<d.length/\(W4 (d.getD (Int.toNat ((b.2.2.getD a.toNat (a6 l7)).2.2.2.getD c.toNat 0)) 0) 1000 f).isSome/\(e.length+[vl (W4 (d.getD (Int.toNat ((b.2.2.getD a.toNat (a6 l7)).2.2.2.getD c.toNat 0)) 0) 1000 f)].length<=9223372036854775807/\(e.length+[vl (W4 (d.getD (Int.toNat ((b.2.2.getD a.toNat (a6 l7)).2.2.2.getD c.toNat 0)) 0) 1000 f)].length)*8<=140737488355328)/\True)<|lt (vl (W4 (d.getD (Int.toNat ((b.2.2.getD a.toNat (a6 l7)).2.2.2.getD c.toNat 0)) 0) 1000 f)) fun g =>
  gd (j0 (c+1)/\True) <|
  h (c+1,e++[g])
 else
  Zo e
def GA(a:j9)(b:Int)(d:Int):Option (List Int) :=
 gd ((Cs a b).isSome/\True)<|lt (vl (Cs a b)) fun c =>
 lp (Zp c a b d) (0,[])
def Q0i:Ct:=k6 183 [.agg l9,.dat i64,.dat i64] (fun x=>GA x.1 x.2.1 x.2.2.1) (fun r:List Int=>AV.ow 2 true i64 r) (fun _=>())
theorem Zq:Ok prog Q0i:=by
 refine l5 [.tmp 6] func183 ?_;intro y ⟨f,e,i,_⟩ r H Q hn hr;have:=hz (tc Fc (tc Tq tn));refine iA [1,2,3]<|iD Tq [1,2,3,7] H fun d H=>iA [1,2,3,7,8]<|jN r (fun(c:List Int)=>Z [p 8 (O 13)] [(13,A 2 i64 c 0)]) (Zo) (fun c H=>?_) (fun _ g k n=>?_)
 ·refine iA [6]<|j5<|hr H
 refine iA [1,2,3,7,8,9]<|vB<|lX (fun((b,a):Int×List Int)=>Z [p 1 (J e),p 2 (J i),p 3 (R 3),p 7 (O 12),p 8 (O 13),p 9 (I b)] [(13,A 2 i64 a 0),(12,A 2 i64 d 0),(3,K 34 l9 f)]) (0,[]) H fun _ l j h m ⟨b,a⟩ H=>vQ<|iB [1,2,3,7,8,9,22] H fun H=>cD H (fun H=>vK<|fQ<|vQ<|vB<|jD Fc [1,2,3,7,8,9] H fun _ H=>fK<|fQ<|jB [1,2,3,7,8,9] H fun H=>j H) fun H=>vE<|fE<|h<|fX rfl<|g H
def It(b:p8)(c:l8)(a:Int):Int->Option Int
 | d =>
 gd ((Gz b c.2.2.1 a).isSome/\j0 (d*vl (Gz b c.2.2.1 a))/\(W4 (d*vl (Gz b c.2.2.1 a)) 1000 a).isSome/\True)<|lt (vl (W4 (d*vl (Gz b c.2.2.1 a)) 1000 a)) fun e =>
 some e
def Bf(b:j9)(e:p8)(a:l8)(f:Int)(c:Int):Option Int :=
 if(a.2.2.1==1) then
  gd ((Gy b a).isSome/\True)<|lt (vl (Gy b a)) fun d =>
  gd ((0:Int) < (2:Int)/\ix (a.2.1.tmod (2:Int)) d.1.2.2.2.2.1.length/\(BI (d.1.2.2.2.2.1.getD (a.2.1.tmod (2:Int)).toNat (a6 y70)) f d.2 c).isSome/\True)<|lt (vl (BI (d.1.2.2.2.2.1.getD (a.2.1.tmod 2).toNat (a6 y70)) f d.2 c)) fun g =>
  It e a c g
 else
  gd ((BH b a).isSome/\(GA b (vl (BH b a)) c).isSome/\ix a.2.2.2 (vl (GA b (vl (BH b a)) c)).length/\a.2.2.2.toNat < (vl (GA b (vl (BH b a)) c)).length/\True)<|lt (vl (GA b (vl (BH b a)) c)) fun h =>
  It e a c (h.getD a.2.2.2.toNat 0)
def Q0H:Ct:=k6 154 [.agg l9,.agg r7,.agg y80,.dat i64,.dat i64] (fun x=>Bf x.1 x.2.1 x.2.2.1 x.2.2.2.1 x.2.2.2.2.1) (fun r:Int=>I r) (fun _=>())
theorem Tv:Ok prog Q0H:=by
 refine l5 [.tmp 10] func154 ?_;intro y ⟨_,b,e,_,a,_⟩ r H Q hn hr;have:=hz (tc Fc (tc O0F (tc Zq (tc Zm (tc OI (tc OJ tn))))));refine iA [3,4,5,6,7]<|iA [3,4,5,6,7]<|jN r (fun(c:Int)=>Z [p 4 (J a),p 6 (R 6),p 7 (R 7),p 11 (I c)] [(7,K 80 y80 e),(6,K 36 r7 b)]) (It b e a) (fun c H=>?_) (fun _ d f g=>?_)
 ·refine iD Fc [10] H fun _ H=>j5<|hr H
 refine iA [3,4,5,6,7,16]<|cD H (fun H=>iD OJ [3,4,6,7,12,13] H fun _ H=>jD OI [4,6,7,11] H fun _ H=>d H) fun H=>jD Zq [4,6,7,11] H fun _ H=>d H
def Iu(a:j9)(d:p8)(c:l8)(b:r8):Option (r8×r8) :=
 gd ((Bf a d c b.1 0).isSome/\(Bf a d c b.1 1).isSome/\True)<|lt ((vl (Bf a d c b.1 0),vl (Bf a d c b.1 1))) fun(f,j) =>
 gd ((Be a c b.1 0).isSome/\(Be a c b.1 1).isSome/\True)<|lt ((vl (Be a c b.1 0),vl (Be a c b.1 1))) fun(k,i) =>
 gd ((Bf a d c b.2 0).isSome/\True)<|lt (vl (Bf a d c b.2 0)) fun g =>
 gd ((Bf a d c b.2 1).isSome/\True)<|lt (vl (Bf a d c b.2 1)) fun l =>
 gd ((Be a c b.2 0).isSome/\True)<|lt (vl (Be a c b.2 0)) fun e =>
 gd ((Be a c b.2 1).isSome/\True)<|lt (vl (Be a c b.2 1)) fun h =>
 some (((min f g,max j l),min k e,max i h))
def R0s:Ct:=k6 110 [.agg l9,.agg r7,.agg y80,.agg y51] (fun x=>Iu x.1 x.2.1 x.2.2.1 x.2.2.2.1) (fun r:r8×r8=>AV.tup [AV.agg [I r.1.1,I r.1.2],AV.agg [I r.2.1,I r.2.2]]) (fun _=>())
theorem Zr:Ok prog R0s:=by
 refine l5 [.cell 8 51,.cell 9 51] func110 ?_;intro y ⟨e,c,g,f,_⟩ r H Q hn hr;have:=hz (tc Tu (tc Tv tn));refine iA [4,5,6,7,8,9]<|qD (fun(a,b)=>Z [p 4 (R 4),p 5 (R 5),p 6 (R 6),p 7 (R 7),p 8 (R 8),p 9 (R 9),p 10 (R 10)] [(10,bx 51 [I a,I b]),(9,bx 51 [I 0,I 0]),(8,bx 51 [I 0,I 0]),(7,K 51 y51 f),(6,K 80 y80 g),(5,K 36 r7 c),(4,K 34 l9 e)]) H fun⟨a,b⟩ H =>
  qD (fun(h,d)=>Z [p 4 (R 4),p 5 (R 5),p 6 (R 6),p 7 (R 7),p 8 (R 8),p 9 (R 9),p 10 (R 10),p 11 (R 11)] [(11,bx 51 [I h,I d]),(10,bx 51 [I a,I b]),(9,bx 51 [I 0,I 0]),(8,bx 51 [I 0,I 0]),(7,K 51 y51 f),(6,K 80 y80 g),(5,K 36 r7 c),(4,K 34 l9 e)]) H fun⟨h,d⟩ H =>
  iD Tv [4,5,6,7,8,9,10,11] H fun _ H =>
  iD Tv [4,6,7,8,9,10,11] H fun _ H =>
  iD Tu [4,6,7,8,9,10,11] H fun _ H =>
  iD Tu [8,9,10,11] H fun _ H =>
  iA [8,9] <|
  j5<|hr H
def KC(a:Int):Option C3 :=
 gd ((0<=a/\a=a/\a.toNat*1<=281474976710656/\a<=9223372036854775807)/\(0<=a/\a=a/\a.toNat*16<=281474976710656/\a<=9223372036854775807)/\(0<=a/\a=a/\a.toNat*16<=281474976710656/\a<=9223372036854775807)/\True) <|
 some ((List.replicate a.toNat false,List.replicate a.toNat ((0:Int),(0:Int)),List.replicate a.toNat ((0:Int),(0:Int))))
def k78:Ct:=k6 78 [.dat i64] (fun x=>KC x.1) (fun r:C3=>AV.agg [AV.ow 4 true Ty.bool r.1,AV.ow 51 true y51 r.2.1,AV.ow 51 true y51 r.2.2]) (fun _=>())
theorem Zs:Ok prog k78:=by
 refine l5 [.cell 2 44] func78 ?_;intro y ⟨_,_⟩ r H Q hn hr;refine iA [0,2]<|iB [2] H fun H=>j5<|hr H
def Y6(a:j9):Option Int :=
 gd ((J3 a.2.1).isSome/\j0 (2*(↑(vl (J3 a.2.1)).length:Int))/\True)<|lt (vl (J3 a.2.1)) fun b =>
 some (2*(b.length:Int))
def k40:Ct:=k6 40 [.agg l9] (fun x=>Y6 x.1) (fun r:Int=>I r) (fun _=>())
theorem Iv:Ok prog k40:=by
 refine l5 [.tmp 2] func40 ?_;intro y ⟨_,_⟩ r H Q hn hr;have:=hz (tc Ag tn);refine iA [1]<|iD Ag [2] H fun _ H=>j5<|hr H
def Zt:Unit->Option Bool
 | _ =>
 some false
def Zu(b:List Int)(d:Int)(c:Int->Option Bool):Int->Option Bool
 | a =>
 if(decide (a < (b.length:Int))) then
  gd (ix a b.length/\True) <|
  if(b.getD a.toNat 0==d) then
   some true
  else
   gd (j0 (a+1)/\True) <|
   c (a+1)
 else
  Zt ()
def U8(b:List Int)(a:Int):Option Bool :=
 lp (Zu b a) 0
def k81:Ct:=k6 81 [.dat i64.sl,.dat i64] (fun x=>U8 x.1 x.2.1) (fun r:Bool=>B r) (fun _=>())
theorem Zv:Ok prog k81:=by
 refine l5 [.tmp 4] func81 ?_;intro y ⟨c,b,_⟩ r H Q hn hr;refine iA [0,1]<|jN r (fun(_:Unit)=>Z [] []) (Zt) (fun _ H=>?_) (fun _ d i g=>?_)
 ·refine iA [4]<|j5<|hr H
 refine iA [0,1,5]<|vB<|lX (fun(a:Int)=>Z [p 0 (L i64 c),p 1 (J b),p 5 (I a)] []) 0 H fun _ j h f e a H=>vQ<|iA [0,1,5,9]<|cD H (fun H=>?_) (fun H=>?_)
 ·refine vK<|fQ<|vQ<|vB<|iB [0,1,5,17] H fun H=>cD H (fun H=>iA [4]<|j5<|m4<|fR<|e<|m4<|g<|hr H) fun H=>vK<|fK<|fQ<|jB [0,1,5] H fun H=>h H
 exact vE<|fE<|f<|fX rfl<|d H
def Zw:List Bool->Option (List Bool)
 | a =>
 some a
def Zx(b:List Int)(d:List l8)(e:Int×List Bool->Option (List Bool)):Int×List Bool->Option (List Bool)
 | (a,c) =>
 if(decide (a < (d.length:Int))) then
  gd ((U8 b a).isSome/\(c.length+[!vl (U8 b a)].length<=9223372036854775807/\(c.length+[!vl (U8 b a)].length)*1<=140737488355328)/\True) <|
  gd (j0 (a+1)/\True) <|
  e ((a+1,c++[!vl (U8 b a)]))
 else
  Zw c
def Bg(b:List l8)(a:List Int):Option (List Bool) :=
 lp (Zx a b) (0,[])
def k34:Ct:=k6 34 [.dat y80.sl,.dat i64.sl] (fun x=>Bg x.1 x.2.1) (fun r:List Bool=>AV.ow 4 true Ty.bool r) (fun _=>())
theorem OK:Ok prog k34:=by
 refine l5 [.tmp 4] func34 ?_;intro y ⟨e,d,_⟩ r H Q hn hr;have:=hz (tc Zv tn);refine iA [0,1]<|iA [0,1,5]<|jN r (fun(c:List Bool)=>Z [p 5 (O 7)] [(7,A 4 Ty.bool c 0)]) (Zw) (fun c H=>?_) (fun _ f i l=>?_)
 ·refine iA [4]<|j5<|hr H
 refine iA [0,1,5,6]<|vB<|lX (fun((a,b):Int×List Bool)=>Z [p 0 (L y80 e),p 1 (L i64 d),p 5 (O 7),p 6 (I a)] [(7,A 4 Ty.bool b 0)]) (0,[]) H fun _ j h g k ⟨a,b⟩ H=>vQ<|iA [0,1,5,6,11]<|cD H (fun H=>vK<|fQ<|vQ<|vB<|jB [0,1,5,6] H fun H=>fK<|fQ<|jB [0,1,5,6] H fun H=>h H) fun H=>vE<|fE<|g<|fX rfl<|f H
def Fe(f:List l8)(a:Int)(b:Int)(d:Int)(c:Int)(g:Int)(e:Int):Option (List l8) :=
 gd (j0 (2*a)/\j0 (2*a+d)/\j0 (2*b)/\j0 (2*b+c)/\(f.length+[(2*a+d,2*b+c,g,e)].length<=9223372036854775807/\(f.length+[(2*a+d,2*b+c,g,e)].length)*32<=140737488355328)/\True) <|
 some (f++[(2*a+d,2*b+c,g,e)])
def k77:Ct:=k6 77 [.os 80 y80,.dat i64,.dat i64,.dat i64,.dat i64,.dat i64,.dat i64] (fun x=>Fe x.1 x.2.1 x.2.2.1 x.2.2.2.1 x.2.2.2.2.1 x.2.2.2.2.2.1 x.2.2.2.2.2.2.1) (fun r:List l8=>AV.ow 80 true y80 r) (fun _=>())
theorem KD:Ok prog k77:=by
 refine l5 [.tmp 14] func77 ?_;intro y ⟨_,_,_,_,_,_,_,_⟩ r H Q hn hr;refine iA [0,1,2,3,4,5,6]<|iB [14] H fun H=>j5<|hr H
def Zy:Unit->Option Int
 | _ =>
 some (-1)
def Zz(b:List D3)(c:Int)(d:Int->Option Int):Int->Option Int
 | a =>
 if(decide (a < (b.length:Int))) then
  gd (ix a b.length/\a.toNat<b.length/\(((b.getD a.toNat (a6 u0)).2.2.1==c)=true/\True->ix a b.length)/\(((b.getD a.toNat (a6 u0)).2.2.1==c)=true/\True->a.toNat<b.length)/\True) <|
  if((b.getD a.toNat (a6 u0)).2.2.1==c&&(b.getD a.toNat (a6 u0)).2.2.2) then
   some a
  else
   gd (j0 (a+1)/\True) <|
   d (a+1)
 else
  Zy ()
def KE(a:r9)(c:Int):Option Int :=
 gd ((J3 a).isSome/\True)<|lt (vl (J3 a)) fun b =>
 lp (Zz b c) 0
def k75:Ct:=k6 75 [.agg y31,.dat i64] (fun x=>KE x.1 x.2.1) (fun r:Int=>I r) (fun _=>())
theorem ZA:Ok prog k75:=by
 refine l5 [.tmp 4] func75 ?_;intro y ⟨_,c,_⟩ r H Q hn hr;have:=hz (tc Ag tn);refine iA [1,2]<|iD Ag [1,5] H fun b H=>jN r (fun(_:Unit)=>Z [] []) (Zy) (fun _ H=>?_) (fun _ d i g=>?_)
 ·refine iA [4]<|j5<|hr H
 refine iA [1,5,6]<|vB<|lX (fun(a:Int)=>Z [p 1 (J c),p 5 (O 8),p 6 (I a)] [(8,A 190 u0 b 0)]) 0 H fun _ j h f e a H=>vQ<|iA [1,5,6,12]<|cD H (fun H=>?_) (fun H=>?_)
 ·refine vK<|fQ<|vQ<|vB<|iB [1,5,6,28] H fun H=>cD H (fun H=>iA [4]<|j5<|m4<|fR<|e<|m4<|g<|hr H) fun H=>vK<|fK<|fQ<|jB [1,5,6] H fun H=>h H
 exact vE<|fE<|f<|fX rfl<|d H
def ZB:List l8->Option (List l8)
 | a =>
 some a
def Tw(b:Int)(c:Int×List l8->Option (List l8)):List l8->Option (List l8)
 | a =>
 gd (j0 (b+1)/\True) <|
 c (b+1,a)
def OL(a:Int)(c:Int×List l8->Option (List l8)):List l8->Option (List l8)
 | b =>
 gd (j0 (a+1)/\True) <|
 c (a+1,b)
def Ff(a:Int)(b:List l8)(h:Int)(g:Int)(f:Int)(e:Int)(i:Int×List l8->Option (List l8)):Bool->Option (List l8)
 | d =>
 if d then
  gd ((Fe b h g f a 1 e).isSome/\True)<|lt (vl (Fe b h g f a 1 e)) fun c =>
  OL a i c
 else
  OL a i b
def OM(g:Int)(f:Int)(c:Int)(e:Int)(d:B3)(i:Int×List l8->Option (List l8))(h:Int×List l8->Option (List l8)):Int×List l8->Option (List l8)
 | (a,b) =>
 if(decide (a<=1)) then
  if(d.1==1) then
   Ff a b g f c e h (d.2.2.2.1==3||(d.2.2.2.1==1)==(c==a))
  else
   if(d.1==2) then
    Ff a b g f c e h (c==0)
   else
    if(d.1==3) then
     Ff a b g f c e h (c==1)
    else
     Ff a b g f c e h false
 else
  Tw c i b
def ON(g:Int)(f:Int)(c:Int)(d:B3)(e:Int×List l8->Option (List l8)):Int×List l8->Option (List l8)
 | (b,a) =>
 if(decide (b<=1)) then
  lp (OM g f b c d e) (0,a)
 else
  ZB a
def GB(c:List l8)(b:B3)(e:Int)(d:Int)(a:Int):Option (List l8) :=
 lp (ON e d a b) (0,c)
def k73:Ct:=k6 73 [.os 80 y80,.agg y67,.dat i64,.dat i64,.dat i64] (fun x=>GB x.1 x.2.1 x.2.2.1 x.2.2.2.1 x.2.2.2.2.1) (fun r:List l8=>AV.ow 80 true y80 r) (fun _=>())
theorem ZC:Ok prog k73:=by
 refine l5 [.tmp 10] func73 ?_;intro y ⟨u,l,g,f,e,_⟩ r H Q hn hr;have:=hz (tc KD tn);refine iA [0,2,3,4,6]<|jN r (fun(h:List l8)=>Z [p 0 (O 500000)] [(500000,A 80 y80 h 0)]) (ZB) (fun h H=>?_) (fun _ v T P=>?_)
 ·refine iA [10]<|j5<|hr H
 refine iA [0,2,3,4,6,11]<|vB<|lX (fun((c,d):Int×List l8)=>Z (Ku g f e c []) [(6,K 67 y67 l),(500000,A 80 y80 d 0)]) (0,u) H fun _ x z s X ⟨c,d⟩ H=>vQ<|iA [0,2,3,4,6,11,15]<|cD H (fun H=>?_) (fun H=>?_)
 ·refine vK<|fQ<|jN r (fun(i:List l8)=>Z (Ku g f e c []) [(6,K 67 y67 l),(500000,A 80 y80 i 0)]) (Tw c x) (fun i H=>?_) (fun _ q V F=>?_)
  ·refine jB [0,2,3,4,6,11] H fun H=>z H
  refine vB<|iA [0,2,3,4,6,11,12]<|vB<|lX (fun((a,b):Int×List l8)=>Z (Ku g f e c [p 12 (I a)]) [(6,K 67 y67 l),(500000,A 80 y80 b 0)]) (0,d) H fun _ o t w W ⟨a,b⟩ H=>vQ<|iA [0,2,3,4,6,11,12,19]<|cD H (fun H=>?_) (fun H=>?_)
  ·refine vK<|fQ<|jN r (fun(j:List l8)=>Z (Ku g f e c [p 12 (I a)]) [(500000,A 80 y80 j 0),(6,K 67 y67 l)]) (OL a o) (fun j H=>?_) (fun _ n E G=>?_)
   ·refine jB [0,2,3,4,6,11,12] H fun H=>t H
   refine vB<|iA [0,2,3,4,6,11,12,13]<|jN r (fun(k:Bool)=>Z (Ku g f e c [p 12 (I a),p 13 (B k)]) [(6,K 67 y67 l),(500000,A 80 y80 b 0)]) (Ff a b g f c e o) (fun k H=>?_) (fun _ m e5 Y=>?_)
   ·refine iA [0,2,3,4,6,11,12,46]<|cD H (fun H=>jD KD [0,2,3,4,6,11,12] H fun _ H=>fK<|n H) fun H=>vK<|fK<|n H
   refine iA [0,2,3,4,6,11,12,13,23]<|vB<|iA [0,2,3,4,6,11,12,13,23,24]<|cD H (fun H=>jA [0,2,3,4,6,11,12,13]<|fK<|m H) fun H=>iA [0,2,3,4,6,11,12,13,23,38]<|cD H (fun H=>jA [0,2,3,4,6,11,12,13]<|fK<|m H) fun H=>iA [0,2,3,4,6,11,12,13,42]<|cD H (fun H=>jA [0,2,3,4,6,11,12,13]<|fK<|m H) fun H=>vK<|fK<|m H
  exact vE<|fE<|w<|fX rfl<|fK<|q H
 exact vE<|fE<|s<|fX rfl<|v H
def ZD:Unit->Option Int
 | _ =>
 some (-1)
def ZE(b:List D3)(c:Int)(e:Int)(d:Int->Option Int):Int->Option Int
 | a =>
 if(decide (a < (b.length:Int))) then
  gd (ix a b.length/\a.toNat<b.length/\(((b.getD a.toNat (a6 u0)).1==c)=true/\True->ix a b.length)/\(((b.getD a.toNat (a6 u0)).1==c)=true/\True->a.toNat<b.length)/\True) <|
  if((b.getD a.toNat (a6 u0)).1==c&&(b.getD a.toNat (a6 u0)).2.1==e) then
   some a
  else
   gd (j0 (a+1)/\True) <|
   d (a+1)
 else
  ZD ()
def Y7(a:r9)(c:Int)(d:Int):Option Int :=
 gd ((J3 a).isSome/\True)<|lt (vl (J3 a)) fun b =>
 lp (ZE b c d) 0
def k74:Ct:=k6 74 [.agg y31,.dat i64,.dat i64] (fun x=>Y7 x.1 x.2.1 x.2.2.1) (fun r:Int=>I r) (fun _=>())
theorem o74:Ok prog k74:=by
 refine l5 [.tmp 6] func74 ?_;intro y ⟨_,c,h,_⟩ r H Q hn hr;have:=hz (tc Ag tn);refine iA [1,2,3]<|iD Ag [1,2,7] H fun b H=>jN r (fun(_:Unit)=>Z [] []) (ZD) (fun _ H=>?_) (fun _ d j g=>?_)
 ·refine iA [6]<|j5<|hr H
 refine iA [1,2,7,8]<|vB<|lX (fun(a:Int)=>Z [p 1 (J c),p 2 (J h),p 7 (O 10),p 8 (I a)] [(10,A 190 u0 b 0)]) 0 H fun _ k i f e a H=>vQ<|iA [1,2,7,8,14]<|cD H (fun H=>?_) (fun H=>?_)
 ·refine vK<|fQ<|vQ<|vB<|iB [1,2,7,8,32] H fun H=>cD H (fun H=>iA [6]<|j5<|m4<|fR<|e<|m4<|g<|hr H) fun H=>vK<|fK<|fQ<|jB [1,2,7,8] H fun H=>i H
 exact vE<|fE<|f<|fX rfl<|d H
def ZF:List l8->Option (List l8)
 | a =>
 some a
def Tx(a:Int)(c:Int×List l8->Option (List l8)):List l8->Option (List l8)
 | b =>
 gd (j0 (a+1)/\True) <|
 c (a+1,b)
def ZG(c:Int)(b:List Int)(f:Int)(i:Int×List l8->Option (List l8))(h:Int×List l8->Option (List l8)):Int×List l8->Option (List l8)
 | (a,d) =>
 if(decide (a < (b.length:Int))) then
  gd (ix a b.length/\a.toNat<b.length/\(Fe d c (b.getD a.toNat 0) 0 0 2 a).isSome/\True)<|lt (vl (Fe d c (b.getD a.toNat 0) 0 0 2 a)) fun e =>
  gd (ix a b.length/\a.toNat<b.length/\(Fe e c (b.getD a.toNat 0) 1 1 2 a).isSome/\True)<|lt (vl (Fe e c (b.getD a.toNat 0) 1 1 2 a)) fun g =>
  gd (j0 (a+1)/\True) <|
  h (a+1,g)
 else
  Tx f i d
def ZH(b:j9)(f:Int×List l8->Option (List l8)):Int×List l8->Option (List l8)
 | (a,c) =>
 if(decide (a < (b.2.1.2.1.length:Int))) then
  gd ((KE b.2.1 a).isSome/\True)<|lt (vl (KE b.2.1 a)) fun e =>
  gd ((U7 b.2.1 a).isSome/\True)<|lt (vl (U7 b.2.1 a)) fun d =>
  lp (ZG e d a f) (0,c)
 else
  ZF c
def OO(b:j9):List l8->Option (List l8)
 | a =>
 lp (ZH b) (0,a)
def Tz(b:Int)(c:Int×List l8->Option (List l8)):List l8->Option (List l8)
 | a =>
 gd (j0 (b+1)/\True) <|
 c (b+1,a)
def KF(a:Int)(c:Int×List l8->Option (List l8)):List l8->Option (List l8)
 | b =>
 gd (j0 (a+1)/\True) <|
 c (a+1,b)
def ZI(b:m5)(e:j9)(d:Int)(h:Int×List l8->Option (List l8))(g:Int×List l8->Option (List l8)):Int×List l8->Option (List l8)
 | (a,c) =>
 if(decide (a < (b.2.2.2.1.length:Int))) then
  gd (ix a b.2.2.2.1.length/\True) <|
  if(decide ((b.2.2.2.1.getD a.toNat (a6 y67)).1<=3)) then
   gd (ix a b.2.2.2.1.length/\ix a b.2.2.2.1.length/\(Y7 e.2.1 d (b.2.2.2.1.getD a.toNat (a6 y67)).2.1).isSome/\ix a b.2.2.2.1.length/\(Y7 e.2.1 d (b.2.2.2.1.getD a.toNat (a6 y67)).2.2.1).isSome/\(GB c (b.2.2.2.1.getD a.toNat (a6 y67)) (vl (Y7 e.2.1 d (b.2.2.2.1.getD a.toNat (a6 y67)).2.1)) (vl (Y7 e.2.1 d (b.2.2.2.1.getD a.toNat (a6 y67)).2.2.1)) a).isSome/\True)<|lt (vl (GB c (b.2.2.2.1.getD a.toNat (a6 y67)) (vl (Y7 e.2.1 d (b.2.2.2.1.getD a.toNat (a6 y67)).2.1)) (vl (Y7 e.2.1 d (b.2.2.2.1.getD a.toNat (a6 y67)).2.2.1)) a)) fun f =>
   KF a g f
  else
   KF a g c
 else
  Tz d h c
def ZJ(a:j9)(e:Int×List l8->Option (List l8)):Int×List l8->Option (List l8)
 | (b,d) =>
 if(decide (b < (a.2.1.1.length:Int))) then
  gd (ix b a.2.1.1.length/\ix (a.2.1.1.getD b.toNat (a6 y139)).2.1 a.1.length/\True)<|lt (a.1.getD (a.2.1.1.getD b.toNat (a6 y139)).2.1.toNat (a6 y64)) fun c =>
  lp (ZI c a b e) (0,d)
 else
  OO a d
def u32(a:j9):Option (List l8) :=
 lp (ZJ a) (0,[])
def k32:Ct:=k6 32 [.agg l9] (fun x=>u32 x.1) (fun r:List l8=>AV.ow 80 true y80 r) (fun _=>())
theorem Cu:Ok prog k32:=by
 refine l5 [.tmp 2] func32 ?_;intro y ⟨a,_⟩ r H Q hn hr;have:=hz (tc KD (tc Gw (tc ZA (tc ZC (tc o74 tn)))));refine iA [1]<|iA [1,3]<|iA [1,3,4]<|jN r (fun(e:List l8)=>Z [p 3 (O 12),p 4 (R 4)] [(4,K 31 y31 a.2.1),(12,A 80 y80 e 0)]) (OO a) (fun e H=>?_) (fun _ F e0 t0=>?_)
 ·refine jN r (fun(n:List l8)=>Z [p 3 (O 12)] [(12,A 80 y80 n 0)]) (ZF) (fun n H=>?_) (fun _ v e5 t5=>?_)
  ·refine iA [2]<|j5<|hr H
  refine iA [3,4,8]<|vB<|lX (fun((b,f):Int×List l8)=>Z [p 3 (O 12),p 4 (R 4),p 8 (I b)] [(4,K 31 y31 a.2.1),(12,A 80 y80 f 0)]) (0,e) H fun _ G T P t6 ⟨b,f⟩ H=>vQ<|iA [3,4,8,73]<|cD H (fun H=>?_) (fun H=>?_)
  ·refine vK<|fQ<|jN r (fun(h:List l8)=>Z [p 3 (O 12),p 4 (R 4),p 8 (I b)] [(4,K 31 y31 a.2.1),(12,A 80 y80 h 0)]) (Tx b G) (fun h H=>?_) (fun _ x e7 t7=>?_)
   ·refine jB [3,4,8] H fun H=>T H
   refine vB<|iD ZA [3,4,8,9] H fun s H=>iD Gw [3,4,8,9,10] H fun q H=>iA [3,4,8,9,10,11]<|vB<|lX (fun((i,j):Int×List l8)=>Z [p 3 (O 12),p 4 (R 4),p 8 (I b),p 9 (I s),p 10 (O 81),p 11 (I i)] [(81,A 2 i64 q 0),(4,K 31 y31 a.2.1),(12,A 80 y80 j 0)]) (0,f) H fun _ g8 b8 e8 t8 ⟨i,j⟩ H=>vQ<|iA [3,4,8,9,10,11,85]<|cD H (fun H=>vK<|fQ<|vQ<|vB<|iD KD [3,4,8,9,10,11] H fun _ H=>jD KD [3,4,8,9,10,11] H fun _ H=>fK<|fQ<|jB [3,4,8,9,10,11] H fun H=>b8 H) fun H=>vE<|fE<|e8<|fX rfl<|fK<|x H
  exact vE<|fE<|P<|fX rfl<|v H
 refine iA [1,3,4,5]<|vB<|lX (fun((g,o):Int×List l8)=>Z (Kw g []) [(4,K 31 y31 a.2.1),(12,A 80 y80 o 0),(1,K 34 l9 a)]) (0,[]) H fun _ W X z t1 ⟨g,o⟩ H=>vQ<|iA [1,3,4,5,19]<|cD H (fun H=>?_) (fun H=>?_)
 ·refine vK<|fQ<|jN r (fun(l:List l8)=>Z (Kw g []) [(4,K 31 y31 a.2.1),(12,A 80 y80 l 0),(1,K 34 l9 a)]) (Tz g W) (fun l H=>?_) (fun _ u e2 t2=>?_)
  ·refine jB [1,3,4,5] H fun H=>X H
  refine vB<|qD (fun c=>Z (Kw g [p 6 (L y67 c.2.2.2.1)]) [(4,K 31 y31 a.2.1),(12,A 80 y80 o 0),(1,K 34 l9 a)]) H fun c H=>iA [1,3,4,5,6,7]<|vB<|lX (fun((d,k):Int×List l8)=>Z (Kw g [p 6 (L y67 c.2.2.2.1),p 7 (I d)]) [(4,K 31 y31 a.2.1),(12,A 80 y80 k 0),(1,K 34 l9 a)]) (0,o) H fun _ w E V t3 ⟨d,k⟩ H=>vQ<|iA [1,3,4,5,6,7,37]<|cD H (fun H=>?_) (fun H=>?_)
  ·refine vK<|fQ<|jN r (fun(m:List l8)=>Z (Kw g [p 6 (L y67 c.2.2.2.1),p 7 (I d)]) [(12,A 80 y80 m 0),(4,K 31 y31 a.2.1),(1,K 34 l9 a)]) (KF d w) (fun m H=>?_) (fun _ t Y t4=>?_)
   ·refine jB [1,3,4,5,6,7] H fun H=>E H
   refine vB<|iB [1,3,4,5,6,7,45] H fun H=>cD H (fun H=>jD ZC [1,3,4,5,6,7] H fun _ H=>fK<|t H) fun H=>vK<|fK<|t H
  exact vE<|fE<|V<|fX rfl<|fK<|u H
 exact vE<|fE<|z<|fX rfl<|F H
def ZK:List Int->Option (List Int×Bool)
 | a =>
 some (a,true)
def Iw(c:List Bool)(b:List Int)(d:Int)(e:List Bool×List Int->Option (List Int×Bool)):Int->Option (List Int×Bool)
 | a =>
 if(a==d) then
  some ([],false)
 else
  gd (ix a c.length/\a.toNat<c.length/\True) <|
  gd ((b.length+[a].length<=9223372036854775807/\(b.length+[a].length)*8<=140737488355328)/\True) <|
  e (c.set a.toNat true,b++[a])
def ZL(d:List Bool)(e:List Int)(c:Int)(b:List Bool)(f:List Bool×List Int->Option (List Int×Bool))(g:Int->Option (List Int×Bool)):Int->Option (List Int×Bool)
 | a =>
 gd ((decide (a<c)=true/\True->ix a d.length)/\(decide (a<c)=true/\True->a.toNat<d.length)/\(d.getD a.toNat false=false/\decide (a<c)=true/\True->ix a b.length)/\(d.getD a.toNat false=false/\decide (a<c)=true/\True->a.toNat<b.length)/\True) <|
 if(decide (a<c)&&(d.getD a.toNat false||b.getD a.toNat false)) then
  gd (j0 (a+1)/\True) <|
  g (a+1)
 else
  Iw d e c f a
def KG(e:List Bool)(b:List Int)(c:Int)(d:List Bool×List Int->Option (List Int×Bool)):List Bool->Option (List Int×Bool)
 | a =>
 lp (ZL e b c a d) 0
def TA(a:Int)(c:Int×List Bool->Option (List Int×Bool)):List Bool->Option (List Int×Bool)
 | b =>
 gd (j0 (a+1)/\True) <|
 c (a+1,b)
def ZM(c:List l8)(d:List Bool)(e:List Bool)(g:List Int)(h:Int)(i:List Bool×List Int->Option (List Int×Bool))(f:Int×List Bool->Option (List Int×Bool)):Int×List Bool->Option (List Int×Bool)
 | (a,b) =>
 if(decide (a < (c.length:Int))) then
  gd (ix a d.length/\(d.getD a.toNat false=true/\True->ix a c.length)/\(d.getD a.toNat false=true/\True->ix (c.getD a.toNat (a6 y80)).1 e.length)/\(d.getD a.toNat false=true/\True->(c.getD a.toNat (a6 y80)).1.toNat<e.length)/\True) <|
  if(d.getD a.toNat false&&!e.getD (c.getD a.toNat (a6 y80)).1.toNat false) then
   gd (ix a c.length/\ix (c.getD a.toNat (a6 y80)).2.1 b.length/\(c.getD a.toNat (a6 y80)).2.1.toNat<b.length/\True) <|
   TA a f (b.set (c.getD a.toNat (a6 y80)).2.1.toNat true)
  else
   TA a f b
 else
  KG e g h i b
def ZN(c:List l8)(f:List Bool)(a:Int)(d:List Bool×List Int->Option (List Int×Bool)):List Bool×List Int->Option (List Int×Bool)
 | (e,b) =>
 if(decide ((b.length:Int)<a)) then
  gd ((0<=a/\a=a/\a.toNat*1<=281474976710656/\a<=9223372036854775807)/\True) <|
  lp (ZM c f e b a d) (0,List.replicate a.toNat false)
 else
  ZK b
def KH(a:Int)(b:List l8)(c:List Bool):Option (List Int×Bool) :=
 gd ((0<=a/\a=a/\a.toNat*1<=281474976710656/\a<=9223372036854775807)/\True) <|
 lp (ZN b c a) (List.replicate a.toNat false,[])
def R0b:Ct:=k6 131 [.dat i64,.dat y80.sl,.dat Ty.bool.sl] (fun x=>KH x.1 x.2.1 x.2.2.1) (fun r:List Int×Bool=>AV.tup [AV.ow 2 true i64 r.1,B r.2]) (fun _=>())
theorem P0a:Ok prog R0b:=by
 refine l5 [.tmp 6,.tmp 7] func131 ?_;intro y ⟨a,f,g,_⟩ r H Q hn hr;refine iA [0,1,2]<|iA [0,1,2,8]<|iB [0,1,2,8,9] H fun H=>jN r (fun(h:List Int)=>Z [p 8 (O 13)] [(13,A 2 i64 h 0)]) (ZK) (fun h H=>?_) (fun _ w W o=>?_)
 ·refine iA [6,7]<|j5<|hr H
 refine vB<|lX (fun((d,c):List Bool×List Int)=>Z (Az a f g [p 8 (O 13),p 9 (O 15)]) [(15,A 4 Ty.bool d 0),(13,A 2 i64 c 0)]) (List.replicate a.toNat false,[]) H fun _ n G u x ⟨d,c⟩ H=>vQ<|iA [0,1,2,8,9,19]<|cD H (fun H=>?_) (fun H=>?_)
 ·refine vK<|fQ<|vB<|iB [0,1,2,8,9,10] H fun H=>jN r (fun(e:List Bool)=>Z (Az a f g [p 8 (O 13),p 9 (O 15),p 10 (O 21)]) [(21,A 4 Ty.bool e 0),(15,A 4 Ty.bool d 0),(13,A 2 i64 c 0)]) (KG d c a n) (fun e H=>?_) (fun _ q X T=>?_)
  ·refine iA [0,1,2,8,9,10,12]<|jN r (fun(j:Int)=>Z (Az a f g [p 8 (O 13),p 9 (O 15),p 12 (I j)]) [(15,A 4 Ty.bool d 0),(13,A 2 i64 c 0)]) (Iw d c a n) (fun j H=>?_) (fun _ s e5 t5=>?_)
   ·refine vQ<|iA [0,1,2,8,9,12,69]<|cD H (fun H=>iA [6,7]<|j5<|fR<|m4<|x<|m4<|o<|hr H) fun H=>vK<|fQ<|iB [0,1,2,8,9,12] H fun H=>jB [0,1,2,8,9] H fun H=>fK<|G H
   refine vB<|lX (fun(k:Int)=>Z (Az a f g [p 8 (O 13),p 9 (O 15),p 10 (O 21),p 12 (I k)]) [(21,A 4 Ty.bool e 0),(15,A 4 Ty.bool d 0),(13,A 2 i64 c 0)]) 0 H fun _ g6 E z Y k H=>vQ<|iB [0,1,2,8,9,10,12,64] H fun H=>cD H (fun H=>vK<|fQ<|vB<|jB [0,1,2,8,9,10,12] H fun H=>fK<|E H) fun H=>vE<|fE<|z<|fX rfl<|s H
  refine iA [0,1,2,8,9,10,11]<|vB<|lX (fun((b,l):Int×List Bool)=>Z (Az a f g [p 8 (O 13),p 9 (O 15),p 10 (O 21),p 11 (I b)]) [(21,A 4 Ty.bool l 0),(15,A 4 Ty.bool d 0),(13,A 2 i64 c 0)]) (0,List.replicate a.toNat false) H fun _ t v F t3 ⟨b,l⟩ H=>vQ<|iA [0,1,2,8,9,10,11,25]<|cD H (fun H=>?_) (fun H=>?_)
  ·refine vK<|fQ<|jN r (fun(i:List Bool)=>Z (Az a f g [p 8 (O 13),p 9 (O 15),p 10 (O 21),p 11 (I b)]) [(21,A 4 Ty.bool i 0),(15,A 4 Ty.bool d 0),(13,A 2 i64 c 0)]) (TA b t) (fun i H=>?_) (fun _ m P V=>?_)
   ·refine jB [0,1,2,8,9,10,11] H fun H=>v H
   refine vB<|iB [0,1,2,8,9,10,11,42] H fun H=>cD H (fun H=>jB [0,1,2,8,9,10,11] H fun H=>fK<|m H) fun H=>vK<|fK<|m H
  exact vE<|fE<|F<|fX rfl<|q H
 exact vE<|fE<|u<|fX rfl<|w H
def ZO:Unit->Option Bool
 | _ =>
 some true
def ZP(b:List Int)(c:Int)(d:Int->Option Bool):Int->Option Bool
 | a =>
 if(decide (a < (b.length:Int))) then
  gd (ix a b.length/\j0 (c-1)/\(w7 (b.getD a.toNat 0) 0 (c-1)).isSome/\(decide (0<a)=true/\(!vl (w7 (b.getD a.toNat 0) 0 (c-1)))=false/\True->j0 (a-1))/\(decide (0<a)=true/\(!vl (w7 (b.getD a.toNat 0) 0 (c-1)))=false/\True->ix (a-1) b.length)/\(decide (0<a)=true/\(!vl (w7 (b.getD a.toNat 0) 0 (c-1)))=false/\True->ix a b.length)/\True) <|
  if(!vl (w7 (b.getD a.toNat 0) 0 (c-1))||decide (0<a)&&decide (b.getD a.toNat 0<=b.getD (a-1).toNat 0)) then
   some false
  else
   gd (j0 (a+1)/\True) <|
   d (a+1)
 else
  ZO ()
def OP(b:List Int)(a:Int):Option Bool :=
 lp (ZP b a) 0
def R0c:Ct:=k6 130 [.dat i64.sl,.dat i64] (fun x=>OP x.1 x.2.1) (fun r:Bool=>B r) (fun _=>())
theorem P0b:Ok prog R0c:=by
 refine l5 [.tmp 4] func130 ?_;intro y ⟨c,b,_⟩ r H Q hn hr;have:=hz (tc BG tn);refine iA [0,1]<|jN r (fun(_:Unit)=>Z [] []) (ZO) (fun _ H=>?_) (fun _ d i g=>?_)
 ·refine iA [4]<|j5<|hr H
 refine iA [0,1,5]<|vB<|lX (fun(a:Int)=>Z [p 0 (L i64 c),p 1 (J b),p 5 (I a)] []) 0 H fun _ j h f e a H=>vQ<|iA [0,1,5,9]<|cD H (fun H=>?_) (fun H=>?_)
 ·refine vK<|fQ<|vQ<|vB<|iB [0,1,5,35] H fun H=>cD H (fun H=>iA [4]<|j5<|m4<|fR<|e<|m4<|g<|hr H) fun H=>vK<|fK<|fQ<|jB [0,1,5] H fun H=>h H
 exact vE<|fE<|f<|fX rfl<|d H
def ZQ:Unit->Option Bool
 | _ =>
 some true
def ZR(a:z6)(c:Int->Option Bool):Int->Option Bool
 | b =>
 if(decide (b < (a.2.2.2.length:Int))) then
  gd (ix b a.2.2.2.length/\j0 ((a.1.length:Int)-1)/\(w7 (a.2.2.2.getD b.toNat 0) 0 ((a.1.length:Int)-1)).isSome/\True) <|
  if(!vl (w7 (a.2.2.2.getD b.toNat 0) 0 ((a.1.length:Int)-1))) then
   some false
  else
   gd (j0 (b+1)/\True) <|
   c (b+1)
 else
  ZQ ()
def OQ(a:z6):Unit->Option Bool
 | _ =>
 lp (ZR a) 0
def ZS(b:z6)(c:Int->Option Bool):Int->Option Bool
 | a =>
 if(decide (a < (b.1.length:Int))) then
  gd (ix a b.2.2.1.length/\(w7 (b.2.2.1.getD a.toNat 0) 0 500).isSome/\((!vl (w7 (b.2.2.1.getD a.toNat 0) 0 500))=false/\True->ix a b.2.1.length)/\((!vl (w7 (b.2.2.1.getD a.toNat 0) 0 500))=false/\True->(w7 (b.2.1.getD a.toNat 0) 0 1000).isSome)/\True) <|
  if(!vl (w7 (b.2.2.1.getD a.toNat 0) 0 500)||!vl (w7 (b.2.1.getD a.toNat 0) 0 1000)) then
   some false
  else
   gd (((a==0)=true/\True->ix a b.1.length)/\((b.1.getD a.toNat 0 != -1)=false/\(a==0)=true/\True->ix a b.2.1.length)/\(decide (0<a)=true/\(a==0&&(b.1.getD a.toNat 0 != -1||b.2.1.getD a.toNat 0 != 0))=false/\True->ix a b.1.length)/\(decide (0<a)=true/\(a==0&&(b.1.getD a.toNat 0 != -1||b.2.1.getD a.toNat 0 != 0))=false/\True->j0 (a-1))/\(decide (0<a)=true/\(a==0&&(b.1.getD a.toNat 0 != -1||b.2.1.getD a.toNat 0 != 0))=false/\True->(w7 (b.1.getD a.toNat 0) 0 (a-1)).isSome)/\True) <|
   if(a==0&&(b.1.getD a.toNat 0 != -1||b.2.1.getD a.toNat 0 != 0)||decide (0<a)&&!vl (w7 (b.1.getD a.toNat 0) 0 (a-1))) then
    some false
   else
    gd (j0 (a+1)/\True) <|
    c (a+1)
 else
  OQ b ()
def KI(a:z6)(b:Int):Option Bool :=
 if(decide ((a.1.length:Int)<1)||decide (8 < (a.1.length:Int))||(a.2.1.length:Int) != (a.1.length:Int)||(a.2.2.1.length:Int) != (a.1.length:Int)||(a.2.2.2.length:Int) != b) then
  some false
 else
  lp (ZS a) 0
def k93:Ct:=k6 93 [.agg l7,.dat i64] (fun x=>KI x.1 x.2.1) (fun r:Bool=>B r) (fun _=>())
theorem o93:Ok prog k93:=by
 refine l5 [.tmp 4] func93 ?_;intro y ⟨a,_,_⟩ r H Q hn hr;have:=hz (tc BG tn);refine iA [1,2]<|iA [1,2,5]<|vQ<|iA [2,5,37]<|cD H (fun H=>iA [4]<|j5<|fR<|hr H) fun H=>vK<|fQ<|jN r (fun(_:Unit)=>Z [p 2 (R 2),p 5 (I (a.1.length:Int))] [(2,K 153 l7 a)]) (OQ a) (fun _ H=>?_) (fun _ i n c=>?_)
 ·refine jN r (fun(_:Unit)=>Z [] []) (ZQ) (fun _ H=>?_) (fun _ l o f=>?_)
  ·refine iA [4]<|j5<|hr H
  refine iA [2,5,7]<|vB<|lX (fun(e:Int)=>Z [p 2 (R 2),p 5 (I (a.1.length:Int)),p 7 (I e)] [(2,K 153 l7 a)]) 0 H fun _ s g j h e H=>vQ<|iA [2,5,7,96]<|cD H (fun H=>?_) (fun H=>?_)
  ·refine vK<|fQ<|vQ<|vB<|iB [2,5,7,107] H fun H=>cD H (fun H=>iA [4]<|j5<|m4<|fR<|h<|m4<|f<|hr H) fun H=>vK<|fK<|fQ<|jB [2,5,7] H fun H=>g H
  exact vE<|fE<|j<|fX rfl<|l H
 refine iA [2,5,6]<|vB<|lX (fun(b:Int)=>Z [p 2 (R 2),p 5 (I (a.1.length:Int)),p 6 (I b)] [(2,K 153 l7 a)]) 0 H fun _ q m k d b H=>vQ<|iA [2,5,6,40]<|cD H (fun H=>?_) (fun H=>?_)
 ·refine vK<|fQ<|vQ<|vB<|vQ<|iB [2,5,6,58] H fun H=>cD H (fun H=>iA [4]<|j5<|fR<|m4<|fR<|d<|m4<|c<|hr H) fun H=>vK<|fQ<|iB [2,5,6,91] H fun H=>cD H (fun H=>iA [4]<|j5<|m4<|fR<|d<|m4<|c<|hr H) fun H=>vK<|fK<|fQ<|jB [2,5,6] H fun H=>m H
 exact vE<|fE<|k<|fX rfl<|i H
def OR(a:ByteArray):Unit->Option Bool
 | _ =>
 some (decide (1<=(a.size:Int))&&decide ((a.size:Int)<=8))
def ZT(b:ByteArray)(c:Int->Option Bool):Int->Option Bool
 | a =>
 if(decide (a < (b.size:Int))) then
  gd (ix a b.size/\(decide (97<=F5 b a.toNat)=true/\True->ix a b.size)/\True) <|
  gd (ix a b.size/\(decide (48<=F5 b a.toNat)=true/\True->ix a b.size)/\True) <|
  if(!(decide (97<=F5 b a.toNat)&&decide (F5 b a.toNat<=122))&&!(decide (48<=F5 b a.toNat)&&decide (F5 b a.toNat<=57)&&decide (0<a))) then
   some false
  else
   gd (j0 (a+1)/\True) <|
   c (a+1)
 else
  OR b ()
def Ah(a:ByteArray):Option Bool :=
 lp (ZT a) 0
def R0d:Ct:=k6 129 [.dat Ty.str] (fun x=>Ah x.1) (fun r:Bool=>B r) (fun _=>())
theorem OS:Ok prog R0d:=by
 refine l5 [.tmp 2] func129 ?_;intro y ⟨a,_⟩ r H Q hn hr;refine iA [0]<|jN r (fun(_:Unit)=>Z [p 0 (U a)] []) (OR a) (fun _ H=>?_) (fun _ c h f=>?_)
 ·refine iA [2]<|j5<|hr H
 refine iA [0,3]<|vB<|lX (fun(b:Int)=>Z [p 0 (U a),p 3 (I b)] []) 0 H fun _ i g e d b H=>vQ<|iA [0,3,9]<|cD H (fun H=>?_) (fun H=>?_)
 ·refine vK<|fQ<|vQ<|vB<|iB [0,3,4] H fun H=>iB [0,3,4,5] H fun H=>iA [0,3,41]<|cD H (fun H=>iA [2]<|j5<|m4<|fR<|d<|m4<|f<|hr H) fun H=>vK<|fK<|fQ<|jB [0,3] H fun H=>g H
 exact vE<|fE<|e<|fX rfl<|c H
def ZU:Unit->Option Bool
 | _ =>
 some true
def TB(a:Int)(b:Int->Option Bool):Unit->Option Bool
 | _ =>
 gd (j0 (a+1)/\True) <|
 b (a+1)
def ZV(b:List ByteArray)(c:Int)(d:Int->Option Bool)(e:Int->Option Bool):Int->Option Bool
 | a =>
 if(decide (a<c)) then
  gd (ix a b.length/\ix c b.length/\True) <|
  if(decide (b.getD a.toNat (a6 Ty.str)=b.getD c.toNat (a6 Ty.str))) then
   some false
  else
   gd (j0 (a+1)/\True) <|
   e (a+1)
 else
  TB c d ()
def ZW(a:List ByteArray)(c:Int->Option Bool):Int->Option Bool
 | b =>
 if(decide (b < (a.length:Int))) then
  gd (ix b a.length/\(Ah (a.getD b.toNat (a6 Ty.str))).isSome/\True) <|
  if(!vl (Ah (a.getD b.toNat (a6 Ty.str)))) then
   some false
  else
   lp (ZV a b c) 0
 else
  ZU ()
def BJ(a:List ByteArray):Option Bool :=
 lp (ZW a) 0
def Q0L:Ct:=k6 148 [.dat Ty.str.sl] (fun x=>BJ x.1) (fun r:Bool=>B r) (fun _=>())
theorem O0S:Ok prog Q0L:=by
 refine l5 [.tmp 2] func148 ?_;intro y ⟨b,_⟩ r H Q hn hr;have:=hz (tc OS tn);refine iA [0]<|jN r (fun(_:Unit)=>Z [] []) (ZU) (fun _ H=>?_) (fun _ i o e=>?_)
 ·refine iA [2]<|j5<|hr H
 refine iA [0,3]<|vB<|lX (fun(a:Int)=>Z [p 0 (L Ty.str b),p 3 (I a)] []) 0 H fun _ j n k d a H=>vQ<|iA [0,3,8]<|cD H (fun H=>?_) (fun H=>?_)
 ·refine vK<|fQ<|jN r (fun(_:Unit)=>Z [p 0 (L Ty.str b),p 3 (I a)] []) (TB a j) (fun _ H=>?_) (fun _ l q c=>?_)
  ·refine jB [0,3] H fun H=>n H
  refine vB<|vQ<|iB [0,3,16] H fun H=>cD H (fun H=>iA [2]<|j5<|fR<|m4<|c<|d<|m4<|e<|hr H) fun H=>vK<|fQ<|iA [0,3,4]<|vB<|lX (fun(f:Int)=>Z [p 0 (L Ty.str b),p 3 (I a),p 4 (I f)] []) 0 H fun _ s g m h f H=>vQ<|iA [0,3,4,19]<|cD H (fun H=>?_) (fun H=>?_)
  ·refine vK<|fQ<|vQ<|vB<|iB [0,3,4,30] H fun H=>cD H (fun H=>iA [2]<|j5<|m4<|fR<|h<|m4<|m4<|c<|d<|m4<|e<|hr H) fun H=>vK<|fK<|fQ<|jB [0,3,4] H fun H=>g H
  exact vE<|fE<|m<|fX rfl<|fK<|l H
 exact vE<|fE<|k<|fX rfl<|i H
def ZX:Unit->Option Bool
 | _ =>
 some true
def ZY(a:r9)(c:Int->Option Bool):Int->Option Bool
 | b =>
 if(decide (b < (a.2.2.length:Int))) then
  gd (ix b a.2.2.length/\(w7 (a.2.2.getD b.toNat (a6 y202)).2.1 1 2).isSome/\((!vl (w7 (a.2.2.getD b.toNat (a6 y202)).2.1 1 2))=false/\True->ix b a.2.2.length)/\((!vl (w7 (a.2.2.getD b.toNat (a6 y202)).2.1 1 2))=false/\True->j0 ((a.2.1.length:Int)-1))/\((!vl (w7 (a.2.2.getD b.toNat (a6 y202)).2.1 1 2))=false/\True->(w7 (a.2.2.getD b.toNat (a6 y202)).2.2 0 ((a.2.1.length:Int)-1)).isSome)/\True) <|
  if(!vl (w7 (a.2.2.getD b.toNat (a6 y202)).2.1 1 2)||!vl (w7 (a.2.2.getD b.toNat (a6 y202)).2.2 0 ((a.2.1.length:Int)-1))) then
   some false
  else
   gd (j0 (b+1)/\True) <|
   c (b+1)
 else
  ZX ()
def OT(a:r9):Unit->Option Bool
 | _ =>
 lp (ZY a) 0
def ZZ(a:Int)(b:Int->Option Bool):Unit->Option Bool
 | _ =>
 gd (j0 (a+1)/\True) <|
 b (a+1)
def A0T(b:o3)(c:r9)(e:Int)(d:Int->Option Bool)(f:Int->Option Bool):Int->Option Bool
 | a =>
 if(decide (a < (b.2.2.length:Int))) then
  gd (ix a b.2.2.length/\j0 ((c.2.1.length:Int)-1)/\(w7 (b.2.2.getD a.toNat 0) 0 ((c.2.1.length:Int)-1)).isSome/\True) <|
  if(!vl (w7 (b.2.2.getD a.toNat 0) 0 ((c.2.1.length:Int)-1))) then
   some false
  else
   gd (j0 (a+1)/\True) <|
   f (a+1)
 else
  ZZ e d ()
def A0U(c:r9)(b:List m5)(e:Int->Option Bool):Int->Option Bool
 | d =>
 if(decide (d < (c.1.length:Int))) then
  gd (ix d c.1.length/\True)<|lt (c.1.getD d.toNat (a6 y139)) fun a =>
  gd (j0 ((b.length:Int)-1)/\(w7 a.2.1 0 ((b.length:Int)-1)).isSome/\((!vl (w7 a.2.1 0 ((b.length:Int)-1)))=false/\True->ix a.2.1 b.length)/\True) <|
  if(!vl (w7 a.2.1 0 ((b.length:Int)-1))||(a.2.2.length:Int) != (↑(b.getD a.2.1.toNat (a6 y64)).2.2.1.length:Int)) then
   some false
  else
   lp (A0T a c d e) 0
 else
  OT c ()
def OU(b:List m5)(a:r9):Option Bool :=
 lp (A0U a b) 0
def Q0M:Ct:=k6 147 [.agg y64.sl,.agg y31] (fun x=>OU x.1 x.2.1) (fun r:Bool=>B r) (fun _=>())
theorem O0T:Ok prog Q0M:=by
 refine l5 [.tmp 4] func147 ?_;intro y ⟨c,a,_⟩ r H Q hn hr;have:=hz (tc BG tn);refine iA [2,3]<|iA [2,3,5]<|jN r (fun(_:Unit)=>Z [p 3 (R 3),p 5 (I (a.2.1.length:Int))] [(3,K 31 y31 a)]) (OT a) (fun _ H=>?_) (fun _ s G f=>?_)
 ·refine jN r (fun(_:Unit)=>Z [] []) (ZX) (fun _ H=>?_) (fun _ j z k=>?_)
  ·refine iA [4]<|j5<|hr H
  refine iA [3,5,9]<|vB<|lX (fun(i:Int)=>Z [p 3 (R 3),p 5 (I (a.2.1.length:Int)),p 9 (I i)] [(3,K 31 y31 a)]) 0 H fun _ E n u t i H=>vQ<|iA [3,5,9,67]<|cD H (fun H=>?_) (fun H=>?_)
  ·refine vK<|fQ<|vQ<|vB<|iB [3,5,9,89] H fun H=>cD H (fun H=>iA [4]<|j5<|m4<|fR<|t<|m4<|k<|hr H) fun H=>vK<|fK<|fQ<|jB [3,5,9] H fun H=>n H
  exact vE<|fE<|u<|fX rfl<|j H
 refine iA [2,3,5,6]<|vB<|lX (fun(b:Int)=>Z (G7 [p 5 (I (a.2.1.length:Int)),p 6 (I b)]) (Gt a c)) 0 H fun _ w x m h b H=>vQ<|iA [2,3,5,6,17]<|cD H (fun H=>?_) (fun H=>?_)
 ·refine vK<|fQ<|jN r (fun(_:Unit)=>Z (G7 [p 5 (I (a.2.1.length:Int)),p 6 (I b)]) (Gt a c)) (ZZ b w) (fun _ H=>?_) (fun _ l P e=>?_)
  ·refine jB [2,3,5,6] H fun H=>x H
  refine vB<|qD (fun d=>Z (G7 [p 5 (I (a.2.1.length:Int)),p 6 (I b),p 7 (R 7)]) ((7,K 139 y139 d)::Gt a c)) H fun d H=>vQ<|iB [2,3,5,6,7,46] H fun H=>cD H (fun H=>iA [4]<|j5<|fR<|m4<|e<|h<|m4<|f<|hr H) fun H=>vK<|fQ<|iA [2,3,5,6,7,8]<|vB<|lX (fun(g:Int)=>Z (G7 [p 5 (I (a.2.1.length:Int)),p 6 (I b),p 7 (R 7),p 8 (I g)]) ((7,K 139 y139 d)::Gt a c)) 0 H fun _ F o v q g H=>vQ<|iA [2,3,5,6,7,8,51]<|cD H (fun H=>?_) (fun H=>?_)
  ·refine vK<|fQ<|vQ<|vB<|iB [2,3,5,6,7,8,62] H fun H=>cD H (fun H=>iA [4]<|j5<|m4<|fR<|q<|m4<|m4<|e<|h<|m4<|f<|hr H) fun H=>vK<|fK<|fQ<|jB [2,3,5,6,7,8] H fun H=>o H
  exact vE<|fE<|v<|fX rfl<|fK<|l H
 exact vE<|fE<|m<|fX rfl<|s H
def A0q:List Int->Option (List Int)
 | a =>
 some a
def A0p(b:m5)(e:Int×List Int->Option (List Int)):Int×List Int->Option (List Int)
 | (a,c) =>
 if(decide (a < (b.2.2.2.1.length:Int))) then
  gd (ix a b.2.2.2.1.length/\ix (b.2.2.2.1.getD a.toNat (a6 y67)).1 c.length/\(b.2.2.2.1.getD a.toNat (a6 y67)).1.toNat<c.length/\j0 (c.getD (b.2.2.2.1.getD a.toNat (a6 y67)).1.toNat 0+1)/\ix (b.2.2.2.1.getD a.toNat (a6 y67)).1 c.length/\(b.2.2.2.1.getD a.toNat (a6 y67)).1.toNat<c.length/\True)<|lt (c.set (b.2.2.2.1.getD a.toNat (a6 y67)).1.toNat (c.getD (b.2.2.2.1.getD a.toNat (a6 y67)).1.toNat 0+1)) fun d =>
  gd (j0 (a+1)/\True) <|
  e (a+1,d)
 else
  A0q c
def KJ(a:m5):Option (List Int) :=
 gd (((0:Int)<=(6:Int)/\(6:Int)=(6:Int)/\Int.toNat (6:Int)*8<=281474976710656/\(6:Int)<=(9223372036854775807:Int))/\True) <|
 lp (A0p a) ((0,List.replicate (Int.toNat (6:Int)) (0:Int)))
def P0T:Ct:=k6 207 [.agg y64] (fun x=>KJ x.1) (fun r:List Int=>AV.ow 2 true i64 r) (fun _=>())
theorem M0v:Ok prog P0T:=by
 refine l5 [.tmp 2] func207 ?_;intro y ⟨d,_⟩ r H Q hn hr;refine iA [1]<|iB [1,3] H fun H=>jN r (fun(b:List Int)=>Z [p 3 (O 5)] [(5,A 2 i64 b 0)]) (A0q) (fun b H=>?_) (fun _ f i l=>?_)
 ·refine iA [2]<|j5<|hr H
 refine iA [1,3,4]<|vB<|lX (fun((a,e):Int×List Int)=>Z [p 1 (R 1),p 3 (O 5),p 4 (I a)] [(5,A 2 i64 e 0),(1,K 64 y64 d)]) ((0,List.replicate (Int.toNat (6:Int)) (0:Int))) H fun _ j h g k ⟨a,e⟩ H=>vQ<|iA [1,3,4,10]<|cD H (fun H=>vK<|fQ<|vQ<|vB<|zD (fun c=>Z [p 1 (R 1),p 3 (O 5),p 4 (I a)] [(5,A 2 i64 c 0),(1,K 64 y64 d)]) H fun c H=>fK<|fQ<|jB [1,3,4] H fun H=>h H) fun H=>vE<|fE<|g<|fX rfl<|f H
def OV(a:List Int):Unit->Option Bool
 | _ =>
 some (decide (1<=(a.length:Int))&&decide ((a.length:Int)<=4))
def B0A(b:List Int)(c:Int->Option Bool):Int->Option Bool
 | a =>
 if(decide (a < (b.length:Int))) then
  gd (ix a b.length/\(w7 (b.getD a.toNat 0) 0 100000).isSome/\(decide (0<a)=true/\(!vl (w7 (b.getD a.toNat 0) 0 100000))=false/\True->j0 (a-1))/\(decide (0<a)=true/\(!vl (w7 (b.getD a.toNat 0) 0 100000))=false/\True->ix (a-1) b.length)/\(decide (0<a)=true/\(!vl (w7 (b.getD a.toNat 0) 0 100000))=false/\True->ix a b.length)/\True) <|
  if(!vl (w7 (b.getD a.toNat 0) 0 100000)||decide (0<a)&&decide (b.getD a.toNat 0<=b.getD (a-1).toNat 0)) then
   some false
  else
   gd (j0 (a+1)/\True) <|
   c (a+1)
 else
  OV b ()
def Dm(a:List Int):Option Bool :=
 lp (B0A a) 0
def R0t:Ct:=k6 103 [.dat i64.sl] (fun x=>Dm x.1) (fun r:Bool=>B r) (fun _=>())
theorem P0i:Ok prog R0t:=by
 refine l5 [.tmp 2] func103 ?_;intro y ⟨a,_⟩ r H Q hn hr;have:=hz (tc BG tn);refine iA [0]<|jN r (fun(_:Unit)=>Z [p 0 (L i64 a)] []) (OV a) (fun _ H=>?_) (fun _ c h f=>?_)
 ·refine iA [2]<|j5<|hr H
 refine iA [0,3]<|vB<|lX (fun(b:Int)=>Z [p 0 (L i64 a),p 3 (I b)] []) 0 H fun _ i g e d b H=>vQ<|iA [0,3,7]<|cD H (fun H=>?_) (fun H=>?_)
 ·refine vK<|fQ<|vQ<|vB<|iB [0,3,31] H fun H=>cD H (fun H=>iA [2]<|j5<|m4<|fR<|d<|m4<|f<|hr H) fun H=>vK<|fK<|fQ<|jB [0,3] H fun H=>g H
 exact vE<|fE<|e<|fX rfl<|c H
def G0y:Unit->Option Bool
 | _ =>
 some true
def G0x(b:w8)(c:Int->Option Bool):Int->Option Bool
 | a =>
 if(decide (a < (b.2.2.length:Int))) then
  gd (ix a b.2.2.length/\(w7 (b.2.2.getD a.toNat 0) (-1000000) 1000000).isSome/\True) <|
  if(!vl (w7 (b.2.2.getD a.toNat 0) (-1000000) 1000000)) then
   some false
  else
   gd (j0 (a+1)/\True) <|
   c (a+1)
 else
  G0y ()
def KK(a:w8):Option Bool :=
 gd ((Dm a.1).isSome/\((!vl (Dm a.1))=false/\True->(Dm a.2.1).isSome)/\((!vl (Dm a.1)||!vl (Dm a.2.1))=false/\True->j0 ((a.1.length:Int)*(a.2.1.length:Int)))/\True) <|
 if(!vl (Dm a.1)||!vl (Dm a.2.1)||(a.2.2.length:Int) != (a.1.length:Int)*(a.2.1.length:Int)) then
  some false
 else
  lp (G0x a) 0
def Cv:Ct:=k6 45 [.agg y70] (fun x=>KK x.1) (fun r:Bool=>B r) (fun _=>())
theorem o45:Ok prog Cv:=by
 refine l5 [.tmp 2] func45 ?_;intro y ⟨b,_⟩ r H Q hn hr;have:=hz (tc BG (tc P0i tn));refine iA [1]<|vQ<|iB [1,26] H fun H=>cD H (fun H=>iA [2]<|j5<|fR<|hr H) fun H=>vK<|fQ<|jN r (fun(_:Unit)=>Z [] []) (G0y) (fun _ H=>?_) (fun _ c h f=>?_)
 ·refine iA [2]<|j5<|hr H
 refine iA [1,3]<|vB<|lX (fun(a:Int)=>Z (U5 a []) [(1,K 70 y70 b)]) 0 H fun _ i g e d a H=>vQ<|iA [1,3,31]<|cD H (fun H=>?_) (fun H=>?_)
 ·refine vK<|fQ<|vQ<|vB<|iB [1,3,40] H fun H=>cD H (fun H=>iA [2]<|j5<|m4<|fR<|d<|m4<|f<|hr H) fun H=>vK<|fK<|fQ<|jB [1,3] H fun H=>g H
 exact vE<|fE<|e<|fX rfl<|c H
def A0g:Int×Int->Option (r8×Int)
 | (b,a) =>
 some (((b,a),(0:Int)))
def TC(b:w8)(e:Int×Int×Int->Option (r8×Int)):Int×Int×Int->Option (r8×Int)
 | (a,d,c) =>
 if(decide (a < (b.2.2.length:Int))) then
  gd (ix a b.2.2.length/\True) <|
  gd (ix a b.2.2.length/\True) <|
  gd (j0 (a+1)/\True) <|
  e ((a+1,min d (b.2.2.getD a.toNat 0),max c (b.2.2.getD a.toNat 0)))
 else
  A0g (d,c)
def KL(a:w8):Option (r8×Int) :=
 gd ((KK a).isSome/\True) <|
 if(!vl (KK a)) then
  some ((((0:Int),(0:Int)),(1:Int)))
 else
  gd (ix 0 a.2.2.length/\ix 0 a.2.2.length/\True) <|
  lp (TC a) ((1,a.2.2.getD (Int.toNat (0:Int)) (0:Int),a.2.2.getD (Int.toNat (0:Int)) (0:Int)))
def P0w:Ct:=k6 240 [.agg y70] (fun x=>KL x.1) (fun r:r8×Int=>AV.tup [AV.agg [I r.1.1,I r.1.2],I r.2]) (fun _=>())
theorem M0r:Ok prog P0w:=by
 refine l5 [.cell 2 51,.tmp 3] func240 ?_;intro y ⟨a,_⟩ r H Q hn hr;have:=hz (tc o45 tn);refine iA [1,2]<|vQ<|iB [1,2,8] H fun H=>cD H (fun H=>iA [2,3]<|j5<|fR<|hr H) fun H=>vK<|fQ<|iB [1,2,4] H fun H=>jN r (fun((f,b):Int×Int)=>Z [p 2 (R 2),p 4 (R 4)] [(4,bx 51 [J f,J b]),(2,bx 51 [I 0,I 0])]) (A0g) (fun⟨f,b⟩ H=>?_) (fun _ g j m=>?_)
 ·refine iA [2,3]<|j5<|hr H
 refine iA [1,2,4,5]<|vB<|lX (fun((e,d,c):Int×Int×Int)=>Z [p 1 (R 1),p 2 (R 2),p 4 (R 4),p 5 (I e)] [(4,bx 51 [J d,J c]),(2,bx 51 [I 0,I 0]),(1,K 70 y70 a)]) ((1,a.2.2.getD (Int.toNat (0:Int)) (0:Int),a.2.2.getD (Int.toNat (0:Int)) (0:Int))) H fun _ k i h l ⟨e,d,c⟩ H=>vQ<|iA [1,2,4,5,23]<|cD H (fun H=>vK<|fQ<|vQ<|vB<|iB [1,2,4,5] H fun H=>jB [1,2,4,5] H fun H=>fK<|fQ<|jB [1,2,4,5] H fun H=>i H) fun H=>vE<|fE<|h<|fX rfl<|g H
def A0k:Unit->Option Bool
 | _ =>
 some true
def TD(d:Bool)(b:List w8)(e:Int->Option Bool):Int->Option Bool
 | a =>
 if(decide (a<2)) then
  gd (ix a b.length/\(KL (b.getD a.toNat (a6 y70))).isSome/\True)<|lt (vl (KL (b.getD a.toNat (a6 y70)))) fun c =>
  if(c.2 != 0||d&&decide (c.1.1<0)) then
   some false
  else
   gd (j0 (a+1)/\True) <|
   e (a+1)
 else
  A0k ()
def Y8(a:List w8)(b:Bool):Option Bool :=
 if((a.length:Int) != 2) then
  some false
 else
  lp (TD b a) 0
def P0G:Ct:=k6 226 [.dat y70.sl,.dat Ty.bool] (fun x=>Y8 x.1 x.2.1) (fun r:Bool=>B r) (fun _=>())
theorem O0v:Ok prog P0G:=by
 refine l5 [.tmp 4] func226 ?_;intro y ⟨c,b,_⟩ r H Q hn hr;have:=hz (tc M0r tn);refine iA [0,1]<|vQ<|iA [0,1,10]<|cD H (fun H=>iA [4]<|j5<|fR<|hr H) fun H=>vK<|fQ<|jN r (fun(_:Unit)=>Z [] []) (A0k) (fun _ H=>?_) (fun _ d i g=>?_)
 ·refine iA [4]<|j5<|hr H
 refine iA [0,1,5]<|vB<|lX (fun(a:Int)=>Z [p 0 (L y70 c),p 1 (C b),p 5 (I a)] []) 0 H fun _ j h f e a H=>vQ<|iA [0,1,5,12]<|cD H (fun H=>?_) (fun H=>?_)
 ·refine vK<|fQ<|vQ<|vB<|iD M0r [0,1,5,6,7] H fun _ H=>iA [0,1,5,32]<|cD H (fun H=>iA [4]<|j5<|m4<|fR<|e<|m4<|g<|hr H) fun H=>vK<|fK<|fQ<|jB [0,1,5] H fun H=>h H
 exact vE<|fE<|f<|fX rfl<|d H
def GC(c:I8)(a:B3)(b:m5):Bool->Option Bool
 | d =>
 if d then
  gd (((c.2.2.2&&decide (a.2.2.1 < (b.2.2.1.length:Int)-1))=true/\True->ix a.2.2.1 b.2.2.1.length)/\((c.2.2.2&&decide (a.2.2.1 < (b.2.2.1.length:Int)-1)&&!(b.2.2.1.getD a.2.2.1.toNat (a6 y233)).2.2.2&&a.2.2.2.1==0)=true/\True->(Y8 a.2.2.2.2.1 false).isSome)/\True) <|
  some (c.2.2.2&&decide (a.2.2.1 < (b.2.2.1.length:Int)-1)&&!(b.2.2.1.getD a.2.2.1.toNat (a6 y233)).2.2.2&&a.2.2.2.1==0&&vl (Y8 a.2.2.2.2.1 false)&&(a.2.2.2.2.2.length:Int)==0)
 else
  some false
def KM(b:I8)(a:B3)(c:m5):Bool->Option Bool
 | d =>
 if d then
  gd (((b.2.2.2&&a.2.2.1==(c.2.2.1.length:Int)-1&&a.2.2.2.1==0)=true/\True->(Y8 a.2.2.2.2.1 true).isSome)/\((b.2.2.2&&a.2.2.1==(c.2.2.1.length:Int)-1&&a.2.2.2.1==0&&vl (Y8 a.2.2.2.2.1 true))=true/\True->(Y8 a.2.2.2.2.2 true).isSome)/\True) <|
  some (b.2.2.2&&a.2.2.1==(c.2.2.1.length:Int)-1&&a.2.2.2.1==0&&vl (Y8 a.2.2.2.2.1 true)&&vl (Y8 a.2.2.2.2.2 true))
 else
  if(a.1==4) then
   GC b a c (a.1==4)
  else
   GC b a c (a.1==5)
def KN(b:m5)(a:B3):Option Bool :=
 gd (j0 ((b.2.2.1.length:Int)-1)/\True) <|
 gd (j0 ((b.2.2.1.length:Int)-1-1)/\(w7 a.2.1 0 ((b.2.2.1.length:Int)-1-1)).isSome/\((!vl (w7 a.2.1 0 ((b.2.2.1.length:Int)-1-1)))=false/\True->(w7 a.2.2.1 0 ((b.2.2.1.length:Int)-1)).isSome)/\True) <|
 if(!vl (w7 a.2.1 0 ((b.2.2.1.length:Int)-1-1))||!vl (w7 a.2.2.1 0 ((b.2.2.1.length:Int)-1))) then
  some false
 else
  gd (ix a.2.1 b.2.2.1.length/\True)<|lt (b.2.2.1.getD a.2.1.toNat (a6 y233)) fun c =>
  if(a.1==1) then
   gd (((!c.2.2.2&&a.2.2.1==(b.2.2.1.length:Int)-1)=true/\True->(w7 a.2.2.2.1 1 3).isSome)/\((!c.2.2.2&&a.2.2.1==(b.2.2.1.length:Int)-1&&vl (w7 a.2.2.2.1 1 3))=true/\True->(Y8 a.2.2.2.2.1 true).isSome)/\((!c.2.2.2&&a.2.2.1==(b.2.2.1.length:Int)-1&&vl (w7 a.2.2.2.1 1 3)&&vl (Y8 a.2.2.2.2.1 true))=true/\True->(Y8 a.2.2.2.2.2 true).isSome)/\True) <|
   some (!c.2.2.2&&a.2.2.1==(b.2.2.1.length:Int)-1&&vl (w7 a.2.2.2.1 1 3)&&vl (Y8 a.2.2.2.2.1 true)&&vl (Y8 a.2.2.2.2.2 true))
  else
   if(a.1==2) then
    KM c a b (a.1==2)
   else
    KM c a b (a.1==3)
def P0U:Ct:=k6 206 [.agg y64,.agg y67] (fun x=>KN x.1 x.2.1) (fun r:Bool=>B r) (fun _=>())
theorem O0z:Ok prog P0U:=by
 refine l5 [.tmp 4] func206 ?_;intro y ⟨a,c,_⟩ r H Q hn hr;have:=hz (tc O0v (tc BG tn));refine iA [2,3]<|iB [2,3,5] H fun H=>vQ<|iB [2,3,5,23] H fun H=>cD H (fun H=>iA [4]<|j5<|fR<|hr H) fun H=>vK<|fQ<|qD (fun b=>Z (G7 [p 5 (I ((a.2.2.1.length:Int)-1)),p 6 (C b.2.2.2)]) [(3,K 67 y67 c),(2,K 64 y64 a)]) H fun b H=>vQ<|iA [2,3,5,6,32]<|vB<|iA [2,3,5,6,32,33]<|cD H (fun H=>iB [4] H fun H=>j5<|m4<|fR<|hr H) fun H=>jN r (fun(f:Bool)=>Z (G7 [p 5 (I ((a.2.2.1.length:Int)-1)),p 6 (C b.2.2.2),p 32 (J c.1),p 58 (B f)]) [(3,K 67 y67 c),(2,K 64 y64 a)]) (KM b c a) (fun f H=>?_) (fun _ e h k=>?_)
 ·refine cD H (fun H=>iB [4] H fun H=>j5<|m4<|fR<|hr H) fun H=>jN r (fun(g:Bool)=>Z (G7 [p 5 (I ((a.2.2.1.length:Int)-1)),p 6 (C b.2.2.2),p 83 (B g)]) [(3,K 67 y67 c),(2,K 64 y64 a)]) (GC b c a) (fun g H=>?_) (fun _ d j i=>?_)
  ·refine cD H (fun H=>iB [4] H fun H=>j5<|m4<|fR<|hr H) fun H=>vK<|fK<|fQ<|iA [4]<|j5<|hr H
  refine iA [2,3,5,6,32,83]<|cD H (fun H=>vK<|d H) fun H=>jA [2,3,5,6,83]<|d H
 refine iA [2,3,5,6,32,58]<|cD H (fun H=>vK<|e H) fun H=>jA [2,3,5,6,32,58]<|e H
def TE:Int->Option (Int×Bool)
 | a =>
 some (a,true)
def OW(a:Int)(b:Int×Int->Option (Int×Bool)):Int->Option (Int×Bool)
 | c =>
 gd (j0 (a+1)/\True) <|
 b (c,a+1)
def OX(b:Int)(d:Int)(a:I8)(c:m5)(e:Int×Int->Option (Int×Bool)):Unit->Option (Int×Bool)
 | _ =>
 gd ((Ah a.1).isSome/\((!vl (Ah a.1))=false/\True->(w7 a.2.2.1 0 500).isSome)/\True) <|
 if(!vl (Ah a.1)||!vl (w7 a.2.2.1 0 500)) then
  some (((0:Int),false))
 else
  gd (j0 ((c.2.2.1.length:Int)-1)/\((b==(c.2.2.1.length:Int)-1&&(a.2.1 != 2||a.2.2.1 != 0||a.2.2.2))=false/\True->j0 ((c.2.2.1.length:Int)-1))/\True) <|
  if(b==(c.2.2.1.length:Int)-1&&(a.2.1 != 2||a.2.2.1 != 0||a.2.2.2)||decide (b < (c.2.2.1.length:Int)-1)&&a.2.1 != 1) then
   some (((0:Int),false))
  else
   if a.2.2.2 then
    gd (j0 (d+1)/\True) <|
    OW b e (d+1)
   else
    OW b e d
def A0r(b:m5)(d:I8)(c:Int)(e:Int)(g:Int×Int->Option (Int×Bool))(f:Int->Option (Int×Bool)):Int->Option (Int×Bool)
 | a =>
 if(decide (a<c)) then
  gd (ix a b.2.2.1.length/\True) <|
  if(decide ((b.2.2.1.getD a.toNat (a6 y233)).1=d.1)) then
   some (((0:Int),false))
  else
   gd (j0 (a+1)/\True) <|
   f (a+1)
 else
  OX c e d b g ()
def A0s(b:m5)(d:Int×Int->Option (Int×Bool)):Int×Int->Option (Int×Bool)
 | (c,a) =>
 if(decide (a < (b.2.2.1.length:Int))) then
  gd (ix a b.2.2.1.length/\True)<|lt (b.2.2.1.getD a.toNat (a6 y233)) fun e =>
  lp (A0r b e a c d) 0
 else
  TE c
def KO(a:m5):Option (Int×Bool) :=
 if(decide ((a.2.2.1.length:Int)<2)||decide (5 < (a.2.2.1.length:Int))) then
  some (((0:Int),false))
 else
  lp (A0s a) (0,0)
def P0V:Ct:=k6 205 [.agg y64] (fun x=>KO x.1) (fun r:Int×Bool=>AV.tup [I r.1,B r.2]) (fun _=>())
theorem M0w:Ok prog P0V:=by
 refine l5 [.tmp 2,.tmp 3] func205 ?_;intro y ⟨a,_⟩ r H Q hn hr;have:=hz (tc BG (tc OS tn));refine iA [1]<|iA [1,4]<|vQ<|iA [1,4,17]<|cD H (fun H=>iA [2,3]<|j5<|fR<|hr H) fun H=>vK<|fQ<|iA [1,4,5]<|jN r (fun(l:Int)=>Z [p 5 (I l)] []) (TE) (fun l H=>?_) (fun _ s v f=>?_)
 ·refine iA [2,3]<|j5<|hr H
 refine iA [1,4,5,6]<|vB<|lX (fun((c,b):Int×Int)=>Z [p 1 (R 1),p 4 (I (a.2.2.1.length:Int)),p 5 (I c),p 6 (I b)] [(1,K 64 y64 a)]) (0,0) H fun _ k t o g ⟨c,b⟩ H=>vQ<|iA [1,4,5,6,20]<|cD H (fun H=>?_) (fun H=>?_)
 ·refine vK<|fQ<|jN r (fun(h:Int)=>Z [p 1 (R 1),p 4 (I (a.2.2.1.length:Int)),p 5 (I h),p 6 (I b)] [(1,K 64 y64 a)]) (OW b k) (fun h H=>?_) (fun _ i x e=>?_)
  ·refine jB [1,4,5,6] H fun H=>t H
  refine vB<|qD (fun d=>Z [p 1 (R 1),p 4 (I (a.2.2.1.length:Int)),p 5 (I c),p 6 (I b),p 7 (R 7)] [(7,K 233 y233 d),(1,K 64 y64 a)]) H fun d H=>jN r (fun(_:Unit)=>Z [p 1 (R 1),p 4 (I (a.2.2.1.length:Int)),p 5 (I c),p 6 (I b),p 7 (R 7)] [(7,K 233 y233 d),(1,K 64 y64 a)]) (OX b c d a k) (fun _ H=>?_) (fun _ n3 z q=>?_)
  ·refine vQ<|iB [1,4,5,6,7,51] H fun H=>cD H (fun H=>iA [2,3]<|j5<|fR<|m4<|e<|g<|m4<|f<|hr H) fun H=>vK<|fQ<|vQ<|iB [1,4,5,6,7,80] H fun H=>cD H (fun H=>iA [2,3]<|j5<|fR<|m4<|e<|g<|m4<|f<|hr H) fun H=>vK<|fQ<|iA [1,4,5,6,82]<|cD H (fun H=>jB [1,4,5,6] H fun H=>fK<|i H) fun H=>vK<|fK<|i H
  refine iA [1,4,5,6,7,8]<|vB<|lX (fun(j:Int)=>Z [p 1 (R 1),p 4 (I (a.2.2.1.length:Int)),p 5 (I c),p 6 (I b),p 7 (R 7),p 8 (I j)] [(7,K 233 y233 d),(1,K 64 y64 a)]) 0 H fun _ w u m n j H=>vQ<|iA [1,4,5,6,7,8,30]<|cD H (fun H=>?_) (fun H=>?_)
  ·refine vK<|fQ<|vQ<|vB<|iB [1,4,5,6,7,8,41] H fun H=>cD H (fun H=>iA [2,3]<|j5<|m4<|fR<|n<|m4<|q<|m4<|e<|g<|m4<|f<|hr H) fun H=>vK<|fK<|fQ<|jB [1,4,5,6,7,8] H fun H=>u H
  exact vE<|fE<|m<|fX rfl<|n3 H
 exact vE<|fE<|o<|fX rfl<|s H
def A0E:Unit->Option Bool
 | _ =>
 some false
def KP(b:Int×Bool)(a:m5):Unit->Option Bool
 | _ =>
 gd (((b.1==(0:Int))=true/\True->j0 ((a.2.2.1.length:Int)-(1:Int)))/\((b.1==(0:Int))=true/\True->(0:Int)<=(a.2.2.1.length:Int)-(1:Int)/\(a.2.2.1.length:Int)-(1:Int)<=(18446744073709551615:Int))/\((b.1==(0:Int))=true/\True->((0:Int)<=(a.2.2.1.length:Int)-(1:Int)/\(a.2.2.1.length:Int)-(1:Int)<=(62:Int))/\j0 ((1:Int)*(2:Int) ^ ((a.2.2.1.length:Int)-(1:Int)).toNat))/\True) <|
 some (b.1==(0:Int)&&(a.2.2.2.2.1.length:Int)==(1:Int)*(2:j6 i64) ^ ((a.2.2.1.length:Int)-(1:Int)).toNat)
def A0B(b:m5)(c:Int×Bool)(d:Int->Option Bool):Int->Option Bool
 | a =>
 if(decide (a < (b.2.2.2.2.1.length:Int))) then
  gd (ix a b.2.2.2.2.1.length/\(w7 (b.2.2.2.2.1.getD a.toNat 0) 0 1).isSome/\True) <|
  if(!vl (w7 (b.2.2.2.2.1.getD a.toNat 0) 0 1)) then
   some false
  else
   gd (j0 (a+1)/\True) <|
   d (a+1)
 else
  KP c b ()
def OY(c:m5)(b:Int×Bool):Unit->Option Bool
 | _ =>
 gd ((KJ c).isSome/\True)<|lt (vl (KJ c)) fun a =>
 if(c.2.1==1) then
  lp (A0B c b) 0
 else
  if(c.2.1==2) then
   gd (((b.1==(1:Int))=true/\True->ix (1:Int) a.length)/\((b.1==(1:Int))=true/\True->Int.toNat (1:Int)<a.length)/\((b.1==(1:Int)&&a.getD (Int.toNat (1:Int)) (0:Int)==(0:Int))=true/\True->ix (2:Int) a.length)/\((b.1==(1:Int)&&a.getD (Int.toNat (1:Int)) (0:Int)==(0:Int))=true/\True->Int.toNat (2:Int)<a.length)/\((b.1==(1:Int)&&a.getD (Int.toNat (1:Int)) (0:Int)==(0:Int))=true/\True->ix (3:Int) a.length)/\((b.1==(1:Int)&&a.getD (Int.toNat (1:Int)) (0:Int)==(0:Int))=true/\True->Int.toNat (3:Int)<a.length)/\True) <|
   some (b.1==(1:Int)&&a.getD (Int.toNat (1:Int)) (0:Int)==(0:Int)&&!decide ((0:Int)<a.getD (Int.toNat (2:Int)) (0:Int))==decide ((0:Int)<a.getD (Int.toNat (3:Int)) (0:Int))&&(c.2.2.2.2.1.length:Int)==(0:Int))
  else
   if(c.2.1==3) then
    gd (((b.1==(1:Int))=true/\True->ix (1:Int) a.length)/\((b.1==(1:Int))=true/\True->Int.toNat (1:Int)<a.length)/\((b.1==(1:Int)&&decide ((0:Int)<a.getD (Int.toNat (1:Int)) (0:Int)))=true/\True->ix (2:Int) a.length)/\((b.1==(1:Int)&&decide ((0:Int)<a.getD (Int.toNat (1:Int)) (0:Int)))=true/\True->Int.toNat (2:Int)<a.length)/\((b.1==(1:Int)&&decide ((0:Int)<a.getD (Int.toNat (1:Int)) (0:Int))&&decide ((0:Int)<a.getD (Int.toNat (2:Int)) (0:Int)))=true/\True->ix (3:Int) a.length)/\((b.1==(1:Int)&&decide ((0:Int)<a.getD (Int.toNat (1:Int)) (0:Int))&&decide ((0:Int)<a.getD (Int.toNat (2:Int)) (0:Int)))=true/\True->Int.toNat (3:Int)<a.length)/\True) <|
    some (b.1==(1:Int)&&decide ((0:Int)<a.getD (Int.toNat (1:Int)) (0:Int))&&decide ((0:Int)<a.getD (Int.toNat (2:Int)) (0:Int))&&a.getD (Int.toNat (3:Int)) (0:Int)==(0:Int)&&(c.2.2.2.2.1.length:Int)==(0:Int))
   else
    A0E ()
def A0F(a:Int)(b:Int->Option Bool):Unit->Option Bool
 | _ =>
 gd (j0 (a+1)/\True) <|
 b (a+1)
def A0C(b:m5)(c:B3)(d:Int)(e:Int->Option Bool)(f:Int->Option Bool):Int->Option Bool
 | a =>
 if(decide (a<d)) then
  gd (ix a b.2.2.2.1.length/\(((b.2.2.2.1.getD a.toNat (a6 y67)).1==c.1)=true/\True->ix a b.2.2.2.1.length)/\(((b.2.2.2.1.getD a.toNat (a6 y67)).1==c.1&&(b.2.2.2.1.getD a.toNat (a6 y67)).2.1==c.2.1)=true/\True->ix a b.2.2.2.1.length)/\True) <|
  if((b.2.2.2.1.getD a.toNat (a6 y67)).1==c.1&&(b.2.2.2.1.getD a.toNat (a6 y67)).2.1==c.2.1&&(b.2.2.2.1.getD a.toNat (a6 y67)).2.2.1==c.2.2.1) then
   some false
  else
   gd (j0 (a+1)/\True) <|
   f (a+1)
 else
  A0F d e ()
def A0D(a:m5)(d:Int×Bool)(e:Int->Option Bool):Int->Option Bool
 | b =>
 if(decide (b < (a.2.2.2.1.length:Int))) then
  gd (ix b a.2.2.2.1.length/\True)<|lt (a.2.2.2.1.getD b.toNat (a6 y67)) fun c =>
  gd ((KN a c).isSome/\True) <|
  if(!vl (KN a c)) then
   some false
  else
   lp (A0C a c b e) 0
 else
  OY a d ()
def KQ(a:m5):Option Bool :=
 gd ((KO a).isSome/\True)<|lt (vl (KO a)) fun b =>
 gd (((!b.2)=false/\True->(Ah a.1).isSome)/\((!b.2||!vl (Ah a.1)||decide (8 < (a.2.2.2.1.length:Int)))=false/\True->(w7 a.2.2.2.2.2.1 0 100000).isSome)/\((!b.2||!vl (Ah a.1)||decide (8 < (a.2.2.2.1.length:Int))||!vl (w7 a.2.2.2.2.2.1 0 100000))=false/\True->(w7 a.2.2.2.2.2.2 0 100000).isSome)/\True) <|
 if(!b.2||!vl (Ah a.1)||decide (8 < (a.2.2.2.1.length:Int))||!vl (w7 a.2.2.2.2.2.1 0 100000)||!vl (w7 a.2.2.2.2.2.2 0 100000)) then
  some false
 else
  lp (A0D a b) 0
def Q0l:Ct:=k6 180 [.agg y64] (fun x=>KQ x.1) (fun r:Bool=>B r) (fun _=>())
theorem O0G:Ok prog Q0l:=by
 refine l5 [.tmp 2] func180 ?_;intro y ⟨b,_⟩ r H Q hn hr;have:=hz (tc BG (tc M0v (tc O0z (tc OS (tc M0w tn)))));refine iA [1]<|iD M0w [1,3,4] H fun a H=>vQ<|iB [1,3,40] H fun H=>cD H (fun H=>iA [2]<|j5<|fR<|hr H) fun H=>vK<|fQ<|jN r (fun(_:Unit)=>Z (U5 a.1 []) [(1,K 64 y64 b)]) (OY b a) (fun _ H=>?_) (fun _ t P h=>?_)
 ·refine iD M0v [1,3,8] H fun _ H=>jN r (fun(_:Unit)=>Z [] []) (A0E) (fun _ H=>?_) (fun _ k F d=>?_)
  ·refine iA [2]<|j5<|hr H
  refine iA [1,3,8,96]<|vB<|iA [1,3,8,96,97]<|cD H (fun H=>?_) (fun H=>?_)
  ·refine jN r (fun(_:Unit)=>Z (U5 a.1 []) [(1,K 64 y64 b)]) (KP a b) (fun _ H=>?_) (fun _ m W u=>?_)
   ·refine iB [2] H fun H=>j5<|m4<|d<|hr H
   refine iA [1,3,9]<|vB<|lX (fun(f:Int)=>Z (U5 a.1 [p 9 (I f)]) [(1,K 64 y64 b)]) 0 H fun _ V w v q f H=>vQ<|iA [1,3,9,103]<|cD H (fun H=>?_) (fun H=>?_)
   ·refine vK<|fQ<|vQ<|vB<|iB [1,3,9,112] H fun H=>cD H (fun H=>iA [2]<|j5<|m4<|fR<|q<|m4<|u<|m4<|d<|hr H) fun H=>vK<|fK<|fQ<|jB [1,3,9] H fun H=>w H
   exact vE<|fE<|v<|fX rfl<|m H
  refine iA [1,3,8,96,127]<|cD H (fun H=>iB [2] H fun H=>j5<|m4<|d<|hr H) fun H=>iA [1,3,8,154]<|cD H (fun H=>iB [2] H fun H=>j5<|m4<|d<|hr H) fun H=>vK<|fK<|k H
 refine iA [1,3,5]<|vB<|lX (fun(c:Int)=>Z (U5 a.1 [p 5 (I c)]) [(1,K 64 y64 b)]) 0 H fun _ z E n i c H=>vQ<|iA [1,3,5,45]<|cD H (fun H=>?_) (fun H=>?_)
 ·refine vK<|fQ<|jN r (fun(_:Unit)=>Z (U5 a.1 [p 5 (I c)]) [(1,K 64 y64 b)]) (A0F c z) (fun _ H=>?_) (fun _ l T g=>?_)
  ·refine jB [1,3,5] H fun H=>E H
  refine vB<|qD (fun e=>Z (U5 a.1 [p 5 (I c),p 6 (R 6)]) [(6,K 67 y67 e),(1,K 64 y64 b)]) H fun e H=>vQ<|iB [1,3,5,6,56] H fun H=>cD H (fun H=>iA [2]<|j5<|fR<|m4<|g<|i<|m4<|h<|hr H) fun H=>vK<|fQ<|iA [1,3,5,6,7]<|vB<|lX (fun(j:Int)=>Z (U5 a.1 [p 5 (I c),p 6 (R 6),p 7 (I j)]) [(6,K 67 y67 e),(1,K 64 y64 b)]) 0 H fun _ G o x s j H=>vQ<|iA [1,3,5,6,7,59]<|cD H (fun H=>?_) (fun H=>?_)
  ·refine vK<|fQ<|vQ<|vB<|iB [1,3,5,6,7,92] H fun H=>cD H (fun H=>iA [2]<|j5<|m4<|fR<|s<|m4<|m4<|g<|i<|m4<|h<|hr H) fun H=>vK<|fK<|fQ<|jB [1,3,5,6,7] H fun H=>o H
  exact vE<|fE<|x<|fX rfl<|fK<|l H
 exact vE<|fE<|n<|fX rfl<|t H
def OZ(a:List m5):Unit->Option Bool
 | _ =>
 some (decide ((a.length:Int)<=8))
def A0Z(a:Int)(b:Int->Option Bool):Unit->Option Bool
 | _ =>
 gd (j0 (a+1)/\True) <|
 b (a+1)
def A0X(b:List m5)(c:Int)(d:Int->Option Bool)(e:Int->Option Bool):Int->Option Bool
 | a =>
 if(decide (a<c)) then
  gd (ix a b.length/\ix c b.length/\True) <|
  if(decide ((b.getD a.toNat (a6 y64)).1=(b.getD c.toNat (a6 y64)).1)) then
   some false
  else
   gd (j0 (a+1)/\True) <|
   e (a+1)
 else
  A0Z c d ()
def A0Y(a:List m5)(c:Int->Option Bool):Int->Option Bool
 | b =>
 if(decide (b < (a.length:Int))) then
  gd (ix b a.length/\(KQ (a.getD b.toNat (a6 y64))).isSome/\True) <|
  if(!vl (KQ (a.getD b.toNat (a6 y64)))) then
   some false
  else
   lp (A0X a b c) 0
 else
  OZ a ()
def KS(a:List m5):Option Bool :=
 lp (A0Y a) 0
def Q0N:Ct:=k6 146 [.agg y64.sl] (fun x=>KS x.1) (fun r:Bool=>B r) (fun _=>())
theorem O0U:Ok prog Q0N:=by
 refine l5 [.tmp 2] func146 ?_;intro y ⟨a,_⟩ r H Q hn hr;have:=hz (tc O0G tn);refine iA [1]<|jN r (fun(_:Unit)=>Z [p 1 (R 1)] [(1,bx 26 [L y64 a])]) (OZ a) (fun _ H=>?_) (fun _ i o e=>?_)
 ·refine iA [2]<|j5<|hr H
 refine iA [1,3]<|vB<|lX (fun(b:Int)=>Z (U5 b []) [(1,bx 26 [L y64 a])]) 0 H fun _ j n k d b H=>vQ<|iA [1,3,9]<|cD H (fun H=>?_) (fun H=>?_)
 ·refine vK<|fQ<|jN r (fun(_:Unit)=>Z (U5 b []) [(1,bx 26 [L y64 a])]) (A0Z b j) (fun _ H=>?_) (fun _ l q c=>?_)
  ·refine jB [1,3] H fun H=>n H
  refine vB<|vQ<|iB [1,3,18] H fun H=>cD H (fun H=>iA [2]<|j5<|fR<|m4<|c<|d<|m4<|e<|hr H) fun H=>vK<|fQ<|iA [1,3,4]<|vB<|lX (fun(f:Int)=>Z (U5 b [p 4 (I f)]) [(1,bx 26 [L y64 a])]) 0 H fun _ s g m h f H=>vQ<|iA [1,3,4,21]<|cD H (fun H=>?_) (fun H=>?_)
  ·refine vK<|fQ<|vQ<|vB<|iB [1,3,4,36] H fun H=>cD H (fun H=>iA [2]<|j5<|m4<|fR<|h<|m4<|m4<|c<|d<|m4<|e<|hr H) fun H=>vK<|fK<|fQ<|jB [1,3,4] H fun H=>g H
  exact vE<|fE<|m<|fX rfl<|fK<|l H
 exact vE<|fE<|k<|fX rfl<|i H
def F0L:Unit->Option Bool
 | _ =>
 some true
def A0c(b:List Int)(c:Int->Option Bool):Int->Option Bool
 | a =>
 if(decide (a < (b.length:Int))) then
  gd (ix a b.length/\a.toNat<b.length/\True) <|
  if(b.getD a.toNat 0 != 1) then
   some false
  else
   gd (j0 (a+1)/\True) <|
   c (a+1)
 else
  F0L ()
def KT:List Int->Option Bool
 | a =>
 lp (A0c a) 0
def Pb(a:Int)(c:Int×List Int->Option Bool):List Int->Option Bool
 | b =>
 gd (j0 (a+1)/\True) <|
 c (a+1,b)
def F0I(c:r9)(e:Int×List Int->Option Bool):Int×List Int->Option Bool
 | (a,b) =>
 if(decide (a < (c.2.2.length:Int))) then
  gd (ix a c.2.2.length/\True) <|
  if((c.2.2.getD a.toNat (a6 y202)).2.1==1) then
   gd (ix a c.2.2.length/\ix (c.2.2.getD a.toNat (a6 y202)).2.2 b.length/\(c.2.2.getD a.toNat (a6 y202)).2.2.toNat<b.length/\j0 (b.getD (c.2.2.getD a.toNat (a6 y202)).2.2.toNat 0+1)/\ix (c.2.2.getD a.toNat (a6 y202)).2.2 b.length/\(c.2.2.getD a.toNat (a6 y202)).2.2.toNat<b.length/\True)<|lt (b.set (c.2.2.getD a.toNat (a6 y202)).2.2.toNat (b.getD (c.2.2.getD a.toNat (a6 y202)).2.2.toNat 0+1)) fun d =>
   Pb a e d
  else
   Pb a e b
 else
  KT b
def KU(b:r9):List Int->Option Bool
 | a =>
 lp (F0I b) (0,a)
def TF(d:r9)(f:Int×List Int->Option Bool):Int×List Int->Option Bool
 | (c,b) =>
 if(decide (c < (d.1.length:Int))) then
  gd (ix c d.1.length/\True)<|lt (d.1.getD c.toNat (a6 y139)) fun a =>
  gd (j0 ((a.2.2.length:Int)-1)/\ix ((a.2.2.length:Int)-1) a.2.2.length/\ix (a.2.2.getD ((a.2.2.length:Int)-1).toNat 0) b.length/\Int.toNat (a.2.2.getD ((a.2.2.length:Int)-1).toNat 0)<b.length/\j0 (b.getD (Int.toNat (a.2.2.getD ((a.2.2.length:Int)-1).toNat 0)) 0+1)/\ix (a.2.2.getD ((a.2.2.length:Int)-1).toNat 0) b.length/\Int.toNat (a.2.2.getD ((a.2.2.length:Int)-1).toNat 0)<b.length/\True)<|lt (b.set (Int.toNat (a.2.2.getD ((a.2.2.length:Int)-1).toNat 0)) (b.getD (Int.toNat (a.2.2.getD ((a.2.2.length:Int)-1).toNat 0)) 0+1)) fun e =>
  gd (j0 (c+1)/\True) <|
  f (c+1,e)
 else
  KU d b
def KV(a:r9)(b:List ByteArray):List ByteArray->Option Bool
 | c =>
 gd ((BJ b).isSome/\((!vl (BJ b))=false/\True->(BJ c).isSome)/\((!vl (BJ b)||!vl (BJ c))=false/\True->(BJ a.2.1).isSome)/\True) <|
 if(!vl (BJ b)||!vl (BJ c)||!vl (BJ a.2.1)) then
  some false
 else
  gd ((0<=(a.2.1.length:Int)/\(a.2.1.length:Int)=(a.2.1.length:Int)/\(a.2.1.length:Int).toNat*8<=281474976710656/\(a.2.1.length:Int)<=9223372036854775807)/\True) <|
  lp (TF a) ((0,List.replicate (a.2.1.length:Int).toNat 0))
def F0J(b:r9)(d:List ByteArray)(e:Int×List ByteArray->Option Bool):Int×List ByteArray->Option Bool
 | (a,c) =>
 if(decide (a < (b.2.2.length:Int))) then
  gd (ix a b.2.2.length/\(c.length+[(b.2.2.getD a.toNat (a6 y202)).1].length<=9223372036854775807/\(c.length+[(b.2.2.getD a.toNat (a6 y202)).1].length)*16<=140737488355328)/\True) <|
  gd (j0 (a+1)/\True) <|
  e ((a+1,c++[(b.2.2.getD a.toNat (a6 y202)).1]))
 else
  KV b d c
def KW(b:r9):List ByteArray->Option Bool
 | a =>
 lp (F0J b a) (0,[])
def F0K(b:r9)(d:Int×List ByteArray->Option Bool):Int×List ByteArray->Option Bool
 | (a,c) =>
 if(decide (a < (b.1.length:Int))) then
  gd (ix a b.1.length/\(c.length+[(b.1.getD a.toNat (a6 y139)).1].length<=9223372036854775807/\(c.length+[(b.1.getD a.toNat (a6 y139)).1].length)*16<=140737488355328)/\True) <|
  gd (j0 (a+1)/\True) <|
  d ((a+1,c++[(b.1.getD a.toNat (a6 y139)).1]))
 else
  KW b c
def KX(b:List m5)(a:r9):Option Bool :=
 gd ((KS b).isSome/\((!vl (KS b)||decide (14 < (a.1.length:Int))||decide (30 < (a.2.1.length:Int))||decide (8 < (a.2.2.length:Int)))=false/\True->(OU b a).isSome)/\True) <|
 if(!vl (KS b)||decide (14 < (a.1.length:Int))||decide (30 < (a.2.1.length:Int))||decide (8 < (a.2.2.length:Int))||!vl (OU b a)) then
  some false
 else
  lp (F0K a) (0,[])
def k92:Ct:=k6 92 [.agg y64.sl,.agg y31] (fun x=>KX x.1 x.2.1) (fun r:Bool=>B r) (fun _=>())
theorem o92:Ok prog k92:=by
 refine l5 [.tmp 4] func92 ?_;intro y ⟨_,a,_⟩ r H Q hn hr;have:=hz (tc O0S (tc O0T (tc O0U tn)));refine iA [2,3]<|vQ<|iB [3,40] H fun H=>cD H (fun H=>iA [4]<|j5<|fR<|hr H) fun H=>vK<|fQ<|iA [3,5]<|jN r (fun(g:List ByteArray)=>Z [p 3 (R 3),p 5 (O 41)] [(41,A 9 Ty.str g 0),(3,K 31 y31 a)]) (KW a) (fun g H=>?_) (fun _ Y e0 t0=>?_)
 ·refine iA [3,5,7]<|jN r (fun(u:List ByteArray)=>Z [p 3 (R 3),p 5 (O 41),p 7 (O 58)] [(58,A 9 Ty.str u 0),(41,A 9 Ty.str g 0),(3,K 31 y31 a)]) (KV a g) (fun u H=>?_) (fun _ E e2 t2=>?_)
  ·refine vQ<|iB [3,88] H fun H=>cD H (fun H=>iA [4]<|j5<|fR<|hr H) fun H=>vK<|fQ<|iB [3,9] H fun H=>jN r (fun(e:List Int)=>Z [p 3 (R 3),p 9 (O 92)] (Gu e a)) (KU a) (fun e H=>?_) (fun _ z e4 t4=>?_)
   ·refine jN r (fun(c:List Int)=>Z [p 9 (O 92)] [(92,A 2 i64 c 0)]) (KT) (fun c H=>?_) (fun _ V e6 t6=>?_)
    ·refine jN r (fun(_:Unit)=>Z [] []) (F0L) (fun _ H=>?_) (fun _ n9 e9 T=>?_)
     ·refine iA [4]<|j5<|hr H
     refine iA [9,13]<|vB<|lX (fun(j:Int)=>Z [p 9 (O 92),p 13 (I j)] [(92,A 2 i64 c 0)]) 0 H fun _ F o q n j H=>vQ<|iA [9,13,145]<|cD H (fun H=>?_) (fun H=>?_)
     ·refine vK<|fQ<|vQ<|vB<|iB [9,13,152] H fun H=>cD H (fun H=>iA [4]<|j5<|m4<|fR<|n<|m4<|T<|hr H) fun H=>vK<|fK<|fQ<|jB [9,13] H fun H=>o H
     exact vE<|fE<|q<|fX rfl<|n9 H
    refine iA [3,9,12]<|vB<|lX (fun((b,k):Int×List Int)=>Z [p 3 (R 3),p 9 (O 92),p 12 (I b)] (Gu k a)) (0,e) H fun _ g7 b7 G t7 ⟨b,k⟩ H=>vQ<|iA [3,9,12,121]<|cD H (fun H=>?_) (fun H=>?_)
    ·refine vK<|fQ<|jN r (fun(h:List Int)=>Z [p 3 (R 3),p 9 (O 92),p 12 (I b)] (Gu h a)) (Pb b g7) (fun h H=>?_) (fun _ s e8 t8=>?_)
     ·refine jB [3,9,12] H fun H=>b7 H
     refine vB<|iB [3,9,12,130] H fun H=>cD H (fun H=>zD (fun i=>Z [p 3 (R 3),p 9 (O 92),p 12 (I b)] (Gu i a)) H fun i H=>fK<|s H) fun H=>vK<|fK<|s H
    exact vE<|fE<|G<|fX rfl<|V H
   refine iA [3,9,10]<|vB<|lX (fun((m,d):Int×List Int)=>Z [p 3 (R 3),p 9 (O 92),p 10 (I m)] (Gu d a)) ((0,List.replicate (a.2.1.length:Int).toNat 0)) H fun _ g5 W e5 t5 ⟨m,d⟩ H=>vQ<|iA [3,9,10,97]<|cD H (fun H=>vK<|fQ<|vQ<|vB<|qD (fun f=>Z [p 3 (R 3),p 9 (O 92),p 10 (I m),p 11 (L i64 f.2.2)] (Gu d a)) H fun f H=>zD (fun l=>Z [p 3 (R 3),p 9 (O 92),p 10 (I m)] (Gu l a)) H fun l H=>fK<|fQ<|jB [3,9,10] H fun H=>W H) fun H=>vE<|fE<|e5<|fX rfl<|z H
  refine iA [3,5,7,8]<|vB<|lX (fun((t,x):Int×List ByteArray)=>Z [p 3 (R 3),p 5 (O 41),p 7 (O 58),p 8 (I t)] [(58,A 9 Ty.str x 0),(41,A 9 Ty.str g 0),(3,K 31 y31 a)]) (0,[]) H fun _ g3 X e3 t3 ⟨t,x⟩ H=>vQ<|iA [3,5,7,8,63]<|cD H (fun H=>vK<|fQ<|vQ<|vB<|jB [3,5,7,8] H fun H=>fK<|fQ<|jB [3,5,7,8] H fun H=>X H) fun H=>vE<|fE<|e3<|fX rfl<|E H
 refine iA [3,5,6]<|vB<|lX (fun((v,w):Int×List ByteArray)=>Z [p 3 (R 3),p 5 (O 41),p 6 (I v)] [(41,A 9 Ty.str w 0),(3,K 31 y31 a)]) (0,[]) H fun _ g1 b1 P t1 ⟨v,w⟩ H=>vQ<|iA [3,5,6,46]<|cD H (fun H=>vK<|fQ<|vQ<|vB<|jB [3,5,6] H fun H=>fK<|fQ<|jB [3,5,6] H fun H=>b1 H) fun H=>vE<|fE<|P<|fX rfl<|Y H
def G0E:Unit->Option Bool
 | _ =>
 some true
def G0D(b:j9)(c:Int->Option Bool):Int->Option Bool
 | a =>
 if(decide (a < (b.2.2.length:Int))) then
  gd (ix a b.2.2.length/\(U7 b.2.1 a).isSome/\(KI (b.2.2.getD a.toNat (a6 l7)) (↑(vl (U7 b.2.1 a)).length:Int)).isSome/\True)<|lt (vl (U7 b.2.1 a)) fun d =>
  if(!vl (KI (b.2.2.getD a.toNat (a6 l7)) (d.length:Int))) then
   some false
  else
   gd (j0 (a+1)/\True) <|
   c (a+1)
 else
  G0E ()
def R5(a:j9):Option Bool :=
 gd ((KX a.1 a.2.1).isSome/\True) <|
 if(!vl (KX a.1 a.2.1)||(a.2.2.length:Int) != (a.2.1.2.1.length:Int)) then
  some false
 else
  lp (G0D a) 0
def k39:Ct:=k6 39 [.agg l9] (fun x=>R5 x.1) (fun r:Bool=>B r) (fun _=>())
theorem Ix:Ok prog k39:=by
 refine l5 [.tmp 2] func39 ?_;intro y ⟨b,_⟩ r H Q hn hr;have:=hz (tc o93 (tc Gw (tc o92 tn)));refine iA [1]<|vQ<|iB [1,19] H fun H=>cD H (fun H=>iA [2]<|j5<|fR<|hr H) fun H=>vK<|fQ<|jN r (fun(_:Unit)=>Z [] []) (G0E) (fun _ H=>?_) (fun _ c h f=>?_)
 ·refine iA [2]<|j5<|hr H
 refine iA [1,3]<|vB<|lX (fun(a:Int)=>Z (U5 a []) [(1,K 34 l9 b)]) 0 H fun _ i g e d a H=>vQ<|iA [1,3,24]<|cD H (fun H=>?_) (fun H=>?_)
 ·refine vK<|fQ<|vQ<|vB<|iD Gw [1,3,38] H fun _ H=>cD H (fun H=>iA [2]<|j5<|m4<|fR<|d<|m4<|f<|hr H) fun H=>vK<|fK<|fQ<|jB [1,3] H fun H=>g H
 exact vE<|fE<|e<|fX rfl<|c H
def Fg(a:j9)(b:List Int):Option Int :=
 gd ((R5 a).isSome/\True) <|
 if(!vl (R5 a)) then
  some 1
 else
  gd ((u32 a).isSome/\(OP b (↑(vl (u32 a)).length:Int)).isSome/\True)<|lt (vl (u32 a)) fun c =>
  if(!vl (OP b (c.length:Int))) then
   some 2
  else
   some 0
def k71:Ct:=k6 71 [.agg l9,.dat i64.sl] (fun x=>Fg x.1 x.2.1) (fun r:Int=>I r) (fun _=>())
theorem Pc:Ok prog k71:=by
 refine l5 [.tmp 4] func71 ?_;intro y ⟨_,_,_⟩ r H Q hn hr;have:=hz (tc P0b (tc Cu (tc Ix tn)));refine iA [1,2]<|vQ<|iB [1,2,7] H fun H=>cD H (fun H=>iA [4]<|j5<|fR<|hr H) fun H=>vK<|fQ<|vQ<|iD Cu [13] H fun _ H=>cD H (fun H=>iA [4]<|j5<|fR<|hr H) fun H=>vK<|fQ<|iA [4]<|j5<|hr H
def KY(a:j9)(b:List Int):Option (List Int×Int) :=
 gd ((Fg a b).isSome/\True)<|lt (vl (Fg a b)) fun d =>
 if(d != 0) then
  some ([],d)
 else
  gd ((u32 a).isSome/\True)<|lt (vl (u32 a)) fun c =>
  gd ((Y6 a).isSome/\(Bg c b).isSome/\(KH (vl (Y6 a)) c (vl (Bg c b))).isSome/\True)<|lt ((vl (KH (vl (Y6 a)) c (vl (Bg c b))),vl (Bg c b))) fun(e,_) =>
  if(!e.2) then
   some (([],(7:Int)))
  else
   some ((e.1,(0:Int)))
def k72:Ct:=k6 72 [.agg l9,.dat i64.sl] (fun x=>KY x.1 x.2.1) (fun r:List Int×Int=>AV.tup [AV.ow 2 true i64 r.1,I r.2]) (fun _=>())
theorem o72:Ok prog k72:=by
 refine l5 [.tmp 4,.tmp 5] func72 ?_;intro y ⟨c,_,_⟩ r H Q hn hr;have:=hz (tc P0a (tc OK (tc Iv (tc Cu (tc Pc tn)))));refine iA [1,2]<|vQ<|iD Pc [1,2,6] H fun _ H=>iA [1,2,6,14]<|cD H (fun H=>iA [4,5]<|j5<|fR<|hr H) fun H=>vK<|fQ<|iD Cu [1,2,7] H fun d H=>qD (fun(a,b)=>Z [p 8 (O 26),p 9 (B a.2)] [(26,A 2 i64 a.1 0),(25,A 4 Ty.bool b 0),(18,A 80 y80 d 0),(2,K 34 l9 c)]) H fun⟨a,b⟩ H =>
  vQ <|
  iA [8,30] <|
  cD H (fun H=>iA [4,5]<|j5<|fR<|hr H) fun H=>vK<|fQ<|iA [4,5]<|j5<|hr H
def KZ(a:r8):Option Bool :=
 some (decide (0<=a.1)&&decide (a.1<=a.2)&&decide (a.2<=1000000))
def R0u:Ct:=k6 102 [.agg y51] (fun x=>KZ x.1) (fun r:Bool=>B r) (fun _=>())
theorem P0j:Ok prog R0u:=by
 refine l5 [.tmp 2] func102 ?_;intro y ⟨_,_⟩ r H Q hn hr;refine iA [1]<|iA [2]<|j5<|hr H
def G0A:Unit->Option Bool
 | _ =>
 some true
def G0z(b:List m6)(c:Int)(d:Int->Option Bool):Int->Option Bool
 | a =>
 if(decide (a < (b.length:Int))) then
  gd (ix a b.length/\j0 (c-1)/\(w7 (b.getD a.toNat (a6 y53)).1 0 (c-1)).isSome/\(decide (0<a)=true/\(!vl (w7 (b.getD a.toNat (a6 y53)).1 0 (c-1)))=false/\True->j0 (a-1))/\(decide (0<a)=true/\(!vl (w7 (b.getD a.toNat (a6 y53)).1 0 (c-1)))=false/\True->ix (a-1) b.length)/\(decide (0<a)=true/\(!vl (w7 (b.getD a.toNat (a6 y53)).1 0 (c-1)))=false/\True->ix a b.length)/\((!vl (w7 (b.getD a.toNat (a6 y53)).1 0 (c-1))||decide (0<a)&&decide ((b.getD a.toNat (a6 y53)).1<=(b.getD (a-1).toNat (a6 y53)).1))=false/\True->ix a b.length)/\((!vl (w7 (b.getD a.toNat (a6 y53)).1 0 (c-1))||decide (0<a)&&decide ((b.getD a.toNat (a6 y53)).1<=(b.getD (a-1).toNat (a6 y53)).1))=false/\True->(Di (b.getD a.toNat (a6 y53)).2.1).isSome)/\((!vl (w7 (b.getD a.toNat (a6 y53)).1 0 (c-1))||decide (0<a)&&decide ((b.getD a.toNat (a6 y53)).1<=(b.getD (a-1).toNat (a6 y53)).1)||!vl (Di (b.getD a.toNat (a6 y53)).2.1))=false/\True->ix a b.length)/\((!vl (w7 (b.getD a.toNat (a6 y53)).1 0 (c-1))||decide (0<a)&&decide ((b.getD a.toNat (a6 y53)).1<=(b.getD (a-1).toNat (a6 y53)).1)||!vl (Di (b.getD a.toNat (a6 y53)).2.1))=false/\True->(KZ (b.getD a.toNat (a6 y53)).2.2).isSome)/\True) <|
  if(!vl (w7 (b.getD a.toNat (a6 y53)).1 0 (c-1))||decide (0<a)&&decide ((b.getD a.toNat (a6 y53)).1<=(b.getD (a-1).toNat (a6 y53)).1)||!vl (Di (b.getD a.toNat (a6 y53)).2.1)||!vl (KZ (b.getD a.toNat (a6 y53)).2.2)) then
   some false
  else
   gd (j0 (a+1)/\True) <|
   d (a+1)
 else
  G0A ()
def GD(a:j9)(c:List m6):Option Bool :=
 gd ((Y6 a).isSome/\True)<|lt (vl (Y6 a)) fun b =>
 lp (G0z c b) 0
def k44:Ct:=k6 44 [.agg l9,.dat y53.sl] (fun x=>GD x.1 x.2.1) (fun r:Bool=>B r) (fun _=>())
theorem o44:Ok prog k44:=by
 refine l5 [.tmp 4] func44 ?_;intro y ⟨_,c,_⟩ r H Q hn hr;have:=hz (tc P0j (tc Zg (tc BG (tc Iv tn))));refine iA [1,2]<|iD Iv [1,5] H fun b H=>jN r (fun(_:Unit)=>Z [] []) (G0A) (fun _ H=>?_) (fun _ d i g=>?_)
 ·refine iA [4]<|j5<|hr H
 refine iA [1,5,6]<|vB<|lX (fun(a:Int)=>Z [p 1 (L y53 c),p 5 (I b),p 6 (I a)] []) 0 H fun _ j h f e a H=>vQ<|iA [1,5,6,12]<|cD H (fun H=>?_) (fun H=>?_)
 ·refine vK<|fQ<|vQ<|vB<|iB [1,5,6,59] H fun H=>cD H (fun H=>iA [4]<|j5<|m4<|fR<|e<|m4<|g<|hr H) fun H=>vK<|fK<|fQ<|jB [1,5,6] H fun H=>h H
 exact vE<|fE<|f<|fX rfl<|d H
def La(a:p8):Unit->Option Bool
 | _ =>
 gd ((Ah a.1).isSome/\True) <|
 some (vl (Ah a.1)&&decide (a.2.1<=a.2.2.1)&&decide (a.2.2.2.1<=a.2.2.2.2))
def Pd(b:List Int)(d:p8)(c:Int->Option Bool):Int->Option Bool
 | a =>
 if(decide (a < (b.length:Int))) then
  gd (ix a b.length/\a.toNat<b.length/\(w7 (b.getD a.toNat 0) 100 5000).isSome/\True) <|
  if(!vl (w7 (b.getD a.toNat 0) 100 5000)) then
   some false
  else
   gd (j0 (a+1)/\True) <|
   c (a+1)
 else
  La d ()
def Lb(a:p8):Option Bool :=
 lt ([a.2.1,a.2.2.1,a.2.2.2.1,a.2.2.2.2]) fun b =>
 lp (Pd b a) 0
def k70:Ct:=k6 70 [.agg r7] (fun x=>Lb x.1) (fun r:Bool=>B r) (fun _=>())
theorem o70:Ok prog k70:=by
 refine l5 [.tmp 2] func70 ?_;intro y ⟨a,_⟩ r H Q hn hr;have:=hz (tc OS (tc BG tn));refine iA [1]<|qC (fun b=>Z [p 1 (R 1),p 3 (O 13)] [(13,A 2 i64 b 0),(1,K 36 r7 a)]) H fun b H=>jN r (fun(_:Unit)=>Z [p 1 (R 1)] [(1,K 36 r7 a)]) (La a) (fun _ H=>?_) (fun _ d i g=>?_)
 ·refine iB [2] H fun H=>j5<|hr H
 refine iA [1,3,4]<|vB<|lX (fun(c:Int)=>Z [p 1 (R 1),p 3 (O 13),p 4 (I c)] [(13,A 2 i64 b 0),(1,K 36 r7 a)]) 0 H fun _ j h f e c H=>vQ<|iA [1,3,4,17]<|cD H (fun H=>?_) (fun H=>?_)
 ·refine vK<|fQ<|vQ<|vB<|iB [1,3,4,25] H fun H=>cD H (fun H=>iA [2]<|j5<|m4<|fR<|e<|m4<|g<|hr H) fun H=>vK<|fK<|fQ<|jB [1,3,4] H fun H=>h H
 exact vE<|fE<|f<|fX rfl<|d H
def Lc(a:j9)(c:p8)(b:List Int)(d:List m6):Option (List Int×Int) :=
 gd ((R5 a).isSome/\((!vl (R5 a))=false/\True->(Lb c).isSome)/\True) <|
 if(!vl (R5 a)||!vl (Lb c)) then
  some (([],(1:Int)))
 else
  gd ((Fg a b).isSome/\((vl (Fg a b) != 0)=false/\True->(GD a d).isSome)/\True)<|lt (vl (Fg a b)) fun e =>
  if(e != 0||!vl (GD a d)) then
   some (([],(2:Int)))
  else
   gd ((KY a b).isSome/\True)<|lt (vl (KY a b)) fun f =>
   some f
def k31:Ct:=k6 31 [.agg l9,.agg r7,.dat i64.sl,.dat y53.sl] (fun x=>Lc x.1 x.2.1 x.2.2.1 x.2.2.2.1) (fun r:List Int×Int=>AV.tup [AV.ow 2 true i64 r.1,I r.2]) (fun _=>())
theorem o31:Ok prog k31:=by
 refine l5 [.tmp 8,.tmp 9] func31 ?_;intro y ⟨_,_,_,_,_⟩ r H Q hn hr;have:=hz (tc o72 (tc o44 (tc Pc (tc o70 (tc Ix tn)))));refine iA [2,3,4,5]<|vQ<|iB [2,3,4,17] H fun H=>cD H (fun H=>iA [8,9]<|j5<|fR<|hr H) fun H=>vK<|fQ<|vQ<|iD Pc [2,4,28] H fun _ H=>cD H (fun H=>iA [8,9]<|j5<|fR<|hr H) fun H=>vK<|fQ<|iD o72 [8,9] H fun _ H=>j5<|hr H
def G0M:Unit->Option Bool
 | _ =>
 some true
def G0L(b:List r8)(c:List r8)(d:Int->Option Bool):Int->Option Bool
 | a =>
 if(decide (a < (b.length:Int))) then
  gd (ix a b.length/\ix a c.length/\True) <|
  if(!((b.getD a.toNat (a6 y51)).1==(c.getD a.toNat (a6 y51)).1&&((b.getD a.toNat (a6 y51)).2==(c.getD a.toNat (a6 y51)).2&&true))) then
   some false
  else
   gd (j0 (a+1)/\True) <|
   d (a+1)
 else
  G0M ()
def Fh(b:List r8)(a:List r8):Option Bool :=
 if((b.length:Int) != (a.length:Int)) then
  some false
 else
  lp (G0L b a) 0
def k35:Ct:=k6 35 [.dat y51.sl,.dat y51.sl] (fun x=>Fh x.1 x.2.1) (fun r:Bool=>B r) (fun _=>())
theorem o35:Ok prog k35:=by
 refine l5 [.tmp 4] func35 ?_;intro y ⟨c,b,_⟩ r H Q hn hr;refine iA [0,1]<|vQ<|iA [0,1,10]<|cD H (fun H=>iA [4]<|j5<|fR<|hr H) fun H=>vK<|fQ<|jN r (fun(_:Unit)=>Z [] []) (G0M) (fun _ H=>?_) (fun _ d i g=>?_)
 ·refine iA [4]<|j5<|hr H
 refine iA [0,1,5]<|vB<|lX (fun(a:Int)=>Z [p 0 (L y51 c),p 1 (L y51 b),p 5 (I a)] []) 0 H fun _ j h f e a H=>vQ<|iA [0,1,5,14]<|cD H (fun H=>?_) (fun H=>?_)
 ·refine vK<|fQ<|vQ<|vB<|iB [0,1,5,25] H fun H=>cD H (fun H=>iA [4]<|j5<|m4<|fR<|e<|m4<|g<|hr H) fun H=>vK<|fK<|fQ<|jB [0,1,5] H fun H=>h H
 exact vE<|fE<|f<|fX rfl<|d H
def TH(b:C3)(a:C3):Unit->Option Bool
 | _ =>
 gd ((Fh b.2.1 a.2.1).isSome/\(vl (Fh b.2.1 a.2.1)=true/\True->(Fh b.2.2 a.2.2).isSome)/\True) <|
 some (vl (Fh b.2.1 a.2.1)&&vl (Fh b.2.2 a.2.2))
def H0D(b:C3)(c:C3)(d:Int->Option Bool):Int->Option Bool
 | a =>
 if(decide (a < (b.1.length:Int))) then
  gd (ix a b.1.length/\ix a c.1.length/\True) <|
  if(!b.1.getD a.toNat false==c.1.getD a.toNat false) then
   some false
  else
   gd (j0 (a+1)/\True) <|
   d (a+1)
 else
  TH b c ()
def Dn(b:C3)(a:C3):Option Bool :=
 if((b.1.length:Int) != (a.1.length:Int)) then
  some false
 else
  lp (H0D b a) 0
def k11:Ct:=k6 11 [.agg P0,.agg P0] (fun x=>Dn x.1 x.2.1) (fun r:Bool=>B r) (fun _=>())
theorem o11:Ok prog k11:=by
 refine l5 [.tmp 4] func11 ?_;intro y ⟨b,a,_⟩ r H Q hn hr;have:=hz (tc o35 tn);refine iA [2,3]<|vQ<|iA [2,3,12]<|cD H (fun H=>iA [4]<|j5<|fR<|hr H) fun H=>vK<|fQ<|jN r (fun(_:Unit)=>Z (G7 []) [(3,K 44 P0 a),(2,K 44 P0 b)]) (TH b a) (fun _ H=>?_) (fun _ d i g=>?_)
 ·refine iB [4] H fun H=>j5<|hr H
 refine iA [2,3,5]<|vB<|lX (fun(c:Int)=>Z (G7 [p 5 (I c)]) [(3,K 44 P0 a),(2,K 44 P0 b)]) 0 H fun _ j h f e c H=>vQ<|iA [2,3,5,17]<|cD H (fun H=>?_) (fun H=>?_)
 ·refine vK<|fQ<|vQ<|vB<|iB [2,3,5,30] H fun H=>cD H (fun H=>iA [4]<|j5<|m4<|fR<|e<|m4<|g<|hr H) fun H=>vK<|fK<|fQ<|jB [2,3,5] H fun H=>h H
 exact vE<|fE<|f<|fX rfl<|d H
def B4(a:Int)(b:Int)(c:Int):Option Bool :=
 some (decide (b<=a)&&decide (a<=c))
def k95:Ct:=k6 95 [.dat i64,.dat i64,.dat i64] (fun x=>B4 x.1 x.2.1 x.2.2.1) (fun r:Bool=>B r) (fun _=>())
theorem Ai:Ok prog k95:=by
 refine l5 [.tmp 6] func95 ?_;intro y ⟨_,_,_,_⟩ r H Q hn hr;refine iA [0,1,2]<|iA [6]<|j5<|hr H
def Fi(a:Int):Option Bool :=
 gd ((B4 a 0 1000000).isSome/\True) <|
 some (vl (B4 a 0 1000000))
def R0o:Ct:=k6 114 [.dat i64] (fun x=>Fi x.1) (fun r:Bool=>B r) (fun _=>())
theorem P0f:Ok prog R0o:=by
 refine l5 [.tmp 2] func114 ?_;intro y ⟨_,_⟩ r H Q hn hr;have:=hz (tc Ai tn);refine iA [0]<|iB [2] H fun H=>j5<|hr H
def Fj(a:Int):Option Bool :=
 gd ((B4 a (-1000000000) 1000000000).isSome/\True) <|
 some (vl (B4 a (-1000000000) 1000000000))
def R0w:Ct:=k6 100 [.dat i64] (fun x=>Fj x.1) (fun r:Bool=>B r) (fun _=>())
theorem P0k:Ok prog R0w:=by
 refine l5 [.tmp 2] func100 ?_;intro y ⟨_,_⟩ r H Q hn hr;have:=hz (tc Ai tn);refine iA [0]<|iB [2] H fun H=>j5<|hr H
def M8(a:r8):Option Bool :=
 gd ((Fj a.1).isSome/\(vl (Fj a.1)=true/\True->(Fj a.2).isSome)/\True) <|
 some (vl (Fj a.1)&&vl (Fj a.2)&&decide (a.1<=a.2))
def k43:Ct:=k6 43 [.agg y51] (fun x=>M8 x.1) (fun r:Bool=>B r) (fun _=>())
theorem Pe:Ok prog k43:=by
 refine l5 [.tmp 2] func43 ?_;intro y ⟨_,_⟩ r H Q hn hr;have:=hz (tc P0k tn);refine iA [1]<|iB [2] H fun H=>j5<|hr H
def Bh(a:r8):Option Bool :=
 gd ((M8 a).isSome/\(vl (M8 a)=true/\True->(Fi a.1).isSome)/\((vl (M8 a)&&vl (Fi a.1))=true/\True->(Fi a.2).isSome)/\True) <|
 some (vl (M8 a)&&vl (Fi a.1)&&vl (Fi a.2))
def k56:Ct:=k6 56 [.agg y51] (fun x=>Bh x.1) (fun r:Bool=>B r) (fun _=>())
theorem o56:Ok prog k56:=by
 refine l5 [.tmp 2] func56 ?_;intro y ⟨_,_⟩ r H Q hn hr;have:=hz (tc P0f (tc Pe tn));refine iA [1]<|iB [2] H fun H=>j5<|hr H
def Iy(a:List r8):Option Int :=
 some (a.length:Int)
def k91:Ct:=k6 91 [.dat y51.sl] (fun x=>Iy x.1) (fun r:Int=>I r) (fun _=>())
theorem o91:Ok prog k91:=by
 refine l5 [.tmp 2] func91 ?_;intro y ⟨_,_⟩ r H Q hn hr;refine iA [0]<|iA [2]<|j5<|hr H
def Ld(a:List Bool):Option Int :=
 some (a.length:Int)
def k90:Ct:=k6 90 [.dat Ty.bool.sl] (fun x=>Ld x.1) (fun r:Int=>I r) (fun _=>())
theorem o90:Ok prog k90:=by
 refine l5 [.tmp 2] func90 ?_;intro y ⟨_,_⟩ r H Q hn hr;refine iA [0]<|iA [2]<|j5<|hr H
def Le(a:List C0):Option Int :=
 some (a.length:Int)
def Q0O:Ct:=k6 145 [.dat y151.sl] (fun x=>Le x.1) (fun r:Int=>I r) (fun _=>())
theorem M0I:Ok prog Q0O:=by
 refine l5 [.tmp 2] func145 ?_;intro y ⟨_,_⟩ r H Q hn hr;refine iA [0]<|iA [2]<|j5<|hr H
def R6(a:C6):Option Int :=
 gd ((Le a.2.1).isSome/\j0 (2*vl (Le a.2.1))/\True)<|lt (vl (Le a.2.1)) fun b =>
 some (2*b)
def k89:Ct:=k6 89 [.dat y157.pt] (fun x=>R6 x.1) (fun r:Int=>I r) (fun _=>())
theorem GF:Ok prog k89:=by
 refine l5 [.tmp 2] func89 ?_;intro y ⟨_,_⟩ r H Q hn hr;have:=hz (tc M0I tn);refine iA [0]<|iD M0I [2] H fun _ H=>j5<|hr H
def G0F:Unit->Option Bool
 | _ =>
 some true
def K0o(b:C3)(c:Int->Option Bool):Int->Option Bool
 | a =>
 if(decide (a < (b.1.length:Int))) then
  gd (ix a b.1.length/\True) <|
  gd (ix a b.2.1.length/\(M8 (b.2.1.getD a.toNat (a6 y51))).isSome/\((!vl (M8 (b.2.1.getD a.toNat (a6 y51))))=false/\True->ix a b.2.2.length)/\((!vl (M8 (b.2.1.getD a.toNat (a6 y51))))=false/\True->(Bh (b.2.2.getD a.toNat (a6 y51))).isSome)/\((!b.1.getD a.toNat false)=true/\(!vl (M8 (b.2.1.getD a.toNat (a6 y51)))||!vl (Bh (b.2.2.getD a.toNat (a6 y51))))=false/\True->ix a b.2.1.length)/\((!((b.2.1.getD a.toNat (a6 y51)).1==0&&((b.2.1.getD a.toNat (a6 y51)).2==0&&true)))=false/\(!b.1.getD a.toNat false)=true/\(!vl (M8 (b.2.1.getD a.toNat (a6 y51)))||!vl (Bh (b.2.2.getD a.toNat (a6 y51))))=false/\True->ix a b.2.2.length)/\True)<|lt (!vl (M8 (b.2.1.getD a.toNat (a6 y51)))||!vl (Bh (b.2.2.getD a.toNat (a6 y51)))||!b.1.getD a.toNat false&&(!((b.2.1.getD a.toNat (a6 y51)).1==0&&((b.2.1.getD a.toNat (a6 y51)).2==0&&true))||!((b.2.2.getD a.toNat (a6 y51)).1==0&&((b.2.2.getD a.toNat (a6 y51)).2==0&&true)))) fun d =>
  if d then
   some false
  else
   gd (j0 (a+1)/\True) <|
   c (a+1)
 else
  G0F ()
def u38(c:C6)(a:C3):Option Bool :=
 gd ((R6 c).isSome/\True)<|lt (vl (R6 c)) fun b =>
 gd ((Ld a.1).isSome/\((vl (Ld a.1) != b)=false/\True->(Iy a.2.1).isSome)/\((vl (Ld a.1) != b||vl (Iy a.2.1) != b)=false/\True->(Iy a.2.2).isSome)/\True)<|lt ((vl (Ld a.1),vl (Iy a.2.1),vl (Iy a.2.2))) fun(e,f,d) =>
 if(e != b||f != b||d != b) then
  some false
 else
  lp (K0o a) 0
def k38:Ct:=k6 38 [.dat y157.pt,.agg P0] (fun x=>u38 x.1 x.2.1) (fun r:Bool=>B r) (fun _=>())
theorem o38:Ok prog k38:=by
 refine l5 [.tmp 4] func38 ?_;intro y ⟨_,a,_⟩ r H Q hn hr;have:=hz (tc o56 (tc Pe (tc o91 (tc o90 (tc GF tn)))));refine iA [0,3]<|iD GF [3,5] H fun b H=>vQ<|qD (fun(f,g,e)=>Z [p 3 (R 3),p 28 (B (f != b||g != b||e != b))] [(3,K 44 P0 a)]) H fun⟨f,g,e⟩ H =>
  cD H (fun H=>iA [4]<|j5<|fR<|hr H) fun H=>vK<|fQ<|jN r (fun(_:Unit)=>Z [] []) (G0F) (fun _ H=>?_) (fun _ h m k=>?_)
 ·refine iA [4]<|j5<|hr H
 refine iA [3,30,31,32]<|vB<|lX (fun(c:Int)=>Z [p 3 (R 3),p 30 (L Ty.bool a.1),p 31 (I (a.1.length:Int)),p 32 (I c)] [(3,K 44 P0 a)]) 0 H fun _ n l j i c H=>iA [3,30,31,32,33]<|vQ<|cD H (fun H=>?_) (fun H=>?_)
 ·refine vK<|fQ<|vQ<|vB<|iB [3,6,7,30,31,32] H fun H=>qD (fun d=>Z [p 3 (R 3),p 30 (L Ty.bool a.1),p 31 (I (a.1.length:Int)),p 32 (I c),p 74 (B d)] [(3,K 44 P0 a)]) H fun d H=>cD H (fun H=>iA [4]<|j5<|m4<|fR<|i<|m4<|k<|hr H) fun H=>vK<|fK<|fQ<|jB [3,30,31,32] H fun H=>l H
 exact vE<|fE<|j<|fX rfl<|h H
def GG(b:r9)(c:List m5)(a:C0):Option Int :=
 if(decide (a.1<0)) then
  some 0
 else
  gd (ix a.1 b.1.length/\ix (b.1.getD a.1.toNat (a6 y139)).2.1 c.length/\ix a.2.1 (c.getD (b.1.getD a.1.toNat (a6 y139)).2.1.toNat (a6 y64)).2.2.1.length/\True)<|lt ((c.getD (b.1.getD a.1.toNat (a6 y139)).2.1.toNat (a6 y64)).2.2.1.getD a.2.1.toNat (a6 y233)) fun d =>
  some d.2.2.1
def Q0Q:Ct:=k6 143 [.agg y31,.agg y64.sl,.agg y151] (fun x=>GG x.1 x.2.1 x.2.2.1) (fun r:Int=>I r) (fun _=>())
theorem O0V:Ok prog Q0Q:=by
 refine l5 [.tmp 6] func143 ?_;intro y ⟨b,c,d,_⟩ r H Q hn hr;refine iA [3,4,5]<|vQ<|iA [3,4,5,9]<|cD H (fun H=>iA [6]<|j5<|fR<|hr H) fun H=>vK<|fQ<|qD (fun a=>Z [p 6 (J a.2.2.1)] [(5,K 151 y151 d),(4,bx 26 [L y64 c]),(3,K 31 y31 b)]) H fun a H=>j5<|hr H
def F0T:List C0->Option (List C0)
 | a =>
 some a
def F0Q(d:r9)(e:Int×List C0->Option (List C0)):Int×List C0->Option (List C0)
 | (a,c) =>
 if(decide (a < (d.2.2.length:Int))) then
  gd (ix a d.2.2.length/\True)<|lt (d.2.2.getD a.toNat (a6 y202)) fun b =>
  gd ((c.length+[(-1,a,b.2.2,b.2.1==1)].length<=9223372036854775807/\(c.length+[(-1,a,b.2.2,b.2.1==1)].length)*32<=140737488355328)/\True) <|
  gd (j0 (a+1)/\True) <|
  e ((a+1,c++[(-1,a,b.2.2,b.2.1==1)]))
 else
  F0T c
def Lf(b:r9):List C0->Option (List C0)
 | a =>
 lp (F0Q b) (0,a)
def TJ(b:Int)(c:List C0×Int->Option (List C0)):List C0->Option (List C0)
 | a =>
 gd (j0 (b+1)/\True) <|
 c (a,b+1)
def F0R(d:Int)(b:o3)(f:List C0×Int->Option (List C0))(g:Int×List C0->Option (List C0)):Int×List C0->Option (List C0)
 | (a,c) =>
 if(decide (a < (b.2.2.length:Int))) then
  gd (ix a b.2.2.length/\True) <|
  gd (j0 ((b.2.2.length:Int)-1)/\(c.length+[(d,a,b.2.2.getD a.toNat 0,a==(b.2.2.length:Int)-1)].length<=9223372036854775807/\(c.length+[(d,a,b.2.2.getD a.toNat 0,a==(b.2.2.length:Int)-1)].length)*32<=140737488355328)/\True)<|lt ((c++[(d,a,b.2.2.getD a.toNat 0,a==(b.2.2.length:Int)-1)],[(d,a,b.2.2.getD a.toNat 0,a==(b.2.2.length:Int)-1)])) fun(e,_) =>
  gd (j0 (a+1)/\True) <|
  g (a+1,e)
 else
  TJ d f c
def F0S(a:r9)(e:List C0×Int->Option (List C0)):List C0×Int->Option (List C0)
 | (c,b) =>
 if(decide (b < (a.1.length:Int))) then
  gd (ix b a.1.length/\True)<|lt (a.1.getD b.toNat (a6 y139)) fun d =>
  lp (F0R b d e) (0,c)
 else
  Lf a c
def BK(a:r9):Option (List C0) :=
 lp (F0S a) ([],0)
def k83:Ct:=k6 83 [.agg y31] (fun x=>BK x.1) (fun r:List C0=>AV.ow 151 true y151 r) (fun _=>())
theorem Fk:Ok prog k83:=by
 refine l5 [.tmp 2] func83 ?_;intro y ⟨a,_⟩ r H Q hn hr;refine iA [1]<|iA [1,3]<|jN r (fun(f:List C0)=>Z [p 1 (R 1),p 3 (O 38)] [(1,K 31 y31 a),(38,A 151 y151 f 0)]) (Lf a) (fun f H=>?_) (fun _ v X V=>?_)
 ·refine jN r (fun(m:List C0)=>Z [p 3 (O 38)] [(38,A 151 y151 m 0)]) (F0T) (fun m H=>?_) (fun _ o F T=>?_)
  ·refine iA [2]<|j5<|hr H
  refine iA [3,42,43,44]<|vB<|lX (fun((c,e):Int×List C0)=>Z [p 3 (O 38),p 42 (L y202 a.2.2),p 43 (I (a.2.2.length:Int)),p 44 (I c)] [(38,A 151 y151 e 0)]) (0,f) H fun _ P t w t5 ⟨c,e⟩ H=>iA [3,42,43,44,45]<|vQ<|cD H (fun H=>vK<|fQ<|vQ<|vB<|qD (fun h=>Z [p 3 (O 38),p 8 (I c),p 9 (R 9),p 42 (L y202 a.2.2),p 43 (I (a.2.2.length:Int)),p 44 (I c)] [(9,K 202 y202 h),(38,A 151 y151 e 0)]) H fun h H=>jB [3,42,43,44] H fun H=>fK<|fQ<|jB [3,42,43,44] H fun H=>t H) fun H=>vE<|fE<|w<|fX rfl<|o H
 refine iA [1,3,11,12,13]<|vB<|lX (fun((n,b):List C0×Int)=>Z [p 1 (R 1),p 3 (O 38),p 11 (L y139 a.1),p 12 (I (a.1.length:Int)),p 13 (I b)] [(1,K 31 y31 a),(38,A 151 y151 n 0)]) ([],0) H fun _ x E s t1 ⟨n,b⟩ H=>iA [1,3,11,12,13,14]<|vQ<|cD H (fun H=>?_) (fun H=>?_)
 ·refine vK<|fQ<|jN r (fun(k:List C0)=>Z [p 1 (R 1),p 3 (O 38),p 11 (L y139 a.1),p 12 (I (a.1.length:Int)),p 13 (I b)] [(1,K 31 y31 a),(38,A 151 y151 k 0)]) (TJ b x) (fun k H=>?_) (fun _ q Y G=>?_)
  ·refine jB [1,3,11,12,13] H fun H=>E H
  refine vB<|qD (fun d=>Z [p 1 (R 1),p 3 (O 38),p 4 (I b),p 5 (R 5),p 11 (L y139 a.1),p 12 (I (a.1.length:Int)),p 13 (I b)] [(5,K 139 y139 d),(1,K 31 y31 a),(38,A 151 y151 n 0)]) H fun d H=>iA [1,3,4,5,11,12,13,19,20,21]<|vB<|lX (fun((g,l):Int×List C0)=>Z [p 1 (R 1),p 3 (O 38),p 4 (I b),p 5 (R 5),p 11 (L y139 a.1),p 12 (I (a.1.length:Int)),p 13 (I b),p 19 (L i64 d.2.2),p 20 (I (d.2.2.length:Int)),p 21 (I g)] [(5,K 139 y139 d),(1,K 31 y31 a),(38,A 151 y151 l 0)]) (0,n) H fun _ W u z t3 ⟨g,l⟩ H=>iA [1,3,4,5,11,12,13,19,20,21,22]<|vQ<|cD H (fun H=>?_) (fun H=>?_)
  ·refine vK<|fQ<|vQ<|vB<|iB [1,3,4,5,6,7,11,12,13,19,20,21] H fun H=>zD (fun(j,i)=>Z [p 1 (R 1),p 3 (AV.os 38 1),p 4 (I b),p 5 (R 5),p 11 (L y139 a.1),p 12 (I (a.1.length:Int)),p 13 (I b),p 19 (L i64 d.2.2),p 20 (I (d.2.2.length:Int)),p 21 (I g)] [(38,A 151 y151 j 1),(37,A 151 y151 i 0),(5,K 139 y139 d),(1,K 31 y31 a)]) H fun⟨j,i⟩ H =>
    fK<|fQ <|
    jB [1,3,4,5,11,12,13,19,20,21] H fun H =>
    u H
  exact vE<|fE<|z<|fX rfl<|fK<|q H
 exact vE<|fE<|s<|fX rfl<|v H
def B0c:List Int->Option (List Int)
 | a =>
 some a
def Pf(a:Int)(b:List Int×Int->Option (List Int)):List Int->Option (List Int)
 | c =>
 gd (j0 (a+1)/\True) <|
 b (c,a+1)
def B0b(f:Int)(c:List C0)(d:List Int×Int->Option (List Int)):List Int×Int->Option (List Int)
 | (b,a) =>
 if(decide (a < (c.length:Int))) then
  gd (ix a c.length/\a.toNat<c.length/\True)<|lt (c.getD a.toNat (a6 y151)) fun e =>
  if(e.2.2.1==f&&!e.2.2.2) then
   gd ((b.length+[a].length<=9223372036854775807/\(b.length+[a].length)*8<=140737488355328)/\True) <|
   Pf a d (b++[a])
  else
   Pf a d b
 else
  B0c b
def Lg(a:r9)(c:Int):Option (List Int) :=
 gd ((BK a).isSome/\True)<|lt (vl (BK a)) fun b =>
 lp (B0b c b) ([],0)
def Q0R:Ct:=k6 142 [.agg y31,.dat i64] (fun x=>Lg x.1 x.2.1) (fun r:List Int=>AV.ow 2 true i64 r) (fun _=>())
theorem M0K:Ok prog Q0R:=by
 refine l5 [.tmp 4] func142 ?_;intro y ⟨_,c,_⟩ r H Q hn hr;have:=hz (tc Fk tn);refine iA [1,2]<|iA [1,2,5]<|jN r (fun(f:List Int)=>Z [p 5 (O 28)] [(28,A 2 i64 f 0)]) (B0c) (fun f H=>?_) (fun _ i m s=>?_)
 ·refine iA [4]<|j5<|hr H
 refine iD Fk [1,5,9,10,11] H fun a H=>vB<|lX (fun((d,b):List Int×Int)=>Z [p 1 (J c),p 5 (O 28),p 9 (O 9),p 10 (I (a.length:Int)),p 11 (I b)] [(9,A 151 y151 a 0),(28,A 2 i64 d 0)]) ([],0) H fun _ j l k q ⟨d,b⟩ H=>iA [1,5,9,10,11,12]<|vQ<|cD H (fun H=>?_) (fun H=>?_)
 ·refine vK<|fQ<|jN r (fun(e:List Int)=>Z [p 1 (J c),p 5 (O 28),p 9 (O 9),p 10 (I (a.length:Int)),p 11 (I b)] [(28,A 2 i64 e 0),(9,A 151 y151 a 0)]) (Pf b j) (fun e H=>?_) (fun _ g n o=>?_)
  ·refine jB [1,5,9,10,11] H fun H=>l H
  refine vB<|qD (fun h=>Z [p 1 (J c),p 5 (O 28),p 6 (I b),p 7 (R 7),p 9 (O 9),p 10 (I (a.length:Int)),p 11 (I b)] [(7,bx 151 (r5 true y151 h)),(9,A 151 y151 a 0),(28,A 2 i64 d 0)]) H fun h H=>iA [1,5,6,9,10,11,24]<|cD H (fun H=>jB [1,5,9,10,11] H fun H=>fK<|g H) fun H=>vK<|fK<|g H
 exact vE<|fE<|k<|fX rfl<|i H
def TK:List Int->Option (List Int)
 | a =>
 some a
def Iz(c:z6)(e:Int×List Int->Option (List Int)):Int×List Int->Option (List Int)
 | (a,b) =>
 if(decide (0<a)) then
  gd (ix a c.1.length/\ix (c.1.getD a.toNat 0) b.length/\Int.toNat (c.1.getD a.toNat 0)<b.length/\ix a b.length/\a.toNat<b.length/\j0 (b.getD (Int.toNat (c.1.getD a.toNat 0)) 0+b.getD a.toNat 0)/\ix (c.1.getD a.toNat 0) b.length/\Int.toNat (c.1.getD a.toNat 0)<b.length/\True)<|lt (b.set (Int.toNat (c.1.getD a.toNat 0)) (b.getD (Int.toNat (c.1.getD a.toNat 0)) 0+b.getD a.toNat 0)) fun d =>
  gd (j0 (a-1)/\True) <|
  e (a-1,d)
 else
  TK b
def Pg(b:z6):List Int->Option (List Int)
 | a =>
 gd (j0 ((a.length:Int)-1)/\True) <|
 lp (Iz b) (((a.length:Int)-1,a))
def F0O(e:j9)(f:List C0)(c:List Int)(b:z6)(h:Int×List Int->Option (List Int)):Int×List Int->Option (List Int)
 | (a,d) =>
 if(decide (a < (c.length:Int))) then
  gd (ix a c.length/\a.toNat<c.length/\True) <|
  gd (ix a b.2.2.2.length/\ix (b.2.2.2.getD a.toNat 0) d.length/\Int.toNat (b.2.2.2.getD a.toNat 0)<d.length/\ix (c.getD a.toNat 0) f.length/\Int.toNat (c.getD a.toNat 0)<f.length/\(GG e.2.1 e.1 (f.getD (Int.toNat (c.getD a.toNat 0)) (a6 y151))).isSome/\j0 (d.getD (Int.toNat (b.2.2.2.getD a.toNat 0)) 0+vl (GG e.2.1 e.1 (f.getD (Int.toNat (c.getD a.toNat 0)) (a6 y151))))/\ix (b.2.2.2.getD a.toNat 0) d.length/\Int.toNat (b.2.2.2.getD a.toNat 0)<d.length/\True)<|lt ((vl (GG e.2.1 e.1 (f.getD (Int.toNat (c.getD a.toNat 0)) (a6 y151))),d.set (Int.toNat (b.2.2.2.getD a.toNat 0)) (d.getD (Int.toNat (b.2.2.2.getD a.toNat 0)) 0+vl (GG e.2.1 e.1 (f.getD (Int.toNat (c.getD a.toNat 0)) (a6 y151)))))) fun(_,g) =>
  gd (j0 (a+1)/\True) <|
  h (a+1,g)
 else
  Pg b d
def BL(a:j9)(b:Int):Option (List Int) :=
 gd (ix b a.2.2.length/\True)<|lt (a.2.2.getD b.toNat (a6 l7)) fun c =>
 gd ((Ph c.2.2.1).isSome/\True)<|lt (vl (Ph c.2.2.1)) fun e =>
 gd ((BK a.2.1).isSome/\True)<|lt (vl (BK a.2.1)) fun f =>
 gd ((Lg a.2.1 b).isSome/\True)<|lt (vl (Lg a.2.1 b)) fun d =>
 lp (F0O a f d c) (0,e)
def k87:Ct:=k6 87 [.agg l9,.dat i64] (fun x=>BL x.1 x.2.1) (fun r:List Int=>AV.ow 2 true i64 r) (fun _=>())
theorem TL:Ok prog k87:=by
 refine l5 [.tmp 4] func87 ?_;intro y ⟨i,s,_⟩ r H Q hn hr;have:=hz (tc O0V (tc M0K (tc Fk (tc M0L tn))));refine iA [1,2]<|qD (fun b=>Z [p 1 (J s),p 2 (R 2),p 5 (R 5)] [(5,K 153 l7 b),(2,K 34 l9 i)]) H fun b H=>iD M0L [1,2,5,6] H fun u H=>iD Fk [1,2,5,6,7] H fun k H=>jN r (fun(a:List Int)=>Z [p 5 (R 5),p 6 (O 18)] [(18,A 2 i64 a 0),(5,K 153 l7 b)]) (Pg b) (fun a H=>?_) (fun _ q F z=>?_)
 ·refine jN r (fun(d:List Int)=>Z [p 6 (O 18)] [(18,A 2 i64 d 0)]) (TK) (fun d H=>?_) (fun _ m G x=>?_)
  ·refine iA [4]<|j5<|hr H
  refine iB [5,6,10] H fun H=>vB<|lX (fun((c,f):Int×List Int)=>Z [p 5 (R 5),p 6 (O 18),p 10 (I c)] [(18,A 2 i64 f 0),(5,K 153 l7 b)]) (((a.length:Int)-1,a)) H fun _ E o t P ⟨c,f⟩ H=>vQ<|iA [5,6,10,56]<|cD H (fun H=>vK<|fQ<|vQ<|vB<|zD (fun e=>Z [p 5 (R 5),p 6 (O 18),p 10 (I c)] [(18,A 2 i64 e 0),(5,K 153 l7 b)]) H fun e H=>fK<|fQ<|jB [5,6,10] H fun H=>o H) fun H=>vE<|fE<|t<|fX rfl<|m H
 refine iD M0K [2,5,6,7,25,26,27] H fun g H=>vB<|lX (fun((h,j):Int×List Int)=>Z [p 2 (R 2),p 5 (R 5),p 6 (O 18),p 7 (O 21),p 25 (O 25),p 26 (I (g.length:Int)),p 27 (I h)] [(25,A 2 i64 g 0),(21,A 151 y151 k 0),(18,A 2 i64 j 0),(5,K 153 l7 b),(2,K 34 l9 i)]) (0,u) H fun _ V w n T ⟨h,j⟩ H=>iA [2,5,6,7,25,26,27,28]<|vQ<|cD H (fun H=>?_) (fun H=>?_)
 ·refine vK<|fQ<|vQ<|vB<|iB [2,5,6,7,8,9,25,26,27] H fun H=>zD (fun(v,l)=>Z [p 2 (R 2),p 5 (R 5),p 6 (O 18),p 7 (O 21),p 25 (O 25),p 26 (I (g.length:Int)),p 27 (I h)] [(18,A 2 i64 l 0),(25,A 2 i64 g 0),(21,A 151 y151 k 0),(5,K 153 l7 b),(2,K 34 l9 i)]) H fun⟨v,l⟩ H =>
   fK<|fQ <|
   jB [2,5,6,7,25,26,27] H fun H =>
   w H
 exact vE<|fE<|n<|fX rfl<|q H
def B0a:List Int->Option (List Int)
 | a =>
 some a
def Lh(c:z6)(d:List Int)(e:Int×List Int->Option (List Int)):Int×List Int->Option (List Int)
 | (a,b) =>
 if(decide (a < (b.length:Int))) then
  gd (ix a c.1.length/\ix (c.1.getD a.toNat 0) b.length/\Int.toNat (c.1.getD a.toNat 0)<b.length/\ix a c.2.1.length/\ix a d.length/\a.toNat<d.length/\j0 (c.2.1.getD a.toNat 0*d.getD a.toNat 0)/\j0 (b.getD (Int.toNat (c.1.getD a.toNat 0)) 0+c.2.1.getD a.toNat 0*d.getD a.toNat 0)/\ix a b.length/\a.toNat<b.length/\True)<|lt (b.set a.toNat (b.getD (Int.toNat (c.1.getD a.toNat 0)) 0+c.2.1.getD a.toNat 0*d.getD a.toNat 0)) fun f =>
  gd (j0 (a+1)/\True) <|
  e (a+1,f)
 else
  B0a b
def Li(b:j9)(c:Int):Option (List Int) :=
 gd (ix c b.2.2.length/\(BL b c).isSome/\True)<|lt ((vl (BL b c),b.2.2.getD c.toNat (a6 l7))) fun(a,d) =>
 gd ((0<=(a.length:Int)/\(a.length:Int)=(a.length:Int)/\(a.length:Int).toNat*8<=281474976710656/\(a.length:Int)<=9223372036854775807)/\True) <|
 lp (Lh d a) ((1,List.replicate (a.length:Int).toNat 0))
def Q0P:Ct:=k6 144 [.agg l9,.dat i64] (fun x=>Li x.1 x.2.1) (fun r:List Int=>AV.ow 2 true i64 r) (fun _=>())
theorem M0J:Ok prog Q0P:=by
 refine l5 [.tmp 4] func144 ?_;intro y ⟨g,_,_⟩ r H Q hn hr;have:=hz (tc TL tn);refine iA [1,2]<|qD (fun(a,b)=>Z [p 5 (R 5),p 6 (O 16)] [(5,K 153 l7 b),(16,A 2 i64 a 0),(2,K 34 l9 g)]) H fun w H=>?_
 obtain⟨a,b⟩:=w;refine iB [5,6,7] H fun H=>jN r (fun(d:List Int)=>Z [p 7 (O 19)] [(19,A 2 i64 d 0)]) (B0a) (fun d H=>?_) (fun _ h k n=>?_)
 ·refine iA [4]<|j5<|hr H
 refine iA [5,6,7,8]<|vB<|lX (fun((c,e):Int×List Int)=>Z [p 5 (R 5),p 6 (O 16),p 7 (O 19),p 8 (I c)] [(19,A 2 i64 e 0),(5,K 153 l7 b),(16,A 2 i64 a 0)]) ((1,List.replicate (a.length:Int).toNat 0)) H fun _ l j i m ⟨c,e⟩ H=>vQ<|iA [5,6,7,8,23]<|cD H (fun H=>vK<|fQ<|vQ<|vB<|zD (fun f=>Z [p 5 (R 5),p 6 (O 16),p 7 (O 19),p 8 (I c)] [(19,A 2 i64 f 0),(5,K 153 l7 b),(16,A 2 i64 a 0)]) H fun f H=>fK<|fQ<|jB [5,6,7,8] H fun H=>j H) fun H=>vE<|fE<|i<|fX rfl<|h H
def F0N:List Int->Option (List Int)
 | a =>
 some a
def F0M(c:List Int)(b:z6)(e:List Int×Int->Option (List Int)):List Int×Int->Option (List Int)
 | (d,a) =>
 if(decide (a < (b.2.2.2.length:Int))) then
  gd (ix a b.2.2.2.length/\True) <|
  gd (ix (b.2.2.2.getD a.toNat 0) c.length/\Int.toNat (b.2.2.2.getD a.toNat 0)<c.length/\(d.length+[c.getD (Int.toNat (b.2.2.2.getD a.toNat 0)) 0].length<=9223372036854775807/\(d.length+[c.getD (Int.toNat (b.2.2.2.getD a.toNat 0)) 0].length)*8<=140737488355328)/\True)<|lt (d++[c.getD (Int.toNat (b.2.2.2.getD a.toNat 0)) 0]) fun f =>
  gd (j0 (a+1)/\True) <|
  e (f,a+1)
 else
  F0N d
def Fl(a:j9)(b:Int):Option (List Int) :=
 gd ((Li a b).isSome/\True)<|lt (vl (Li a b)) fun d =>
 gd (ix b a.2.2.length/\True)<|lt (a.2.2.getD b.toNat (a6 l7)) fun c =>
 lp (F0M d c) ([],0)
def k88:Ct:=k6 88 [.agg l9,.dat i64] (fun x=>Fl x.1 x.2.1) (fun r:List Int=>AV.ow 2 true i64 r) (fun _=>())
theorem o88:Ok prog k88:=by
 refine l5 [.tmp 4] func88 ?_;intro y ⟨g,_,_⟩ r H Q hn hr;have:=hz (tc M0J tn);refine iA [1,2]<|iD M0J [1,2,5] H fun b H=>iA [1,2,5,6]<|jN r (fun(d:List Int)=>Z [p 6 (O 29)] [(29,A 2 i64 d 0)]) (F0N) (fun d H=>?_) (fun _ h k n=>?_)
 ·refine iA [4]<|j5<|hr H
 refine qD (fun a=>Z [p 5 (O 11),p 6 (nil),p 17 (L i64 a.2.2.2),p 18 (I (a.2.2.2.length:Int)),p 19 (I 0)] [(11,A 2 i64 b 0),(2,K 34 l9 g)]) H fun a H=>vB<|lX (fun((e,c):List Int×Int)=>Z [p 5 (O 11),p 6 (O 29),p 17 (L i64 a.2.2.2),p 18 (I (a.2.2.2.length:Int)),p 19 (I c)] [(11,A 2 i64 b 0),(29,A 2 i64 e 0)]) ([],0) H fun _ l j i m ⟨e,c⟩ H=>iA [5,6,17,18,19,20]<|vQ<|cD H (fun H=>vK<|fQ<|vQ<|vB<|iB [5,6,8,17,18,19] H fun H=>zD (fun f=>Z [p 5 (O 11),p 6 (AV.os 29 1),p 17 (L i64 a.2.2.2),p 18 (I (a.2.2.2.length:Int)),p 19 (I c)] [(29,A 2 i64 f 1),(28,A 2 i64 [b.getD (Int.toNat (a.2.2.2.getD c.toNat 0)) 0] 0),(11,A 2 i64 b 0)]) H fun f H=>fK<|fQ<|jB [5,6,17,18,19] H fun H=>j H) fun H=>vE<|fE<|i<|fX rfl<|h H
def P0n:Ct:=k6 88 [.agg l9,.dat i64] (fun x=>Fl x.1 x.2.1) (fun r=>frz ((fun r:List Int=>AV.ow 2 true i64 r) r)) (fun _=>())
theorem O0k:Ok prog P0n:=TM o88
def D8(a:List Int):Option Int :=
 some (a.length:Int)
def k86:Ct:=k6 86 [.dat i64.sl] (fun x=>D8 x.1) (fun r:Int=>I r) (fun _=>())
theorem Lj:Ok prog k86:=by
 refine l5 [.tmp 2] func86 ?_;intro y ⟨_,_⟩ r H Q hn hr;refine iA [0]<|iA [2]<|j5<|hr H
def Lk(a:B3):Option (List (Int×Int)) :=
 if(a.1==2) then
  some ([((0:Int),(0:Int)),((0:Int),(1:Int))])
 else
  if(a.1==3) then
   some ([((1:Int),(0:Int)),((1:Int),(1:Int))])
  else
   if(a.1 != 1) then
    some []
   else
    if(a.2.2.2.1==1) then
     some ([((0:Int),(0:Int)),((1:Int),(1:Int))])
    else
     if(a.2.2.2.1==2) then
      some ([((0:Int),(1:Int)),((1:Int),(0:Int))])
     else
      lt ([((0:Int),(0:Int)),((0:Int),(1:Int)),((1:Int),(0:Int)),((1:Int),(1:Int))]) fun b =>
      some b
def Q0T:Ct:=k6 140 [.agg y67] (fun x=>Lk x.1) (fun r:List (Int×Int)=>AV.ow 207 true (i64.pr i64) r) (fun _=>())
theorem M0M:Ok prog Q0T:=by
 refine l5 [.tmp 2] func140 ?_;intro y ⟨b,_⟩ r H Q hn hr;refine iA [1]<|iA [1,3]<|iA [1,3,4]<|vQ<|vB<|iA [1,3,4,11]<|cD H (fun H=>iA [2]<|j5<|m4<|fR<|hr H) fun H=>iA [1,3,4,18]<|cD H (fun H=>iA [2]<|j5<|m4<|fR<|hr H) fun H=>iA [1,3,4,25]<|cD H (fun H=>iA [2]<|j5<|m4<|fR<|hr H) fun H=>iA [1,3,4,29]<|cD H (fun H=>iA [2]<|j5<|m4<|fR<|hr H) fun H=>iA [4,34]<|cD H (fun H=>iA [2]<|j5<|m4<|fR<|hr H) fun H=>vK<|fK<|fQ<|qC (fun a=>Z [p 2 (O 43)] [(43,A 207 (i64.pr i64) a 0),(10,A 207 (i64.pr i64) [((0:Int),(1:Int)),((1:Int),(0:Int))] 0),(7,A 207 (i64.pr i64) [((0:Int),(0:Int)),((1:Int),(1:Int))] 0),(1,K 67 y67 b)]) H fun a H=>j5<|hr H
def F0P:List l8->Option (List l8)
 | a =>
 some a
def TN(a:Int)(c:List l8×Int->Option (List l8)):List l8->Option (List l8)
 | b =>
 gd (j0 (a+1)/\True) <|
 c (b,a+1)
def TO(c:Int)(a:B3)(e:Int)(g:List (Int×Int))(i:List l8×Int->Option (List l8))(j:Int×List l8->Option (List l8)):Int×List l8->Option (List l8)
 | (d,f) =>
 if(decide (d < (g.length:Int))) then
  gd (ix d g.length/\d.toNat<g.length/\True)<|lt (g.getD d.toNat (a6 (i64.pr i64))) fun b =>
  gd (j0 (c+a.2.1)/\j0 ((2:Int)*(c+a.2.1))/\ix (0:Int) 2/\j0 ((2:Int)*(c+a.2.1)+b.1)/\j0 (c+a.2.2.1)/\j0 ((2:Int)*(c+a.2.2.1))/\ix (1:Int) 2/\j0 ((2:Int)*(c+a.2.2.1)+b.2)/\(f.length+[((2:Int)*(c+a.2.1)+b.1,(2:Int)*(c+a.2.2.1)+b.2,(1:Int),e)].length<=9223372036854775807/\(f.length+[((2:Int)*(c+a.2.1)+b.1,(2:Int)*(c+a.2.2.1)+b.2,(1:Int),e)].length)*32<=140737488355328)/\True)<|lt ((f++[((2:Int)*(c+a.2.1)+b.1,(2:Int)*(c+a.2.2.1)+b.2,(1:Int),e)],[((2:Int)*(c+a.2.1)+b.1,(2:Int)*(c+a.2.2.1)+b.2,(1:Int),e)])) fun(h,_) =>
  gd (j0 (d+1)/\True) <|
  j (d+1,h)
 else
  TN e i f
def TP(g:Int)(d:m5)(f:List l8×Int->Option (List l8)):List l8×Int->Option (List l8)
 | (c,a) =>
 if(decide (a < (d.2.2.2.1.length:Int))) then
  gd (ix a d.2.2.2.1.length/\True)<|lt (d.2.2.2.1.getD a.toNat (a6 y67)) fun b =>
  gd ((Lk b).isSome/\True)<|lt (vl (Lk b)) fun e =>
  lp (TO g b a e f) (0,c)
 else
  F0P c
def Fm(a:j9)(b:o3)(d:Int):Option (List l8) :=
 gd (ix b.2.1 a.1.length/\True)<|lt (a.1.getD b.2.1.toNat (a6 y64)) fun c =>
 lp (TP d c) ([],0)
def k85:Ct:=k6 85 [.agg l9,.agg y139,.dat i64] (fun x=>Fm x.1 x.2.1 x.2.2.1) (fun r:List l8=>AV.ow 80 true y80 r) (fun _=>())
theorem o85:Ok prog k85:=by
 refine l5 [.tmp 6] func85 ?_;intro y ⟨s,u,i,_⟩ r H Q hn hr;have:=hz (tc M0M tn);refine iA [2,3,4]<|iA [2,3,4,7]<|jN r (fun(m:List l8)=>Z [p 7 (O 53)] [(53,A 80 y80 m 0)]) (F0P) (fun m H=>?_) (fun _ t G E=>?_)
 ·refine iA [6]<|j5<|hr H
 refine qD (fun b=>Z [p 2 (J i),p 7 (nil),p 19 (L y67 b.2.2.2.1),p 20 (I (b.2.2.2.1.length:Int)),p 21 (I 0)] [(4,K 139 y139 u),(3,K 34 l9 s)]) H fun b H=>vB<|lX (fun((e,a):List l8×Int)=>Z [p 2 (J i),p 7 (O 53),p 19 (L y67 b.2.2.2.1),p 20 (I (b.2.2.2.1.length:Int)),p 21 (I a)] [(53,A 80 y80 e 0)]) ([],0) H fun _ v x o V ⟨e,a⟩ H=>iA [2,7,19,20,21,22]<|vQ<|cD H (fun H=>?_) (fun H=>?_)
 ·refine vK<|fQ<|jN r (fun(j:List l8)=>Z [p 2 (J i),p 7 (O 53),p 19 (L y67 b.2.2.2.1),p 20 (I (b.2.2.2.1.length:Int)),p 21 (I a)] [(53,A 80 y80 j 0)]) (TN a v) (fun j H=>?_) (fun _ n P z=>?_)
  ·refine jB [2,7,19,20,21] H fun H=>x H
  refine vB<|qD (fun d=>Z [p 2 (J i),p 7 (O 53),p 8 (I a),p 9 (R 9),p 19 (L y67 b.2.2.2.1),p 20 (I (b.2.2.2.1.length:Int)),p 21 (I a)] [(9,K 67 y67 d),(53,A 80 y80 e 0)]) H fun d H=>iD M0M [2,7,8,9,19,20,21,27,28,29] H fun c H=>vB<|lX (fun((f,h):Int×List l8)=>Z [p 2 (J i),p 7 (O 53),p 8 (I a),p 9 (R 9),p 19 (L y67 b.2.2.2.1),p 20 (I (b.2.2.2.1.length:Int)),p 21 (I a),p 27 (O 27),p 28 (I (c.length:Int)),p 29 (I f)] [(27,A 207 (i64.pr i64) c 0),(9,K 67 y67 d),(53,A 80 y80 h 0)]) (0,e) H fun _ F q w T ⟨f,h⟩ H=>iA [2,7,8,9,19,20,21,27,28,29,30]<|vQ<|cD H (fun H=>?_) (fun H=>?_)
  ·refine vK<|fQ<|vQ<|vB<|qD (fun g=>Z [p 2 (J i),p 7 (O 53),p 8 (I a),p 9 (R 9),p 11 (R 11),p 19 (L y67 b.2.2.2.1),p 20 (I (b.2.2.2.1.length:Int)),p 21 (I a),p 27 (O 27),p 28 (I (c.length:Int)),p 29 (I f)] [(11,bx 207 (r5 true (i64.pr i64) g)),(27,A 207 (i64.pr i64) c 0),(9,K 67 y67 d),(53,A 80 y80 h 0)]) H fun g H=>zD (fun(l,k)=>Z [p 2 (J i),p 7 (AV.os 53 1),p 8 (I a),p 9 (R 9),p 19 (L y67 b.2.2.2.1),p 20 (I (b.2.2.2.1.length:Int)),p 21 (I a),p 27 (O 27),p 28 (I (c.length:Int)),p 29 (I f)] [(53,A 80 y80 l 1),(52,A 80 y80 k 0),(11,bx 207 (r5 true (i64.pr i64) g)),(27,A 207 (i64.pr i64) c 0),(9,K 67 y67 d)]) H fun⟨l,k⟩ H =>
    fK<|fQ <|
    jB [2,7,8,9,19,20,21,27,28,29] H fun H =>
    q H
  exact vE<|fE<|w<|fX rfl<|fK<|n H
 exact vE<|fE<|o<|fX rfl<|t H
def G0H(e:j9)(d:List C0):List l8×List Int×List (List Int)->Option C6
 | (c,a,b) =>
 some (e,d,c,a,b,[])
def TQ(a:Int)(e:Int×List Int×List (List Int)×List l8->Option C6):List (List Int)×List Int×List l8->Option C6
 | (c,b,d) =>
 gd (j0 (a+1)/\True) <|
 e (a+1,b,c,d)
def TR(a:Int)(c:Int×List l8->Option C6):List l8->Option C6
 | b =>
 gd (j0 (a+1)/\True) <|
 c (a+1,b)
def Ll(d:List Int)(a:Int)(e:List (List Int))(c:Int)(i:Int×List l8->Option C6)(h:Int×List l8->Option C6):Int×List l8->Option C6
 | (b,f) =>
 if(decide (b<2)) then
  gd (ix a d.length/\a.toNat<d.length/\j0 ((2:Int)*d.getD a.toNat (0:Int))/\j0 ((2:Int)*d.getD a.toNat (0:Int)+b)/\j0 ((2:Int)*List.getD (e.getD a.toNat []) c.toNat (0:Int))/\j0 ((2:Int)*List.getD (e.getD a.toNat []) c.toNat (0:Int)+b)/\(f.length+[((2:Int)*d.getD a.toNat (0:Int)+b,(2:Int)*List.getD (e.getD a.toNat []) c.toNat (0:Int)+b,(2:Int),c)].length<=9223372036854775807/\(f.length+[((2:Int)*d.getD a.toNat (0:Int)+b,(2:Int)*List.getD (e.getD a.toNat []) c.toNat (0:Int)+b,(2:Int),c)].length)*32<=140737488355328)/\True)<|lt ((f++[((2:Int)*d.getD a.toNat (0:Int)+b,(2:Int)*List.getD (e.getD a.toNat []) c.toNat (0:Int)+b,(2:Int),c)],[((2:Int)*d.getD a.toNat (0:Int)+b,(2:Int)*List.getD (e.getD a.toNat []) c.toNat (0:Int)+b,(2:Int),c)])) fun(g,_) =>
  gd (j0 (b+1)/\True) <|
  h (b+1,g)
 else
  TR c i f
def GH(f:List Int)(a:Int)(c:List (List Int))(h:List (List Int))(g:List Int)(e:List Int)(i:List Int)(k:Int×List Int×List (List Int)×List l8->Option C6)(j:Int×List l8->Option C6):Int×List l8->Option C6
 | (b,d) =>
 if(decide (b < (↑(List.length (c.getD a.toNat [])):Int))) then
  gd (ix b (List.length (c.getD a.toNat []))/\True) <|
  lp (Ll f a c b j) (0,d)
 else
  TQ a k ((h++[g],e++[i.getD (Int.toNat (0:Int)) (0:Int)],d))
def TS(g:List Int)(f:List (List Int))(b:j9)(j:List C0)(k:Int×List Int×List (List Int)×List l8->Option C6):Int×List Int×List (List Int)×List l8->Option C6
 | (a,c,d,e) =>
 if(decide (a < (b.2.2.length:Int))) then
  gd ((BL b a).isSome/\ix (0:Int) (vl (BL b a)).length/\Int.toNat (0:Int) < (vl (BL b a)).length/\(c.length+[(vl (BL b a)).getD (Int.toNat (0:Int)) (0:Int)].length<=9223372036854775807/\(c.length+[(vl (BL b a)).getD (Int.toNat (0:Int)) (0:Int)].length)*8<=140737488355328)/\True)<|lt (vl (BL b a)) fun i =>
  gd ((Fl b a).isSome/\(d.length+[vl (Fl b a)].length<=9223372036854775807/\(d.length+[vl (Fl b a)].length)*24<=140737488355328)/\True)<|lt (vl (Fl b a)) fun h =>
  gd (ix a f.length/\True) <|
  lp (GH g a f d h c i k) (0,e)
 else
  G0H b j (e,c,d)
def TT(e:j9)(d:List C0)(b:List l8):List (List Int)×List Int->Option C6
 | (c,a) =>
 lp (TS a c e d) (0,[],[],b)
def Pj(a:Int)(d:Int×List (List Int)×List Int->Option C6):List Int×List (List Int)->Option C6
 | (b,c) =>
 gd (j0 (a+1)/\True) <|
 d (a+1,c,b)
def TU(e:List C0)(i:j9)(g:List l8)(h:Int×List (List Int)×List Int->Option C6):Int×List (List Int)×List Int->Option C6
 | (c,b,d) =>
 if(decide (c < (e.length:Int))) then
  gd (ix c e.length/\c.toNat<e.length/\True)<|lt (e.getD c.toNat (a6 y151)) fun a =>
  if a.2.2.2 then
   gd (ix a.2.2.1 d.length/\a.2.2.1.toNat<d.length/\True) <|
   Pj c h (d.set a.2.2.1.toNat c,b)
  else
   gd (ix a.2.2.1 b.length/\a.2.2.1.toNat<b.length/\((b.getD a.2.2.1.toNat []).length+[c].length<=9223372036854775807/\((b.getD a.2.2.1.toNat []).length+[c].length)*8<=140737488355328)/\ix a.2.2.1 b.length/\(a.2.2.1.toNat<b.length/\a.2.2.1.toNat=a.2.2.1.toNat)/\True)<|lt (b.set a.2.2.1.toNat (b.getD a.2.2.1.toNat []++[c])) fun f =>
   Pj c h (d,f)
 else
  TT i e g (b,d)
def Lm(c:List C0)(a:j9):List l8->Option C6
 | b =>
 gd ((0<=(a.2.2.length:Int)/\(a.2.2.length:Int)=(a.2.2.length:Int)/\(a.2.2.length:Int).toNat*8<=281474976710656/\(a.2.2.length:Int)<=9223372036854775807)/\True) <|
 gd ((0<=(a.2.2.length:Int)/\(a.2.2.length:Int)=(a.2.2.length:Int)/\(a.2.2.length:Int).toNat*24<=281474976710656/\(a.2.2.length:Int)<=9223372036854775807)/\True) <|
 lp (TU c a b) ((0,List.replicate (a.2.2.length:Int).toNat [],List.replicate (a.2.2.length:Int).toNat 0))
def G0G(a:j9)(f:List C0)(h:Int×Int×List l8->Option C6):Int×Int×List l8->Option C6
 | (c,d,e) =>
 if(decide (d < (a.2.1.1.length:Int))) then
  gd (ix d a.2.1.1.length/\True)<|lt (a.2.1.1.getD d.toNat (a6 y139)) fun b =>
  gd ((Fm a b c).isSome/\(e.length+(vl (Fm a b c)).length<=9223372036854775807/\(e.length+(vl (Fm a b c)).length)*32<=140737488355328)/\True)<|lt (vl (Fm a b c)) fun i =>
  gd ((D8 b.2.2).isSome/\j0 (c+vl (D8 b.2.2))/\True)<|lt (vl (D8 b.2.2)) fun g =>
  gd (j0 (d+1)/\True) <|
  h (c+g,d+1,e++i)
 else
  Lm f a e
def Ln(a:j9):Option C6 :=
 gd ((BK a.2.1).isSome/\True)<|lt (vl (BK a.2.1)) fun b =>
 lp (G0G a b) (0,0,[])
def k37:Ct:=k6 37 [.agg l9] (fun x=>Ln x.1) (fun r:C6=>D y157.pt r) (fun _=>())
theorem o37:Ok prog k37:=by
 refine l5 [.tmp 2] func37 ?_;intro y ⟨a,_⟩ r H Q hn hr;have:=hz (tc O0k (tc TL (tc Lj (tc o85 (tc Fk tn)))));refine iA [1]<|iD Fk [1,3] H fun d H=>iA [1,3,4]<|jN r (fun(e:List l8)=>Z [p 1 (R 1),p 3 (R 20)] ((20,bx 157 (Q1 a))::W6 d a e)) (Lm d a) (fun e H=>?_) (fun _ n0 e0 t0=>?_)
 ·refine iB [1,3,7] H fun H=>iB [1,3,7,8] H fun H=>jN r (fun((c,g):List (List Int)×List Int)=>Z (Ay [p 8 (AV.og 54)]) ((54,Ob.grd 37 2 true i64 c none)::(50,A 2 i64 g 0)::(20,bx 157 (Q1 a))::W6 d a e)) (TT a d e) (fun⟨c,g⟩ H=>?_) (fun _ n2 e2 t2=>?_)
  ·refine jN r (fun((E,w,z):List l8×List Int×List (List Int))=>Z [p 3 (R 20)] [(20,bx 157 (Q3 a)),(18,A 151 y151 d 0),(38,A 80 y80 E 0),(102,A 2 i64 w 0),(114,A 37 i64.sl z 0)]) (G0H a d) (fun⟨E,w,z⟩ H=>?_) (fun _ n5 e5 t5=>?_)
   ·refine iA [2]<|j5<|hr H
   refine iA [1,3,7,8,87,88]<|vB<|fZ 54 (Z (Ay [p 8 (M i64.sl c),p 87 (I (a.2.2.length:Int)),p 88 (I 0)]) ((50,A 2 i64 g 0)::(20,bx 157 (Q1 a))::W6 d a e))<|lX (fun((b,k,l,m):Int×List Int×List (List Int)×List l8)=>Z (Ay [p 8 (M i64.sl c),p 87 (I (a.2.2.length:Int)),p 88 (I b)]) [(50,A 2 i64 g 0),(20,bx 157 (Q3 a)),(18,A 151 y151 d 0),(1,K 34 l9 a),(38,A 80 y80 m 0),(102,A 2 i64 k 0),(114,A 37 i64.sl l 0)]) (0,[],[],e) H fun _ g6 b6 e6 t6 ⟨b,k,l,m⟩ H=>iA [1,3,7,8,87,88,89]<|vQ<|cD H (fun H=>?_) (fun H=>?_)
   ·refine vK<|fQ<|jN r (fun((W,V,v):List (List Int)×List Int×List l8)=>Z (Ay [p 8 (M i64.sl c),p 87 (I (a.2.2.length:Int)),p 88 (I b)]) ((20,bx 157 (Q3 a))::(114,A 37 i64.sl W 0)::(102,A 2 i64 V 0)::(50,A 2 i64 g 0)::W6 d a v)) (TQ b g6) (fun⟨W,V,v⟩ H=>?_) (fun _ n7 e7 t7=>?_)
    ·refine jB [1,3,7,8,87,88] H fun H=>b6 H
    refine vB<|iA [1,3,7,8,11,87,88]<|iD TL [1,3,7,8,11,87,88] H fun j H=>qD (fun i=>Z (Ay [p 8 (M i64.sl c),p 11 (I b),p 87 (I (a.2.2.length:Int)),p 88 (I b)]) ((20,bx 157 [L y64 a.1,L y139 a.2.1.1,L Ty.str a.2.1.2.1,L y202 a.2.1.2.2,L l7 a.2.2,AV.os 18 0,AV.os 38 0,AV.os 102 1,AV.os 114 1,nil])::(114,A 37 i64.sl (l++[i]) 1)::(113,A 37 i64.sl [i] 0)::(102,A 2 i64 (k++[j.getD (Int.toNat (0:Int)) (0:Int)]) 1)::(101,A 2 i64 [j.getD (Int.toNat (0:Int)) (0:Int)] 0)::(98,A 2 i64 j 0)::(50,A 2 i64 g 0)::W6 d a m)) H fun i H=>iB [1,3,7,8,11,87,88,120,121,122] H fun H=>vB<|lX (fun((f,t):Int×List l8)=>Z (Ay [p 8 (M i64.sl c),p 11 (I b),p 87 (I (a.2.2.length:Int)),p 88 (I b),p 120 (M i64 (c.getD b.toNat [])),p 121 (I (↑(List.length (c.getD b.toNat [])):Int)),p 122 (I f)]) ((20,bx 157 (Q3 a))::(114,A 37 i64.sl (l++[i]) 0)::(102,A 2 i64 (k++[j.getD (Int.toNat (0:Int)) (0:Int)]) 0)::(50,A 2 i64 g 0)::W6 d a t)) (0,m) H fun _ g8 b8 e8 t8 ⟨f,t⟩ H=>iA [1,3,7,8,11,87,88,120,121,122,123]<|vQ<|cD H (fun H=>?_) (fun H=>?_)
    ·refine vK<|fQ<|jN r (fun(F:List l8)=>Z (Ay [p 8 (M i64.sl c),p 11 (I b),p 87 (I (a.2.2.length:Int)),p 88 (I b),p 120 (M i64 (c.getD b.toNat [])),p 121 (I (↑(List.length (c.getD b.toNat [])):Int)),p 122 (I f)]) ((20,bx 157 (Q3 a))::(114,A 37 i64.sl (l++[i]) 0)::(102,A 2 i64 (k++[j.getD (Int.toNat (0:Int)) (0:Int)]) 0)::(50,A 2 i64 g 0)::W6 d a F)) (TR f g8) (fun F H=>?_) (fun _ n9 e9 t9=>?_)
     ·refine jB [1,3,7,8,11,87,88,120,121,122] H fun H=>b8 H
     refine vB<|iB [1,3,7,8,11,12,13,87,88,120,121,122] H fun H=>iA [1,3,7,8,11,12,13,87,88,120,121,122,127]<|vB<|lX (fun((s,X):Int×List l8)=>Z (Ay [p 8 (M i64.sl c),p 11 (I b),p 12 (I f),p 13 (I (List.getD (c.getD b.toNat []) f.toNat (0:Int))),p 87 (I (a.2.2.length:Int)),p 88 (I b),p 120 (M i64 (c.getD b.toNat [])),p 121 (I (↑(List.length (c.getD b.toNat [])):Int)),p 122 (I f),p 127 (I s)]) ((20,bx 157 (Q3 a))::(114,A 37 i64.sl (l++[i]) 0)::(102,A 2 i64 (k++[j.getD (Int.toNat (0:Int)) (0:Int)]) 0)::(50,A 2 i64 g 0)::W6 d a X)) (0,t) H fun _ aD aA aB aC ⟨s,X⟩ H=>iA [1,3,7,8,11,12,13,87,88,120,121,122,127,128]<|vQ<|cD H (fun H=>?_) (fun H=>?_)
     ·refine vK<|fQ<|vQ<|vB<|iA [1,3,7,8,11,12,13,14,87,88,120,121,122,127]<|zD (fun(x,G)=>Z (Ay [p 8 (M i64.sl c),p 11 (I b),p 12 (I f),p 13 (I (List.getD (c.getD b.toNat []) f.toNat (0:Int))),p 87 (I (a.2.2.length:Int)),p 88 (I b),p 120 (M i64 (c.getD b.toNat [])),p 121 (I (↑(List.length (c.getD b.toNat [])):Int)),p 122 (I f),p 127 (I s)]) [(20,bx 157 [L y64 a.1,L y139 a.2.1.1,L Ty.str a.2.1.2.1,L y202 a.2.1.2.2,L l7 a.2.2,AV.os 18 0,AV.os 38 1,AV.os 102 0,AV.os 114 0,nil]),(38,A 80 y80 x 1),(148,A 80 y80 G 0),(114,A 37 i64.sl (l++[i]) 0),(102,A 2 i64 (k++[j.getD (Int.toNat (0:Int)) (0:Int)]) 0),(50,A 2 i64 g 0),(18,A 151 y151 d 0),(1,K 34 l9 a)]) H fun⟨x,G⟩ H =>
       fK<|fQ <|
       jB [1,3,7,8,11,12,13,87,88,120,121,122,127] H fun H =>
       aA H
     exact vE<|fE<|aB<|fX rfl<|fK<|n9 H
    exact vE<|fE<|e8<|fX rfl<|fK<|n7 H
   exact vE<|fE<|e6<|fX rfl<|n5 H
  refine iA [1,3,7,8,58,59,60]<|vB<|lX (fun((h,q,n):Int×List (List Int)×List Int)=>Z (Ay [p 8 (AV.og 54),p 58 (O 18),p 59 (I (d.length:Int)),p 60 (I h)]) ((54,Ob.grd 37 2 true i64 q none)::(50,A 2 i64 n 0)::(20,bx 157 (Q1 a))::W6 d a e)) ((0,List.replicate (a.2.2.length:Int).toNat [],List.replicate (a.2.2.length:Int).toNat 0)) H fun _ g3 b3 e3 t3 ⟨h,q,n⟩ H=>iA [1,3,7,8,58,59,60,61]<|vQ<|cD H (fun H=>?_) (fun H=>?_)
  ·refine vK<|fQ<|jN r (fun((T,P):List Int×List (List Int))=>Z (Ay [p 8 (AV.og 54),p 58 (O 18),p 59 (I (d.length:Int)),p 60 (I h)]) ((50,A 2 i64 T 0)::(54,Ob.grd 37 2 true i64 P none)::(20,bx 157 (Q1 a))::W6 d a e)) (Pj h g3) (fun⟨T,P⟩ H=>?_) (fun _ n4 e4 t4=>?_)
   ·refine jB [1,3,7,8,58,59,60] H fun H=>b3 H
   refine vB<|qD (fun o=>Z (Ay [p 8 (AV.og 54),p 9 (I h),p 10 (R 10),p 58 (O 18),p 59 (I (d.length:Int)),p 60 (I h)]) ((10,bx 151 (r5 true y151 o))::(54,Ob.grd 37 2 true i64 q none)::(50,A 2 i64 n 0)::(20,bx 157 (Q1 a))::W6 d a e)) H fun o H=>iA [1,3,7,8,9,10,58,59,60,66]<|cD H (fun H=>jB [1,3,7,8,58,59,60] H fun H=>fK<|n4 H) fun H=>zD (fun u=>Z (Ay [p 8 (AV.og 54),p 58 (O 18),p 59 (I (d.length:Int)),p 60 (I h)]) ((54,Ob.grd 37 2 true i64 u none)::(79,A 2 i64 [] 2)::(81,A 2 i64 [h] 0)::(10,bx 151 (r5 true y151 o))::(50,A 2 i64 n 0)::(20,bx 157 (Q1 a))::W6 d a e)) H fun u H=>fK<|n4 H
  exact vE<|fE<|e3<|fX rfl<|n2 H
 refine iA [1,3,4,23,24,25]<|vB<|lX (fun((Y,v5,v6):Int×Int×List l8)=>Z [p 1 (R 1),p 3 (R 20),p 4 (I Y),p 23 (L y139 a.2.1.1),p 24 (I (a.2.1.1.length:Int)),p 25 (I v5)] ((20,bx 157 (Q1 a))::W6 d a v6)) (0,0,[]) H fun _ g1 b1 e1 t1 ⟨Y,v5,v6⟩ H=>iA [1,3,4,23,24,25,26]<|vQ<|cD H (fun H=>vK<|fQ<|vQ<|vB<|qD (fun v7=>Z [p 1 (R 1),p 3 (R 20),p 4 (I Y),p 6 (R 6),p 23 (L y139 a.2.1.1),p 24 (I (a.2.1.1.length:Int)),p 25 (I v5)] ((6,K 139 y139 v7)::(20,bx 157 (Q1 a))::W6 d a v6)) H fun v7 H=>iD o85 [1,3,4,6,23,24,25] H fun _ H=>jD Lj [1,3,4,23,24,25] H fun _ H=>fK<|fQ<|jB [1,3,4,23,24,25] H fun H=>b1 H) fun H=>vE<|fE<|e1<|fX rfl<|n0 H
def Lo(b:Int)(a:Int)(c:Int):Option Bool :=
 gd ((B4 b a c).isSome/\True) <|
 some (!vl (B4 b a c))
def Q0s:Ct:=k6 172 [.dat i64,.dat (.pt i64),.dat (.pt i64)] (fun x=>Lo x.1 x.2.1 x.2.2.1) (fun r:Bool=>B r) (fun _=>())
theorem TV:Ok prog Q0s:=by
 refine l5 [.tmp 4] func172 ?_;intro y ⟨_,_,_,_⟩ r H Q hn hr;have:=hz (tc Ai tn);refine iA [0,1,2]<|iB [4] H fun H=>j5<|hr H
def j0H:Unit->Option Int
 | _ =>
 some (-1)
def r0M(b:List Int)(c:Int×Int)(d:Int->Option Int):Int->Option Int
 | a =>
 if(decide (a < (b.length:Int))) then
  gd (ix a b.length/\(Lo (b.getD a.toNat 0) c.1 c.2).isSome/\True) <|
  if(vl (Lo (b.getD a.toNat 0) c.1 c.2)) then
   some a
  else
   gd (j0 (a+1)/\True) <|
   d (a+1)
 else
  j0H ()
def Pk(b:List Int)(a:Int×Int):Option Int :=
 lp (r0M b a) 0
def z0e:Ct:=k6 200 [.dat i64.sl,.fn 172 (.pr i64.pt i64.pt)] (fun x=>Pk x.1 x.2.1) (fun r:Int=>I r) (fun _=>())
theorem TW:Ok prog z0e:=by
 refine l5 [.tmp 4] func200 ?_;intro y ⟨c,b,_⟩ r H Q hn hr;have:=hz (tc TV tn);refine iA [0,1]<|jN r (fun(_:Unit)=>Z [] []) (j0H) (fun _ H=>?_) (fun _ d i g=>?_)
 ·refine iA [4]<|j5<|hr H
 refine iA [0,1,7,8]<|vB<|lX (fun(a:Int)=>Z [p 0 (L i64 c),p 1 (AV.fn 172 [D i64.pt b.1,D i64.pt b.2]),p 7 (I (c.length:Int)),p 8 (I a)] []) 0 H fun _ j h f e a H=>iA [0,1,7,8,9]<|vQ<|cD H (fun H=>?_) (fun H=>?_)
 ·refine vK<|fQ<|vQ<|vB<|iA [0,1,5,7,8]<|iB [0,1,5,7,8,16] H fun H=>cD H (fun H=>iA [4]<|j5<|m4<|fR<|e<|m4<|g<|hr H) fun H=>vK<|fK<|fQ<|jB [0,1,7,8] H fun H=>h H
 exact vE<|fE<|f<|fX rfl<|d H
def Pl(a:List Int)(b:Int×Int):Option Bool :=
 gd ((Pk a b).isSome/\True)<|lt (vl (Pk a b)) fun c =>
 some (decide (0<=c))
def z0h:Ct:=k6 171 [.dat i64.sl,.fn 172 (.pr (.pt i64) (.pt i64))] (fun x=>Pl x.1 x.2.1) (fun r:Bool=>B r) (fun _=>())
theorem q0v:Ok prog z0h:=by
 refine l5 [.tmp 4] func171 ?_;intro y ⟨_,_,_⟩ r H Q hn hr;have:=hz (tc TW (tc TV tn));refine iA [0,1]<|iD TW [4] H fun _ H=>j5<|hr H
def I9(b:List Int)(a:Int)(c:Int):Option Bool :=
 gd ((Pl b (a,c)).isSome/\True) <|
 some (!vl (Pl b (a,c)))
def R0i:Ct:=k6 123 [.dat i64.sl,.dat i64,.dat i64] (fun x=>I9 x.1 x.2.1 x.2.2.1) (fun r:Bool=>B r) (fun _=>())
theorem Lp:Ok prog R0i:=by
 refine l5 [.tmp 6] func123 ?_;intro y ⟨_,_,_,_⟩ r H Q hn hr;have:=hz (tc q0v (tc TV tn));refine iA [0,4,5]<|iB [6] H fun H=>j5<|hr H
def B0e:Unit->Option Bool
 | _ =>
 some true
def B0d(b:z6)(c:Int->Option Bool):Int->Option Bool
 | a =>
 if(decide (a < (b.1.length:Int))) then
  gd (ix a b.1.length/\True) <|
  gd (((b.1.getD a.toNat (0:Int) != (-1:Int))=false/\(a==(0:Int))=true/\True->ix (0:Int) b.2.1.length)/\(decide ((0:Int)<a)=true/\(a==(0:Int)&&(b.1.getD a.toNat (0:Int) != (-1:Int)||b.2.1.getD (Int.toNat (0:Int)) (0:Int) != (0:Int)))=false/\True->j0 (a-(1:Int)))/\(decide ((0:Int)<a)=true/\(a==(0:Int)&&(b.1.getD a.toNat (0:Int) != (-1:Int)||b.2.1.getD (Int.toNat (0:Int)) (0:Int) != (0:Int)))=false/\True->(B4 (b.1.getD a.toNat (0:Int)) (0:Int) (a-(1:Int))).isSome)/\True) <|
  if(a==(0:Int)&&(b.1.getD a.toNat (0:Int) != (-1:Int)||b.2.1.getD (Int.toNat (0:Int)) (0:Int) != (0:Int))||decide ((0:Int)<a)&&!vl (B4 (b.1.getD a.toNat (0:Int)) (0:Int) (a-(1:Int)))) then
   some false
  else
   gd (j0 (a+1)/\True) <|
   c (a+1)
 else
  B0e ()
def Cw(a:z6):Option Bool :=
 lp (B0d a) 0
def Q0U:Ct:=k6 139 [.agg l7] (fun x=>Cw x.1) (fun r:Bool=>B r) (fun _=>())
theorem O0W:Ok prog Q0U:=by
 refine l5 [.tmp 2] func139 ?_;intro y ⟨a,_⟩ r H Q hn hr;have:=hz (tc Ai tn);refine iA [1]<|jN r (fun(_:Unit)=>Z [] []) (B0e) (fun _ H=>?_) (fun _ c h f=>?_)
 ·refine iA [2]<|j5<|hr H
 refine iA [1,6,7,8]<|vB<|lX (fun(b:Int)=>Z [p 1 (R 1),p 6 (L i64 a.1),p 7 (I (a.1.length:Int)),p 8 (I b)] [(1,K 153 l7 a)]) 0 H fun _ i g e d b H=>iA [1,6,7,8,9]<|vQ<|cD H (fun H=>?_) (fun H=>?_)
 ·refine vK<|fQ<|vQ<|vB<|iB [1,3,4,6,7,8] H fun H=>iB [1,6,7,8,36] H fun H=>cD H (fun H=>iA [2]<|j5<|m4<|fR<|d<|m4<|f<|hr H) fun H=>vK<|fK<|fQ<|jB [1,6,7,8] H fun H=>g H
 exact vE<|fE<|e<|fX rfl<|c H
def Lq(a:z6)(c:Int):Option Bool :=
 gd ((D8 a.1).isSome/\True)<|lt (vl (D8 a.1)) fun b =>
 gd ((B4 b 1 8).isSome/\(vl (B4 b 1 8)=true/\True->(D8 a.2.1).isSome)/\((vl (B4 b 1 8)&&vl (D8 a.2.1)==b)=true/\True->(D8 a.2.2.1).isSome)/\((vl (B4 b 1 8)&&vl (D8 a.2.1)==b&&vl (D8 a.2.2.1)==b)=true/\True->(Cw a).isSome)/\((vl (B4 b 1 8)&&vl (D8 a.2.1)==b&&vl (D8 a.2.2.1)==b&&vl (Cw a))=true/\True->(I9 a.2.1 0 1000).isSome)/\((vl (B4 b 1 8)&&vl (D8 a.2.1)==b&&vl (D8 a.2.2.1)==b&&vl (Cw a)&&vl (I9 a.2.1 0 1000))=true/\True->(I9 a.2.2.1 0 500).isSome)/\((vl (B4 b 1 8)&&vl (D8 a.2.1)==b&&vl (D8 a.2.2.1)==b&&vl (Cw a)&&vl (I9 a.2.1 0 1000)&&vl (I9 a.2.2.1 0 500))=true/\True->(D8 a.2.2.2).isSome)/\((vl (B4 b 1 8)&&vl (D8 a.2.1)==b&&vl (D8 a.2.2.1)==b&&vl (Cw a)&&vl (I9 a.2.1 0 1000)&&vl (I9 a.2.2.1 0 500)&&vl (D8 a.2.2.2)==c)=true/\True->j0 (b-1))/\((vl (B4 b 1 8)&&vl (D8 a.2.1)==b&&vl (D8 a.2.2.1)==b&&vl (Cw a)&&vl (I9 a.2.1 0 1000)&&vl (I9 a.2.2.1 0 500)&&vl (D8 a.2.2.2)==c)=true/\True->(I9 a.2.2.2 0 (b-1)).isSome)/\True)<|lt ((vl (D8 a.2.1),vl (D8 a.2.2.1),vl (D8 a.2.2.2))) fun(e,f,d) =>
 some (vl (B4 b 1 8)&&e==b&&f==b&&vl (Cw a)&&vl (I9 a.2.1 0 1000)&&vl (I9 a.2.2.1 0 500)&&d==c&&vl (I9 a.2.2.2 0 (b-1)))
def k84:Ct:=k6 84 [.agg l7,.dat i64] (fun x=>Lq x.1 x.2.1) (fun r:Bool=>B r) (fun _=>())
theorem o84:Ok prog k84:=by
 refine l5 [.tmp 4] func84 ?_;intro y ⟨a,f,_⟩ r H Q hn hr;have:=hz (tc Lp (tc Lj (tc O0W (tc Ai tn))));refine iA [1,2]<|iD Lj [1,2,5] H fun b H=>qD (fun(d,e,c)=>Z [p 4 (B (vl (B4 b 1 8)&&d==b&&e==b&&vl (Cw a)&&vl (I9 a.2.1 0 1000)&&vl (I9 a.2.2.1 0 500)&&c==f&&vl (I9 a.2.2.2 0 (b-1))))] [(2,K 153 l7 a)]) H fun⟨d,e,c⟩ H =>
  j5<|hr H
def TX(a:Int):Option Bool :=
 some (a != 1)
def Q0V:Ct:=k6 138 [.dat i64] (fun x=>TX x.1) (fun r:Bool=>B r) (fun _=>())
theorem TY:Ok prog Q0V:=by
 refine l5 [.tmp 2] func138 ?_;intro y ⟨_,_⟩ r H Q hn hr;refine iA [0]<|iA [2]<|j5<|hr H
def IA(a:List ByteArray):Option Int :=
 some (a.length:Int)
def Q0m:Ct:=k6 178 [.dat Ty.str.sl] (fun x=>IA x.1) (fun r:Int=>I r) (fun _=>())
theorem O0H:Ok prog Q0m:=by
 refine l5 [.tmp 2] func178 ?_;intro y ⟨_,_⟩ r H Q hn hr;refine iA [0]<|iA [2]<|j5<|hr H
def GI(a:r9)(b:Int):Option Bool :=
 gd ((IA a.2.1).isSome/\j0 (vl (IA a.2.1)-1)/\(B4 b 0 (vl (IA a.2.1)-1)).isSome/\True) <|
 some (vl (B4 b 0 (vl (IA a.2.1)-1)))
def Q0W:Ct:=k6 136 [.agg y31,.dat i64] (fun x=>GI x.1 x.2.1) (fun r:Bool=>B r) (fun _=>())
theorem M0N:Ok prog Q0W:=by
 refine l5 [.tmp 4] func136 ?_;intro y ⟨_,_,_⟩ r H Q hn hr;have:=hz (tc Ai (tc O0H tn));refine iA [1,2]<|iB [4] H fun H=>j5<|hr H
def Fo(a:List m5):Option Int :=
 some (a.length:Int)
def Q0o:Ct:=k6 176 [.dat y64.sl] (fun x=>Fo x.1) (fun r:Int=>I r) (fun _=>())
theorem O0I:Ok prog Q0o:=by
 refine l5 [.tmp 2] func176 ?_;intro y ⟨_,_⟩ r H Q hn hr;refine iA [0]<|iA [2]<|j5<|hr H
def Lr(b:Int)(a:r9):Option Bool :=
 gd ((GI a b).isSome/\True) <|
 some (!vl (GI a b))
def Q0n:Ct:=k6 177 [.dat i64,.dat (.pt y31)] (fun x=>Lr x.1 x.2.1) (fun r:Bool=>B r) (fun _=>())
theorem TZ:Ok prog Q0n:=by
 refine l5 [.tmp 3] func177 ?_;intro y ⟨_,_,_⟩ r H Q hn hr;have:=hz (tc M0N tn);refine iA [0,1]<|iB [3] H fun H=>j5<|hr H
def j0G:Unit->Option Int
 | _ =>
 some (-1)
def r0L(b:List Int)(c:r9)(d:Int->Option Int):Int->Option Int
 | a =>
 if(decide (a < (b.length:Int))) then
  gd (ix a b.length/\(Lr (b.getD a.toNat 0) c).isSome/\True) <|
  if(vl (Lr (b.getD a.toNat 0) c)) then
   some a
  else
   gd (j0 (a+1)/\True) <|
   d (a+1)
 else
  j0G ()
def Pm(b:List Int)(a:r9):Option Int :=
 lp (r0L b a) 0
def z0d:Ct:=k6 200 [.dat i64.sl,.fn 177 y31.pt] (fun x=>Pm x.1 x.2.1) (fun r:Int=>I r) (fun _=>())
theorem q0t:Ok prog z0d:=by
 refine l5 [.tmp 4] func200 ?_;intro y ⟨b,c,_⟩ r H Q hn hr;have:=hz (tc TZ tn);refine iA [0,1]<|jN r (fun(_:Unit)=>Z [] []) (j0G) (fun _ H=>?_) (fun _ d i g=>?_)
 ·refine iA [4]<|j5<|hr H
 refine iA [0,1,7,8]<|vB<|lX (fun(a:Int)=>Z [p 0 (L i64 b),p 1 (AV.fn 177 [D y31.pt c]),p 7 (I (b.length:Int)),p 8 (I a)] []) 0 H fun _ j h f e a H=>iA [0,1,7,8,9]<|vQ<|cD H (fun H=>?_) (fun H=>?_)
 ·refine vK<|fQ<|vQ<|vB<|iA [0,1,5,7,8]<|iB [0,1,5,7,8,16] H fun H=>cD H (fun H=>iA [4]<|j5<|m4<|fR<|e<|m4<|g<|hr H) fun H=>vK<|fK<|fQ<|jB [0,1,7,8] H fun H=>h H
 exact vE<|fE<|f<|fX rfl<|d H
def Pn(a:List Int)(b:r9):Option Bool :=
 gd ((Pm a b).isSome/\True)<|lt (vl (Pm a b)) fun c =>
 some (decide (0<=c))
def z0g:Ct:=k6 171 [.dat i64.sl,.fn 177 (.pt y31)] (fun x=>Pn x.1 x.2.1) (fun r:Bool=>B r) (fun _=>())
theorem y0D:Ok prog z0g:=by
 refine l5 [.tmp 4] func171 ?_;intro y ⟨_,_,_⟩ r H Q hn hr;have:=hz (tc TW (tc q0t (tc TZ tn)));refine iA [0,1]<|iD q0t [4] H fun _ H=>j5<|hr H
def Ls(c:r9)(b:List m5)(a:o3):Option Bool :=
 gd ((Fo b).isSome/\j0 (vl (Fo b)-1)/\(B4 a.2.1 0 (vl (Fo b)-1)).isSome/\(vl (B4 a.2.1 0 (vl (Fo b)-1))=true/\True->ix a.2.1 b.length)/\((vl (B4 a.2.1 0 (vl (Fo b)-1))&&(a.2.2.length:Int)==(↑(b.getD a.2.1.toNat (a6 y64)).2.2.1.length:Int))=true/\True->(Pn a.2.2 c).isSome)/\True) <|
 some (vl (B4 a.2.1 0 (vl (Fo b)-1))&&(a.2.2.length:Int)==(↑(b.getD a.2.1.toNat (a6 y64)).2.2.1.length:Int)&&!vl (Pn a.2.2 c))
def Q0X:Ct:=k6 135 [.agg y31,.agg y64.sl,.agg y139] (fun x=>Ls x.1 x.2.1 x.2.2.1) (fun r:Bool=>B r) (fun _=>())
theorem O0X:Ok prog Q0X:=by
 refine l5 [.tmp 6] func135 ?_;intro y ⟨_,_,_,_⟩ r H Q hn hr;have:=hz (tc q0v (tc y0D (tc TZ (tc Ai (tc O0I tn)))));refine iA [3,4,5]<|iB [6] H fun H=>j5<|hr H
def A0l:Unit->Option Int
 | _ =>
 some (-1)
def H0d(d:ByteArray)(b:List ByteArray)(c:Int->Option Int):Int->Option Int
 | a =>
 if(decide (a < (b.length:Int))) then
  gd (ix a b.length/\True) <|
  if(decide (d=b.getD a.toNat (a6 Ty.str))) then
   some a
  else
   gd (j0 (a+1)/\True) <|
   c (a+1)
 else
  A0l ()
def Po(b:List ByteArray)(a:ByteArray):Option Int :=
 lp (H0d a b) 0
def P0H:Ct:=k6 225 [.dat Ty.str.sl,.dat Ty.str] (fun x=>Po x.1 x.2.1) (fun r:Int=>I r) (fun _=>())
theorem M0t:Ok prog P0H:=by
 refine l5 [.tmp 4] func225 ?_;intro y ⟨b,c,_⟩ r H Q hn hr;refine iA [0,1]<|jN r (fun(_:Unit)=>Z [] []) (A0l) (fun _ H=>?_) (fun _ d i g=>?_)
 ·refine iA [4]<|j5<|hr H
 refine iA [0,1,7,8]<|vB<|lX (fun(a:Int)=>Z [p 0 (L Ty.str b),p 1 (U c),p 7 (I (b.length:Int)),p 8 (I a)] []) 0 H fun _ j h f e a H=>iA [0,1,7,8,9]<|vQ<|cD H (fun H=>?_) (fun H=>?_)
 ·refine vK<|fQ<|vQ<|vB<|iA [0,1,5,7,8]<|iB [0,1,5,7,8,16] H fun H=>cD H (fun H=>iA [4]<|j5<|m4<|fR<|e<|m4<|g<|hr H) fun H=>vK<|fK<|fQ<|jB [0,1,7,8] H fun H=>h H
 exact vE<|fE<|f<|fX rfl<|d H
def Pp(a:List ByteArray)(b:ByteArray):Option Bool :=
 gd ((Po a b).isSome/\True)<|lt (vl (Po a b)) fun c =>
 some (decide (0<=c))
def P0W:Ct:=k6 204 [.dat Ty.str.sl,.dat Ty.str] (fun x=>Pp x.1 x.2.1) (fun r:Bool=>B r) (fun _=>())
theorem O0A:Ok prog P0W:=by
 refine l5 [.tmp 4] func204 ?_;intro y ⟨_,_,_⟩ r H Q hn hr;have:=hz (tc M0t tn);refine iA [0,1]<|iD M0t [4] H fun _ H=>j5<|hr H
def R7(a:ByteArray):Option Bool :=
 gd ((B4 (a.size:Int) (1:Int) (8:Int)).isSome/\(vl (B4 (a.size:Int) (1:Int) (8:Int))=true/\True->(Fp a (ByteArray.mk #[(97:UInt8),(98:UInt8),(99:UInt8),(100:UInt8),(101:UInt8),(102:UInt8),(103:UInt8),(104:UInt8),(105:UInt8),(106:UInt8),(107:UInt8),(108:UInt8),(109:UInt8),(110:UInt8),(111:UInt8),(112:UInt8),(113:UInt8),(114:UInt8),(115:UInt8),(116:UInt8),(117:UInt8),(118:UInt8),(119:UInt8),(120:UInt8),(121:UInt8),(122:UInt8),(48:UInt8),(49:UInt8),(50:UInt8),(51:UInt8),(52:UInt8),(53:UInt8),(54:UInt8),(55:UInt8),(56:UInt8),(57:UInt8)])).isSome)/\((vl (B4 (a.size:Int) (1:Int) (8:Int))&&decide (vl (Fp a (ByteArray.mk #[(97:UInt8),(98:UInt8),(99:UInt8),(100:UInt8),(101:UInt8),(102:UInt8),(103:UInt8),(104:UInt8),(105:UInt8),(106:UInt8),(107:UInt8),(108:UInt8),(109:UInt8),(110:UInt8),(111:UInt8),(112:UInt8),(113:UInt8),(114:UInt8),(115:UInt8),(116:UInt8),(117:UInt8),(118:UInt8),(119:UInt8),(120:UInt8),(121:UInt8),(122:UInt8),(48:UInt8),(49:UInt8),(50:UInt8),(51:UInt8),(52:UInt8),(53:UInt8),(54:UInt8),(55:UInt8),(56:UInt8),(57:UInt8)]))=ByteArray.mk #[]))=true/\True->ix (0:Int) a.size)/\((vl (B4 (a.size:Int) (1:Int) (8:Int))&&decide (vl (Fp a (ByteArray.mk #[(97:UInt8),(98:UInt8),(99:UInt8),(100:UInt8),(101:UInt8),(102:UInt8),(103:UInt8),(104:UInt8),(105:UInt8),(106:UInt8),(107:UInt8),(108:UInt8),(109:UInt8),(110:UInt8),(111:UInt8),(112:UInt8),(113:UInt8),(114:UInt8),(115:UInt8),(116:UInt8),(117:UInt8),(118:UInt8),(119:UInt8),(120:UInt8),(121:UInt8),(122:UInt8),(48:UInt8),(49:UInt8),(50:UInt8),(51:UInt8),(52:UInt8),(53:UInt8),(54:UInt8),(55:UInt8),(56:UInt8),(57:UInt8)]))=ByteArray.mk #[]))=true/\True->(Pq (ByteArray.mk #[(97:UInt8),(98:UInt8),(99:UInt8),(100:UInt8),(101:UInt8),(102:UInt8),(103:UInt8),(104:UInt8),(105:UInt8),(106:UInt8),(107:UInt8),(108:UInt8),(109:UInt8),(110:UInt8),(111:UInt8),(112:UInt8),(113:UInt8),(114:UInt8),(115:UInt8),(116:UInt8),(117:UInt8),(118:UInt8),(119:UInt8),(120:UInt8),(121:UInt8),(122:UInt8)]) (F5 a (Int.toNat (0:Int)))).isSome)/\True)<|lt ((vl (Fp a (ByteArray.mk #[97,98,99,100,101,102,103,104,105,106,107,108,109,110,111,112,113,114,115,116,117,118,119,120,121,122,48,49,50,51,52,53,54,55,56,57])),vl (Pq (ByteArray.mk #[(97:UInt8),(98:UInt8),(99:UInt8),(100:UInt8),(101:UInt8),(102:UInt8),(103:UInt8),(104:UInt8),(105:UInt8),(106:UInt8),(107:UInt8),(108:UInt8),(109:UInt8),(110:UInt8),(111:UInt8),(112:UInt8),(113:UInt8),(114:UInt8),(115:UInt8),(116:UInt8),(117:UInt8),(118:UInt8),(119:UInt8),(120:UInt8),(121:UInt8),(122:UInt8)]) (F5 a (Int.toNat (0:Int)))))) fun(b,c) =>
 some (vl (B4 (a.size:Int) 1 8)&&decide (b=ByteArray.mk #[])&&decide (0<=c))
def R0r:Ct:=k6 111 [.dat Ty.str] (fun x=>R7 x.1) (fun r:Bool=>B r) (fun _=>())
theorem Ua:Ok prog R0r:=by
 refine l5 [.tmp 2] func111 ?_;intro y ⟨c,_⟩ r H Q hn hr;have:=hz (tc O0P (tc O0Q (tc Ai tn)));refine iA [0]<|qD (fun(a,b)=>Z [p 2 (B (vl (B4 (c.size:Int) 1 8)&&decide (a=ByteArray.mk #[])&&decide (0<=b)))] []) H fun⟨a,b⟩ H =>
  j5<|hr H
def A0I:Unit->Option Bool
 | _ =>
 some true
def A0H(b:List ByteArray)(c:Int->Option Bool):Int->Option Bool
 | a =>
 if(decide (a < (b.length:Int))) then
  gd (ix a b.length/\True) <|
  gd ((R7 (b.getD a.toNat (a6 Ty.str))).isSome/\((!vl (R7 (b.getD a.toNat (a6 Ty.str))))=false/\True->(0:Int)<=(0:Int)/\(0:Int)<=a/\a<=(b.length:Int))/\((!vl (R7 (b.getD a.toNat (a6 Ty.str))))=false/\True->(Pp (List.take a.toNat b) (b.getD a.toNat (a6 Ty.str))).isSome)/\True) <|
  if(!vl (R7 (b.getD a.toNat (a6 Ty.str)))||vl (Pp (List.take a.toNat b) (b.getD a.toNat (a6 Ty.str)))) then
   some false
  else
   gd (j0 (a+1)/\True) <|
   c (a+1)
 else
  A0I ()
def Y9(a:List ByteArray):Option Bool :=
 lp (A0H a) 0
def Q0p:Ct:=k6 175 [.dat Ty.str.sl] (fun x=>Y9 x.1) (fun r:Bool=>B r) (fun _=>())
theorem Ub:Ok prog Q0p:=by
 refine l5 [.tmp 2] func175 ?_;intro y ⟨a,_⟩ r H Q hn hr;have:=hz (tc O0A (tc Ua tn));refine iA [0]<|jN r (fun(_:Unit)=>Z [] []) (A0I) (fun _ H=>?_) (fun _ c h f=>?_)
 ·refine iA [2]<|j5<|hr H
 refine iA [0,5,6,7]<|vB<|lX (fun(b:Int)=>Z [p 0 (L Ty.str a),p 5 (L Ty.str a),p 6 (I (a.length:Int)),p 7 (I b)] []) 0 H fun _ i g e d b H=>iA [0,5,6,7,8]<|vQ<|cD H (fun H=>?_) (fun H=>?_)
 ·refine vK<|fQ<|vQ<|vB<|iB [0,3,4,5,6,7] H fun H=>iB [0,5,6,7,21] H fun H=>cD H (fun H=>iA [2]<|j5<|m4<|fR<|d<|m4<|f<|hr H) fun H=>vK<|fK<|fQ<|jB [0,5,6,7] H fun H=>g H
 exact vE<|fE<|e<|fX rfl<|c H
def Lt(a:List ByteArray)(b:r9):List ByteArray->Option Bool
 | c =>
 gd (((decide ((a.length:Int)<=14)&&decide ((b.2.1.length:Int)<=30)&&decide ((c.length:Int)<=8))=true/\True->(Y9 a).isSome)/\((decide ((a.length:Int)<=14)&&decide ((b.2.1.length:Int)<=30)&&decide ((c.length:Int)<=8)&&vl (Y9 a))=true/\True->(Y9 b.2.1).isSome)/\((decide ((a.length:Int)<=14)&&decide ((b.2.1.length:Int)<=30)&&decide ((c.length:Int)<=8)&&vl (Y9 a)&&vl (Y9 b.2.1))=true/\True->(Y9 c).isSome)/\True) <|
 some (decide ((a.length:Int)<=14)&&decide ((b.2.1.length:Int)<=30)&&decide ((c.length:Int)<=8)&&vl (Y9 a)&&vl (Y9 b.2.1)&&vl (Y9 c))
def B0f(c:r9)(e:List ByteArray)(f:List ByteArray×Int->Option Bool):List ByteArray×Int->Option Bool
 | (b,a) =>
 if(decide (a < (c.2.2.length:Int))) then
  gd (ix a c.2.2.length/\True)<|lt (c.2.2.getD a.toNat (a6 y202)) fun d =>
  gd ((b.length+[d.1].length<=9223372036854775807/\(b.length+[d.1].length)*16<=140737488355328)/\True) <|
  gd (j0 (a+1)/\True) <|
  f (b++[d.1],a+1)
 else
  Lt e c b
def Lu(b:r9):List ByteArray->Option Bool
 | a =>
 lp (B0f b a) ([],0)
def B0g(b:r9)(e:List ByteArray×Int->Option Bool):List ByteArray×Int->Option Bool
 | (c,a) =>
 if(decide (a < (b.1.length:Int))) then
  gd (ix a b.1.length/\True)<|lt (b.1.getD a.toNat (a6 y139)) fun d =>
  gd ((c.length+[d.1].length<=9223372036854775807/\(c.length+[d.1].length)*16<=140737488355328)/\True) <|
  gd (j0 (a+1)/\True) <|
  e (c++[d.1],a+1)
 else
  Lu b c
def Pr(a:r9):Option Bool :=
 lp (B0g a) ([],0)
def Q0Y:Ct:=k6 134 [.agg y31] (fun x=>Pr x.1) (fun r:Bool=>B r) (fun _=>())
theorem O0Y:Ok prog Q0Y:=by
 refine l5 [.tmp 2] func134 ?_;intro y ⟨a,_⟩ r H Q hn hr;have:=hz (tc Ub tn);refine iA [1]<|iA [1,3,4]<|jN r (fun(b:List ByteArray)=>Z (Dh [p 4 (nil)]) [(1,K 31 y31 a),(20,A 9 Ty.str b 0)]) (Lu a) (fun b H=>?_) (fun _ m u s=>?_)
 ·refine jN r (fun(h:List ByteArray)=>Z (Dh [p 4 (O 33)]) [(1,K 31 y31 a),(20,A 9 Ty.str b 0),(33,A 9 Ty.str h 0)]) (Lt b a) (fun h H=>?_) (fun _ j v q=>?_)
  ·refine iB [2] H fun H=>j5<|hr H
  refine iA [1,3,4,23,24,25]<|vB<|lX (fun((e,c):List ByteArray×Int)=>Z (Dh [p 4 (O 33),p 23 (L y202 a.2.2),p 24 (I (a.2.2.length:Int)),p 25 (I c)]) [(1,K 31 y31 a),(20,A 9 Ty.str b 0),(33,A 9 Ty.str e 0)]) ([],0) H fun _ t l n w ⟨e,c⟩ H=>iA [1,3,4,23,24,25,26]<|vQ<|cD H (fun H=>vK<|fQ<|vQ<|vB<|qD (fun i=>Z (Dh [p 4 (O 33),p 8 (R 8),p 23 (L y202 a.2.2),p 24 (I (a.2.2.length:Int)),p 25 (I c)]) [(8,K 202 y202 i),(1,K 31 y31 a),(20,A 9 Ty.str b 0),(33,A 9 Ty.str e 0)]) H fun i H=>jB [1,3,4,23,24,25] H fun H=>fK<|fQ<|jB [1,3,4,23,24,25] H fun H=>l H) fun H=>vE<|fE<|n<|fX rfl<|j H
 refine iA [1,3,4,10,11,12]<|vB<|lX (fun((f,d):List ByteArray×Int)=>Z (Dh [p 4 (nil),p 10 (L y139 a.1),p 11 (I (a.1.length:Int)),p 12 (I d)]) [(1,K 31 y31 a),(20,A 9 Ty.str f 0)]) ([],0) H fun _ z o k x ⟨f,d⟩ H=>iA [1,3,4,10,11,12,13]<|vQ<|cD H (fun H=>vK<|fQ<|vQ<|vB<|qD (fun g=>Z (Dh [p 4 (nil),p 6 (R 6),p 10 (L y139 a.1),p 11 (I (a.1.length:Int)),p 12 (I d)]) [(6,K 139 y139 g),(1,K 31 y31 a),(20,A 9 Ty.str f 0)]) H fun g H=>jB [1,3,4,10,11,12] H fun H=>fK<|fQ<|jB [1,3,4,10,11,12] H fun H=>o H) fun H=>vE<|fE<|k<|fX rfl<|m H
def Uc(b:B3)(a:Int):Option Bool :=
 some (b.1==a)
def P0x:Ct:=k6 239 [.agg y67,.dat (.pt i64)] (fun x=>Uc x.1 x.2.1) (fun r:Bool=>B r) (fun _=>())
theorem Ud:Ok prog P0x:=by
 refine l5 [.tmp 3] func239 ?_;intro y ⟨_,_,_⟩ r H Q hn hr;refine iA [1,2]<|iA [3]<|j5<|hr H
def j0B:Unit->Option Int
 | _ =>
 some (-1)
def r0I(b:List B3)(c:Int)(d:Int->Option Int):Int->Option Int
 | a =>
 if(decide (a < (b.length:Int))) then
  gd (ix a b.length/\(Uc (b.getD a.toNat (a6 y67)) c).isSome/\True) <|
  if(vl (Uc (b.getD a.toNat (a6 y67)) c)) then
   some a
  else
   gd (j0 (a+1)/\True) <|
   d (a+1)
 else
  j0B ()
def Ps(b:List B3)(a:Int):Option Int :=
 lp (r0I b a) 0
def y0Z:Ct:=k6 238 [.dat y67.sl,.fn 239 i64.pt] (fun x=>Ps x.1 x.2.1) (fun r:Int=>I r) (fun _=>())
theorem Ue:Ok prog y0Z:=by
 refine l5 [.tmp 4] func238 ?_;intro y ⟨b,c,_⟩ r H Q hn hr;have:=hz (tc Ud tn);refine iA [0,1]<|jN r (fun(_:Unit)=>Z [] []) (j0B) (fun _ H=>?_) (fun _ d i g=>?_)
 ·refine iA [4]<|j5<|hr H
 refine iA [0,1,7,8]<|vB<|lX (fun(a:Int)=>Z [p 0 (L y67 b),p 1 (AV.fn 239 [D i64.pt c]),p 7 (I (b.length:Int)),p 8 (I a)] []) 0 H fun _ j h f e a H=>iA [0,1,7,8,9]<|vQ<|cD H (fun H=>?_) (fun H=>?_)
 ·refine vK<|fQ<|vQ<|vB<|iA [0,1,5,7,8]<|iB [0,1,5,7,8,16] H fun H=>cD H (fun H=>iA [4]<|j5<|m4<|fR<|e<|m4<|g<|hr H) fun H=>vK<|fK<|fQ<|jB [0,1,7,8] H fun H=>h H
 exact vE<|fE<|f<|fX rfl<|d H
def Pt(a:List B3)(b:Int):Option Bool :=
 gd ((Ps a b).isSome/\True)<|lt (vl (Ps a b)) fun c =>
 some (decide (0<=c))
def z0b:Ct:=k6 221 [.dat y67.sl,.fn 239 (.pt i64)] (fun x=>Pt x.1 x.2.1) (fun r:Bool=>B r) (fun _=>())
theorem q0s:Ok prog z0b:=by
 refine l5 [.tmp 4] func221 ?_;intro y ⟨_,_,_⟩ r H Q hn hr;have:=hz (tc Ue (tc Ud tn));refine iA [0,1]<|iD Ue [4] H fun _ H=>j5<|hr H
def P1(b:m5)(a:Int):Option Bool :=
 gd ((Pt b.2.2.2.1 a).isSome/\True) <|
 some (vl (Pt b.2.2.2.1 a))
def P0I:Ct:=k6 224 [.agg y64,.dat i64] (fun x=>P1 x.1 x.2.1) (fun r:Bool=>B r) (fun _=>())
theorem O0w:Ok prog P0I:=by
 refine l5 [.tmp 4] func224 ?_;intro y ⟨_,_,_⟩ r H Q hn hr;have:=hz (tc q0s (tc Ud tn));refine iA [2,3]<|iB [4] H fun H=>j5<|hr H
def Cy(a:List I8):Option Int :=
 some (a.length:Int)
def P0M:Ct:=k6 219 [.dat y233.sl] (fun x=>Cy x.1) (fun r:Int=>I r) (fun _=>())
theorem Uf:Ok prog P0M:=by
 refine l5 [.tmp 2] func219 ?_;intro y ⟨_,_⟩ r H Q hn hr;refine iA [0]<|iA [2]<|j5<|hr H
def W7(a:m5):Option Int :=
 gd ((Cy a.2.2.1).isSome/\j0 (vl (Cy a.2.2.1)-1)/\True)<|lt (vl (Cy a.2.2.1)) fun b =>
 some (b-1)
def P0J:Ct:=k6 223 [.agg y64] (fun x=>W7 x.1) (fun r:Int=>I r) (fun _=>())
theorem Lv:Ok prog P0J:=by
 refine l5 [.tmp 2] func223 ?_;intro y ⟨_,_⟩ r H Q hn hr;have:=hz (tc Uf tn);refine iA [1]<|iD Uf [2] H fun _ H=>j5<|hr H
def IB(a:m5):Int->Option Bool
 | b =>
 if(a.2.1==1) then
  gd (((b==(0:Int))=true/\True->(W7 a).isSome)/\((b==(0:Int))=true/\True->((0:Int)<=vl (W7 a)/\vl (W7 a)<=(62:Int))/\j0 ((1:Int)*(2:Int) ^ (vl (W7 a)).toNat))/\((b==(0:Int)&&(a.2.2.2.2.1.length:Int)==(1:Int)*(2:j6 i64) ^ (vl (W7 a)).toNat)=true/\True->(I9 a.2.2.2.2.1 (0:Int) (1:Int)).isSome)/\True)<|lt (vl (W7 a)) fun c =>
  some (b==(0:Int)&&(a.2.2.2.2.1.length:Int)==(1:Int)*(2:j6 i64) ^ c.toNat&&vl (I9 a.2.2.2.2.1 (0:Int) (1:Int)))
 else
  if(a.2.1==2) then
   gd (((b==1&&(a.2.2.2.2.1.length:Int)==0)=true/\True->(P1 a 1).isSome)/\((b==1&&(a.2.2.2.2.1.length:Int)==0&&!vl (P1 a 1))=true/\True->(P1 a 2).isSome)/\((b==1&&(a.2.2.2.2.1.length:Int)==0&&!vl (P1 a 1))=true/\True->(P1 a 3).isSome)/\True) <|
   some (b==1&&(a.2.2.2.2.1.length:Int)==0&&!vl (P1 a 1)&&!vl (P1 a 2)==vl (P1 a 3))
  else
   if(a.2.1==3) then
    gd (((b==1&&(a.2.2.2.2.1.length:Int)==0)=true/\True->(P1 a 1).isSome)/\((b==1&&(a.2.2.2.2.1.length:Int)==0&&vl (P1 a 1))=true/\True->(P1 a 2).isSome)/\((b==1&&(a.2.2.2.2.1.length:Int)==0&&vl (P1 a 1)&&vl (P1 a 2))=true/\True->(P1 a 3).isSome)/\True) <|
    some (b==1&&(a.2.2.2.2.1.length:Int)==0&&vl (P1 a 1)&&vl (P1 a 2)&&!vl (P1 a 3))
   else
    some false
def Pu(a:Int)(b:Int×Int->Option Bool):Int->Option Bool
 | c =>
 gd (j0 (a+1)/\True) <|
 b (c,a+1)
def A0t(b:m5)(d:Int×Int->Option Bool):Int×Int->Option Bool
 | (c,a) =>
 if(decide (a < (b.2.2.1.length:Int))) then
  gd (ix a b.2.2.1.length/\True)<|lt (b.2.2.1.getD a.toNat (a6 y233)) fun e =>
  if e.2.2.2 then
   gd (j0 (c+1)/\True) <|
   Pu a d (c+1)
  else
   Pu a d c
 else
  IB b c
def Pv(a:m5):Option Bool :=
 lp (A0t a) (0,0)
def P0X:Ct:=k6 203 [.agg y64] (fun x=>Pv x.1) (fun r:Bool=>B r) (fun _=>())
theorem O0B:Ok prog P0X:=by
 refine l5 [.tmp 2] func203 ?_;intro y ⟨a,_⟩ r H Q hn hr;have:=hz (tc O0w (tc Lp (tc Lv tn)));refine iA [1]<|iA [1,3]<|jN r (fun(d:Int)=>Z (U5 d []) [(1,K 64 y64 a)]) (IB a) (fun d H=>?_) (fun _ h l q=>?_)
 ·refine vQ<|iA [1,3,19]<|vB<|iA [1,3,19,20]<|cD H (fun H=>iD Lv [2] H fun _ H=>j5<|m4<|fR<|hr H) fun H=>iA [1,3,19,38]<|cD H (fun H=>iB [2] H fun H=>j5<|m4<|fR<|hr H) fun H=>iA [1,3,60]<|cD H (fun H=>iB [2] H fun H=>j5<|m4<|fR<|hr H) fun H=>vK<|fK<|fQ<|iA [2]<|j5<|hr H
 refine iA [1,3,7,8,9]<|vB<|lX (fun((c,b):Int×Int)=>Z (U5 c [p 7 (L y233 a.2.2.1),p 8 (I (a.2.2.1.length:Int)),p 9 (I b)]) [(1,K 64 y64 a)]) (0,0) H fun _ i k j o ⟨c,b⟩ H=>iA [1,3,7,8,9,10]<|vQ<|cD H (fun H=>?_) (fun H=>?_)
 ·refine vK<|fQ<|jN r (fun(g:Int)=>Z (U5 g [p 7 (L y233 a.2.2.1),p 8 (I (a.2.2.1.length:Int)),p 9 (I b)]) [(1,K 64 y64 a)]) (Pu b i) (fun g H=>?_) (fun _ f m n=>?_)
  ·refine jB [1,3,7,8,9] H fun H=>k H
  refine vB<|qD (fun e=>Z (U5 c [p 5 (R 5),p 7 (L y233 a.2.2.1),p 8 (I (a.2.2.1.length:Int)),p 9 (I b)]) [(5,K 233 y233 e),(1,K 64 y64 a)]) H fun e H=>iA [1,3,7,8,9,14]<|cD H (fun H=>jB [1,3,7,8,9] H fun H=>fK<|f H) fun H=>vK<|fK<|f H
 exact vE<|fE<|j<|fX rfl<|h H
def GJ(a:m5)(b:Int):Option Bool :=
 gd ((W7 a).isSome/\j0 (vl (W7 a)-1)/\(B4 b 0 (vl (W7 a)-1)).isSome/\True) <|
 some (vl (B4 b 0 (vl (W7 a)-1)))
def P0y:Ct:=k6 237 [.agg y64,.dat i64] (fun x=>GJ x.1 x.2.1) (fun r:Bool=>B r) (fun _=>())
theorem O0o:Ok prog P0y:=by
 refine l5 [.tmp 4] func237 ?_;intro y ⟨_,_,_⟩ r H Q hn hr;have:=hz (tc Ai (tc Lv tn));refine iA [1,2]<|iB [4] H fun H=>j5<|hr H
def A0d:Int->Option Int
 | a =>
 some a
def Ug(b:List Int)(d:Int×Int->Option Int):Int×Int->Option Int
 | (c,a) =>
 if(decide (a < (b.length:Int))) then
  gd (ix a b.length/\True) <|
  gd (j0 (a+1)/\True) <|
  d ((min c (b.getD a.toNat 0),a+1))
 else
  A0d c
def Uh(a:List Int):Unit->Option Int
 | _ =>
 gd (ix 0 a.length/\True) <|
 lp (Ug a) ((a.getD (Int.toNat (0:Int)) (0:Int),1))
def IC(a:List Int):Option Int :=
 if(decide ((a.length:Int)<1)) then
  none
 else
  Uh a ()
def P0r:Ct:=k6 249 [.dat i64.sl] (fun x=>IC x.1) (fun r:Int=>I r) (fun _=>())
theorem M0q:Ok prog P0r:=by
 refine l5 [.tmp 2] func249 ?_;intro y ⟨a,_⟩ r H Q hn hr;refine iA [0]<|jN r (fun(_:Unit)=>Z [p 0 (L i64 a)] []) (Uh a) (fun _ H=>?_) (fun _ h i m=>?_)
 ·refine iB [0,3] H fun H=>jN r (fun(b:Int)=>Z [p 3 (J b)] []) (A0d) (fun b H=>?_) (fun _ e l k=>?_)
  ·refine iA [2]<|j5<|hr H
  refine iA [0,3,4]<|vB<|lX (fun((c,d):Int×Int)=>Z [p 0 (L i64 a),p 3 (J c),p 4 (I d)] []) ((a.getD (Int.toNat (0:Int)) (0:Int),1)) H fun _ n g f j ⟨c,d⟩ H=>vQ<|iA [0,3,4,15]<|cD H (fun H=>vK<|fQ<|vQ<|vB<|jB [0,3,4] H fun H=>fK<|fQ<|jB [0,3,4] H fun H=>g H) fun H=>vE<|fE<|f<|fX rfl<|e H
 refine iA [0,7]<|cD H (fun H=>N0i H) fun H=>vK<|h H
def B0s:Unit->Option Bool
 | _ =>
 some true
def B0r(b:List Int)(c:Int->Option Bool):Int->Option Bool
 | a =>
 if(decide (a < (b.length:Int))) then
  gd (j0 (a-1)/\ix (a-1) b.length/\ix a b.length/\True) <|
  if(decide (b.getD a.toNat 0<=b.getD (a-1).toNat 0)) then
   some false
  else
   gd (j0 (a+1)/\True) <|
   c (a+1)
 else
  B0s ()
def Cz(a:List Int):Option Bool :=
 lp (B0r a) 1
def R0h:Ct:=k6 124 [.dat i64.sl] (fun x=>Cz x.1) (fun r:Bool=>B r) (fun _=>())
theorem M0R:Ok prog R0h:=by
 refine l5 [.tmp 2] func124 ?_;intro y ⟨b,_⟩ r H Q hn hr;refine iA [0]<|jN r (fun(_:Unit)=>Z [] []) (B0s) (fun _ H=>?_) (fun _ c h f=>?_)
 ·refine iA [2]<|j5<|hr H
 refine iA [0,3]<|vB<|lX (fun(a:Int)=>Z [p 0 (L i64 b),p 3 (I a)] []) 1 H fun _ i g e d a H=>vQ<|iA [0,3,7]<|cD H (fun H=>?_) (fun H=>?_)
 ·refine vK<|fQ<|vQ<|vB<|iB [0,3,19] H fun H=>cD H (fun H=>iA [2]<|j5<|m4<|fR<|d<|m4<|f<|hr H) fun H=>vK<|fK<|fQ<|jB [0,3] H fun H=>g H
 exact vE<|fE<|e<|fX rfl<|c H
def Bi(a:List Int):Option Bool :=
 gd ((D8 a).isSome/\(B4 (vl (D8 a)) 1 4).isSome/\(vl (B4 (vl (D8 a)) 1 4)=true/\True->(I9 a 0 100000).isSome)/\((vl (B4 (vl (D8 a)) 1 4)&&vl (I9 a 0 100000))=true/\True->(Cz a).isSome)/\True) <|
 some (vl (B4 (vl (D8 a)) 1 4)&&vl (I9 a 0 100000)&&vl (Cz a))
def P0p:Ct:=k6 253 [.dat i64.sl] (fun x=>Bi x.1) (fun r:Bool=>B r) (fun _=>())
theorem O0l:Ok prog P0p:=by
 refine l5 [.tmp 2] func253 ?_;intro y ⟨_,_⟩ r H Q hn hr;have:=hz (tc M0R (tc Lp (tc Ai (tc Lj tn))));refine iA [0]<|iB [2] H fun H=>j5<|hr H
end Go.Proofs.YtdjgagoledoaaaaGreatDoor
end
