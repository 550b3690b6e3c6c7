/- Functions of this program as plain functions of data, and that they are so: printed by program. -/
import Derived.Test.YtdjgagoledoaaaaGreatDoorXD
import Derived.Test.YtdjgagoledoaaaaGreatDoorXF
import Derived.Test.YtdjgagoledoaaaaGreatDoorTY
import Derived.Test.YtdjgagoledoaaaaGreatDoorLB
section
namespace Go.Proofs.YtdjgagoledoaaaaGreatDoor
open Go Go.Proofs Go.Proofs.Sv Go.Proofs.Xv Go.Proofs.Xl Go.RowKit
open Tryz
instance:HG Tryz.prog Γ:=⟨K4⟩
abbrev bx(T:TypeId)(c:List AV):Ob:=.box T c
abbrev b8:Ty:=.int .u8
abbrev Q0(x:ByteArray×Int×j5 (.sl y233)×j5 (.sl y67)×j5 (.sl i64)×Int×Int):List AV:=[S x.1,I x.2.1,M y233 x.2.2.1,M y67 x.2.2.2.1,L i64 x.2.2.2.2.1,I x.2.2.2.2.2.1,I x.2.2.2.2.2.2]
abbrev Q1(x:j5 (.sl y64)×(j5 (.sl y139)×j5 (.sl Ty.str)×j5 (.sl y202))×j5 (.sl l7)):List AV:=[L y64 x.1,M y139 x.2.1.1,M Ty.str x.2.1.2.1,M y202 x.2.1.2.2,M l7 x.2.2]
abbrev Q2(x:j5 (.sl y64)×(j5 (.sl y139)×j5 (.sl Ty.str)×j5 (.sl y202))×j5 (.sl l7)):List AV:=[L y64 x.1,L y139 x.2.1.1,L Ty.str x.2.1.2.1,L y202 x.2.1.2.2,L l7 x.2.2,AV.os 18 0,AV.os 38 0,nil,nil,nil]
abbrev Q3(x:j5 (.sl y64)×(j5 (.sl y139)×j5 (.sl Ty.str)×j5 (.sl y202))×j5 (.sl l7)):List AV:=[L y64 x.1,L y139 x.2.1.1,L Ty.str x.2.1.2.1,L y202 x.2.1.2.2,L l7 x.2.2,AV.os 18 0,AV.os 38 0,AV.os 102 0,AV.os 114 0,nil]
abbrev Q4(x:ByteArray×Int×j5 (.sl y233)×j5 (.sl y67)×Int×Int):List AV:=[S x.1,I x.2.1,M y233 x.2.2.1,M y67 x.2.2.2.1,nil,I x.2.2.2.2.1,I x.2.2.2.2.2]
abbrev Q5(x:j5 (.sl y139)×j5 (.sl Ty.str)×j5 (.sl y202)):List AV:=[AV.os 9 0,M y139 x.1,M Ty.str x.2.1,M y202 x.2.2,AV.os 1009 0]
abbrev Q6(x:Int×Int×Int×Int×j5 (.sl y70)×j5 (.sl y70)):List AV:=[I x.1,I x.2.1,I x.2.2.1,I x.2.2.2.1,L y70 x.2.2.2.2.1,L y70 x.2.2.2.2.2]
abbrev Q7{α1:Type}{α2:Type}(x:ByteArray×Int×α1×α2×j5 (.sl i64)×Int×Int):List AV:=[S x.1,I x.2.1,AV.os 27 0,AV.os 1027 0,L i64 x.2.2.2.2.1,I x.2.2.2.2.2.1,I x.2.2.2.2.2.2]
abbrev Q8{α1:Type}{α2:Type}(x:ByteArray×Int×α1×α2×j5 (.sl i64)×Int×Int):List AV:=[S x.1,I x.2.1,AV.os 24 0,AV.os 1024 0,L i64 x.2.2.2.2.1,I x.2.2.2.2.2.1,I x.2.2.2.2.2.2]
abbrev Q9{α1:Type}{α2:Type}(x:ByteArray×Int×α1×α2×j5 (.sl i64)×Int×Int):List AV:=[S x.1,I x.2.1,AV.os 21 0,AV.os 1021 0,L i64 x.2.2.2.2.1,I x.2.2.2.2.2.1,I x.2.2.2.2.2.2]
abbrev Tw{α1:Type}{α2:Type}(x:ByteArray×Int×α1×α2×j5 (.sl i64)×Int×Int):List AV:=[S x.1,I x.2.1,AV.os 18 0,AV.os 1018 0,L i64 x.2.2.2.2.1,I x.2.2.2.2.2.1,I x.2.2.2.2.2.2]
abbrev Tx{α1:Type}{α2:Type}(x:ByteArray×Int×α1×α2×j5 (.sl i64)×Int×Int):List AV:=[S x.1,I x.2.1,AV.os 15 0,AV.os 1015 0,L i64 x.2.2.2.2.1,I x.2.2.2.2.2.1,I x.2.2.2.2.2.2]
abbrev Tz{α1:Type}{α2:Type}(x:ByteArray×Int×α1×α2×Int×Int):List AV:=[S x.1,I x.2.1,AV.os 29 0,AV.os 1029 0,nil,I x.2.2.2.2.1,I x.2.2.2.2.2]
abbrev OK(x:Int×(Int×Int)×Int×Int):List AV:=[I x.1,I x.2.1.1,I x.2.1.2,I x.2.2.1,I x.2.2.2]
abbrev Q60(x1:j5 (.sl y139)):List AV:=[M y139 x1,AV.os 18 0,AV.os 23 0]
abbrev TA(x1:j5 (.sl y139))(x2:j5 (.sl Ty.str))(x3:j5 (.sl y202)):List AV:=[M y139 x1,M Ty.str x2,M y202 x3]
abbrev A5(x1:j5 (.sl b8))(x2:Int)(x3:Int):List AV:=[L b8 x1,J x2,J x3]
abbrev Dh(x1:j5 (.sl y139))(x2:j5 (.sl Ty.str))(x3:j5 (.sl y202)):List AV:=[AV.os 9 0,M y139 x1,M Ty.str x2,M y202 x3,AV.os 1009 0]
abbrev BG(x1:j5 (.sl y64))(x2:j5 (.sl y139))(x3:j5 (.sl Ty.str))(x4:j5 (.sl y202))(x5:j5 (.sl l7)):List AV:=[L y64 x1,M y139 x2,M Ty.str x3,M y202 x4,M l7 x5]
abbrev Cv(x1:ByteArray)(x2:Int)(x3:Int)(x4:Int):List AV:=[S x1,I x2,nil,nil,nil,I x3,I x4]
abbrev AB(x1:ByteArray)(x2:Int)(x3:Int)(x4:Int)(x5:Int):List AV:=[S x1,I x2,I x3,I x4,I x5]
abbrev Di(x1:Int)(x2:Int)(x3:Int)(x4:Int)(x5:Int):List AV:=[I x1,I x2,I x3,I x4,I x5]
abbrev OL(x1:Int):List AV:=[AV.v (Value.pointer none),AV.v (Value.slice none 0 0),I x1]
abbrev W0(y0:j5 (.sl y139))(y1:List (j5 y202))(y2:List (j5 Ty.str))(y3:j5 (.sl y139))(y4:j5 (.sl Ty.str))(y5:j5 (.sl y202)):List (Nat×Ob):=[(7,bx 31 (Q60 y0)),(23,A 202 y202 y1 0),(18,A 9 Ty.str y2 0),(6,bx 31 (TA y3 y4 y5))]
abbrev W1:List (Nat×Ob):=[(3,bx 36 (AB (ByteArray.mk #[]) 0 0 0 0)),(2,bx 34 [nil,nil,nil,nil,nil])]
abbrev W2(y0:List (j5 l7))(y1:List (j5 y64)):List (Nat×Ob):=[(1009,A 153 l7 y0 0),(9,Ob.arr 64 false y64 y1 0),(2,bx 34 [nil,nil,nil,nil,nil])]
abbrev W3(y0:Int)(y1:Int)(y2:Int)(y3:Int)(y4:Int)(y5:j5 y44)(y6:j5 p5)(y7:j5 k8):List (Nat×Ob):=[(17,bx 53 [J y0,J y1,J y2,J y3,J y4]),(15,bx 53 (Di 0 0 0 0 0)),(12,K 44 y44 y5),(8,K 36 p5 y6),(7,K 34 k8 y7)]
abbrev G4(y0:Bool)(y1:Int)(t:List (Nat×Sl)):List (Nat×Sl):=p 0 (R 500000) :: p 2 (C y0) :: p 6 (R 6) :: p 7 (R 7) :: p 8 (O 25) :: p 9 (O 26) :: p 10 (O 27) :: p 11 (I y1) :: t
abbrev G5(t:List (Nat×Sl)):List (Nat×Sl):=p 0 (R 500000) :: p 2 (R 2) :: p 3 (R 3) :: p 6 (R 6) :: p 7 (R 7) :: t
abbrev W6(y0:List (j5 y151))(y1:j5 k8)(y2:List (j5 y80)):List (Nat×Ob):=[(18,A 151 y151 y0 0),(1,K 34 k8 y1),(38,A 80 y80 y2 0)]
abbrev G7(y0:List (j5 y80))(y1:List (j5 Ty.bool))(y2:Int)(t:List (Nat×Sl)):List (Nat×Sl):=p 2 (L y80 y0) :: p 3 (L Ty.bool y1) :: p 6 (J y2) :: p 7 (R 7) :: p 8 (R 8) :: p 12 (R 12) :: p 15 (R 15) :: t
abbrev W8(y0:j5 y51)(y1:j5 y80)(y2:j5 p5)(y3:j5 k8):List (Nat×Ob):=[(9,bx 51 [I 0,I 0]),(8,bx 51 [I 0,I 0]),(7,K 51 y51 y0),(6,K 80 y80 y1),(5,K 36 p5 y2),(4,K 34 k8 y3)]
abbrev G9(t:List (Nat×Sl)):List (Nat×Sl):=p 2 (R 2) :: p 3 (R 3) :: t
abbrev OM(y0:List (j5 y51))(y1:List (j5 y51))(y2:List (j5 Ty.bool))(y3:j5 p5)(y4:j5 k8):List (Nat×Ob):=[(14,bx 44 [AV.os 21 0,AV.os 1021 0,AV.os 2021 0]),(2021,A 51 y51 y0 0),(1021,A 51 y51 y1 0),(21,A 4 Ty.bool y2 0),(12,bx 44 [nil,nil,nil]),(7,K 36 p5 y3),(6,K 34 k8 y4)]
abbrev Dj(y0:j5 y44)(y1:j5 p5):List (Nat×Ob):=[(11,bx 53 (Di 0 0 0 0 0)),(8,K 44 y44 y0),(6,K 36 p5 y1)]
abbrev Dk(y0:List (j5 i64)):List (Nat×Ob):=[(3012,A 2 i64 y0 0),(4,bx 153 [nil,nil,nil,nil])]
abbrev GJ(y0:Int)(y1:Int)(y2:Int)(y3:Int)(y4:Int)(y5:Int)(y6:Int)(y7:Int)(y8:Int)(t:List (Nat×Sl)):List (Nat×Sl):=p 3 (J y0) :: p 4 (R 4) :: p 9 (I y1) :: p 10 (I y2) :: p 11 (I y3) :: p 12 (I y4) :: p 13 (I y5) :: p 14 (I y6) :: p 15 (I y7) :: p 16 (I y8) :: t
abbrev Ab(t:List (Nat×Sl)):List (Nat×Sl):=p 1 (R 1) :: p 3 (R 20) :: p 7 (O 50) :: t
abbrev II(y0:Int)(y1:Int)(y2:Int)(t:List (Nat×Sl)):List (Nat×Sl):=p 0 (R 500000) :: p 1 (J y0) :: p 4 (R 4) :: p 5 (O 12) :: p 6 (O 14) :: p 7 (O 15) :: p 8 (I y1) :: p 9 (I y2) :: t
abbrev IJ(y0:j5 y104.pt)(t:List (Nat×Sl)):List (Nat×Sl):=p 0 (D y104.pt y0) :: p 6 (R 6) :: p 8 (R 8) :: p 11 (R 11) :: p 12 (R 12) :: p 13 (R 13) :: t
abbrev BH(t:List (Nat×Sl)):List (Nat×Sl):=p 0 (R 500000) :: p 4 (R 4) :: p 5 (R 5) :: t
abbrev AD(y0:Int)(y1:List (j5 y80))(y2:List (j5 Ty.bool))(t:List (Nat×Sl)):List (Nat×Sl):=p 0 (J y0) :: p 1 (L y80 y1) :: p 2 (L Ty.bool y2) :: t
abbrev Bc(y0:Int)(t:List (Nat×Sl)):List (Nat×Sl):=p 0 (R 500000) :: p 5 (O 9) :: p 6 (I y0) :: t
abbrev Dl(y0:Bool)(t:List (Nat×Sl)):List (Nat×Sl):=p 0 (R 500000) :: p 2 (C y0) :: p 6 (R 6) :: p 7 (R 7) :: t
abbrev Ac(y0:j5 l7)(y1:j5 k8):List (Nat×Ob):=[(5,K 153 l7 y0),(2,K 34 k8 y1)]
abbrev IK(y0:List (j5 Ty.str)):List (Nat×Ob):=[(4,A 9 Ty.str y0 0),(2,bx 36 (AB (ByteArray.mk #[]) 0 0 0 0))]
abbrev Fm(y0:Int)(t:List (Nat×Sl)):List (Nat×Sl):=p 0 (R 500000) :: p 5 (O 13) :: p 6 (O 20) :: p 7 (I y0) :: t
abbrev Fo(y0:List (j5 i64)):List (Nat×Ob):=[(12,A 2 i64 y0 0),(4,bx 70 [nil,nil,nil])]
abbrev O6(y0:Int)(t:List (Nat×Sl)):List (Nat×Sl):=p 1 (R 1) :: p 3 (I y0) :: t
abbrev GK(y0:List (j5 R7))(y1:List (j5 R7))(y2:j5 y70):List (Nat×Ob):=[(29,A 252 R7 y0 0),(22,A 252 R7 y1 0),(4,K 70 y70 y2)]
abbrev KQ(y0:j5 (.sl b8))(y1:Int)(y2:Int):List (Nat×Ob):=[(500000,bx 122 (A5 y0 y1 y2)),(6,bx 64 (Cv (ByteArray.mk #[]) 0 0 0))]
abbrev KS(y0:List (j5 i64))(y1:j5 p5)(y2:j5 k8):List (Nat×Ob):=[(20,A 2 i64 y0 0),(8,bx 44 [nil,nil,nil]),(5,K 36 p5 y1),(4,K 34 k8 y2)]
abbrev TB(y0:List (j5 y51))(y1:List (j5 y51))(y2:List (j5 Ty.bool))(y3:j5 p5):List (Nat×Ob):=[(10,bx 44 [AV.os 19 0,AV.os 1019 0,AV.os 2019 0]),(2019,A 51 y51 y0 0),(1019,A 51 y51 y1 0),(19,A 4 Ty.bool y2 0),(8,bx 44 [nil,nil,nil]),(5,K 36 p5 y3)]
abbrev Fp(t:List (Nat×Sl)):List (Nat×Sl):=p 0 (R 500000) :: p 2 (R 2) :: p 3 (R 3) :: t
abbrev BI(t:List (Nat×Sl)):List (Nat×Sl):=p 0 (R 500000) :: p 6 (R 6) :: t
abbrev IL(y0:Int)(y1:Int)(y2:Int)(y3:Int)(t:List (Nat×Sl)):List (Nat×Sl):=p 3 (J y0) :: p 4 (R 4) :: p 10 (I y1) :: p 11 (O 29) :: p 12 (I y2) :: p 13 (I y3) :: t
abbrev BJ(y0:j5 y104.pt)(t:List (Nat×Sl)):List (Nat×Sl):=p 0 (D y104.pt y0) :: p 4 (O 16) :: t
abbrev IM(y0:List (j5 i64))(y1:List (j5 y53))(t:List (Nat×Sl)):List (Nat×Sl):=p 3 (R 3) :: p 4 (R 4) :: p 5 (M i64 y0) :: p 6 (M y53 y1) :: p 7 (R 7) :: t
abbrev IN(t:List (Nat×Sl)):List (Nat×Sl):=p 2 (R 2) :: p 5 (R 5) :: p 6 (O 18) :: p 7 (O 21) :: t
abbrev KT(y0:j5 y157.pt)(y1:List (j5 Ty.bool)):List (Nat×Ob):=[(17,bx 104 [D y157.pt y0,AV.os 15 0]),(15,A 4 Ty.bool y1 0)]
abbrev Bd(y0:Int)(t:List (Nat×Sl)):List (Nat×Sl):=p 0 (R 500000) :: p 1 (J y0) :: t
abbrev ON(y0:List (j5 y80))(y1:List (j5 Ty.bool))(y2:List (j5 y53))(y3:List (j5 i64))(t:List (Nat×Sl)):List (Nat×Sl):=p 2 (L y80 y0) :: p 3 (L Ty.bool y1) :: p 4 (L y53 y2) :: p 5 (L i64 y3) :: p 6 (R 6) :: p 7 (R 7) :: p 12 (R 12) :: p 14 (R 14) :: t
abbrev TC(y0:List (j5 y64)):List (Nat×Ob):=[(7,bx 26 [AV.os 12 0]),(12,Ob.arr 64 false y64 y0 0),(6,bx 34 [nil,nil,nil,nil,nil])]
abbrev GL(y0:j5 y31)(y1:List (j5 y64)):List (Nat×Ob):=[(3,K 31 y31 y0),(2,bx 26 [L y64 y1])]
abbrev Dm(y0:j5 p5)(y1:j5 k8):List (Nat×Ob):=[(6,K 36 p5 y0),(5,K 34 k8 y1)]
abbrev KU(y0:Int)(y1:Int)(y2:Int)(y3:Int)(t:List (Nat×Sl)):List (Nat×Sl):=p 0 (O 500000) :: p 2 (J y0) :: p 3 (J y1) :: p 4 (J y2) :: p 6 (R 6) :: p 11 (I y3) :: t
abbrev OO(y0:Int)(y1:Bool)(y2:Int)(t:List (Nat×Sl)):List (Nat×Sl):=p 0 (R 500000) :: p 5 (AV.os 13 1) :: p 6 (O 20) :: p 7 (I y0) :: p 8 (B y1) :: p 9 (I y2) :: t
abbrev OP(y0:j5 m4)(y1:List (j5 y80))(y2:j5 k8):List (Nat×Ob):=[(500000,K 122 m4 y0),(20,A 80 y80 y1 0),(9,A 2 i64 [] 0),(3,K 34 k8 y2)]
abbrev OQ(y0:j5 y157.pt)(y1:Int)(y2:Int)(y3:Int)(t:List (Nat×Sl)):List (Nat×Sl):=p 0 (D y157.pt y0) :: p 2 (J y1) :: p 8 (R 8) :: p 9 (R 9) :: p 10 (J y2) :: p 11 (J y3) :: p 12 (R 12) :: t
abbrev TD(t:List (Nat×Sl)):List (Nat×Sl):=p 4 (R 4) :: p 5 (R 5) :: p 6 (R 6) :: p 7 (R 7) :: p 8 (R 8) :: p 9 (R 9) :: p 10 (R 10) :: t
abbrev TE(y0:Int)(y1:Int)(y2:j5 y51)(y3:j5 p5):List (Nat×Ob):=[(12,bx 51 [I y0,I y1]),(9,bx 51 [I 0,I 0]),(8,bx 51 [I 0,I 0]),(7,K 51 y51 y2),(5,K 36 p5 y3)]
abbrev Dn(t:List (Nat×Sl)):List (Nat×Sl):=p 1 (R 1) :: p 3 (O 20) :: t
abbrev TF(y0:ByteArray)(y1:Int)(y2:Int)(y3:Int)(y4:List (j5 y233)):List (Nat×Ob):=[(9,bx 64 [U y0,J y1,AV.os 27 0,nil,nil,I y2,I y3]),(27,A 233 y233 y4 0),(8,bx 64 (Cv (ByteArray.mk #[]) 0 0 0))]
abbrev GM(y0:Int)(t:List (Nat×Sl)):List (Nat×Sl):=p 1 (J y0) :: p 2 (R 2) :: p 5 (R 5) :: t
abbrev IP(y0:List (j5 Ty.bool))(y1:List (j5 i64.sl)):List (Nat×Ob):=[(16,A 4 Ty.bool y0 0),(14,A 37 i64.sl y1 0)]
abbrev KV(y0:Int)(t:List (Nat×Sl)):List (Nat×Sl):=p 1 (R 1) :: p 3 (O 12) :: p 4 (R 4) :: p 5 (I y0) :: t
abbrev GN(y0:List (j5 i64))(y1:j5 y31):List (Nat×Ob):=[(92,A 2 i64 y0 0),(3,K 31 y31 y1)]
abbrev KW(y0:List (j5 y80))(y1:List (j5 Ty.bool))(y2:Bool)(y3:Bool)(t:List (Nat×Sl)):List (Nat×Sl):=p 1 (L y80 y0) :: p 2 (L Ty.bool y1) :: p 4 (C y2) :: p 11 (O 17) :: p 12 (B y3) :: t
abbrev GO(y0:List (j5 y80))(y1:j5 k8):List (Nat×Ob):=[(12,A 80 y80 y0 0),(1,K 34 k8 y1)]
abbrev OR(y0:List (j5 y53))(y1:List (j5 y53))(y2:j5 m4)(y3:List (j5 r4)):List (Nat×Ob):=[(13,A 53 y53 y0 1),(78,A 53 y53 y1 0),(500000,K 122 m4 y2),(20,A 190 r4 y3 0)]
def u7(a:List Int):Option Bool :=
 some (decide (4096 < (a.length:Int)))
def k7:Ct:=j9 7 [.dat (b8.sl)] (fun x=>u7 x.1) (fun r:Bool=>B r) (fun _=>())
theorem o7:Ok prog k7:=by
 refine k6 [.tmp 2] func7 ?_;intro y ⟨_,_⟩ r H Q hn hr;refine iA [0]<|iA [2]<|j0<|hr H
def u5(a:Int)(c:Int)(b:Int):Option Bool :=
 some (decide (c<=a)&&decide (a<=b))
def R0o:Ct:=j9 101 [.dat i64,.dat i64,.dat i64] (fun x=>u5 x.1 x.2.1 x.2.2.1) (fun r:Bool=>B r) (fun _=>())
theorem BK:Ok prog R0o:=by
 refine k6 [.tmp 6] func101 ?_;intro y ⟨_,_,_,_⟩ r H Q hn hr;refine iA [0,1,2]<|iA [6]<|j0<|hr H
def Dp(a:s9):Option Bool :=
 gd ((u5 a.1 (-1000000000) 1000000000).isSome/\(vl (u5 a.1 (-1000000000) 1000000000)=true/\True->(u5 a.2 (-1000000000) 1000000000).isSome)/\True) <|
 some (vl (u5 a.1 (-1000000000) 1000000000)&&vl (u5 a.2 (-1000000000) 1000000000)&&decide (a.1<=a.2))
def k80:Ct:=j9 80 [.agg y51] (fun x=>Dp x.1) (fun r:Bool=>B r) (fun _=>())
theorem Zt:Ok prog k80:=by
 refine k6 [.tmp 2] func80 ?_;intro y ⟨_,_⟩ r H Q hn hr;have:=hz (tc BK tn);refine iA [1]<|iB [2] H fun H=>j0<|hr H
def KX(a:s9)(b:s9):Option s9 :=
 some (min a.1 b.1,max a.2 b.2)
def Q0T:Ct:=j9 132 [.agg y51,.agg y51] (fun x=>KX x.1 x.2.1) (fun r:s9=>AV.agg [I r.1,I r.2]) (fun _=>())
theorem O0L:Ok prog Q0T:=by
 refine k6 [.cell 4 51] func132 ?_;intro y ⟨_,_,_⟩ r H Q hn hr;refine iA [2,3,4]<|iA [4]<|j0<|hr H
def W4(b:Int)(a:Int)(c:Int):Option Int :=
 gd (0<a/\True) <|
 gd (0<a/\True) <|
 if(decide (b.tmod a<0)&&c==0) then
  gd (c9 (b.tdiv a-1)/\True) <|
  some (b.tdiv a-1)
 else
  if(decide (0<b.tmod a)&&c==1) then
   gd (c9 (b.tdiv a+1)/\True) <|
   some (b.tdiv a+1)
  else
   some (b.tdiv a)
def P0Z:Ct:=j9 185 [.dat i64,.dat i64,.dat i64] (fun x=>W4 x.1 x.2.1 x.2.2.1) (fun r:Int=>I r) (fun _=>())
theorem OS:Ok prog P0Z:=by
 refine k6 [.tmp 6] func185 ?_;intro y ⟨_,_,_,_⟩ r H Q hn hr;refine iA [0,1,2]<|iB [0,1,2,7] H fun H=>iB [2,7,8] H fun H=>vQ<|iA [2,7,8,20]<|cD H (fun H=>iB [6] H fun H=>j0<|fR<|hr H) fun H=>vK<|fQ<|vQ<|iA [7,28]<|cD H (fun H=>iB [6] H fun H=>j0<|fR<|hr H) fun H=>vK<|fQ<|iA [6]<|j0<|hr H
def TH:Int->Option Int
 | a =>
 some a
def KY(b:Int)(c:Int):Int->Option Int
 | a =>
 gd (((b==1)=true/\True->c9 (a*a))/\True) <|
 if(b==1&&decide (a*a<c)) then
  gd (c9 (a+1)/\True) <|
  TH (a+1)
 else
  TH a
def OT(c:Int)(e:Int)(d:Int×Int->Option Int):Int×Int->Option Int
 | (a,b) =>
 if(decide (a<b)) then
  gd (c9 (a+b)/\c9 (a+b+(1:Int))/\(0:Int) < (2:Int)/\True) <|
  gd (c9 ((a+b+1).tdiv 2*(a+b+1).tdiv 2)/\True) <|
  if(decide ((a+b+1).tdiv 2*(a+b+1).tdiv 2<=c)) then
   d (((a+b+1).tdiv 2,b))
  else
   gd (c9 ((a+b+1).tdiv 2-1)/\True) <|
   d ((a,(a+b+1).tdiv 2-1))
 else
  KY e c a
def Cw(a:Int)(b:Int):Option Int :=
 lp (OT a b) (0,2000000000)
def P0I:Ct:=j9 211 [.dat i64,.dat i64] (fun x=>Cw x.1 x.2.1) (fun r:Int=>I r) (fun _=>())
theorem N0R:Ok prog P0I:=by
 refine k6 [.tmp 4] func211 ?_;intro y ⟨a,b,_⟩ r H Q hn hr;refine iA [0,1]<|iA [0,1,5,6]<|jN r (fun(e:Int)=>Z [p 0 (J a),p 1 (J b),p 5 (I e)] []) (KY b a) (fun e H=>?_) (fun _ i m o=>?_)
 ·refine jN r (fun(d:Int)=>Z [p 5 (I d)] []) (TH) (fun d H=>?_) (fun _ g l n=>?_)
  ·refine iA [4]<|j0<|hr H
  refine iB [5,32] H fun H=>cD H (fun H=>jB [5] H fun H=>g H) fun H=>vK<|g H
 refine vB<|lX (fun((f,c):Int×Int)=>Z [p 0 (J a),p 1 (J b),p 5 (I f),p 6 (I c)] []) (0,2000000000) H fun _ k h j q ⟨f,c⟩ H=>vQ<|iA [0,1,5,6,10]<|cD H (fun H=>?_) (fun H=>?_)
 ·refine vK<|fQ<|vB<|iB [0,1,5,6,7] H fun H=>iB [0,1,5,6,7,20] H fun H=>cD H (fun H=>jA [0,1,5,6]<|fK<|h H) fun H=>jB [0,1,5,6] H fun H=>fK<|h H
 exact vE<|fE<|j<|fX rfl<|i H
def GP(c:List m5)(b:r8)(a:D2):Option Int :=
 if(decide (a.1<0)) then
  some 0
 else
  gd (ix a.1 b.1.length/\ix (b.1.getD a.1.toNat (b7 y139)).2.1 c.length/\ix a.2.1 (c.getD (b.1.getD a.1.toNat (b7 y139)).2.1.toNat (b7 y64)).2.2.1.length/\True)<|lt ((c.getD (b.1.getD a.1.toNat (b7 y139)).2.1.toNat (b7 y64)).2.2.1.getD a.2.1.toNat (b7 y233)) fun d =>
  some d.2.2.1
def P0y:Ct:=j9 227 [.agg y64.sl,.agg y31,.agg r4] (fun x=>GP x.1 x.2.1 x.2.2.1) (fun r:Int=>I r) (fun _=>())
theorem N0K:Ok prog P0y:=by
 refine k6 [.tmp 6] func227 ?_;intro y ⟨b,d,c,_⟩ r H Q hn hr;refine iA [3,4,5]<|vQ<|iA [3,4,5,9]<|cD H (fun H=>iA [6]<|j0<|fR<|hr H) fun H=>vK<|fQ<|qD (fun a=>Z [p 6 (J a.2.2.1)] [(5,K 190 r4 c),(4,K 31 y31 d),(3,bx 26 [L y64 b])]) H fun a H=>j0<|hr H
def Zu:List D2->Option (List D2)
 | a =>
 some a
def TJ(b:r8)(e:Int×List D2->Option (List D2)):Int×List D2->Option (List D2)
 | (a,c) =>
 if(decide (a < (b.2.2.length:Int))) then
  gd (ix a b.2.2.length/\ix a b.2.2.length/\(c.length+[(-1,a,(b.2.2.getD a.toNat (b7 y202)).2.2,(b.2.2.getD a.toNat (b7 y202)).2.1==1)].length<=9223372036854775807/\(c.length+[(-1,a,(b.2.2.getD a.toNat (b7 y202)).2.2,(b.2.2.getD a.toNat (b7 y202)).2.1==1)].length)*32<=140737488355328)/\True)<|lt ((c++[(-1,a,(b.2.2.getD a.toNat (b7 y202)).2.2,(b.2.2.getD a.toNat (b7 y202)).2.1==1)],[(-1,a,(b.2.2.getD a.toNat (b7 y202)).2.2,(b.2.2.getD a.toNat (b7 y202)).2.1==1)])) fun(d,_) =>
  gd (c9 (a+1)/\True) <|
  e (a+1,d)
 else
  Zu c
def IQ(b:r8):List D2->Option (List D2)
 | a =>
 lp (TJ b) (0,a)
def OU(b:Int)(c:Int×List D2->Option (List D2)):List D2->Option (List D2)
 | a =>
 gd (c9 (b+1)/\True) <|
 c (b+1,a)
def TK(d:Int)(b:o4)(f:Int×List D2->Option (List D2))(g:Int×List D2->Option (List D2)):Int×List D2->Option (List D2)
 | (a,c) =>
 if(decide (a < (b.2.2.length:Int))) then
  gd (ix a b.2.2.length/\c9 ((b.2.2.length:Int)-1)/\(c.length+[(d,a,b.2.2.getD a.toNat 0,a==(b.2.2.length:Int)-1)].length<=9223372036854775807/\(c.length+[(d,a,b.2.2.getD a.toNat 0,a==(b.2.2.length:Int)-1)].length)*32<=140737488355328)/\True)<|lt ((c++[(d,a,b.2.2.getD a.toNat 0,a==(b.2.2.length:Int)-1)],[(d,a,b.2.2.getD a.toNat 0,a==(b.2.2.length:Int)-1)])) fun(e,_) =>
  gd (c9 (a+1)/\True) <|
  g (a+1,e)
 else
  OU d f c
def TL(a:r8)(e:Int×List D2->Option (List D2)):Int×List D2->Option (List D2)
 | (b,d) =>
 if(decide (b < (a.1.length:Int))) then
  gd (ix b a.1.length/\True)<|lt (a.1.getD b.toNat (b7 y139)) fun c =>
  lp (TK b c e) (0,d)
 else
  IQ a d
def I6(a:r8):Option (List D2) :=
 lp (TL a) (0,[])
def k94:Ct:=j9 94 [.agg y31] (fun x=>I6 x.1) (fun r:List D2=>AV.ow 190 true r4 r) (fun _=>())
theorem Fq:Ok prog k94:=by
 refine k6 [.tmp 2] func94 ?_;intro y ⟨b,_⟩ r H Q hn hr;refine iA [1]<|iA [1,3]<|jN r (fun(e:List D2)=>Z [p 1 (R 1),p 3 (O 8)] [(8,A 190 r4 e 0),(1,K 31 y31 b)]) (IQ b) (fun e H=>?_) (fun _ x T W=>?_)
 ·refine jN r (fun(h:List D2)=>Z [p 3 (O 8)] [(8,A 190 r4 h 0)]) (Zu) (fun h H=>?_) (fun _ w V P=>?_)
  ·refine iA [2]<|j0<|hr H
  refine iA [1,3,7]<|vB<|lX (fun((c,i):Int×List D2)=>Z [p 1 (R 1),p 3 (O 8),p 7 (I c)] [(8,A 190 r4 i 0),(1,K 31 y31 b)]) (0,e) H fun _ Y t q X ⟨c,i⟩ H=>vQ<|iA [1,3,7,47]<|cD H (fun H=>?_) (fun H=>?_)
  ·refine vK<|fQ<|vQ<|vB<|zD (fun(m,g)=>Z [p 1 (R 1),p 3 (AV.os 8 1),p 7 (I c)] [(8,A 190 r4 m 1),(66,A 190 r4 g 0),(1,K 31 y31 b)]) H fun⟨m,g⟩ H =>
    fK<|fQ <|
    jB [1,3,7] H fun H =>
    t H
  exact vE<|fE<|q<|fX rfl<|w H
 refine iA [1,3,4]<|vB<|lX (fun((f,o):Int×List D2)=>Z [p 1 (R 1),p 3 (O 8),p 4 (I f)] [(8,A 190 r4 o 0),(1,K 31 y31 b)]) (0,[]) H fun _ s F E t1 ⟨f,o⟩ H=>vQ<|iA [1,3,4,13]<|cD H (fun H=>?_) (fun H=>?_)
 ·refine vK<|fQ<|jN r (fun(l:List D2)=>Z [p 1 (R 1),p 3 (O 8),p 4 (I f)] [(8,A 190 r4 l 0),(1,K 31 y31 b)]) (OU f s) (fun l H=>?_) (fun _ z e2 t2=>?_)
  ·refine jB [1,3,4] H fun H=>F H
  refine vB<|qD (fun a=>Z [p 1 (R 1),p 3 (O 8),p 4 (I f),p 5 (L i64 a.2.2)] [(8,A 190 r4 o 0),(1,K 31 y31 b)]) H fun a H=>iA [1,3,4,5,6]<|vB<|lX (fun((d,k):Int×List D2)=>Z [p 1 (R 1),p 3 (O 8),p 4 (I f),p 5 (L i64 a.2.2),p 6 (I d)] [(8,A 190 r4 k 0),(1,K 31 y31 b)]) (0,o) H fun _ G v u t3 ⟨d,k⟩ H=>vQ<|iA [1,3,4,5,6,25]<|cD H (fun H=>?_) (fun H=>?_)
  ·refine vK<|fQ<|vQ<|vB<|zD (fun(n,j)=>Z [p 1 (R 1),p 3 (AV.os 8 1),p 4 (I f),p 5 (L i64 a.2.2),p 6 (I d)] [(8,A 190 r4 n 1),(41,A 190 r4 j 0),(1,K 31 y31 b)]) H fun⟨n,j⟩ H =>
    fK<|fQ <|
    jB [1,3,4,5,6] H fun H =>
    v H
  exact vE<|fE<|u<|fX rfl<|fK<|z H
 exact vE<|fE<|E<|fX rfl<|x H
def Zv:List Int->Option (List Int)
 | a =>
 some a
def IS(a:Int)(c:Int×List Int->Option (List Int)):List Int->Option (List Int)
 | b =>
 gd (c9 (a+1)/\True) <|
 c (a+1,b)
def TM(b:List D2)(d:Int)(e:Int×List Int->Option (List Int)):Int×List Int->Option (List Int)
 | (a,c) =>
 if(decide (a < (b.length:Int))) then
  gd (ix a b.length/\a.toNat<b.length/\(((b.getD a.toNat (b7 r4)).2.2.1==d)=true/\True->ix a b.length)/\(((b.getD a.toNat (b7 r4)).2.2.1==d)=true/\True->a.toNat<b.length)/\True) <|
  if((b.getD a.toNat (b7 r4)).2.2.1==d&&!(b.getD a.toNat (b7 r4)).2.2.2) then
   gd ((c.length+[a].length<=9223372036854775807/\(c.length+[a].length)*8<=140737488355328)/\True) <|
   IS a e (c++[a])
  else
   IS a e c
 else
  Zv c
def U4(a:r8)(c:Int):Option (List Int) :=
 gd ((I6 a).isSome/\True)<|lt (vl (I6 a)) fun b =>
 lp (TM b c) (0,[])
def k76:Ct:=j9 76 [.agg y31,.dat i64] (fun x=>U4 x.1 x.2.1) (fun r:List Int=>AV.ow 2 true i64 r) (fun _=>())
theorem OV:Ok prog k76:=by
 refine k6 [.tmp 4] func76 ?_;intro y ⟨h,c,_⟩ r H Q hn hr;have:=hz (tc Fq tn);refine iA [1,2]<|iA [1,2,5]<|qD (fun b=>Z [p 1 (J c),p 5 (O 8),p 6 (O 10)] [(10,A 190 r4 b 0),(8,A 2 i64 [] 0),(2,K 31 y31 h)]) H fun b H=>jN r (fun(e:List Int)=>Z [p 5 (O 8)] [(8,A 2 i64 e 0)]) (Zv) (fun e H=>?_) (fun _ j n q=>?_)
 ·refine iA [4]<|j0<|hr H
 refine iA [1,5,6,7]<|vB<|lX (fun((a,d):Int×List Int)=>Z [p 1 (J c),p 5 (O 8),p 6 (O 10),p 7 (I a)] [(10,A 190 r4 b 0),(8,A 2 i64 d 0)]) (0,[]) H fun _ i l k s ⟨a,d⟩ H=>vQ<|iA [1,5,6,7,14]<|cD H (fun H=>?_) (fun H=>?_)
 ·refine vK<|fQ<|jN r (fun(g:List Int)=>Z [p 1 (J c),p 5 (O 8),p 6 (O 10),p 7 (I a)] [(8,A 2 i64 g 0),(10,A 190 r4 b 0)]) (IS a i) (fun g H=>?_) (fun _ f m o=>?_)
  ·refine jB [1,5,6,7] H fun H=>l H
  refine vB<|iB [1,5,6,7,31] H fun H=>cD H (fun H=>jB [1,5,6,7] H fun H=>fK<|f H) fun H=>vK<|fK<|f H
 exact vE<|fE<|k<|fX rfl<|j H
def J8(a:List Int):Option (List Int) :=
 gd ((0+a.length<=9223372036854775807/\(0+a.length)*8<=140737488355328)/\True) <|
 some ([]++a)
def Q0s:Ct:=j9 164 [.dat i64.sl] (fun x=>J8 x.1) (fun r:List Int=>AV.ow 2 true i64 r) (fun _=>())
theorem TN:Ok prog Q0s:=by
 refine k6 [.tmp 2] func164 ?_;intro y ⟨_,_⟩ r H Q hn hr;refine iA [0]<|iB [2] H fun H=>j0<|hr H
def TO:List Int->Option (List Int)
 | a =>
 some a
def IT(c:x9)(e:Int×List Int->Option (List Int)):Int×List Int->Option (List Int)
 | (a,b) =>
 if(decide (0<a)) then
  gd (ix a c.1.length/\ix (c.1.getD a.toNat 0) b.length/\Int.toNat (c.1.getD a.toNat 0)<b.length/\ix a b.length/\a.toNat<b.length/\c9 (b.getD (Int.toNat (c.1.getD a.toNat 0)) 0+b.getD a.toNat 0)/\ix (c.1.getD a.toNat 0) b.length/\Int.toNat (c.1.getD a.toNat 0)<b.length/\True)<|lt (b.set (Int.toNat (c.1.getD a.toNat 0)) (b.getD (Int.toNat (c.1.getD a.toNat 0)) 0+b.getD a.toNat 0)) fun d =>
  gd (c9 (a-1)/\True) <|
  e (a-1,d)
 else
  TO b
def OW(b:x9):List Int->Option (List Int)
 | a =>
 gd (c9 ((a.length:Int)-1)/\True) <|
 lp (IT b) (((a.length:Int)-1,a))
def Zw(d:j7)(f:List D2)(b:List Int)(c:x9)(g:Int×List Int->Option (List Int)):Int×List Int->Option (List Int)
 | (a,e) =>
 if(decide (a < (b.length:Int))) then
  gd (ix a c.2.2.2.length/\ix (c.2.2.2.getD a.toNat 0) e.length/\Int.toNat (c.2.2.2.getD a.toNat 0)<e.length/\ix a b.length/\a.toNat<b.length/\ix (b.getD a.toNat 0) f.length/\Int.toNat (b.getD a.toNat 0)<f.length/\(GP d.1 d.2.1 (f.getD (Int.toNat (b.getD a.toNat 0)) (b7 r4))).isSome/\c9 (e.getD (Int.toNat (c.2.2.2.getD a.toNat 0)) 0+vl (GP d.1 d.2.1 (f.getD (Int.toNat (b.getD a.toNat 0)) (b7 r4))))/\ix (c.2.2.2.getD a.toNat 0) e.length/\Int.toNat (c.2.2.2.getD a.toNat 0)<e.length/\True)<|lt ((vl (GP d.1 d.2.1 (f.getD (Int.toNat (b.getD a.toNat 0)) (b7 r4))),e.set (Int.toNat (c.2.2.2.getD a.toNat 0)) (e.getD (Int.toNat (c.2.2.2.getD a.toNat 0)) 0+vl (GP d.1 d.2.1 (f.getD (Int.toNat (b.getD a.toNat 0)) (b7 r4)))))) fun(_,h) =>
  gd (c9 (a+1)/\True) <|
  g (a+1,h)
 else
  OW c e
def AE(a:j7)(b:Int):Option (List Int) :=
 gd (ix b a.2.2.length/\True)<|lt (a.2.2.getD b.toNat (b7 l7)) fun c =>
 gd ((J8 c.2.2.1).isSome/\True)<|lt (vl (J8 c.2.2.1)) fun d =>
 gd ((I6 a.2.1).isSome/\True)<|lt (vl (I6 a.2.1)) fun f =>
 gd ((U4 a.2.1 b).isSome/\True)<|lt (vl (U4 a.2.1 b)) fun e =>
 lp (Zw a f e c) (0,d)
def P0L:Ct:=j9 208 [.agg k8,.dat i64] (fun x=>AE x.1 x.2.1) (fun r:List Int=>AV.ow 2 true i64 r) (fun _=>())
theorem Zx:Ok prog P0L:=by
 refine k6 [.tmp 4] func208 ?_;intro y ⟨d,l,_⟩ r H Q hn hr;have:=hz (tc N0K (tc OV (tc Fq (tc TN tn))));refine iA [1,2]<|qD (fun a=>Z (GM l []) (Ac a d)) H fun a H=>qD (fun h=>Z (GM l [p 6 (O 18)]) ((18,A 2 i64 h 0)::Ac a d)) H fun h H=>qD (fun e=>Z (GM l [p 6 (O 18),p 7 (O 21)]) ((21,A 190 r4 e 0)::(18,A 2 i64 h 0)::Ac a d)) H fun e H=>qD (fun j=>Z (IN [p 8 (O 25)]) ((25,A 2 i64 j 0)::(21,A 190 r4 e 0)::(18,A 2 i64 h 0)::Ac a d)) H fun j H=>jN r (fun(b:List Int)=>Z [p 5 (R 5),p 6 (O 18)] [(18,A 2 i64 b 0),(5,K 153 l7 a)]) (OW a) (fun b H=>?_) (fun _ s z E=>?_)
 ·refine jN r (fun(i:List Int)=>Z [p 6 (O 18)] [(18,A 2 i64 i 0)]) (TO) (fun i H=>?_) (fun _ t T F=>?_)
  ·refine iA [4]<|j0<|hr H
  refine iB [5,6,10] H fun H=>vB<|lX (fun((c,g):Int×List Int)=>Z [p 5 (R 5),p 6 (O 18),p 10 (I c)] [(18,A 2 i64 g 0),(5,K 153 l7 a)]) (((b.length:Int)-1,b)) H fun _ x q o V ⟨c,g⟩ H=>vQ<|iA [5,6,10,58]<|cD H (fun H=>vK<|fQ<|vQ<|vB<|zD (fun f=>Z [p 5 (R 5),p 6 (O 18),p 10 (I c)] [(18,A 2 i64 f 0),(5,K 153 l7 a)]) H fun f H=>fK<|fQ<|jB [5,6,10] H fun H=>q H) fun H=>vE<|fE<|o<|fX rfl<|t H
 refine iA [2,5,6,7,8,9]<|vB<|lX (fun((k,m):Int×List Int)=>Z (IN [p 8 (O 25),p 9 (I k)]) ((25,A 2 i64 j 0)::(21,A 190 r4 e 0)::(18,A 2 i64 m 0)::Ac a d)) (0,h) H fun _ P w u G ⟨k,m⟩ H=>vQ<|iA [2,5,6,7,8,9,29]<|cD H (fun H=>?_) (fun H=>?_)
 ·refine vK<|fQ<|vQ<|vB<|zD (fun(v,n)=>Z (IN [p 8 (O 25),p 9 (I k)]) ((18,A 2 i64 n 0)::(25,A 2 i64 j 0)::(21,A 190 r4 e 0)::Ac a d)) H fun⟨v,n⟩ H =>
   fK<|fQ <|
   jB [2,5,6,7,8,9] H fun H =>
   w H
 exact vE<|fE<|u<|fX rfl<|s H
def Zy:List Int->Option (List Int)
 | a =>
 some a
def TP(b:x9)(d:List Int)(e:Int×List Int->Option (List Int)):Int×List Int->Option (List Int)
 | (a,c) =>
 if(decide (a < (d.length:Int))) then
  gd (ix a b.1.length/\ix (b.1.getD a.toNat 0) c.length/\Int.toNat (b.1.getD a.toNat 0)<c.length/\ix a b.2.1.length/\ix a d.length/\a.toNat<d.length/\c9 (b.2.1.getD a.toNat 0*d.getD a.toNat 0)/\c9 (c.getD (Int.toNat (b.1.getD a.toNat 0)) 0+b.2.1.getD a.toNat 0*d.getD a.toNat 0)/\(c.length+[c.getD (Int.toNat (b.1.getD a.toNat 0)) 0+b.2.1.getD a.toNat 0*d.getD a.toNat 0].length<=9223372036854775807/\(c.length+[c.getD (Int.toNat (b.1.getD a.toNat 0)) 0+b.2.1.getD a.toNat 0*d.getD a.toNat 0].length)*8<=140737488355328)/\True)<|lt ((c++[c.getD (Int.toNat (b.1.getD a.toNat 0)) 0+b.2.1.getD a.toNat 0*d.getD a.toNat 0],[c.getD (Int.toNat (b.1.getD a.toNat 0)) 0+b.2.1.getD a.toNat 0*d.getD a.toNat 0])) fun(f,_) =>
  gd (c9 (a+1)/\True) <|
  e (a+1,f)
 else
  Zy c
def Cy(a:j7)(b:Int):Option (List Int) :=
 gd (ix b a.2.2.length/\True)<|lt (a.2.2.getD b.toNat (b7 l7)) fun d =>
 gd ((AE a b).isSome/\True)<|lt (vl (AE a b)) fun c =>
 lp (TP d c) (1,[0])
def P0J:Ct:=j9 210 [.agg k8,.dat i64] (fun x=>Cy x.1 x.2.1) (fun r:List Int=>AV.ow 2 true i64 r) (fun _=>())
theorem Zz:Ok prog P0J:=by
 refine k6 [.tmp 4] func210 ?_;intro y ⟨d,j,_⟩ r H Q hn hr;have:=hz (tc Zx tn);refine iA [1,2]<|qD (fun a=>Z (GM j []) (Ac a d)) H fun a H=>qD (fun b=>Z [p 5 (R 5),p 6 (O 16)] ((16,A 2 i64 b 0)::Ac a d)) H fun b H=>iA [5,6,7]<|jN r (fun(g:List Int)=>Z [p 7 (O 17)] [(17,A 2 i64 g 0)]) (Zy) (fun g H=>?_) (fun _ i n o=>?_)
 ·refine iA [4]<|j0<|hr H
 refine iA [5,6,7,8]<|vB<|lX (fun((c,e):Int×List Int)=>Z [p 5 (R 5),p 6 (O 16),p 7 (O 17),p 8 (I c)] [(17,A 2 i64 e 0),(16,A 2 i64 b 0),(5,K 153 l7 a)]) (1,[0]) H fun _ m l k q ⟨c,e⟩ H=>vQ<|iA [5,6,7,8,21]<|cD H (fun H=>?_) (fun H=>?_)
 ·refine vK<|fQ<|vQ<|vB<|zD (fun(f,h)=>Z [p 5 (R 5),p 6 (O 16),p 7 (AV.os 17 1),p 8 (I c)] [(17,A 2 i64 f 1),(44,A 2 i64 h 0),(16,A 2 i64 b 0),(5,K 153 l7 a)]) H fun⟨f,h⟩ H =>
   fK<|fQ <|
   jB [5,6,7,8] H fun H =>
   l H
 exact vE<|fE<|k<|fX rfl<|i H
def KZ(c:j7)(d:Int)(f:Int)(b:Int)(e:Int):Option Int :=
 gd ((Cy c d).isSome/\ix d c.2.2.length/\ix f (c.2.2.getD d.toNat (b7 l7)).2.2.2.length/\ix ((c.2.2.getD d.toNat (b7 l7)).2.2.2.getD f.toNat 0) (vl (Cy c d)).length/\Int.toNat ((c.2.2.getD d.toNat (b7 l7)).2.2.2.getD f.toNat 0) < (vl (Cy c d)).length/\True)<|lt ((vl (Cy c d),(vl (Cy c d)).getD (Int.toNat ((c.2.2.getD d.toNat (b7 l7)).2.2.2.getD f.toNat 0)) 0)) fun(_,a) =>
 gd (c9 (1000000*b)/\c9 (1000000*b*b)/\c9 (4*a)/\c9 (4*a*a)/\c9 (1000000*b*b+4*a*a)/\(Cw (1000000*b*b+4*a*a) e).isSome/\(W4 (vl (Cw (1000000*b*b+4*a*a) e)) 1000 e).isSome/\True)<|lt (vl (W4 (vl (Cw (1000000*b*b+4*a*a) e)) 1000 e)) fun g =>
 some g
def P0X:Ct:=j9 187 [.agg k8,.dat i64,.dat i64,.dat i64,.dat i64] (fun x=>KZ x.1 x.2.1 x.2.2.1 x.2.2.2.1 x.2.2.2.2.1) (fun r:Int=>I r) (fun _=>())
theorem O0e:Ok prog P0X:=by
 refine k6 [.tmp 10] func187 ?_;intro y ⟨c,_,_,e,f,_⟩ r H Q hn hr;have:=hz (tc OS (tc N0R (tc Zz tn)));refine iA [1,2,3,4,5]<|qD (fun(a,b)=>Z [p 3 (J e),p 4 (J f),p 11 (I b)] [(14,A 2 i64 a 0),(5,K 34 k8 c)]) H fun⟨a,b⟩ H =>
  qD (fun d=>Z [p 10 (I d)] [(14,A 2 i64 a 0),(5,K 34 k8 c)]) H fun d H =>
  j0<|hr H
def BL(a:j7)(b:l8):Option Int :=
 gd ((I6 a.2.1).isSome/\(0:Int) < (2:Int)/\ix (b.2.1.tdiv (2:Int)) (vl (I6 a.2.1)).length/\(b.2.1.tdiv (2:Int)).toNat < (vl (I6 a.2.1)).length/\True)<|lt ((vl (I6 a.2.1),(vl (I6 a.2.1)).getD (b.2.1.tdiv 2).toNat (b7 r4))) fun(_,c) =>
 some c.2.2.1
def Q0a:Ct:=j9 184 [.agg k8,.agg y80] (fun x=>BL x.1 x.2.1) (fun r:Int=>I r) (fun _=>())
theorem ZA:Ok prog Q0a:=by
 refine k6 [.tmp 4] func184 ?_;intro y ⟨c,d,_⟩ r H Q hn hr;have:=hz (tc Fq tn);refine iA [2,3]<|qD (fun(b,a)=>Z [p 4 (I a.2.2.1)] [(7,A 190 r4 b 0),(3,K 80 y80 d),(2,K 34 k8 c)]) H fun⟨b,a⟩ H =>
  j0<|hr H
def ZB:Unit->Option (Int×Int×Int)
 | _ =>
 some (((0:Int),(1:Int),(0:Int)))
def Dq(b:List Int)(c:Int)(d:Int->Option (Int×Int×Int)):Int->Option (Int×Int×Int)
 | a =>
 if(decide (0<=a)) then
  gd (ix a b.length/\True) <|
  if(c==b.getD a.toNat 0) then
   some ((a,(1:Int),(0:Int)))
  else
   gd (ix a b.length/\True) <|
   if(decide (b.getD a.toNat 0<c)) then
    gd (c9 (a+1)/\ix (a+1) b.length/\c9 (b.getD (a+1).toNat 0-c)/\ix a b.length/\c9 (c-b.getD a.toNat 0)/\True) <|
    some ((a,b.getD (a+1).toNat 0-c,c-b.getD a.toNat 0))
   else
    gd (c9 (a-1)/\True) <|
    d (a-1)
 else
  ZB ()
def Dr(a:List Int)(c:Int):Option (Int×Int×Int) :=
 gd (ix 0 a.length/\True) <|
 gd (c9 ((a.length:Int)-1)/\ix ((a.length:Int)-1) a.length/\True)<|lt (min (max c (a.getD (Int.toNat (0:Int)) (0:Int))) (a.getD ((a.length:Int)-(1:Int)).toNat (0:Int))) fun b =>
 gd (c9 ((a.length:Int)-1)/\True) <|
 lp (Dq a b) ((a.length:Int)-1)
def P0K:Ct:=j9 209 [.dat i64.sl,.dat i64] (fun x=>Dr x.1 x.2.1) (fun r:Int×Int×Int=>AV.tup [I r.1,I r.2.1,I r.2.2]) (fun _=>())
theorem N0S:Ok prog P0K:=by
 refine k6 [.tmp 4,.tmp 5,.tmp 6] func209 ?_;intro y ⟨a,_,_⟩ r H Q hn hr;refine iA [0,1]<|iA [0,1,7]<|iB [0,1,7] H fun H=>qD (fun b=>Z [p 0 (L i64 a),p 1 (I b),p 7 (I (a.length:Int))] []) H fun b H=>jN r (fun(_:Unit)=>Z [] []) (ZB) (fun _ H=>?_) (fun _ f j d=>?_)
 ·refine iA [4,5,6]<|j0<|hr H
 refine iB [0,1,8] H fun H=>vB<|lX (fun(c:Int)=>Z [p 0 (L i64 a),p 1 (I b),p 8 (I c)] []) ((a.length:Int)-1) H fun _ i h g e c H=>vQ<|iA [0,1,8,26]<|cD H (fun H=>?_) (fun H=>?_)
 ·refine vK<|fQ<|vQ<|vB<|vQ<|iB [0,1,8,34] H fun H=>cD H (fun H=>iA [4,5,6]<|j0<|fR<|l9<|fR<|e<|l9<|d<|hr H) fun H=>vK<|fQ<|iB [0,1,8,41] H fun H=>cD H (fun H=>iB [4,5,6] H fun H=>j0<|l9<|fR<|e<|l9<|d<|hr H) fun H=>vK<|fK<|fQ<|jB [0,1,8] H fun H=>h H
 exact vE<|fE<|g<|fX rfl<|f H
def OX(b:Int×Int×Int)(a:Int×Int×Int)(e:Int):Int->Option Int
 | c =>
 gd (c9 (b.2.1+b.2.2)/\c9 (a.2.1+a.2.2)/\c9 ((b.2.1+b.2.2)*(a.2.1+a.2.2))/\(W4 c ((b.2.1+b.2.2)*(a.2.1+a.2.2)) e).isSome/\True)<|lt (vl (W4 c ((b.2.1+b.2.2)*(a.2.1+a.2.2)) e)) fun d =>
 some d
def TQ(a:Int)(c:Int×Int->Option Int):Int->Option Int
 | b =>
 gd (c9 (a+1)/\True) <|
 c (b,a+1)
def IU(a:Int)(c:Int×Int->Option Int):Int->Option Int
 | b =>
 gd (c9 (a+1)/\True) <|
 c (b,a+1)
def Ds(b:Int)(f:Int)(c:u6)(e:Int×Int×Int)(a:Int)(g:Int×Int×Int)(i:Int×Int->Option Int):Int->Option Int
 | d =>
 if(decide (0<d)) then
  gd (c9 (e.1+a)/\c9 ((e.1+a)*(c.2.1.length:Int))/\c9 ((e.1+a)*(c.2.1.length:Int)+g.1)/\c9 ((e.1+a)*(c.2.1.length:Int)+g.1+b)/\ix ((e.1+a)*(c.2.1.length:Int)+g.1+b) c.2.2.length/\c9 (d*c.2.2.getD ((e.1+a)*(c.2.1.length:Int)+g.1+b).toNat 0)/\c9 (f+d*c.2.2.getD ((e.1+a)*(c.2.1.length:Int)+g.1+b).toNat 0)/\True)<|lt (f+d*c.2.2.getD ((e.1+a)*(c.2.1.length:Int)+g.1+b).toNat 0) fun h =>
  IU b i h
 else
  IU b i f
def La(b:Int)(d:Int)(f:u6)(g:Int×Int×Int)(e:Int)(c:Int×Int×Int)(h:Int×Int->Option Int):Int->Option Int
 | a =>
 if(b==0) then
  gd (c9 (a*c.2.1)/\True) <|
  Ds b d f g e c h (a*c.2.1)
 else
  gd (c9 (a*c.2.2)/\True) <|
  Ds b d f g e c h (a*c.2.2)
def GQ(f:u6)(d:Int×Int×Int)(a:Int)(e:Int×Int×Int)(h:Int×Int->Option Int)(g:Int×Int->Option Int):Int×Int->Option Int
 | (b,c) =>
 if(decide (c<2)) then
  if(a==1) then
   La c b f d a e g d.2.2
  else
   La c b f d a e g d.2.1
 else
  TQ a h b
def IV(e:u6)(d:Int×Int×Int)(c:Int×Int×Int)(g:Int)(f:Int×Int->Option Int):Int×Int->Option Int
 | (b,a) =>
 if(decide (a<2)) then
  lp (GQ e d a c f) (b,0)
 else
  OX d c g b
def BM(a:u6)(c:Int)(b:Int)(e:Int):Option Int :=
 gd ((Dr a.1 c).isSome/\True)<|lt (vl (Dr a.1 c)) fun f =>
 gd ((Dr a.2.1 b).isSome/\True)<|lt (vl (Dr a.2.1 b)) fun d =>
 lp (IV a f d e) (0,0)
def Q0c:Ct:=j9 182 [.agg y70,.dat i64,.dat i64,.dat i64] (fun x=>BM x.1 x.2.1 x.2.2.1 x.2.2.2.1) (fun r:Int=>I r) (fun _=>())
theorem ZC:Ok prog Q0c:=by
 refine k6 [.tmp 8] func182 ?_;intro y ⟨e,_,w,g,_⟩ r H Q hn hr;have:=hz (tc OS (tc N0S tn));refine iA [1,2,3,4]<|qD (fun a=>Z [p 2 (J w),p 3 (J g),p 4 (R 4),p 9 (I a.1),p 10 (I a.2.1),p 11 (I a.2.2)] [(4,K 70 y70 e)]) H fun a H=>qD (fun b=>Z [p 3 (J g),p 4 (R 4),p 9 (I a.1),p 10 (I a.2.1),p 11 (I a.2.2),p 12 (I b.1),p 13 (I b.2.1),p 14 (I b.2.2)] [(4,K 70 y70 e)]) H fun b H=>iA [3,4,9,10,11,12,13,14,15]<|iA [3,4,9,10,11,12,13,14,15,16]<|jN r (fun(k:Int)=>Z [p 3 (J g),p 10 (I a.2.1),p 11 (I a.2.2),p 13 (I b.2.1),p 14 (I b.2.2),p 16 (I k)] []) (OX a b g) (fun k H=>?_) (fun _ E V X=>?_)
 ·refine qD (fun n=>Z [p 8 (I n)] []) H fun n H=>j0<|hr H
 refine iA [3,4,9,10,11,12,13,14,15,16,17]<|vB<|lX (fun((h,c):Int×Int)=>Z (GJ g a.1 a.2.1 a.2.2 b.1 b.2.1 b.2.2 (e.2.1.length:Int) h [p 17 (I c)]) [(4,K 70 y70 e)]) (0,0) H fun _ v P G t1 ⟨h,c⟩ H=>vQ<|iA [3,4,9,10,11,12,13,14,15,16,17,40]<|cD H (fun H=>?_) (fun H=>?_)
 ·refine vK<|fQ<|jN r (fun(l:Int)=>Z (GJ g a.1 a.2.1 a.2.2 b.1 b.2.1 b.2.2 (e.2.1.length:Int) l [p 17 (I c)]) [(4,K 70 y70 e)]) (TQ c v) (fun l H=>?_) (fun _ F e2 t2=>?_)
  ·refine jB [3,4,9,10,11,12,13,14,15,16,17] H fun H=>P H
  refine vB<|iA [3,4,9,10,11,12,13,14,15,16,17,18]<|vB<|lX (fun((f,d):Int×Int)=>Z (GJ g a.1 a.2.1 a.2.2 b.1 b.2.1 b.2.2 (e.2.1.length:Int) f [p 17 (I c),p 18 (I d)]) [(4,K 70 y70 e)]) (h,0) H fun _ q z x t3 ⟨f,d⟩ H=>vQ<|iA [3,4,9,10,11,12,13,14,15,16,17,18,44]<|cD H (fun H=>?_) (fun H=>?_)
  ·refine vK<|fQ<|jN r (fun(i:Int)=>Z (GJ g a.1 a.2.1 a.2.2 b.1 b.2.1 b.2.2 (e.2.1.length:Int) i [p 17 (I c),p 18 (I d)]) [(4,K 70 y70 e)]) (IU d q) (fun i H=>?_) (fun _ u W T=>?_)
   ·refine jB [3,4,9,10,11,12,13,14,15,16,17,18] H fun H=>z H
   refine vB<|iA [3,4,9,10,11,12,13,14,15,16,17,18,19]<|jN r (fun(j:Int)=>Z (GJ g a.1 a.2.1 a.2.2 b.1 b.2.1 b.2.2 (e.2.1.length:Int) f [p 17 (I c),p 18 (I d),p 19 (I j)]) [(4,K 70 y70 e)]) (La d f e a c b q) (fun j H=>?_) (fun _ s e5 Y=>?_)
   ·refine jN r (fun(m:Int)=>Z (GJ g a.1 a.2.1 a.2.2 b.1 b.2.1 b.2.2 (e.2.1.length:Int) f [p 17 (I c),p 18 (I d),p 19 (I m)]) [(4,K 70 y70 e)]) (Ds d f e a c b q) (fun m H=>?_) (fun _ t e6 t6=>?_)
    ·refine iA [3,4,9,10,11,12,13,14,15,16,17,18,19,60]<|cD H (fun H=>zD (fun o=>Z (GJ g a.1 a.2.1 a.2.2 b.1 b.2.1 b.2.2 (e.2.1.length:Int) o [p 17 (I c),p 18 (I d)]) [(4,K 70 y70 e)]) H fun o H=>fK<|u H) fun H=>vK<|fK<|u H
    refine iA [3,4,9,10,11,12,13,14,15,16,17,18,19,52]<|cD H (fun H=>jB [3,4,9,10,11,12,13,14,15,16,17,18,19] H fun H=>t H) fun H=>jB [3,4,9,10,11,12,13,14,15,16,17,18,19] H fun H=>t H
   refine iA [3,4,9,10,11,12,13,14,15,16,17,18,19,49]<|cD H (fun H=>jA [3,4,9,10,11,12,13,14,15,16,17,18,19]<|s H) fun H=>vK<|s H
  exact vE<|fE<|x<|fX rfl<|fK<|F H
 exact vE<|fE<|G<|fX rfl<|E H
def GR(a:j7)(c:l8):Option (A8×Int) :=
 gd ((I6 a.2.1).isSome/\(0:Int) < (2:Int)/\ix (c.2.1.tdiv (2:Int)) (vl (I6 a.2.1)).length/\(c.2.1.tdiv (2:Int)).toNat < (vl (I6 a.2.1)).length/\True)<|lt ((vl (I6 a.2.1),(vl (I6 a.2.1)).getD (c.2.1.tdiv 2).toNat (b7 r4))) fun(_,b) =>
 gd (ix b.1 a.2.1.1.length/\ix (a.2.1.1.getD b.1.toNat (b7 y139)).2.1 a.1.length/\ix c.2.2.2 (a.1.getD (a.2.1.1.getD b.1.toNat (b7 y139)).2.1.toNat (b7 y64)).2.2.2.1.length/\(AE a b.2.2.1).isSome/\ix (0:Int) (vl (AE a b.2.2.1)).length/\Int.toNat (0:Int) < (vl (AE a b.2.2.1)).length/\True)<|lt ((vl (AE a b.2.2.1),(a.1.getD (a.2.1.1.getD b.1.toNat (b7 y139)).2.1.toNat (b7 y64)).2.2.2.1.getD c.2.2.2.toNat (b7 y67))) fun(e,d) =>
 some ((d,e.getD (Int.toNat (0:Int)) (0:Int)))
def Q0d:Ct:=j9 181 [.agg k8,.agg y80] (fun x=>GR x.1 x.2.1) (fun r:A8×Int=>AV.tup [AV.agg (Q6 r.1),I r.2]) (fun _=>())
theorem ZD:Ok prog Q0d:=by
 refine k6 [.cell 4 67,.tmp 5] func181 ?_;intro y ⟨d,f,_⟩ r H Q hn hr;have:=hz (tc Zx (tc Fq tn));refine iA [2,3,4]<|qD (fun(c,a)=>Z (G9 [p 4 (R 4),p 6 (R 6)]) [(6,bx 190 (o8 true r4 a)),(9,A 190 r4 c 0),(4,bx 67 [I 0,I 0,I 0,I 0,nil,nil]),(3,K 80 y80 f),(2,K 34 k8 d)]) H fun⟨c,a⟩ H =>
  qD (fun(b,e)=>Z [p 4 (R 4),p 5 (I (b.getD (Int.toNat (0:Int)) (0:Int)))] [(4,K 67 y67 e),(36,A 2 i64 b 0),(6,bx 190 (o8 true r4 a)),(9,A 190 r4 c 0),(3,K 80 y80 f),(2,K 34 k8 d)]) H fun⟨b,e⟩ H =>
  j0<|hr H
def Be(b:j7)(a:l8)(d:Int)(e:Int):Option Int :=
 if(a.2.2.1==1) then
  gd ((GR b a).isSome/\True)<|lt (vl (GR b a)) fun c =>
  gd ((0:Int) < (2:Int)/\ix (a.2.1.tmod (2:Int)) c.1.2.2.2.2.2.length/\(BM (c.1.2.2.2.2.2.getD (a.2.1.tmod (2:Int)).toNat (b7 y70)) d c.2 e).isSome/\True)<|lt (vl (BM (c.1.2.2.2.2.2.getD (a.2.1.tmod 2).toNat (b7 y70)) d c.2 e)) fun f =>
  some f
 else
  gd ((BL b a).isSome/\(KZ b (vl (BL b a)) a.2.2.2 d e).isSome/\True)<|lt (vl (KZ b (vl (BL b a)) a.2.2.2 d e)) fun g =>
  some (min 1000000 g)
def Q0z:Ct:=j9 155 [.agg k8,.agg y80,.dat i64,.dat i64] (fun x=>Be x.1 x.2.1 x.2.2.1 x.2.2.2.1) (fun r:Int=>I r) (fun _=>())
theorem O0v:Ok prog Q0z:=by
 refine k6 [.tmp 8] func155 ?_;intro y ⟨b,c,f,g,_⟩ r H Q hn hr;have:=hz (tc O0e (tc ZA (tc ZC (tc ZD tn))));refine iA [2,3,4,5]<|vQ<|iA [2,3,4,5,13]<|cD H (fun H=>qD (fun a=>Z [p 2 (J f),p 3 (J g),p 5 (R 5),p 9 (R 9),p 10 (I a.2)] [(9,bx 67 (Q6 a.1)),(5,K 80 y80 c),(4,K 34 k8 b)]) H fun a H=>qD (fun d=>Z [p 8 (I d)] [(9,bx 67 (Q6 a.1)),(5,K 80 y80 c),(4,K 34 k8 b)]) H fun d H=>j0<|fR<|hr H) fun H=>vK<|fQ<|qD (fun e=>Z [p 8 (I (min 1000000 e))] [(5,K 80 y80 c),(4,K 34 k8 b)]) H fun e H=>j0<|hr H
def GS(a:p7)(c:Int)(b:Int):Option Int :=
 if(c==1) then
  if(b==0) then
   some a.2.1
  else
   some a.2.2.1
 else
  if(b==0) then
   some a.2.2.2.1
  else
   some a.2.2.2.2
def P0Y:Ct:=j9 186 [.agg p5,.dat i64,.dat i64] (fun x=>GS x.1 x.2.1 x.2.2.1) (fun r:Int=>I r) (fun _=>())
theorem O0f:Ok prog P0Y:=by
 refine k6 [.tmp 6] func186 ?_;intro y ⟨_,_,_,_⟩ r H Q hn hr;refine iA [1,2,3]<|vQ<|iA [2,3,8]<|cD H (fun H=>?_) (fun H=>?_)
 ·refine vQ<|iA [3,10]<|cD H (fun H=>iA [6]<|j0<|fR<|fR<|hr H) fun H=>vK<|fQ<|iA [6]<|j0<|fR<|hr H
 refine vK<|fQ<|vQ<|iA [3,16]<|cD H (fun H=>iA [6]<|j0<|fR<|hr H) fun H=>vK<|fQ<|iA [6]<|j0<|hr H
def ZE:List Int->Option (List Int)
 | a =>
 some a
def ZF(d:List Int)(a:j7)(c:Int)(e:Int)(g:Int×List Int->Option (List Int)):Int×List Int->Option (List Int)
 | (b,f) =>
 gd (ix c a.2.2.length/\True) <|
 if(decide (b < (↑(a.2.2.getD c.toNat (b7 l7)).2.2.2.length:Int))) then
  gd (ix c a.2.2.length/\ix b (a.2.2.getD c.toNat (b7 l7)).2.2.2.length/\ix ((a.2.2.getD c.toNat (b7 l7)).2.2.2.getD b.toNat 0) d.length/\Int.toNat ((a.2.2.getD c.toNat (b7 l7)).2.2.2.getD b.toNat 0)<d.length/\(W4 (d.getD (Int.toNat ((a.2.2.getD c.toNat (b7 l7)).2.2.2.getD b.toNat 0)) 0) 1000 e).isSome/\(f.length+[vl (W4 (d.getD (Int.toNat ((a.2.2.getD c.toNat (b7 l7)).2.2.2.getD b.toNat 0)) 0) 1000 e)].length<=9223372036854775807/\(f.length+[vl (W4 (d.getD (Int.toNat ((a.2.2.getD c.toNat (b7 l7)).2.2.2.getD b.toNat 0)) 0) 1000 e)].length)*8<=140737488355328)/\True)<|lt (vl (W4 (d.getD (Int.toNat ((a.2.2.getD c.toNat (b7 l7)).2.2.2.getD b.toNat 0)) 0) 1000 e)) fun h =>
  gd (c9 (b+1)/\True) <|
  g (b+1,f++[h])
 else
  ZE f
def GU(a:j7)(b:Int)(c:Int):Option (List Int) :=
 gd ((Cy a b).isSome/\True)<|lt (vl (Cy a b)) fun d =>
 lp (ZF d a b c) (0,[])
def Q0b:Ct:=j9 183 [.agg k8,.dat i64,.dat i64] (fun x=>GU x.1 x.2.1 x.2.2.1) (fun r:List Int=>AV.ow 2 true i64 r) (fun _=>())
theorem O0g:Ok prog Q0b:=by
 refine k6 [.tmp 6] func183 ?_;intro y ⟨b,g,c,_⟩ r H Q hn hr;have:=hz (tc OS (tc Zz tn));refine iA [1,2,3]<|qD (fun a=>Z [p 1 (J g),p 2 (J c),p 3 (R 3),p 7 (O 12)] [(12,A 2 i64 a 0),(3,K 34 k8 b)]) H fun a H=>iA [1,2,3,7,8]<|jN r (fun(h:List Int)=>Z [p 8 (O 13)] [(13,A 2 i64 h 0)]) (ZE) (fun h H=>?_) (fun _ i m n=>?_)
 ·refine iA [6]<|j0<|hr H
 refine iA [1,2,3,7,8,9]<|vB<|lX (fun((d,e):Int×List Int)=>Z [p 1 (J g),p 2 (J c),p 3 (R 3),p 7 (O 12),p 8 (O 13),p 9 (I d)] [(13,A 2 i64 e 0),(12,A 2 i64 a 0),(3,K 34 k8 b)]) (0,[]) H fun _ l k j o ⟨d,e⟩ H=>vQ<|iB [1,2,3,7,8,9,22] H fun H=>cD H (fun H=>vK<|fQ<|vQ<|vB<|zD (fun f=>Z [p 1 (J g),p 2 (J c),p 3 (R 3),p 7 (O 12),p 8 (AV.os 13 1),p 9 (I d)] [(13,A 2 i64 (e++[f]) 1),(40,A 2 i64 [f] 0),(12,A 2 i64 a 0),(3,K 34 k8 b)]) H fun f H=>fK<|fQ<|jB [1,2,3,7,8,9] H fun H=>k H) fun H=>vE<|fE<|j<|fX rfl<|i H
def IW(c:p7)(b:l8)(a:Int):Int->Option Int
 | d =>
 gd ((GS c b.2.2.1 a).isSome/\c9 (d*vl (GS c b.2.2.1 a))/\(W4 (d*vl (GS c b.2.2.1 a)) 1000 a).isSome/\True)<|lt (vl (W4 (d*vl (GS c b.2.2.1 a)) 1000 a)) fun e =>
 some e
def Bf(b:j7)(f:p7)(a:l8)(e:Int)(c:Int):Option Int :=
 if(a.2.2.1==1) then
  gd ((GR b a).isSome/\True)<|lt (vl (GR b a)) fun d =>
  gd ((0:Int) < (2:Int)/\ix (a.2.1.tmod (2:Int)) d.1.2.2.2.2.1.length/\(BM (d.1.2.2.2.2.1.getD (a.2.1.tmod (2:Int)).toNat (b7 y70)) e d.2 c).isSome/\True)<|lt (vl (BM (d.1.2.2.2.2.1.getD (a.2.1.tmod 2).toNat (b7 y70)) e d.2 c)) fun g =>
  IW f a c g
 else
  gd ((BL b a).isSome/\(GU b (vl (BL b a)) c).isSome/\ix a.2.2.2 (vl (GU b (vl (BL b a)) c)).length/\a.2.2.2.toNat < (vl (GU b (vl (BL b a)) c)).length/\True)<|lt (vl (GU b (vl (BL b a)) c)) fun h =>
  IW f a c (h.getD a.2.2.2.toNat 0)
def Q0A:Ct:=j9 154 [.agg k8,.agg p5,.agg y80,.dat i64,.dat i64] (fun x=>Bf x.1 x.2.1 x.2.2.1 x.2.2.2.1 x.2.2.2.2.1) (fun r:Int=>I r) (fun _=>())
theorem O0w:Ok prog Q0A:=by
 refine k6 [.tmp 10] func154 ?_;intro y ⟨e,b,a,k,c,_⟩ r H Q hn hr;have:=hz (tc OS (tc O0f (tc O0g (tc ZA (tc ZC (tc ZD tn))))));refine iA [3,4,5,6,7]<|iA [3,4,5,6,7]<|jN r (fun(h:Int)=>Z [p 4 (J c),p 6 (R 6),p 7 (R 7),p 11 (I h)] [(7,K 80 y80 a),(6,K 36 p5 b)]) (IW b a c) (fun h H=>?_) (fun _ i l m=>?_)
 ·refine qD (fun j=>Z [p 10 (I j)] [(7,K 80 y80 a),(6,K 36 p5 b)]) H fun j H=>j0<|hr H
 refine iA [3,4,5,6,7,16]<|cD H (fun H=>qD (fun d=>Z [p 3 (J k),p 4 (J c),p 6 (R 6),p 7 (R 7),p 12 (R 12),p 13 (I d.2)] ((12,bx 67 (Q6 d.1))::(7,K 80 y80 a)::Dm b e)) H fun d H=>zD (fun g=>Z [p 4 (J c),p 6 (R 6),p 7 (R 7),p 11 (I g)] ((12,bx 67 (Q6 d.1))::(7,K 80 y80 a)::Dm b e)) H fun g H=>i H) fun H=>zD (fun f=>Z [p 4 (J c),p 6 (R 6),p 7 (R 7),p 11 (I (f.getD a.2.2.2.toNat 0))] ((39,A 2 i64 f 0)::(7,K 80 y80 a)::Dm b e)) H fun f H=>i H
def IX(a:j7)(d:p7)(b:l8)(c:s9):Option (s9×s9) :=
 gd ((Bf a d b c.1 0).isSome/\(Bf a d b c.1 1).isSome/\True)<|lt ((vl (Bf a d b c.1 0),vl (Bf a d b c.1 1))) fun(g,e) =>
 gd ((Be a b c.1 0).isSome/\(Be a b c.1 1).isSome/\True)<|lt ((vl (Be a b c.1 0),vl (Be a b c.1 1))) fun(f,h) =>
 gd ((Bf a d b c.2 0).isSome/\True)<|lt (vl (Bf a d b c.2 0)) fun k =>
 gd ((Bf a d b c.2 1).isSome/\True)<|lt (vl (Bf a d b c.2 1)) fun i =>
 gd ((Be a b c.2 0).isSome/\True)<|lt (vl (Be a b c.2 0)) fun j =>
 gd ((Be a b c.2 1).isSome/\True)<|lt (vl (Be a b c.2 1)) fun l =>
 some (((min g k,max e i),min f j,max h l))
def R0l:Ct:=j9 110 [.agg k8,.agg p5,.agg y80,.agg y51] (fun x=>IX x.1 x.2.1 x.2.2.1 x.2.2.2.1) (fun r:s9×s9=>AV.tup [AV.agg [I r.1.1,I r.1.2],AV.agg [I r.2.1,I r.2.2]]) (fun _=>())
theorem O0X:Ok prog R0l:=by
 refine k6 [.cell 8 51,.cell 9 51] func110 ?_;intro y ⟨c,h,d,e,_⟩ r H Q hn hr;have:=hz (tc O0v (tc O0w tn));refine iA [4,5,6,7,8,9]<|qD (fun(b,a)=>Z (TD []) ((10,bx 51 [I b,I a])::W8 e d h c)) H fun⟨b,a⟩ H =>
  qD (fun(f,g)=>Z (TD [p 11 (R 11)]) ((11,bx 51 [I f,I g])::(10,bx 51 [I b,I a])::W8 e d h c)) H fun⟨f,g⟩ H =>
  qD (fun i=>Z (TD [p 11 (R 11)]) ((10,bx 51 [I (min b i),I a])::(11,bx 51 [I f,I g])::W8 e d h c)) H fun i H =>
  qD (fun j=>Z [p 4 (R 4),p 6 (R 6),p 7 (R 7),p 8 (R 8),p 9 (R 9),p 10 (R 10),p 11 (R 11)] ((10,bx 51 [I (min b i),I (max a j)])::(11,bx 51 [I f,I g])::W8 e d h c)) H fun j H =>
  qD (fun k=>Z [p 4 (R 4),p 6 (R 6),p 7 (R 7),p 8 (R 8),p 9 (R 9),p 10 (R 10),p 11 (R 11)] ((11,bx 51 [I (min f k),I g])::(10,bx 51 [I (min b i),I (max a j)])::W8 e d h c)) H fun k H =>
  qD (fun l=>Z [p 8 (R 8),p 9 (R 9),p 10 (R 10),p 11 (R 11)] ((11,bx 51 [I (min f k),I (max g l)])::(10,bx 51 [I (min b i),I (max a j)])::W8 e d h c)) H fun l H =>
  iA [8,9] <|
  j0<|hr H
def Lb(a:Int):Option B3 :=
 gd ((0<=a/\a=a/\a.toNat*1<=281474976710656/\a<=9223372036854775807)/\(0<=a/\a=a/\a.toNat*16<=281474976710656/\a<=9223372036854775807)/\(0<=a/\a=a/\a.toNat*16<=281474976710656/\a<=9223372036854775807)/\True) <|
 some ((List.replicate a.toNat false,List.replicate a.toNat ((0:Int),(0:Int)),List.replicate a.toNat ((0:Int),(0:Int))))
def k78:Ct:=j9 78 [.dat i64] (fun x=>Lb x.1) (fun r:B3=>AV.agg [AV.ow 4 true Ty.bool r.1,AV.ow 51 true y51 r.2.1,AV.ow 51 true y51 r.2.2]) (fun _=>())
theorem o78:Ok prog k78:=by
 refine k6 [.cell 2 44] func78 ?_;intro y ⟨_,_⟩ r H Q hn hr;refine iA [0,2]<|iB [2] H fun H=>j0<|hr H
def U5(a:j7):Option Int :=
 gd ((I6 a.2.1).isSome/\c9 (2*(↑(vl (I6 a.2.1)).length:Int))/\True)<|lt (vl (I6 a.2.1)) fun b =>
 some (2*(b.length:Int))
def k40:Ct:=j9 40 [.agg k8] (fun x=>U5 x.1) (fun r:Int=>I r) (fun _=>())
theorem Lc:Ok prog k40:=by
 refine k6 [.tmp 2] func40 ?_;intro y ⟨b,_⟩ r H Q hn hr;have:=hz (tc Fq tn);refine iA [1]<|qD (fun a=>Z [p 2 (I (2*(a.length:Int)))] [(5,A 190 r4 a 0),(1,K 34 k8 b)]) H fun a H=>j0<|hr H
def ZG:Unit->Option Bool
 | _ =>
 some false
def ZH(b:List Int)(d:Int)(c:Int->Option Bool):Int->Option Bool
 | a =>
 if(decide (a < (b.length:Int))) then
  gd (ix a b.length/\True) <|
  if(b.getD a.toNat 0==d) then
   some true
  else
   gd (c9 (a+1)/\True) <|
   c (a+1)
 else
  ZG ()
def U6(a:List Int)(b:Int):Option Bool :=
 lp (ZH a b) 0
def k81:Ct:=j9 81 [.dat i64.sl,.dat i64] (fun x=>U6 x.1 x.2.1) (fun r:Bool=>B r) (fun _=>())
theorem ZI:Ok prog k81:=by
 refine k6 [.tmp 4] func81 ?_;intro y ⟨b,d,_⟩ r H Q hn hr;refine iA [0,1]<|jN r (fun(_:Unit)=>Z [] []) (ZG) (fun _ H=>?_) (fun _ c j g=>?_)
 ·refine iA [4]<|j0<|hr H
 refine iA [0,1,5]<|vB<|lX (fun(a:Int)=>Z [p 0 (L i64 b),p 1 (J d),p 5 (I a)] []) 0 H fun _ i f e h a H=>vQ<|iA [0,1,5,9]<|cD H (fun H=>?_) (fun H=>?_)
 ·refine vK<|fQ<|vQ<|vB<|iB [0,1,5,17] H fun H=>cD H (fun H=>iA [4]<|j0<|l9<|fR<|h<|l9<|g<|hr H) fun H=>vK<|fK<|fQ<|jB [0,1,5] H fun H=>f H
 exact vE<|fE<|e<|fX rfl<|c H
def ZJ:List Bool->Option (List Bool)
 | a =>
 some a
def ZK(c:List Int)(d:List l8)(e:Int×List Bool->Option (List Bool)):Int×List Bool->Option (List Bool)
 | (a,b) =>
 if(decide (a < (d.length:Int))) then
  gd ((U6 c a).isSome/\(b.length+[!vl (U6 c a)].length<=9223372036854775807/\(b.length+[!vl (U6 c a)].length)*1<=140737488355328)/\True) <|
  gd (c9 (a+1)/\True) <|
  e ((a+1,b++[!vl (U6 c a)]))
 else
  ZJ b
def Bg(a:List l8)(b:List Int):Option (List Bool) :=
 lp (ZK b a) (0,[])
def k34:Ct:=j9 34 [.dat y80.sl,.dat i64.sl] (fun x=>Bg x.1 x.2.1) (fun r:List Bool=>AV.ow 4 true Ty.bool r) (fun _=>())
theorem TR:Ok prog k34:=by
 refine k6 [.tmp 4] func34 ?_;intro y ⟨d,f,_⟩ r H Q hn hr;have:=hz (tc ZI tn);refine iA [0,1]<|iA [0,1,5]<|jN r (fun(b:List Bool)=>Z [p 5 (O 7)] [(7,A 4 Ty.bool b 0)]) (ZJ) (fun b H=>?_) (fun _ e j k=>?_)
 ·refine iA [4]<|j0<|hr H
 refine iA [0,1,5,6]<|vB<|lX (fun((c,a):Int×List Bool)=>Z [p 0 (L y80 d),p 1 (L i64 f),p 5 (O 7),p 6 (I c)] [(7,A 4 Ty.bool a 0)]) (0,[]) H fun _ i h g l ⟨c,a⟩ H=>vQ<|iA [0,1,5,6,11]<|cD H (fun H=>vK<|fQ<|vQ<|vB<|jB [0,1,5,6] H fun H=>fK<|fQ<|jB [0,1,5,6] H fun H=>h H) fun H=>vE<|fE<|g<|fX rfl<|e H
def Fs(e:List l8)(b:Int)(a:Int)(c:Int)(d:Int)(f:Int)(g:Int):Option (List l8) :=
 gd (c9 (2*b)/\c9 (2*b+c)/\c9 (2*a)/\c9 (2*a+d)/\(e.length+[(2*b+c,2*a+d,f,g)].length<=9223372036854775807/\(e.length+[(2*b+c,2*a+d,f,g)].length)*32<=140737488355328)/\True) <|
 some (e++[(2*b+c,2*a+d,f,g)])
def k77:Ct:=j9 77 [.os 80 y80,.dat i64,.dat i64,.dat i64,.dat i64,.dat i64,.dat i64] (fun x=>Fs x.1 x.2.1 x.2.2.1 x.2.2.2.1 x.2.2.2.2.1 x.2.2.2.2.2.1 x.2.2.2.2.2.2.1) (fun r:List l8=>AV.ow 80 true y80 r) (fun _=>())
theorem ZL:Ok prog k77:=by
 refine k6 [.tmp 14] func77 ?_;intro y ⟨_,_,_,_,_,_,_,_⟩ r H Q hn hr;refine iA [0,1,2,3,4,5,6]<|iB [14] H fun H=>j0<|hr H
def ZM:Unit->Option Int
 | _ =>
 some (-1)
def ZN(b:List D2)(c:Int)(d:Int->Option Int):Int->Option Int
 | a =>
 if(decide (a < (b.length:Int))) then
  gd (ix a b.length/\a.toNat<b.length/\(((b.getD a.toNat (b7 r4)).2.2.1==c)=true/\True->ix a b.length)/\(((b.getD a.toNat (b7 r4)).2.2.1==c)=true/\True->a.toNat<b.length)/\True) <|
  if((b.getD a.toNat (b7 r4)).2.2.1==c&&(b.getD a.toNat (b7 r4)).2.2.2) then
   some a
  else
   gd (c9 (a+1)/\True) <|
   d (a+1)
 else
  ZM ()
def Ld(a:r8)(c:Int):Option Int :=
 gd ((I6 a).isSome/\True)<|lt (vl (I6 a)) fun b =>
 lp (ZN b c) 0
def k75:Ct:=j9 75 [.agg y31,.dat i64] (fun x=>Ld x.1 x.2.1) (fun r:Int=>I r) (fun _=>())
theorem o75:Ok prog k75:=by
 refine k6 [.tmp 4] func75 ?_;intro y ⟨d,c,_⟩ r H Q hn hr;have:=hz (tc Fq tn);refine iA [1,2]<|qD (fun a=>Z [p 1 (J c),p 5 (O 8)] [(8,A 190 r4 a 0),(2,K 31 y31 d)]) H fun a H=>jN r (fun(_:Unit)=>Z [] []) (ZM) (fun _ H=>?_) (fun _ e k h=>?_)
 ·refine iA [4]<|j0<|hr H
 refine iA [1,5,6]<|vB<|lX (fun(b:Int)=>Z [p 1 (J c),p 5 (O 8),p 6 (I b)] [(8,A 190 r4 a 0)]) 0 H fun _ j g f i b H=>vQ<|iA [1,5,6,12]<|cD H (fun H=>?_) (fun H=>?_)
 ·refine vK<|fQ<|vQ<|vB<|iB [1,5,6,28] H fun H=>cD H (fun H=>iA [4]<|j0<|l9<|fR<|i<|l9<|h<|hr H) fun H=>vK<|fK<|fQ<|jB [1,5,6] H fun H=>g H
 exact vE<|fE<|f<|fX rfl<|e H
def ZO:List l8->Option (List l8)
 | a =>
 some a
def TS(b:Int)(c:Int×List l8->Option (List l8)):List l8->Option (List l8)
 | a =>
 gd (c9 (b+1)/\True) <|
 c (b+1,a)
def OY(a:Int)(c:Int×List l8->Option (List l8)):List l8->Option (List l8)
 | b =>
 gd (c9 (a+1)/\True) <|
 c (a+1,b)
def Ft(a:Int)(b:List l8)(e:Int)(f:Int)(h:Int)(i:Int)(g:Int×List l8->Option (List l8)):Bool->Option (List l8)
 | d =>
 if d then
  gd ((Fs b e f h a 1 i).isSome/\True)<|lt (vl (Fs b e f h a 1 i)) fun c =>
  OY a g c
 else
  OY a g b
def OZ(e:Int)(f:Int)(c:Int)(h:Int)(d:A8)(i:Int×List l8->Option (List l8))(g:Int×List l8->Option (List l8)):Int×List l8->Option (List l8)
 | (a,b) =>
 if(decide (a<=1)) then
  if(d.1==1) then
   Ft a b e f c h g (d.2.2.2.1==3||(d.2.2.2.1==1)==(c==a))
  else
   if(d.1==2) then
    Ft a b e f c h g (c==0)
   else
    if(d.1==3) then
     Ft a b e f c h g (c==1)
    else
     Ft a b e f c h g false
 else
  TS c i b
def Pb(d:Int)(e:Int)(g:Int)(f:A8)(c:Int×List l8->Option (List l8)):Int×List l8->Option (List l8)
 | (b,a) =>
 if(decide (b<=1)) then
  lp (OZ d e b g f c) (0,a)
 else
  ZO a
def GV(a:List l8)(d:A8)(b:Int)(c:Int)(e:Int):Option (List l8) :=
 lp (Pb b c e d) (0,a)
def k73:Ct:=j9 73 [.os 80 y80,.agg y67,.dat i64,.dat i64,.dat i64] (fun x=>GV x.1 x.2.1 x.2.2.1 x.2.2.2.1 x.2.2.2.2.1) (fun r:List l8=>AV.ow 80 true y80 r) (fun _=>())
theorem o73:Ok prog k73:=by
 refine k6 [.tmp 10] func73 ?_;intro y ⟨s,h,f,e,g,_⟩ r H Q hn hr;have:=hz (tc ZL tn);refine iA [0,2,3,4,6]<|jN r (fun(k:List l8)=>Z [p 0 (O 500000)] [(500000,A 80 y80 k 0)]) (ZO) (fun k H=>?_) (fun _ w G T=>?_)
 ·refine iA [10]<|j0<|hr H
 refine iA [0,2,3,4,6,11]<|vB<|lX (fun((b,d):Int×List l8)=>Z (KU f e g b []) [(6,K 67 y67 h),(500000,A 80 y80 d 0)]) (0,s) H fun _ t E z Y ⟨b,d⟩ H=>vQ<|iA [0,2,3,4,6,11,15]<|cD H (fun H=>?_) (fun H=>?_)
 ·refine vK<|fQ<|jN r (fun(l:List l8)=>Z (KU f e g b []) [(6,K 67 y67 h),(500000,A 80 y80 l 0)]) (TS b t) (fun l H=>?_) (fun _ x e2 W=>?_)
  ·refine jB [0,2,3,4,6,11] H fun H=>E H
  refine vB<|iA [0,2,3,4,6,11,12]<|vB<|lX (fun((a,c):Int×List l8)=>Z (KU f e g b [p 12 (I a)]) [(6,K 67 y67 h),(500000,A 80 y80 c 0)]) (0,d) H fun _ o v u t3 ⟨a,c⟩ H=>vQ<|iA [0,2,3,4,6,11,12,19]<|cD H (fun H=>?_) (fun H=>?_)
  ·refine vK<|fQ<|jN r (fun(m:List l8)=>Z (KU f e g b [p 12 (I a)]) [(500000,A 80 y80 m 0),(6,K 67 y67 h)]) (OY a o) (fun m H=>?_) (fun _ q P F=>?_)
   ·refine jB [0,2,3,4,6,11,12] H fun H=>v H
   refine vB<|iA [0,2,3,4,6,11,12,13]<|jN r (fun(i:Bool)=>Z (KU f e g b [p 12 (I a),p 13 (B i)]) [(6,K 67 y67 h),(500000,A 80 y80 c 0)]) (Ft a c f e b g o) (fun i H=>?_) (fun _ n X V=>?_)
   ·refine iA [0,2,3,4,6,11,12,46]<|cD H (fun H=>zD (fun j=>Z [p 0 (AV.os 500000 1),p 2 (J f),p 3 (J e),p 4 (J g),p 6 (R 6),p 11 (I b),p 12 (I a)] [(500000,A 80 y80 j 1),(6,K 67 y67 h)]) H fun j H=>fK<|q H) fun H=>vK<|fK<|q H
   refine iA [0,2,3,4,6,11,12,13,23]<|vB<|iA [0,2,3,4,6,11,12,13,23,24]<|cD H (fun H=>jA [0,2,3,4,6,11,12,13]<|fK<|n H) fun H=>iA [0,2,3,4,6,11,12,13,23,38]<|cD H (fun H=>jA [0,2,3,4,6,11,12,13]<|fK<|n H) fun H=>iA [0,2,3,4,6,11,12,13,42]<|cD H (fun H=>jA [0,2,3,4,6,11,12,13]<|fK<|n H) fun H=>vK<|fK<|n H
  exact vE<|fE<|u<|fX rfl<|fK<|x H
 exact vE<|fE<|z<|fX rfl<|w H
def ZP:Unit->Option Int
 | _ =>
 some (-1)
def ZQ(b:List D2)(c:Int)(e:Int)(d:Int->Option Int):Int->Option Int
 | a =>
 if(decide (a < (b.length:Int))) then
  gd (ix a b.length/\a.toNat<b.length/\(((b.getD a.toNat (b7 r4)).1==c)=true/\True->ix a b.length)/\(((b.getD a.toNat (b7 r4)).1==c)=true/\True->a.toNat<b.length)/\True) <|
  if((b.getD a.toNat (b7 r4)).1==c&&(b.getD a.toNat (b7 r4)).2.1==e) then
   some a
  else
   gd (c9 (a+1)/\True) <|
   d (a+1)
 else
  ZP ()
def Y1(a:r8)(d:Int)(b:Int):Option Int :=
 gd ((I6 a).isSome/\True)<|lt (vl (I6 a)) fun c =>
 lp (ZQ c d b) 0
def k74:Ct:=j9 74 [.agg y31,.dat i64,.dat i64] (fun x=>Y1 x.1 x.2.1 x.2.2.1) (fun r:Int=>I r) (fun _=>())
theorem o74:Ok prog k74:=by
 refine k6 [.tmp 6] func74 ?_;intro y ⟨e,d,c,_⟩ r H Q hn hr;have:=hz (tc Fq tn);refine iA [1,2,3]<|qD (fun a=>Z [p 1 (J d),p 2 (J c),p 7 (O 10)] [(10,A 190 r4 a 0),(3,K 31 y31 e)]) H fun a H=>jN r (fun(_:Unit)=>Z [] []) (ZP) (fun _ H=>?_) (fun _ f l i=>?_)
 ·refine iA [6]<|j0<|hr H
 refine iA [1,2,7,8]<|vB<|lX (fun(b:Int)=>Z [p 1 (J d),p 2 (J c),p 7 (O 10),p 8 (I b)] [(10,A 190 r4 a 0)]) 0 H fun _ k h g j b H=>vQ<|iA [1,2,7,8,14]<|cD H (fun H=>?_) (fun H=>?_)
 ·refine vK<|fQ<|vQ<|vB<|iB [1,2,7,8,32] H fun H=>cD H (fun H=>iA [6]<|j0<|l9<|fR<|j<|l9<|i<|hr H) fun H=>vK<|fK<|fQ<|jB [1,2,7,8] H fun H=>h H
 exact vE<|fE<|g<|fX rfl<|f H
def ZR:List l8->Option (List l8)
 | a =>
 some a
def TT(a:Int)(c:Int×List l8->Option (List l8)):List l8->Option (List l8)
 | b =>
 gd (c9 (a+1)/\True) <|
 c (a+1,b)
def ZS(c:Int)(b:List Int)(f:Int)(i:Int×List l8->Option (List l8))(h:Int×List l8->Option (List l8)):Int×List l8->Option (List l8)
 | (a,d) =>
 if(decide (a < (b.length:Int))) then
  gd (ix a b.length/\a.toNat<b.length/\(Fs d c (b.getD a.toNat 0) 0 0 2 a).isSome/\True)<|lt (vl (Fs d c (b.getD a.toNat 0) 0 0 2 a)) fun e =>
  gd (ix a b.length/\a.toNat<b.length/\(Fs e c (b.getD a.toNat 0) 1 1 2 a).isSome/\True)<|lt (vl (Fs e c (b.getD a.toNat 0) 1 1 2 a)) fun g =>
  gd (c9 (a+1)/\True) <|
  h (a+1,g)
 else
  TT f i d
def ZT(b:j7)(f:Int×List l8->Option (List l8)):Int×List l8->Option (List l8)
 | (a,c) =>
 if(decide (a < (b.2.1.2.1.length:Int))) then
  gd ((Ld b.2.1 a).isSome/\True)<|lt (vl (Ld b.2.1 a)) fun e =>
  gd ((U4 b.2.1 a).isSome/\True)<|lt (vl (U4 b.2.1 a)) fun d =>
  lp (ZS e d a f) (0,c)
 else
  ZR c
def Pc(b:j7):List l8->Option (List l8)
 | a =>
 lp (ZT b) (0,a)
def TU(b:Int)(c:Int×List l8->Option (List l8)):List l8->Option (List l8)
 | a =>
 gd (c9 (b+1)/\True) <|
 c (b+1,a)
def Le(a:Int)(c:Int×List l8->Option (List l8)):List l8->Option (List l8)
 | b =>
 gd (c9 (a+1)/\True) <|
 c (a+1,b)
def ZU(b:m5)(e:j7)(d:Int)(h:Int×List l8->Option (List l8))(g:Int×List l8->Option (List l8)):Int×List l8->Option (List l8)
 | (a,c) =>
 if(decide (a < (b.2.2.2.1.length:Int))) then
  gd (ix a b.2.2.2.1.length/\True) <|
  if(decide ((b.2.2.2.1.getD a.toNat (b7 y67)).1<=3)) then
   gd (ix a b.2.2.2.1.length/\ix a b.2.2.2.1.length/\(Y1 e.2.1 d (b.2.2.2.1.getD a.toNat (b7 y67)).2.1).isSome/\ix a b.2.2.2.1.length/\(Y1 e.2.1 d (b.2.2.2.1.getD a.toNat (b7 y67)).2.2.1).isSome/\(GV c (b.2.2.2.1.getD a.toNat (b7 y67)) (vl (Y1 e.2.1 d (b.2.2.2.1.getD a.toNat (b7 y67)).2.1)) (vl (Y1 e.2.1 d (b.2.2.2.1.getD a.toNat (b7 y67)).2.2.1)) a).isSome/\True)<|lt (vl (GV c (b.2.2.2.1.getD a.toNat (b7 y67)) (vl (Y1 e.2.1 d (b.2.2.2.1.getD a.toNat (b7 y67)).2.1)) (vl (Y1 e.2.1 d (b.2.2.2.1.getD a.toNat (b7 y67)).2.2.1)) a)) fun f =>
   Le a g f
  else
   Le a g c
 else
  TU d h c
def ZV(a:j7)(e:Int×List l8->Option (List l8)):Int×List l8->Option (List l8)
 | (b,d) =>
 if(decide (b < (a.2.1.1.length:Int))) then
  gd (ix b a.2.1.1.length/\ix (a.2.1.1.getD b.toNat (b7 y139)).2.1 a.1.length/\True)<|lt (a.1.getD (a.2.1.1.getD b.toNat (b7 y139)).2.1.toNat (b7 y64)) fun c =>
  lp (ZU c a b e) (0,d)
 else
  Pc a d
def u32(a:j7):Option (List l8) :=
 lp (ZV a) (0,[])
def k32:Ct:=j9 32 [.agg k8] (fun x=>u32 x.1) (fun r:List l8=>AV.ow 80 true y80 r) (fun _=>())
theorem Lf:Ok prog k32:=by
 refine k6 [.tmp 2] func32 ?_;intro y ⟨a,_⟩ r H Q hn hr;have:=hz (tc ZL (tc OV (tc o75 (tc o73 (tc o74 tn)))));refine iA [1]<|iA [1,3]<|iA [1,3,4]<|jN r (fun(j:List l8)=>Z [p 3 (O 12),p 4 (R 4)] [(4,K 31 y31 a.2.1),(12,A 80 y80 j 0)]) (Pc a) (fun j H=>?_) (fun _ X e0 t0=>?_)
 ·refine jN r (fun(o:List l8)=>Z [p 3 (O 12)] [(12,A 80 y80 o 0)]) (ZR) (fun o H=>?_) (fun _ z e5 t5=>?_)
  ·refine iA [2]<|j0<|hr H
  refine iA [3,4,8]<|vB<|lX (fun((b,e):Int×List l8)=>Z [p 3 (O 12),p 4 (R 4),p 8 (I b)] [(4,K 31 y31 a.2.1),(12,A 80 y80 e 0)]) (0,j) H fun _ F P E t6 ⟨b,e⟩ H=>vQ<|iA [3,4,8,73]<|cD H (fun H=>?_) (fun H=>?_)
  ·refine vK<|fQ<|jN r (fun(t:List l8)=>Z [p 3 (O 12),p 4 (R 4),p 8 (I b)] [(4,K 31 y31 a.2.1),(12,A 80 y80 t 0)]) (TT b F) (fun t H=>?_) (fun _ V e7 t7=>?_)
   ·refine jB [3,4,8] H fun H=>P H
   refine vB<|qD (fun c=>Z [p 3 (O 12),p 4 (R 4),p 8 (I b),p 9 (I c)] [(4,K 31 y31 a.2.1),(12,A 80 y80 e 0)]) H fun c H=>qD (fun g=>Z [p 3 (O 12),p 4 (R 4),p 8 (I b),p 9 (I c),p 10 (O 81)] [(81,A 2 i64 g 0),(4,K 31 y31 a.2.1),(12,A 80 y80 e 0)]) H fun g H=>iA [3,4,8,9,10,11]<|vB<|lX (fun((h,m):Int×List l8)=>Z [p 3 (O 12),p 4 (R 4),p 8 (I b),p 9 (I c),p 10 (O 81),p 11 (I h)] [(81,A 2 i64 g 0),(4,K 31 y31 a.2.1),(12,A 80 y80 m 0)]) (0,e) H fun _ g8 b8 e8 t8 ⟨h,m⟩ H=>vQ<|iA [3,4,8,9,10,11,85]<|cD H (fun H=>vK<|fQ<|vQ<|vB<|qD (fun n=>Z [p 3 (AV.os 12 1),p 4 (R 4),p 8 (I b),p 9 (I c),p 10 (O 81),p 11 (I h)] [(12,A 80 y80 n 1),(81,A 2 i64 g 0),(4,K 31 y31 a.2.1)]) H fun n H=>zD (fun k=>Z [p 3 (AV.os 12 2),p 4 (R 4),p 8 (I b),p 9 (I c),p 10 (O 81),p 11 (I h)] [(12,A 80 y80 k 2),(81,A 2 i64 g 0),(4,K 31 y31 a.2.1)]) H fun k H=>fK<|fQ<|jB [3,4,8,9,10,11] H fun H=>b8 H) fun H=>vE<|fE<|e8<|fX rfl<|fK<|V H
  exact vE<|fE<|E<|fX rfl<|z H
 refine iA [1,3,4,5]<|vB<|lX (fun((i,v):Int×List l8)=>Z (KV i []) ((4,K 31 y31 a.2.1)::GO v a)) (0,[]) H fun _ G b1 e1 t1 ⟨i,v⟩ H=>vQ<|iA [1,3,4,5,19]<|cD H (fun H=>?_) (fun H=>?_)
 ·refine vK<|fQ<|jN r (fun(s:List l8)=>Z (KV i []) ((4,K 31 y31 a.2.1)::GO s a)) (TU i G) (fun s H=>?_) (fun _ Y e2 t2=>?_)
  ·refine jB [1,3,4,5] H fun H=>b1 H
  refine vB<|qD (fun d=>Z (KV i [p 6 (L y67 d.2.2.2.1)]) ((4,K 31 y31 a.2.1)::GO v a)) H fun d H=>iA [1,3,4,5,6,7]<|vB<|lX (fun((f,q):Int×List l8)=>Z (KV i [p 6 (L y67 d.2.2.2.1),p 7 (I f)]) ((4,K 31 y31 a.2.1)::GO q a)) (0,v) H fun _ x W T t3 ⟨f,q⟩ H=>vQ<|iA [1,3,4,5,6,7,37]<|cD H (fun H=>?_) (fun H=>?_)
  ·refine vK<|fQ<|jN r (fun(l:List l8)=>Z (KV i [p 6 (L y67 d.2.2.2.1),p 7 (I f)]) [(12,A 80 y80 l 0),(4,K 31 y31 a.2.1),(1,K 34 k8 a)]) (Le f x) (fun l H=>?_) (fun _ w e4 t4=>?_)
   ·refine jB [1,3,4,5,6,7] H fun H=>W H
   refine vB<|iB [1,3,4,5,6,7,45] H fun H=>cD H (fun H=>zD (fun u=>Z [p 1 (R 1),p 3 (AV.os 12 1),p 4 (R 4),p 5 (I i),p 6 (L y67 d.2.2.2.1),p 7 (I f)] [(12,A 80 y80 u 1),(4,K 31 y31 a.2.1),(1,K 34 k8 a)]) H fun u H=>fK<|w H) fun H=>vK<|fK<|w H
  exact vE<|fE<|T<|fX rfl<|fK<|Y H
 exact vE<|fE<|e1<|fX rfl<|X H
def ZW:List Int->Option (List Int×Bool)
 | a =>
 some (a,true)
def IY(c:List Bool)(b:List Int)(e:Int)(d:List Bool×List Int->Option (List Int×Bool)):Int->Option (List Int×Bool)
 | a =>
 if(a==e) then
  some ([],false)
 else
  gd (ix a c.length/\a.toNat<c.length/\True) <|
  gd ((b.length+[a].length<=9223372036854775807/\(b.length+[a].length)*8<=140737488355328)/\True) <|
  d (c.set a.toNat true,b++[a])
def ZX(d:List Bool)(f:List Int)(c:Int)(b:List Bool)(e:List Bool×List Int->Option (List Int×Bool))(g:Int->Option (List Int×Bool)):Int->Option (List Int×Bool)
 | a =>
 gd ((decide (a<c)=true/\True->ix a d.length)/\(decide (a<c)=true/\True->a.toNat<d.length)/\(d.getD a.toNat false=false/\decide (a<c)=true/\True->ix a b.length)/\(d.getD a.toNat false=false/\decide (a<c)=true/\True->a.toNat<b.length)/\True) <|
 if(decide (a<c)&&(d.getD a.toNat false||b.getD a.toNat false)) then
  gd (c9 (a+1)/\True) <|
  g (a+1)
 else
  IY d f c e a
def Lg(e:List Bool)(d:List Int)(c:Int)(b:List Bool×List Int->Option (List Int×Bool)):List Bool->Option (List Int×Bool)
 | a =>
 lp (ZX e d c a b) 0
def TV(a:Int)(c:Int×List Bool->Option (List Int×Bool)):List Bool->Option (List Int×Bool)
 | b =>
 gd (c9 (a+1)/\True) <|
 c (a+1,b)
def ZY(c:List l8)(d:List Bool)(e:List Bool)(i:List Int)(h:Int)(g:List Bool×List Int->Option (List Int×Bool))(f:Int×List Bool->Option (List Int×Bool)):Int×List Bool->Option (List Int×Bool)
 | (a,b) =>
 if(decide (a < (c.length:Int))) then
  gd (ix a d.length/\(d.getD a.toNat false=true/\True->ix a c.length)/\(d.getD a.toNat false=true/\True->ix (c.getD a.toNat (b7 y80)).1 e.length)/\(d.getD a.toNat false=true/\True->(c.getD a.toNat (b7 y80)).1.toNat<e.length)/\True) <|
  if(d.getD a.toNat false&&!e.getD (c.getD a.toNat (b7 y80)).1.toNat false) then
   gd (ix a c.length/\ix (c.getD a.toNat (b7 y80)).2.1 b.length/\(c.getD a.toNat (b7 y80)).2.1.toNat<b.length/\True) <|
   TV a f (b.set (c.getD a.toNat (b7 y80)).2.1.toNat true)
  else
   TV a f b
 else
  Lg e i h g b
def ZZ(e:List l8)(d:List Bool)(a:Int)(c:List Bool×List Int->Option (List Int×Bool)):List Bool×List Int->Option (List Int×Bool)
 | (f,b) =>
 if(decide ((b.length:Int)<a)) then
  gd ((0<=a/\a=a/\a.toNat*1<=281474976710656/\a<=9223372036854775807)/\True) <|
  lp (ZY e d f b a c) (0,List.replicate a.toNat false)
 else
  ZW b
def Lh(a:Int)(c:List l8)(b:List Bool):Option (List Int×Bool) :=
 gd ((0<=a/\a=a/\a.toNat*1<=281474976710656/\a<=9223372036854775807)/\True) <|
 lp (ZZ c b a) (List.replicate a.toNat false,[])
def Q0U:Ct:=j9 131 [.dat i64,.dat y80.sl,.dat Ty.bool.sl] (fun x=>Lh x.1 x.2.1 x.2.2.1) (fun r:List Int×Bool=>AV.tup [AV.ow 2 true i64 r.1,B r.2]) (fun _=>())
theorem O0M:Ok prog Q0U:=by
 refine k6 [.tmp 6,.tmp 7] func131 ?_;intro y ⟨a,g,f,_⟩ r H Q hn hr;refine iA [0,1,2]<|iA [0,1,2,8]<|iB [0,1,2,8,9] H fun H=>jN r (fun(l:List Int)=>Z [p 8 (O 13)] [(13,A 2 i64 l 0)]) (ZW) (fun l H=>?_) (fun _ z T q=>?_)
 ·refine iA [6,7]<|j0<|hr H
 refine vB<|lX (fun((d,c):List Bool×List Int)=>Z (AD a g f [p 8 (O 13),p 9 (O 15)]) [(15,A 4 Ty.bool d 0),(13,A 2 i64 c 0)]) (List.replicate a.toNat false,[]) H fun _ m G F u ⟨d,c⟩ H=>vQ<|iA [0,1,2,8,9,19]<|cD H (fun H=>?_) (fun H=>?_)
 ·refine vK<|fQ<|vB<|iB [0,1,2,8,9,10] H fun H=>jN r (fun(e:List Bool)=>Z (AD a g f [p 8 (O 13),p 9 (O 15),p 10 (O 21)]) [(21,A 4 Ty.bool e 0),(15,A 4 Ty.bool d 0),(13,A 2 i64 c 0)]) (Lg d c a m) (fun e H=>?_) (fun _ E e2 X=>?_)
  ·refine iA [0,1,2,8,9,10,12]<|jN r (fun(j:Int)=>Z (AD a g f [p 8 (O 13),p 9 (O 15),p 12 (I j)]) [(15,A 4 Ty.bool d 0),(13,A 2 i64 c 0)]) (IY d c a m) (fun j H=>?_) (fun _ s Y W=>?_)
   ·refine vQ<|iA [0,1,2,8,9,12,69]<|cD H (fun H=>iA [6,7]<|j0<|fR<|l9<|u<|l9<|q<|hr H) fun H=>vK<|fQ<|iB [0,1,2,8,9,12] H fun H=>jB [0,1,2,8,9] H fun H=>fK<|G H
   refine vB<|lX (fun(h:Int)=>Z (AD a g f [p 8 (O 13),p 9 (O 15),p 10 (O 21),p 12 (I h)]) [(21,A 4 Ty.bool e 0),(15,A 4 Ty.bool d 0),(13,A 2 i64 c 0)]) 0 H fun _ g6 v t t6 h H=>vQ<|iB [0,1,2,8,9,10,12,64] H fun H=>cD H (fun H=>vK<|fQ<|vB<|jB [0,1,2,8,9,10,12] H fun H=>fK<|v H) fun H=>vE<|fE<|t<|fX rfl<|s H
  refine iA [0,1,2,8,9,10,11]<|vB<|lX (fun((b,k):Int×List Bool)=>Z (AD a g f [p 8 (O 13),p 9 (O 15),p 10 (O 21),p 11 (I b)]) [(21,A 4 Ty.bool k 0),(15,A 4 Ty.bool d 0),(13,A 2 i64 c 0)]) (0,List.replicate a.toNat false) H fun _ o x w t3 ⟨b,k⟩ H=>vQ<|iA [0,1,2,8,9,10,11,25]<|cD H (fun H=>?_) (fun H=>?_)
  ·refine vK<|fQ<|jN r (fun(i:List Bool)=>Z (AD a g f [p 8 (O 13),p 9 (O 15),p 10 (O 21),p 11 (I b)]) [(21,A 4 Ty.bool i 0),(15,A 4 Ty.bool d 0),(13,A 2 i64 c 0)]) (TV b o) (fun i H=>?_) (fun _ n V P=>?_)
   ·refine jB [0,1,2,8,9,10,11] H fun H=>x H
   refine vB<|iB [0,1,2,8,9,10,11,42] H fun H=>cD H (fun H=>jB [0,1,2,8,9,10,11] H fun H=>fK<|n H) fun H=>vK<|fK<|n H
  exact vE<|fE<|w<|fX rfl<|E H
 exact vE<|fE<|F<|fX rfl<|z H
def B0l:Unit->Option Bool
 | _ =>
 some true
def B0k(b:List Int)(c:Int)(d:Int->Option Bool):Int->Option Bool
 | a =>
 if(decide (a < (b.length:Int))) then
  gd (ix a b.length/\c9 (c-1)/\(u5 (b.getD a.toNat 0) 0 (c-1)).isSome/\(decide (0<a)=true/\(!vl (u5 (b.getD a.toNat 0) 0 (c-1)))=false/\True->c9 (a-1))/\(decide (0<a)=true/\(!vl (u5 (b.getD a.toNat 0) 0 (c-1)))=false/\True->ix (a-1) b.length)/\(decide (0<a)=true/\(!vl (u5 (b.getD a.toNat 0) 0 (c-1)))=false/\True->ix a b.length)/\True) <|
  if(!vl (u5 (b.getD a.toNat 0) 0 (c-1))||decide (0<a)&&decide (b.getD a.toNat 0<=b.getD (a-1).toNat 0)) then
   some false
  else
   gd (c9 (a+1)/\True) <|
   d (a+1)
 else
  B0l ()
def Li(a:List Int)(b:Int):Option Bool :=
 lp (B0k a b) 0
def Q0V:Ct:=j9 130 [.dat i64.sl,.dat i64] (fun x=>Li x.1 x.2.1) (fun r:Bool=>B r) (fun _=>())
theorem O0N:Ok prog Q0V:=by
 refine k6 [.tmp 4] func130 ?_;intro y ⟨b,d,_⟩ r H Q hn hr;have:=hz (tc BK tn);refine iA [0,1]<|jN r (fun(_:Unit)=>Z [] []) (B0l) (fun _ H=>?_) (fun _ c j g=>?_)
 ·refine iA [4]<|j0<|hr H
 refine iA [0,1,5]<|vB<|lX (fun(a:Int)=>Z [p 0 (L i64 b),p 1 (J d),p 5 (I a)] []) 0 H fun _ i f e h a H=>vQ<|iA [0,1,5,9]<|cD H (fun H=>?_) (fun H=>?_)
 ·refine vK<|fQ<|vQ<|vB<|iB [0,1,5,35] H fun H=>cD H (fun H=>iA [4]<|j0<|l9<|fR<|h<|l9<|g<|hr H) fun H=>vK<|fK<|fQ<|jB [0,1,5] H fun H=>f H
 exact vE<|fE<|e<|fX rfl<|c H
def F0z:Unit->Option Bool
 | _ =>
 some true
def F0x(a:x9)(c:Int->Option Bool):Int->Option Bool
 | b =>
 if(decide (b < (a.2.2.2.length:Int))) then
  gd (ix b a.2.2.2.length/\c9 ((a.1.length:Int)-1)/\(u5 (a.2.2.2.getD b.toNat 0) 0 ((a.1.length:Int)-1)).isSome/\True) <|
  if(!vl (u5 (a.2.2.2.getD b.toNat 0) 0 ((a.1.length:Int)-1))) then
   some false
  else
   gd (c9 (b+1)/\True) <|
   c (b+1)
 else
  F0z ()
def Pd(a:x9):Unit->Option Bool
 | _ =>
 lp (F0x a) 0
def F0y(b:x9)(c:Int->Option Bool):Int->Option Bool
 | a =>
 if(decide (a < (b.1.length:Int))) then
  gd (ix a b.2.2.1.length/\(u5 (b.2.2.1.getD a.toNat 0) 0 500).isSome/\((!vl (u5 (b.2.2.1.getD a.toNat 0) 0 500))=false/\True->ix a b.2.1.length)/\((!vl (u5 (b.2.2.1.getD a.toNat 0) 0 500))=false/\True->(u5 (b.2.1.getD a.toNat 0) 0 1000).isSome)/\True) <|
  if(!vl (u5 (b.2.2.1.getD a.toNat 0) 0 500)||!vl (u5 (b.2.1.getD a.toNat 0) 0 1000)) then
   some false
  else
   gd (((a==0)=true/\True->ix a b.1.length)/\((b.1.getD a.toNat 0 != -1)=false/\(a==0)=true/\True->ix a b.2.1.length)/\(decide (0<a)=true/\(a==0&&(b.1.getD a.toNat 0 != -1||b.2.1.getD a.toNat 0 != 0))=false/\True->ix a b.1.length)/\(decide (0<a)=true/\(a==0&&(b.1.getD a.toNat 0 != -1||b.2.1.getD a.toNat 0 != 0))=false/\True->c9 (a-1))/\(decide (0<a)=true/\(a==0&&(b.1.getD a.toNat 0 != -1||b.2.1.getD a.toNat 0 != 0))=false/\True->(u5 (b.1.getD a.toNat 0) 0 (a-1)).isSome)/\True) <|
   if(a==0&&(b.1.getD a.toNat 0 != -1||b.2.1.getD a.toNat 0 != 0)||decide (0<a)&&!vl (u5 (b.1.getD a.toNat 0) 0 (a-1))) then
    some false
   else
    gd (c9 (a+1)/\True) <|
    c (a+1)
 else
  Pd b ()
def IZ(a:x9)(b:Int):Option Bool :=
 if(decide ((a.1.length:Int)<1)||decide (8 < (a.1.length:Int))||(a.2.1.length:Int) != (a.1.length:Int)||(a.2.2.1.length:Int) != (a.1.length:Int)||(a.2.2.2.length:Int) != b) then
  some false
 else
  lp (F0y a) 0
def k93:Ct:=j9 93 [.agg l7,.dat i64] (fun x=>IZ x.1 x.2.1) (fun r:Bool=>B r) (fun _=>())
theorem o93:Ok prog k93:=by
 refine k6 [.tmp 4] func93 ?_;intro y ⟨a,_,_⟩ r H Q hn hr;have:=hz (tc BK tn);refine iA [1,2]<|iA [1,2,5]<|vQ<|iA [2,5,37]<|cD H (fun H=>iA [4]<|j0<|fR<|hr H) fun H=>vK<|fQ<|jN r (fun(_:Unit)=>Z [p 2 (R 2),p 5 (I (a.1.length:Int))] [(2,K 153 l7 a)]) (Pd a) (fun _ H=>?_) (fun _ g s d=>?_)
 ·refine jN r (fun(_:Unit)=>Z [] []) (F0z) (fun _ H=>?_) (fun _ h q l=>?_)
  ·refine iA [4]<|j0<|hr H
  refine iA [2,5,7]<|vB<|lX (fun(b:Int)=>Z [p 2 (R 2),p 5 (I (a.1.length:Int)),p 7 (I b)] [(2,K 153 l7 a)]) 0 H fun _ o f i j b H=>vQ<|iA [2,5,7,96]<|cD H (fun H=>?_) (fun H=>?_)
  ·refine vK<|fQ<|vQ<|vB<|iB [2,5,7,107] H fun H=>cD H (fun H=>iA [4]<|j0<|l9<|fR<|j<|l9<|l<|hr H) fun H=>vK<|fK<|fQ<|jB [2,5,7] H fun H=>f H
  exact vE<|fE<|i<|fX rfl<|h H
 refine iA [2,5,6]<|vB<|lX (fun(c:Int)=>Z [p 2 (R 2),p 5 (I (a.1.length:Int)),p 6 (I c)] [(2,K 153 l7 a)]) 0 H fun _ n m k e c H=>vQ<|iA [2,5,6,40]<|cD H (fun H=>?_) (fun H=>?_)
 ·refine vK<|fQ<|vQ<|vB<|vQ<|iB [2,5,6,58] H fun H=>cD H (fun H=>iA [4]<|j0<|fR<|l9<|fR<|e<|l9<|d<|hr H) fun H=>vK<|fQ<|iB [2,5,6,91] H fun H=>cD H (fun H=>iA [4]<|j0<|l9<|fR<|e<|l9<|d<|hr H) fun H=>vK<|fK<|fQ<|jB [2,5,6] H fun H=>m H
 exact vE<|fE<|k<|fX rfl<|g H
def Pe(a:ByteArray):Unit->Option Bool
 | _ =>
 some (decide (1<=(a.size:Int))&&decide ((a.size:Int)<=8))
def B0m(b:ByteArray)(c:Int->Option Bool):Int->Option Bool
 | a =>
 if(decide (a < (b.size:Int))) then
  gd (ix a b.size/\(decide (97<=F3 b a.toNat)=true/\True->ix a b.size)/\True) <|
  gd (ix a b.size/\(decide (48<=F3 b a.toNat)=true/\True->ix a b.size)/\True) <|
  if(!(decide (97<=F3 b a.toNat)&&decide (F3 b a.toNat<=122))&&!(decide (48<=F3 b a.toNat)&&decide (F3 b a.toNat<=57)&&decide (0<a))) then
   some false
  else
   gd (c9 (a+1)/\True) <|
   c (a+1)
 else
  Pe b ()
def Ad(a:ByteArray):Option Bool :=
 lp (B0m a) 0
def Q0W:Ct:=j9 129 [.dat Ty.str] (fun x=>Ad x.1) (fun r:Bool=>B r) (fun _=>())
theorem Pf:Ok prog Q0W:=by
 refine k6 [.tmp 2] func129 ?_;intro y ⟨a,_⟩ r H Q hn hr;refine iA [0]<|jN r (fun(_:Unit)=>Z [p 0 (U a)] []) (Pe a) (fun _ H=>?_) (fun _ c i f=>?_)
 ·refine iA [2]<|j0<|hr H
 refine iA [0,3]<|vB<|lX (fun(b:Int)=>Z [p 0 (U a),p 3 (I b)] []) 0 H fun _ h e d g b H=>vQ<|iA [0,3,9]<|cD H (fun H=>?_) (fun H=>?_)
 ·refine vK<|fQ<|vQ<|vB<|iB [0,3,4] H fun H=>iB [0,3,4,5] H fun H=>iA [0,3,41]<|cD H (fun H=>iA [2]<|j0<|l9<|fR<|g<|l9<|f<|hr H) fun H=>vK<|fK<|fQ<|jB [0,3] H fun H=>e H
 exact vE<|fE<|d<|fX rfl<|c H
def A0P:Unit->Option Bool
 | _ =>
 some true
def TW(a:Int)(b:Int->Option Bool):Unit->Option Bool
 | _ =>
 gd (c9 (a+1)/\True) <|
 b (a+1)
def A0N(c:List ByteArray)(b:Int)(d:Int->Option Bool)(e:Int->Option Bool):Int->Option Bool
 | a =>
 if(decide (a<b)) then
  gd (ix a c.length/\ix b c.length/\True) <|
  if(decide (c.getD a.toNat (b7 Ty.str)=c.getD b.toNat (b7 Ty.str))) then
   some false
  else
   gd (c9 (a+1)/\True) <|
   e (a+1)
 else
  TW b d ()
def A0O(a:List ByteArray)(c:Int->Option Bool):Int->Option Bool
 | b =>
 if(decide (b < (a.length:Int))) then
  gd (ix b a.length/\(Ad (a.getD b.toNat (b7 Ty.str))).isSome/\True) <|
  if(!vl (Ad (a.getD b.toNat (b7 Ty.str)))) then
   some false
  else
   lp (A0N a b c) 0
 else
  A0P ()
def BN(a:List ByteArray):Option Bool :=
 lp (A0O a) 0
def Q0E:Ct:=j9 148 [.dat Ty.str.sl] (fun x=>BN x.1) (fun r:Bool=>B r) (fun _=>())
theorem O0y:Ok prog Q0E:=by
 refine k6 [.tmp 2] func148 ?_;intro y ⟨b,_⟩ r H Q hn hr;have:=hz (tc Pf tn);refine iA [0]<|jN r (fun(_:Unit)=>Z [] []) (A0P) (fun _ H=>?_) (fun _ i s e=>?_)
 ·refine iA [2]<|j0<|hr H
 refine iA [0,3]<|vB<|lX (fun(a:Int)=>Z [p 0 (L Ty.str b),p 3 (I a)] []) 0 H fun _ g n m f a H=>vQ<|iA [0,3,8]<|cD H (fun H=>?_) (fun H=>?_)
 ·refine vK<|fQ<|jN r (fun(_:Unit)=>Z [p 0 (L Ty.str b),p 3 (I a)] []) (TW a g) (fun _ H=>?_) (fun _ j q d=>?_)
  ·refine jB [0,3] H fun H=>n H
  refine vB<|vQ<|iB [0,3,16] H fun H=>cD H (fun H=>iA [2]<|j0<|fR<|l9<|d<|f<|l9<|e<|hr H) fun H=>vK<|fQ<|iA [0,3,4]<|vB<|lX (fun(c:Int)=>Z [p 0 (L Ty.str b),p 3 (I a),p 4 (I c)] []) 0 H fun _ o h k l c H=>vQ<|iA [0,3,4,19]<|cD H (fun H=>?_) (fun H=>?_)
  ·refine vK<|fQ<|vQ<|vB<|iB [0,3,4,30] H fun H=>cD H (fun H=>iA [2]<|j0<|l9<|fR<|l<|l9<|l9<|d<|f<|l9<|e<|hr H) fun H=>vK<|fK<|fQ<|jB [0,3,4] H fun H=>h H
  exact vE<|fE<|k<|fX rfl<|fK<|j H
 exact vE<|fE<|m<|fX rfl<|i H
def A0T:Unit->Option Bool
 | _ =>
 some true
def A0Q(a:r8)(c:Int->Option Bool):Int->Option Bool
 | b =>
 if(decide (b < (a.2.2.length:Int))) then
  gd (ix b a.2.2.length/\(u5 (a.2.2.getD b.toNat (b7 y202)).2.1 1 2).isSome/\((!vl (u5 (a.2.2.getD b.toNat (b7 y202)).2.1 1 2))=false/\True->ix b a.2.2.length)/\((!vl (u5 (a.2.2.getD b.toNat (b7 y202)).2.1 1 2))=false/\True->c9 ((a.2.1.length:Int)-1))/\((!vl (u5 (a.2.2.getD b.toNat (b7 y202)).2.1 1 2))=false/\True->(u5 (a.2.2.getD b.toNat (b7 y202)).2.2 0 ((a.2.1.length:Int)-1)).isSome)/\True) <|
  if(!vl (u5 (a.2.2.getD b.toNat (b7 y202)).2.1 1 2)||!vl (u5 (a.2.2.getD b.toNat (b7 y202)).2.2 0 ((a.2.1.length:Int)-1))) then
   some false
  else
   gd (c9 (b+1)/\True) <|
   c (b+1)
 else
  A0T ()
def Pg(a:r8):Unit->Option Bool
 | _ =>
 lp (A0Q a) 0
def A0U(a:Int)(b:Int->Option Bool):Unit->Option Bool
 | _ =>
 gd (c9 (a+1)/\True) <|
 b (a+1)
def A0R(b:o4)(c:r8)(e:Int)(d:Int->Option Bool)(f:Int->Option Bool):Int->Option Bool
 | a =>
 if(decide (a < (b.2.2.length:Int))) then
  gd (ix a b.2.2.length/\c9 ((c.2.1.length:Int)-1)/\(u5 (b.2.2.getD a.toNat 0) 0 ((c.2.1.length:Int)-1)).isSome/\True) <|
  if(!vl (u5 (b.2.2.getD a.toNat 0) 0 ((c.2.1.length:Int)-1))) then
   some false
  else
   gd (c9 (a+1)/\True) <|
   f (a+1)
 else
  A0U e d ()
def A0S(c:r8)(b:List m5)(e:Int->Option Bool):Int->Option Bool
 | d =>
 if(decide (d < (c.1.length:Int))) then
  gd (ix d c.1.length/\True)<|lt (c.1.getD d.toNat (b7 y139)) fun a =>
  gd (c9 ((b.length:Int)-1)/\(u5 a.2.1 0 ((b.length:Int)-1)).isSome/\((!vl (u5 a.2.1 0 ((b.length:Int)-1)))=false/\True->ix a.2.1 b.length)/\True) <|
  if(!vl (u5 a.2.1 0 ((b.length:Int)-1))||(a.2.2.length:Int) != (↑(b.getD a.2.1.toNat (b7 y64)).2.2.1.length:Int)) then
   some false
  else
   lp (A0R a c d e) 0
 else
  Pg c ()
def Ph(a:List m5)(b:r8):Option Bool :=
 lp (A0S b a) 0
def Q0F:Ct:=j9 147 [.agg y64.sl,.agg y31] (fun x=>Ph x.1 x.2.1) (fun r:Bool=>B r) (fun _=>())
theorem O0z:Ok prog Q0F:=by
 refine k6 [.tmp 4] func147 ?_;intro y ⟨c,a,_⟩ r H Q hn hr;have:=hz (tc BK tn);refine iA [2,3]<|iA [2,3,5]<|jN r (fun(_:Unit)=>Z [p 3 (R 3),p 5 (I (a.2.1.length:Int))] [(3,K 31 y31 a)]) (Pg a) (fun _ H=>?_) (fun _ t E g=>?_)
 ·refine jN r (fun(_:Unit)=>Z [] []) (A0T) (fun _ H=>?_) (fun _ s F j=>?_)
  ·refine iA [4]<|j0<|hr H
  refine iA [3,5,9]<|vB<|lX (fun(e:Int)=>Z [p 3 (R 3),p 5 (I (a.2.1.length:Int)),p 9 (I e)] [(3,K 31 y31 a)]) 0 H fun _ G n l k e H=>vQ<|iA [3,5,9,67]<|cD H (fun H=>?_) (fun H=>?_)
  ·refine vK<|fQ<|vQ<|vB<|iB [3,5,9,89] H fun H=>cD H (fun H=>iA [4]<|j0<|l9<|fR<|k<|l9<|j<|hr H) fun H=>vK<|fK<|fQ<|jB [3,5,9] H fun H=>n H
  exact vE<|fE<|l<|fX rfl<|s H
 refine iA [2,3,5,6]<|vB<|lX (fun(b:Int)=>Z (G9 [p 5 (I (a.2.1.length:Int)),p 6 (I b)]) (GL a c)) 0 H fun _ m x w i b H=>vQ<|iA [2,3,5,6,17]<|cD H (fun H=>?_) (fun H=>?_)
 ·refine vK<|fQ<|jN r (fun(_:Unit)=>Z (G9 [p 5 (I (a.2.1.length:Int)),p 6 (I b)]) (GL a c)) (A0U b m) (fun _ H=>?_) (fun _ u P h=>?_)
  ·refine jB [2,3,5,6] H fun H=>x H
  refine vB<|qD (fun d=>Z (G9 [p 5 (I (a.2.1.length:Int)),p 6 (I b),p 7 (R 7)]) ((7,K 139 y139 d)::GL a c)) H fun d H=>vQ<|iB [2,3,5,6,7,46] H fun H=>cD H (fun H=>iA [4]<|j0<|fR<|l9<|h<|i<|l9<|g<|hr H) fun H=>vK<|fQ<|iA [2,3,5,6,7,8]<|vB<|lX (fun(f:Int)=>Z (G9 [p 5 (I (a.2.1.length:Int)),p 6 (I b),p 7 (R 7),p 8 (I f)]) ((7,K 139 y139 d)::GL a c)) 0 H fun _ z q o v f H=>vQ<|iA [2,3,5,6,7,8,51]<|cD H (fun H=>?_) (fun H=>?_)
  ·refine vK<|fQ<|vQ<|vB<|iB [2,3,5,6,7,8,62] H fun H=>cD H (fun H=>iA [4]<|j0<|l9<|fR<|v<|l9<|l9<|h<|i<|l9<|g<|hr H) fun H=>vK<|fK<|fQ<|jB [2,3,5,6,7,8] H fun H=>q H
  exact vE<|fE<|o<|fX rfl<|fK<|u H
 exact vE<|fE<|w<|fX rfl<|t H
def A0o:List Int->Option (List Int)
 | a =>
 some a
def A0n(b:m5)(d:Int×List Int->Option (List Int)):Int×List Int->Option (List Int)
 | (a,c) =>
 if(decide (a < (b.2.2.2.1.length:Int))) then
  gd (ix a b.2.2.2.1.length/\ix (b.2.2.2.1.getD a.toNat (b7 y67)).1 c.length/\(b.2.2.2.1.getD a.toNat (b7 y67)).1.toNat<c.length/\c9 (c.getD (b.2.2.2.1.getD a.toNat (b7 y67)).1.toNat 0+1)/\ix (b.2.2.2.1.getD a.toNat (b7 y67)).1 c.length/\(b.2.2.2.1.getD a.toNat (b7 y67)).1.toNat<c.length/\True)<|lt (c.set (b.2.2.2.1.getD a.toNat (b7 y67)).1.toNat (c.getD (b.2.2.2.1.getD a.toNat (b7 y67)).1.toNat 0+1)) fun e =>
  gd (c9 (a+1)/\True) <|
  d (a+1,e)
 else
  A0o c
def Lj(a:m5):Option (List Int) :=
 gd (((0:Int)<=(6:Int)/\(6:Int)=(6:Int)/\Int.toNat (6:Int)*8<=281474976710656/\(6:Int)<=(9223372036854775807:Int))/\True) <|
 lp (A0n a) ((0,List.replicate (Int.toNat (6:Int)) (0:Int)))
def P0M:Ct:=j9 207 [.agg y64] (fun x=>Lj x.1) (fun r:List Int=>AV.ow 2 true i64 r) (fun _=>())
theorem N0T:Ok prog P0M:=by
 refine k6 [.tmp 2] func207 ?_;intro y ⟨b,_⟩ r H Q hn hr;refine iA [1]<|iB [1,3] H fun H=>jN r (fun(e:List Int)=>Z [p 3 (O 5)] [(5,A 2 i64 e 0)]) (A0o) (fun e H=>?_) (fun _ f j k=>?_)
 ·refine iA [2]<|j0<|hr H
 refine iA [1,3,4]<|vB<|lX (fun((a,c):Int×List Int)=>Z [p 1 (R 1),p 3 (O 5),p 4 (I a)] [(5,A 2 i64 c 0),(1,K 64 y64 b)]) ((0,List.replicate (Int.toNat (6:Int)) (0:Int))) H fun _ i h g l ⟨a,c⟩ H=>vQ<|iA [1,3,4,10]<|cD H (fun H=>vK<|fQ<|vQ<|vB<|zD (fun d=>Z [p 1 (R 1),p 3 (O 5),p 4 (I a)] [(5,A 2 i64 d 0),(1,K 64 y64 b)]) H fun d H=>fK<|fQ<|jB [1,3,4] H fun H=>h H) fun H=>vE<|fE<|g<|fX rfl<|f H
def Pj(a:List Int):Unit->Option Bool
 | _ =>
 some (decide (1<=(a.length:Int))&&decide ((a.length:Int)<=4))
def B0y(b:List Int)(c:Int->Option Bool):Int->Option Bool
 | a =>
 if(decide (a < (b.length:Int))) then
  gd (ix a b.length/\(u5 (b.getD a.toNat 0) 0 100000).isSome/\(decide (0<a)=true/\(!vl (u5 (b.getD a.toNat 0) 0 100000))=false/\True->c9 (a-1))/\(decide (0<a)=true/\(!vl (u5 (b.getD a.toNat 0) 0 100000))=false/\True->ix (a-1) b.length)/\(decide (0<a)=true/\(!vl (u5 (b.getD a.toNat 0) 0 100000))=false/\True->ix a b.length)/\True) <|
  if(!vl (u5 (b.getD a.toNat 0) 0 100000)||decide (0<a)&&decide (b.getD a.toNat 0<=b.getD (a-1).toNat 0)) then
   some false
  else
   gd (c9 (a+1)/\True) <|
   c (a+1)
 else
  Pj b ()
def Dt(a:List Int):Option Bool :=
 lp (B0y a) 0
def R0m:Ct:=j9 103 [.dat i64.sl] (fun x=>Dt x.1) (fun r:Bool=>B r) (fun _=>())
theorem O0Y:Ok prog R0m:=by
 refine k6 [.tmp 2] func103 ?_;intro y ⟨a,_⟩ r H Q hn hr;have:=hz (tc BK tn);refine iA [0]<|jN r (fun(_:Unit)=>Z [p 0 (L i64 a)] []) (Pj a) (fun _ H=>?_) (fun _ c i f=>?_)
 ·refine iA [2]<|j0<|hr H
 refine iA [0,3]<|vB<|lX (fun(b:Int)=>Z [p 0 (L i64 a),p 3 (I b)] []) 0 H fun _ h e d g b H=>vQ<|iA [0,3,7]<|cD H (fun H=>?_) (fun H=>?_)
 ·refine vK<|fQ<|vQ<|vB<|iB [0,3,31] H fun H=>cD H (fun H=>iA [2]<|j0<|l9<|fR<|g<|l9<|f<|hr H) fun H=>vK<|fK<|fQ<|jB [0,3] H fun H=>e H
 exact vE<|fE<|d<|fX rfl<|c H
def G0p:Unit->Option Bool
 | _ =>
 some true
def G0o(b:u6)(c:Int->Option Bool):Int->Option Bool
 | a =>
 if(decide (a < (b.2.2.length:Int))) then
  gd (ix a b.2.2.length/\(u5 (b.2.2.getD a.toNat 0) (-1000000) 1000000).isSome/\True) <|
  if(!vl (u5 (b.2.2.getD a.toNat 0) (-1000000) 1000000)) then
   some false
  else
   gd (c9 (a+1)/\True) <|
   c (a+1)
 else
  G0p ()
def Lk(a:u6):Option Bool :=
 gd ((Dt a.1).isSome/\((!vl (Dt a.1))=false/\True->(Dt a.2.1).isSome)/\((!vl (Dt a.1)||!vl (Dt a.2.1))=false/\True->c9 ((a.1.length:Int)*(a.2.1.length:Int)))/\True) <|
 if(!vl (Dt a.1)||!vl (Dt a.2.1)||(a.2.2.length:Int) != (a.1.length:Int)*(a.2.1.length:Int)) then
  some false
 else
  lp (G0o a) 0
def Cz:Ct:=j9 45 [.agg y70] (fun x=>Lk x.1) (fun r:Bool=>B r) (fun _=>())
theorem o45:Ok prog Cz:=by
 refine k6 [.tmp 2] func45 ?_;intro y ⟨b,_⟩ r H Q hn hr;have:=hz (tc BK (tc O0Y tn));refine iA [1]<|vQ<|iB [1,26] H fun H=>cD H (fun H=>iA [2]<|j0<|fR<|hr H) fun H=>vK<|fQ<|jN r (fun(_:Unit)=>Z [] []) (G0p) (fun _ H=>?_) (fun _ c i f=>?_)
 ·refine iA [2]<|j0<|hr H
 refine iA [1,3]<|vB<|lX (fun(a:Int)=>Z (O6 a []) [(1,K 70 y70 b)]) 0 H fun _ h e d g a H=>vQ<|iA [1,3,31]<|cD H (fun H=>?_) (fun H=>?_)
 ·refine vK<|fQ<|vQ<|vB<|iB [1,3,40] H fun H=>cD H (fun H=>iA [2]<|j0<|l9<|fR<|g<|l9<|f<|hr H) fun H=>vK<|fK<|fQ<|jB [1,3] H fun H=>e H
 exact vE<|fE<|d<|fX rfl<|c H
def A0e:Int×Int->Option (s9×Int)
 | (a,b) =>
 some (((a,b),(0:Int)))
def TX(b:u6)(e:Int×Int×Int->Option (s9×Int)):Int×Int×Int->Option (s9×Int)
 | (a,c,d) =>
 if(decide (a < (b.2.2.length:Int))) then
  gd (ix a b.2.2.length/\True) <|
  gd (ix a b.2.2.length/\True) <|
  gd (c9 (a+1)/\True) <|
  e ((a+1,min c (b.2.2.getD a.toNat 0),max d (b.2.2.getD a.toNat 0)))
 else
  A0e (c,d)
def Ll(a:u6):Option (s9×Int) :=
 gd ((Lk a).isSome/\True) <|
 if(!vl (Lk a)) then
  some ((((0:Int),(0:Int)),(1:Int)))
 else
  gd (ix 0 a.2.2.length/\ix 0 a.2.2.length/\True) <|
  lp (TX a) ((1,a.2.2.getD (Int.toNat (0:Int)) (0:Int),a.2.2.getD (Int.toNat (0:Int)) (0:Int)))
def P0p:Ct:=j9 240 [.agg y70] (fun x=>Ll x.1) (fun r:s9×Int=>AV.tup [AV.agg [I r.1.1,I r.1.2],I r.2]) (fun _=>())
theorem N0C:Ok prog P0p:=by
 refine k6 [.cell 2 51,.tmp 3] func240 ?_;intro y ⟨a,_⟩ r H Q hn hr;have:=hz (tc o45 tn);refine iA [1,2]<|vQ<|iB [1,2,8] H fun H=>cD H (fun H=>iA [2,3]<|j0<|fR<|hr H) fun H=>vK<|fQ<|iB [1,2,4] H fun H=>jN r (fun((d,e):Int×Int)=>Z [p 2 (R 2),p 4 (R 4)] [(4,bx 51 [J d,J e]),(2,bx 51 [I 0,I 0])]) (A0e) (fun⟨d,e⟩ H=>?_) (fun _ g k l=>?_)
 ·refine iA [2,3]<|j0<|hr H
 refine iA [1,2,4,5]<|vB<|lX (fun((c,b,f):Int×Int×Int)=>Z [p 1 (R 1),p 2 (R 2),p 4 (R 4),p 5 (I c)] [(4,bx 51 [J b,J f]),(2,bx 51 [I 0,I 0]),(1,K 70 y70 a)]) ((1,a.2.2.getD (Int.toNat (0:Int)) (0:Int),a.2.2.getD (Int.toNat (0:Int)) (0:Int))) H fun _ j i h m ⟨c,b,f⟩ H=>vQ<|iA [1,2,4,5,23]<|cD H (fun H=>vK<|fQ<|vQ<|vB<|iB [1,2,4,5] H fun H=>jB [1,2,4,5] H fun H=>fK<|fQ<|jB [1,2,4,5] H fun H=>i H) fun H=>vE<|fE<|h<|fX rfl<|g H
def A0i:Unit->Option Bool
 | _ =>
 some true
def TY(e:Bool)(b:List u6)(d:Int->Option Bool):Int->Option Bool
 | a =>
 if(decide (a<2)) then
  gd (ix a b.length/\(Ll (b.getD a.toNat (b7 y70))).isSome/\True)<|lt (vl (Ll (b.getD a.toNat (b7 y70)))) fun c =>
  if(c.2 != 0||e&&decide (c.1.1<0)) then
   some false
  else
   gd (c9 (a+1)/\True) <|
   d (a+1)
 else
  A0i ()
def Y2(a:List u6)(b:Bool):Option Bool :=
 if((a.length:Int) != 2) then
  some false
 else
  lp (TY b a) 0
def P0z:Ct:=j9 226 [.dat y70.sl,.dat Ty.bool] (fun x=>Y2 x.1 x.2.1) (fun r:Bool=>B r) (fun _=>())
theorem N0L:Ok prog P0z:=by
 refine k6 [.tmp 4] func226 ?_;intro y ⟨c,d,_⟩ r H Q hn hr;have:=hz (tc N0C tn);refine iA [0,1]<|vQ<|iA [0,1,10]<|cD H (fun H=>iA [4]<|j0<|fR<|hr H) fun H=>vK<|fQ<|jN r (fun(_:Unit)=>Z [] []) (A0i) (fun _ H=>?_) (fun _ e k h=>?_)
 ·refine iA [4]<|j0<|hr H
 refine iA [0,1,5]<|vB<|lX (fun(a:Int)=>Z [p 0 (L y70 c),p 1 (C d),p 5 (I a)] []) 0 H fun _ j g f i a H=>vQ<|iA [0,1,5,12]<|cD H (fun H=>?_) (fun H=>?_)
 ·refine vK<|fQ<|vQ<|vB<|qD (fun b=>Z [p 0 (L y70 c),p 1 (C d),p 5 (I a),p 6 (R 6),p 7 (I b.2)] [(6,bx 51 (o8 true y51 b.1))]) H fun b H=>iA [0,1,5,32]<|cD H (fun H=>iA [4]<|j0<|l9<|fR<|i<|l9<|h<|hr H) fun H=>vK<|fK<|fQ<|jB [0,1,5] H fun H=>g H
 exact vE<|fE<|f<|fX rfl<|e H
def GW(c:I3)(a:A8)(b:m5):Bool->Option Bool
 | d =>
 if d then
  gd (((c.2.2.2&&decide (a.2.2.1 < (b.2.2.1.length:Int)-1))=true/\True->ix a.2.2.1 b.2.2.1.length)/\((c.2.2.2&&decide (a.2.2.1 < (b.2.2.1.length:Int)-1)&&!(b.2.2.1.getD a.2.2.1.toNat (b7 y233)).2.2.2&&a.2.2.2.1==0)=true/\True->(Y2 a.2.2.2.2.1 false).isSome)/\True) <|
  some (c.2.2.2&&decide (a.2.2.1 < (b.2.2.1.length:Int)-1)&&!(b.2.2.1.getD a.2.2.1.toNat (b7 y233)).2.2.2&&a.2.2.2.1==0&&vl (Y2 a.2.2.2.2.1 false)&&(a.2.2.2.2.2.length:Int)==0)
 else
  some false
def Lm(c:I3)(a:A8)(b:m5):Bool->Option Bool
 | d =>
 if d then
  gd (((c.2.2.2&&a.2.2.1==(b.2.2.1.length:Int)-1&&a.2.2.2.1==0)=true/\True->(Y2 a.2.2.2.2.1 true).isSome)/\((c.2.2.2&&a.2.2.1==(b.2.2.1.length:Int)-1&&a.2.2.2.1==0&&vl (Y2 a.2.2.2.2.1 true))=true/\True->(Y2 a.2.2.2.2.2 true).isSome)/\True) <|
  some (c.2.2.2&&a.2.2.1==(b.2.2.1.length:Int)-1&&a.2.2.2.1==0&&vl (Y2 a.2.2.2.2.1 true)&&vl (Y2 a.2.2.2.2.2 true))
 else
  if(a.1==4) then
   GW c a b (a.1==4)
  else
   GW c a b (a.1==5)
def Ln(b:m5)(a:A8):Option Bool :=
 gd (c9 ((b.2.2.1.length:Int)-1)/\True) <|
 gd (c9 ((b.2.2.1.length:Int)-1-1)/\(u5 a.2.1 0 ((b.2.2.1.length:Int)-1-1)).isSome/\((!vl (u5 a.2.1 0 ((b.2.2.1.length:Int)-1-1)))=false/\True->(u5 a.2.2.1 0 ((b.2.2.1.length:Int)-1)).isSome)/\True) <|
 if(!vl (u5 a.2.1 0 ((b.2.2.1.length:Int)-1-1))||!vl (u5 a.2.2.1 0 ((b.2.2.1.length:Int)-1))) then
  some false
 else
  gd (ix a.2.1 b.2.2.1.length/\True)<|lt (b.2.2.1.getD a.2.1.toNat (b7 y233)) fun c =>
  if(a.1==1) then
   gd (((!c.2.2.2&&a.2.2.1==(b.2.2.1.length:Int)-1)=true/\True->(u5 a.2.2.2.1 1 3).isSome)/\((!c.2.2.2&&a.2.2.1==(b.2.2.1.length:Int)-1&&vl (u5 a.2.2.2.1 1 3))=true/\True->(Y2 a.2.2.2.2.1 true).isSome)/\((!c.2.2.2&&a.2.2.1==(b.2.2.1.length:Int)-1&&vl (u5 a.2.2.2.1 1 3)&&vl (Y2 a.2.2.2.2.1 true))=true/\True->(Y2 a.2.2.2.2.2 true).isSome)/\True) <|
   some (!c.2.2.2&&a.2.2.1==(b.2.2.1.length:Int)-1&&vl (u5 a.2.2.2.1 1 3)&&vl (Y2 a.2.2.2.2.1 true)&&vl (Y2 a.2.2.2.2.2 true))
  else
   if(a.1==2) then
    Lm c a b (a.1==2)
   else
    Lm c a b (a.1==3)
def P0N:Ct:=j9 206 [.agg y64,.agg y67] (fun x=>Ln x.1 x.2.1) (fun r:Bool=>B r) (fun _=>())
theorem N0U:Ok prog P0N:=by
 refine k6 [.tmp 4] func206 ?_;intro y ⟨a,c,_⟩ r H Q hn hr;have:=hz (tc N0L (tc BK tn));refine iA [2,3]<|iB [2,3,5] H fun H=>vQ<|iB [2,3,5,23] H fun H=>cD H (fun H=>iA [4]<|j0<|fR<|hr H) fun H=>vK<|fQ<|qD (fun b=>Z (G9 [p 5 (I ((a.2.2.1.length:Int)-1)),p 6 (C b.2.2.2)]) [(3,K 67 y67 c),(2,K 64 y64 a)]) H fun b H=>vQ<|iA [2,3,5,6,32]<|vB<|iA [2,3,5,6,32,33]<|cD H (fun H=>iB [4] H fun H=>j0<|l9<|fR<|hr H) fun H=>jN r (fun(d:Bool)=>Z (G9 [p 5 (I ((a.2.2.1.length:Int)-1)),p 6 (C b.2.2.2),p 32 (J c.1),p 58 (B d)]) [(3,K 67 y67 c),(2,K 64 y64 a)]) (Lm b c a) (fun d H=>?_) (fun _ f h j=>?_)
 ·refine cD H (fun H=>iB [4] H fun H=>j0<|l9<|fR<|hr H) fun H=>jN r (fun(e:Bool)=>Z (G9 [p 5 (I ((a.2.2.1.length:Int)-1)),p 6 (C b.2.2.2),p 83 (B e)]) [(3,K 67 y67 c),(2,K 64 y64 a)]) (GW b c a) (fun e H=>?_) (fun _ g i k=>?_)
  ·refine cD H (fun H=>iB [4] H fun H=>j0<|l9<|fR<|hr H) fun H=>vK<|fK<|fQ<|iA [4]<|j0<|hr H
  refine iA [2,3,5,6,32,83]<|cD H (fun H=>vK<|g H) fun H=>jA [2,3,5,6,83]<|g H
 refine iA [2,3,5,6,32,58]<|cD H (fun H=>vK<|f H) fun H=>jA [2,3,5,6,32,58]<|f H
def TZ:Int->Option (Int×Bool)
 | a =>
 some (a,true)
def Pk(a:Int)(b:Int×Int->Option (Int×Bool)):Int->Option (Int×Bool)
 | c =>
 gd (c9 (a+1)/\True) <|
 b (c,a+1)
def Pl(c:Int)(d:Int)(a:I3)(b:m5)(e:Int×Int->Option (Int×Bool)):Unit->Option (Int×Bool)
 | _ =>
 gd ((Ad a.1).isSome/\((!vl (Ad a.1))=false/\True->(u5 a.2.2.1 0 500).isSome)/\True) <|
 if(!vl (Ad a.1)||!vl (u5 a.2.2.1 0 500)) then
  some (((0:Int),false))
 else
  gd (c9 ((b.2.2.1.length:Int)-1)/\((c==(b.2.2.1.length:Int)-1&&(a.2.1 != 2||a.2.2.1 != 0||a.2.2.2))=false/\True->c9 ((b.2.2.1.length:Int)-1))/\True) <|
  if(c==(b.2.2.1.length:Int)-1&&(a.2.1 != 2||a.2.2.1 != 0||a.2.2.2)||decide (c < (b.2.2.1.length:Int)-1)&&a.2.1 != 1) then
   some (((0:Int),false))
  else
   if a.2.2.2 then
    gd (c9 (d+1)/\True) <|
    Pk c e (d+1)
   else
    Pk c e d
def A0p(b:m5)(c:I3)(d:Int)(f:Int)(e:Int×Int->Option (Int×Bool))(g:Int->Option (Int×Bool)):Int->Option (Int×Bool)
 | a =>
 if(decide (a<d)) then
  gd (ix a b.2.2.1.length/\True) <|
  if(decide ((b.2.2.1.getD a.toNat (b7 y233)).1=c.1)) then
   some (((0:Int),false))
  else
   gd (c9 (a+1)/\True) <|
   g (a+1)
 else
  Pl d f c b e ()
def A0q(a:m5)(d:Int×Int->Option (Int×Bool)):Int×Int->Option (Int×Bool)
 | (c,b) =>
 if(decide (b < (a.2.2.1.length:Int))) then
  gd (ix b a.2.2.1.length/\True)<|lt (a.2.2.1.getD b.toNat (b7 y233)) fun e =>
  lp (A0p a e b c d) 0
 else
  TZ c
def Lo(a:m5):Option (Int×Bool) :=
 if(decide ((a.2.2.1.length:Int)<2)||decide (5 < (a.2.2.1.length:Int))) then
  some (((0:Int),false))
 else
  lp (A0q a) (0,0)
def P0O:Ct:=j9 205 [.agg y64] (fun x=>Lo x.1) (fun r:Int×Bool=>AV.tup [I r.1,B r.2]) (fun _=>())
theorem N0V:Ok prog P0O:=by
 refine k6 [.tmp 2,.tmp 3] func205 ?_;intro y ⟨a,_⟩ r H Q hn hr;have:=hz (tc BK (tc Pf tn));refine iA [1]<|iA [1,4]<|vQ<|iA [1,4,17]<|cD H (fun H=>iA [2,3]<|j0<|fR<|hr H) fun H=>vK<|fQ<|iA [1,4,5]<|jN r (fun(l:Int)=>Z [p 5 (I l)] []) (TZ) (fun l H=>?_) (fun _ q v e=>?_)
 ·refine iA [2,3]<|j0<|hr H
 refine iA [1,4,5,6]<|vB<|lX (fun((c,b):Int×Int)=>Z [p 1 (R 1),p 4 (I (a.2.2.1.length:Int)),p 5 (I c),p 6 (I b)] [(1,K 64 y64 a)]) (0,0) H fun _ i u t g ⟨c,b⟩ H=>vQ<|iA [1,4,5,6,20]<|cD H (fun H=>?_) (fun H=>?_)
 ·refine vK<|fQ<|jN r (fun(h:Int)=>Z [p 1 (R 1),p 4 (I (a.2.2.1.length:Int)),p 5 (I h),p 6 (I b)] [(1,K 64 y64 a)]) (Pk b i) (fun h H=>?_) (fun _ k w f=>?_)
  ·refine jB [1,4,5,6] H fun H=>u H
  refine vB<|qD (fun d=>Z [p 1 (R 1),p 4 (I (a.2.2.1.length:Int)),p 5 (I c),p 6 (I b),p 7 (R 7)] [(7,K 233 y233 d),(1,K 64 y64 a)]) H fun d H=>jN r (fun(_:Unit)=>Z [p 1 (R 1),p 4 (I (a.2.2.1.length:Int)),p 5 (I c),p 6 (I b),p 7 (R 7)] [(7,K 233 y233 d),(1,K 64 y64 a)]) (Pl b c d a i) (fun _ H=>?_) (fun _ n3 x s=>?_)
  ·refine vQ<|iB [1,4,5,6,7,51] H fun H=>cD H (fun H=>iA [2,3]<|j0<|fR<|l9<|f<|g<|l9<|e<|hr H) fun H=>vK<|fQ<|vQ<|iB [1,4,5,6,7,80] H fun H=>cD H (fun H=>iA [2,3]<|j0<|fR<|l9<|f<|g<|l9<|e<|hr H) fun H=>vK<|fQ<|iA [1,4,5,6,82]<|cD H (fun H=>jB [1,4,5,6] H fun H=>fK<|k H) fun H=>vK<|fK<|k H
  refine iA [1,4,5,6,7,8]<|vB<|lX (fun(j:Int)=>Z [p 1 (R 1),p 4 (I (a.2.2.1.length:Int)),p 5 (I c),p 6 (I b),p 7 (R 7),p 8 (I j)] [(7,K 233 y233 d),(1,K 64 y64 a)]) 0 H fun _ z o n m j H=>vQ<|iA [1,4,5,6,7,8,30]<|cD H (fun H=>?_) (fun H=>?_)
  ·refine vK<|fQ<|vQ<|vB<|iB [1,4,5,6,7,8,41] H fun H=>cD H (fun H=>iA [2,3]<|j0<|l9<|fR<|m<|l9<|s<|l9<|f<|g<|l9<|e<|hr H) fun H=>vK<|fK<|fQ<|jB [1,4,5,6,7,8] H fun H=>o H
  exact vE<|fE<|n<|fX rfl<|n3 H
 exact vE<|fE<|t<|fX rfl<|q H
def A0C:Unit->Option Bool
 | _ =>
 some false
def Lp(b:Int×Bool)(a:m5):Unit->Option Bool
 | _ =>
 gd (((b.1==(0:Int))=true/\True->c9 ((a.2.2.1.length:Int)-(1:Int)))/\((b.1==(0:Int))=true/\True->(0:Int)<=(a.2.2.1.length:Int)-(1:Int)/\(a.2.2.1.length:Int)-(1:Int)<=(18446744073709551615:Int))/\((b.1==(0:Int))=true/\True->((0:Int)<=(a.2.2.1.length:Int)-(1:Int)/\(a.2.2.1.length:Int)-(1:Int)<=(62:Int))/\c9 ((1:Int)*(2:Int) ^ ((a.2.2.1.length:Int)-(1:Int)).toNat))/\True) <|
 some (b.1==(0:Int)&&(a.2.2.2.2.1.length:Int)==(1:Int)*(2:j5 i64) ^ ((a.2.2.1.length:Int)-(1:Int)).toNat)
def A0z(b:m5)(d:Int×Bool)(c:Int->Option Bool):Int->Option Bool
 | a =>
 if(decide (a < (b.2.2.2.2.1.length:Int))) then
  gd (ix a b.2.2.2.2.1.length/\(u5 (b.2.2.2.2.1.getD a.toNat 0) 0 1).isSome/\True) <|
  if(!vl (u5 (b.2.2.2.2.1.getD a.toNat 0) 0 1)) then
   some false
  else
   gd (c9 (a+1)/\True) <|
   c (a+1)
 else
  Lp d b ()
def Pm(c:m5)(b:Int×Bool):Unit->Option Bool
 | _ =>
 gd ((Lj c).isSome/\True)<|lt (vl (Lj c)) fun a =>
 if(c.2.1==1) then
  lp (A0z c b) 0
 else
  if(c.2.1==2) then
   gd (((b.1==(1:Int))=true/\True->ix (1:Int) a.length)/\((b.1==(1:Int))=true/\True->Int.toNat (1:Int)<a.length)/\((b.1==(1:Int)&&a.getD (Int.toNat (1:Int)) (0:Int)==(0:Int))=true/\True->ix (2:Int) a.length)/\((b.1==(1:Int)&&a.getD (Int.toNat (1:Int)) (0:Int)==(0:Int))=true/\True->Int.toNat (2:Int)<a.length)/\((b.1==(1:Int)&&a.getD (Int.toNat (1:Int)) (0:Int)==(0:Int))=true/\True->ix (3:Int) a.length)/\((b.1==(1:Int)&&a.getD (Int.toNat (1:Int)) (0:Int)==(0:Int))=true/\True->Int.toNat (3:Int)<a.length)/\True) <|
   some (b.1==(1:Int)&&a.getD (Int.toNat (1:Int)) (0:Int)==(0:Int)&&!decide ((0:Int)<a.getD (Int.toNat (2:Int)) (0:Int))==decide ((0:Int)<a.getD (Int.toNat (3:Int)) (0:Int))&&(c.2.2.2.2.1.length:Int)==(0:Int))
  else
   if(c.2.1==3) then
    gd (((b.1==(1:Int))=true/\True->ix (1:Int) a.length)/\((b.1==(1:Int))=true/\True->Int.toNat (1:Int)<a.length)/\((b.1==(1:Int)&&decide ((0:Int)<a.getD (Int.toNat (1:Int)) (0:Int)))=true/\True->ix (2:Int) a.length)/\((b.1==(1:Int)&&decide ((0:Int)<a.getD (Int.toNat (1:Int)) (0:Int)))=true/\True->Int.toNat (2:Int)<a.length)/\((b.1==(1:Int)&&decide ((0:Int)<a.getD (Int.toNat (1:Int)) (0:Int))&&decide ((0:Int)<a.getD (Int.toNat (2:Int)) (0:Int)))=true/\True->ix (3:Int) a.length)/\((b.1==(1:Int)&&decide ((0:Int)<a.getD (Int.toNat (1:Int)) (0:Int))&&decide ((0:Int)<a.getD (Int.toNat (2:Int)) (0:Int)))=true/\True->Int.toNat (3:Int)<a.length)/\True) <|
    some (b.1==(1:Int)&&decide ((0:Int)<a.getD (Int.toNat (1:Int)) (0:Int))&&decide ((0:Int)<a.getD (Int.toNat (2:Int)) (0:Int))&&a.getD (Int.toNat (3:Int)) (0:Int)==(0:Int)&&(c.2.2.2.2.1.length:Int)==(0:Int))
   else
    A0C ()
def A0D(a:Int)(b:Int->Option Bool):Unit->Option Bool
 | _ =>
 gd (c9 (a+1)/\True) <|
 b (a+1)
def A0A(b:m5)(c:A8)(d:Int)(e:Int->Option Bool)(f:Int->Option Bool):Int->Option Bool
 | a =>
 if(decide (a<d)) then
  gd (ix a b.2.2.2.1.length/\(((b.2.2.2.1.getD a.toNat (b7 y67)).1==c.1)=true/\True->ix a b.2.2.2.1.length)/\(((b.2.2.2.1.getD a.toNat (b7 y67)).1==c.1&&(b.2.2.2.1.getD a.toNat (b7 y67)).2.1==c.2.1)=true/\True->ix a b.2.2.2.1.length)/\True) <|
  if((b.2.2.2.1.getD a.toNat (b7 y67)).1==c.1&&(b.2.2.2.1.getD a.toNat (b7 y67)).2.1==c.2.1&&(b.2.2.2.1.getD a.toNat (b7 y67)).2.2.1==c.2.2.1) then
   some false
  else
   gd (c9 (a+1)/\True) <|
   f (a+1)
 else
  A0D d e ()
def A0B(a:m5)(e:Int×Bool)(d:Int->Option Bool):Int->Option Bool
 | b =>
 if(decide (b < (a.2.2.2.1.length:Int))) then
  gd (ix b a.2.2.2.1.length/\True)<|lt (a.2.2.2.1.getD b.toNat (b7 y67)) fun c =>
  gd ((Ln a c).isSome/\True) <|
  if(!vl (Ln a c)) then
   some false
  else
   lp (A0A a c b d) 0
 else
  Pm a e ()
def Lq(a:m5):Option Bool :=
 gd ((Lo a).isSome/\True)<|lt (vl (Lo a)) fun b =>
 gd (((!b.2)=false/\True->(Ad a.1).isSome)/\((!b.2||!vl (Ad a.1)||decide (8 < (a.2.2.2.1.length:Int)))=false/\True->(u5 a.2.2.2.2.2.1 0 100000).isSome)/\((!b.2||!vl (Ad a.1)||decide (8 < (a.2.2.2.1.length:Int))||!vl (u5 a.2.2.2.2.2.1 0 100000))=false/\True->(u5 a.2.2.2.2.2.2 0 100000).isSome)/\True) <|
 if(!b.2||!vl (Ad a.1)||decide (8 < (a.2.2.2.1.length:Int))||!vl (u5 a.2.2.2.2.2.1 0 100000)||!vl (u5 a.2.2.2.2.2.2 0 100000)) then
  some false
 else
  lp (A0B a b) 0
def Q0e:Ct:=j9 180 [.agg y64] (fun x=>Lq x.1) (fun r:Bool=>B r) (fun _=>())
theorem O0h:Ok prog Q0e:=by
 refine k6 [.tmp 2] func180 ?_;intro y ⟨b,_⟩ r H Q hn hr;have:=hz (tc BK (tc N0T (tc N0U (tc Pf (tc N0V tn)))));refine iA [1]<|qD (fun a=>Z (O6 a.1 [p 4 (B a.2)]) [(1,K 64 y64 b)]) H fun a H=>vQ<|iB [1,3,40] H fun H=>cD H (fun H=>iA [2]<|j0<|fR<|hr H) fun H=>vK<|fQ<|jN r (fun(_:Unit)=>Z (O6 a.1 []) [(1,K 64 y64 b)]) (Pm b a) (fun _ H=>?_) (fun _ w P g=>?_)
 ·refine qD (fun k=>Z (O6 a.1 [p 8 (O 94)]) [(94,A 2 i64 k 0),(1,K 64 y64 b)]) H fun k H=>jN r (fun(_:Unit)=>Z [] []) (A0C) (fun _ H=>?_) (fun _ v T d=>?_)
  ·refine iA [2]<|j0<|hr H
  refine iA [1,3,8,96]<|vB<|iA [1,3,8,96,97]<|cD H (fun H=>?_) (fun H=>?_)
  ·refine jN r (fun(_:Unit)=>Z (O6 a.1 []) [(1,K 64 y64 b)]) (Lp a b) (fun _ H=>?_) (fun _ m V l=>?_)
   ·refine iB [2] H fun H=>j0<|l9<|d<|hr H
   refine iA [1,3,9]<|vB<|lX (fun(h:Int)=>Z (O6 a.1 [p 9 (I h)]) [(1,K 64 y64 b)]) 0 H fun _ W q n u h H=>vQ<|iA [1,3,9,103]<|cD H (fun H=>?_) (fun H=>?_)
   ·refine vK<|fQ<|vQ<|vB<|iB [1,3,9,112] H fun H=>cD H (fun H=>iA [2]<|j0<|l9<|fR<|u<|l9<|l<|l9<|d<|hr H) fun H=>vK<|fK<|fQ<|jB [1,3,9] H fun H=>q H
   exact vE<|fE<|n<|fX rfl<|m H
  refine iA [1,3,8,96,127]<|cD H (fun H=>iB [2] H fun H=>j0<|l9<|d<|hr H) fun H=>iA [1,3,8,154]<|cD H (fun H=>iB [2] H fun H=>j0<|l9<|d<|hr H) fun H=>vK<|fK<|v H
 refine iA [1,3,5]<|vB<|lX (fun(c:Int)=>Z (O6 a.1 [p 5 (I c)]) [(1,K 64 y64 b)]) 0 H fun _ o F E j c H=>vQ<|iA [1,3,5,45]<|cD H (fun H=>?_) (fun H=>?_)
 ·refine vK<|fQ<|jN r (fun(_:Unit)=>Z (O6 a.1 [p 5 (I c)]) [(1,K 64 y64 b)]) (A0D c o) (fun _ H=>?_) (fun _ x X i=>?_)
  ·refine jB [1,3,5] H fun H=>F H
  refine vB<|qD (fun e=>Z (O6 a.1 [p 5 (I c),p 6 (R 6)]) [(6,K 67 y67 e),(1,K 64 y64 b)]) H fun e H=>vQ<|iB [1,3,5,6,56] H fun H=>cD H (fun H=>iA [2]<|j0<|fR<|l9<|i<|j<|l9<|g<|hr H) fun H=>vK<|fQ<|iA [1,3,5,6,7]<|vB<|lX (fun(f:Int)=>Z (O6 a.1 [p 5 (I c),p 6 (R 6),p 7 (I f)]) [(6,K 67 y67 e),(1,K 64 y64 b)]) 0 H fun _ G t s z f H=>vQ<|iA [1,3,5,6,7,59]<|cD H (fun H=>?_) (fun H=>?_)
  ·refine vK<|fQ<|vQ<|vB<|iB [1,3,5,6,7,92] H fun H=>cD H (fun H=>iA [2]<|j0<|l9<|fR<|z<|l9<|l9<|i<|j<|l9<|g<|hr H) fun H=>vK<|fK<|fQ<|jB [1,3,5,6,7] H fun H=>t H
  exact vE<|fE<|s<|fX rfl<|fK<|x H
 exact vE<|fE<|E<|fX rfl<|w H
def Pn(a:List m5):Unit->Option Bool
 | _ =>
 some (decide ((a.length:Int)<=8))
def A0X(a:Int)(b:Int->Option Bool):Unit->Option Bool
 | _ =>
 gd (c9 (a+1)/\True) <|
 b (a+1)
def A0V(c:List m5)(b:Int)(d:Int->Option Bool)(e:Int->Option Bool):Int->Option Bool
 | a =>
 if(decide (a<b)) then
  gd (ix a c.length/\ix b c.length/\True) <|
  if(decide ((c.getD a.toNat (b7 y64)).1=(c.getD b.toNat (b7 y64)).1)) then
   some false
  else
   gd (c9 (a+1)/\True) <|
   e (a+1)
 else
  A0X b d ()
def A0W(a:List m5)(c:Int->Option Bool):Int->Option Bool
 | b =>
 if(decide (b < (a.length:Int))) then
  gd (ix b a.length/\(Lq (a.getD b.toNat (b7 y64))).isSome/\True) <|
  if(!vl (Lq (a.getD b.toNat (b7 y64)))) then
   some false
  else
   lp (A0V a b c) 0
 else
  Pn a ()
def Lr(a:List m5):Option Bool :=
 lp (A0W a) 0
def Q0G:Ct:=j9 146 [.agg y64.sl] (fun x=>Lr x.1) (fun r:Bool=>B r) (fun _=>())
theorem O0A:Ok prog Q0G:=by
 refine k6 [.tmp 2] func146 ?_;intro y ⟨b,_⟩ r H Q hn hr;have:=hz (tc O0h tn);refine iA [1]<|jN r (fun(_:Unit)=>Z [p 1 (R 1)] [(1,bx 26 [L y64 b])]) (Pn b) (fun _ H=>?_) (fun _ i s e=>?_)
 ·refine iA [2]<|j0<|hr H
 refine iA [1,3]<|vB<|lX (fun(a:Int)=>Z (O6 a []) [(1,bx 26 [L y64 b])]) 0 H fun _ g n m f a H=>vQ<|iA [1,3,9]<|cD H (fun H=>?_) (fun H=>?_)
 ·refine vK<|fQ<|jN r (fun(_:Unit)=>Z (O6 a []) [(1,bx 26 [L y64 b])]) (A0X a g) (fun _ H=>?_) (fun _ j q d=>?_)
  ·refine jB [1,3] H fun H=>n H
  refine vB<|vQ<|iB [1,3,18] H fun H=>cD H (fun H=>iA [2]<|j0<|fR<|l9<|d<|f<|l9<|e<|hr H) fun H=>vK<|fQ<|iA [1,3,4]<|vB<|lX (fun(c:Int)=>Z (O6 a [p 4 (I c)]) [(1,bx 26 [L y64 b])]) 0 H fun _ o h k l c H=>vQ<|iA [1,3,4,21]<|cD H (fun H=>?_) (fun H=>?_)
  ·refine vK<|fQ<|vQ<|vB<|iB [1,3,4,36] H fun H=>cD H (fun H=>iA [2]<|j0<|l9<|fR<|l<|l9<|l9<|d<|f<|l9<|e<|hr H) fun H=>vK<|fK<|fQ<|jB [1,3,4] H fun H=>h H
  exact vE<|fE<|k<|fX rfl<|fK<|j H
 exact vE<|fE<|m<|fX rfl<|i H
def F0D:Unit->Option Bool
 | _ =>
 some true
def A0a(b:List Int)(c:Int->Option Bool):Int->Option Bool
 | a =>
 if(decide (a < (b.length:Int))) then
  gd (ix a b.length/\a.toNat<b.length/\True) <|
  if(b.getD a.toNat 0 != 1) then
   some false
  else
   gd (c9 (a+1)/\True) <|
   c (a+1)
 else
  F0D ()
def Ls:List Int->Option Bool
 | a =>
 lp (A0a a) 0
def Po(a:Int)(c:Int×List Int->Option Bool):List Int->Option Bool
 | b =>
 gd (c9 (a+1)/\True) <|
 c (a+1,b)
def F0A(c:r8)(e:Int×List Int->Option Bool):Int×List Int->Option Bool
 | (a,b) =>
 if(decide (a < (c.2.2.length:Int))) then
  gd (ix a c.2.2.length/\True) <|
  if((c.2.2.getD a.toNat (b7 y202)).2.1==1) then
   gd (ix a c.2.2.length/\ix (c.2.2.getD a.toNat (b7 y202)).2.2 b.length/\(c.2.2.getD a.toNat (b7 y202)).2.2.toNat<b.length/\c9 (b.getD (c.2.2.getD a.toNat (b7 y202)).2.2.toNat 0+1)/\ix (c.2.2.getD a.toNat (b7 y202)).2.2 b.length/\(c.2.2.getD a.toNat (b7 y202)).2.2.toNat<b.length/\True)<|lt (b.set (c.2.2.getD a.toNat (b7 y202)).2.2.toNat (b.getD (c.2.2.getD a.toNat (b7 y202)).2.2.toNat 0+1)) fun d =>
   Po a e d
  else
   Po a e b
 else
  Ls b
def Lt(b:r8):List Int->Option Bool
 | a =>
 lp (F0A b) (0,a)
def Ua(d:r8)(f:Int×List Int->Option Bool):Int×List Int->Option Bool
 | (c,b) =>
 if(decide (c < (d.1.length:Int))) then
  gd (ix c d.1.length/\True)<|lt (d.1.getD c.toNat (b7 y139)) fun a =>
  gd (c9 ((a.2.2.length:Int)-1)/\ix ((a.2.2.length:Int)-1) a.2.2.length/\ix (a.2.2.getD ((a.2.2.length:Int)-1).toNat 0) b.length/\Int.toNat (a.2.2.getD ((a.2.2.length:Int)-1).toNat 0)<b.length/\c9 (b.getD (Int.toNat (a.2.2.getD ((a.2.2.length:Int)-1).toNat 0)) 0+1)/\ix (a.2.2.getD ((a.2.2.length:Int)-1).toNat 0) b.length/\Int.toNat (a.2.2.getD ((a.2.2.length:Int)-1).toNat 0)<b.length/\True)<|lt (b.set (Int.toNat (a.2.2.getD ((a.2.2.length:Int)-1).toNat 0)) (b.getD (Int.toNat (a.2.2.getD ((a.2.2.length:Int)-1).toNat 0)) 0+1)) fun e =>
  gd (c9 (c+1)/\True) <|
  f (c+1,e)
 else
  Lt d b
def Lu(a:r8)(b:List ByteArray):List ByteArray->Option Bool
 | c =>
 gd ((BN b).isSome/\((!vl (BN b))=false/\True->(BN c).isSome)/\((!vl (BN b)||!vl (BN c))=false/\True->(BN a.2.1).isSome)/\True) <|
 if(!vl (BN b)||!vl (BN c)||!vl (BN a.2.1)) then
  some false
 else
  gd ((0<=(a.2.1.length:Int)/\(a.2.1.length:Int)=(a.2.1.length:Int)/\(a.2.1.length:Int).toNat*8<=281474976710656/\(a.2.1.length:Int)<=9223372036854775807)/\True) <|
  lp (Ua a) ((0,List.replicate (a.2.1.length:Int).toNat 0))
def F0B(b:r8)(d:List ByteArray)(e:Int×List ByteArray->Option Bool):Int×List ByteArray->Option Bool
 | (a,c) =>
 if(decide (a < (b.2.2.length:Int))) then
  gd (ix a b.2.2.length/\(c.length+[(b.2.2.getD a.toNat (b7 y202)).1].length<=9223372036854775807/\(c.length+[(b.2.2.getD a.toNat (b7 y202)).1].length)*16<=140737488355328)/\True) <|
  gd (c9 (a+1)/\True) <|
  e ((a+1,c++[(b.2.2.getD a.toNat (b7 y202)).1]))
 else
  Lu b d c
def Lv(a:r8):List ByteArray->Option Bool
 | b =>
 lp (F0B a b) (0,[])
def F0C(b:r8)(d:Int×List ByteArray->Option Bool):Int×List ByteArray->Option Bool
 | (a,c) =>
 if(decide (a < (b.1.length:Int))) then
  gd (ix a b.1.length/\(c.length+[(b.1.getD a.toNat (b7 y139)).1].length<=9223372036854775807/\(c.length+[(b.1.getD a.toNat (b7 y139)).1].length)*16<=140737488355328)/\True) <|
  gd (c9 (a+1)/\True) <|
  d ((a+1,c++[(b.1.getD a.toNat (b7 y139)).1]))
 else
  Lv b c
def Lw(b:List m5)(a:r8):Option Bool :=
 gd ((Lr b).isSome/\((!vl (Lr b)||decide (14 < (a.1.length:Int))||decide (30 < (a.2.1.length:Int))||decide (8 < (a.2.2.length:Int)))=false/\True->(Ph b a).isSome)/\True) <|
 if(!vl (Lr b)||decide (14 < (a.1.length:Int))||decide (30 < (a.2.1.length:Int))||decide (8 < (a.2.2.length:Int))||!vl (Ph b a)) then
  some false
 else
  lp (F0C a) (0,[])
def k92:Ct:=j9 92 [.agg y64.sl,.agg y31] (fun x=>Lw x.1 x.2.1) (fun r:Bool=>B r) (fun _=>())
theorem o92:Ok prog k92:=by
 refine k6 [.tmp 4] func92 ?_;intro y ⟨_,a,_⟩ r H Q hn hr;have:=hz (tc O0y (tc O0z (tc O0A tn)));refine iA [2,3]<|vQ<|iB [3,40] H fun H=>cD H (fun H=>iA [4]<|j0<|fR<|hr H) fun H=>vK<|fQ<|iA [3,5]<|jN r (fun(g:List ByteArray)=>Z [p 3 (R 3),p 5 (O 41)] [(41,A 9 Ty.str g 0),(3,K 31 y31 a)]) (Lv a) (fun g H=>?_) (fun _ n0 e0 t0=>?_)
 ·refine iA [3,5,7]<|jN r (fun(w:List ByteArray)=>Z [p 3 (R 3),p 5 (O 41),p 7 (O 58)] [(58,A 9 Ty.str w 0),(41,A 9 Ty.str g 0),(3,K 31 y31 a)]) (Lu a g) (fun w H=>?_) (fun _ n2 e2 t2=>?_)
  ·refine vQ<|iB [3,88] H fun H=>cD H (fun H=>iA [4]<|j0<|fR<|hr H) fun H=>vK<|fQ<|iB [3,9] H fun H=>jN r (fun(d:List Int)=>Z [p 3 (R 3),p 9 (O 92)] (GN d a)) (Lt a) (fun d H=>?_) (fun _ n4 e4 t4=>?_)
   ·refine jN r (fun(e:List Int)=>Z [p 9 (O 92)] [(92,A 2 i64 e 0)]) (Ls) (fun e H=>?_) (fun _ W e6 t6=>?_)
    ·refine jN r (fun(_:Unit)=>Z [] []) (F0D) (fun _ H=>?_) (fun _ G e9 V=>?_)
     ·refine iA [4]<|j0<|hr H
     refine iA [9,13]<|vB<|lX (fun(f:Int)=>Z [p 9 (O 92),p 13 (I f)] [(92,A 2 i64 e 0)]) 0 H fun _ aA q n o f H=>vQ<|iA [9,13,145]<|cD H (fun H=>?_) (fun H=>?_)
     ·refine vK<|fQ<|vQ<|vB<|iB [9,13,152] H fun H=>cD H (fun H=>iA [4]<|j0<|l9<|fR<|o<|l9<|V<|hr H) fun H=>vK<|fK<|fQ<|jB [9,13] H fun H=>q H
     exact vE<|fE<|n<|fX rfl<|G H
    refine iA [3,9,12]<|vB<|lX (fun((b,j):Int×List Int)=>Z [p 3 (R 3),p 9 (O 92),p 12 (I b)] (GN j a)) (0,d) H fun _ E z Y t7 ⟨b,j⟩ H=>vQ<|iA [3,9,12,121]<|cD H (fun H=>?_) (fun H=>?_)
    ·refine vK<|fQ<|jN r (fun(k:List Int)=>Z [p 3 (R 3),p 9 (O 92),p 12 (I b)] (GN k a)) (Po b E) (fun k H=>?_) (fun _ u e8 t8=>?_)
     ·refine jB [3,9,12] H fun H=>z H
     refine vB<|iB [3,9,12,130] H fun H=>cD H (fun H=>zD (fun l=>Z [p 3 (R 3),p 9 (O 92),p 12 (I b)] (GN l a)) H fun l H=>fK<|u H) fun H=>vK<|fK<|u H
    exact vE<|fE<|Y<|fX rfl<|W H
   refine iA [3,9,10]<|vB<|lX (fun((m,c):Int×List Int)=>Z [p 3 (R 3),p 9 (O 92),p 10 (I m)] (GN c a)) ((0,List.replicate (a.2.1.length:Int).toNat 0)) H fun _ g5 P F t5 ⟨m,c⟩ H=>vQ<|iA [3,9,10,97]<|cD H (fun H=>vK<|fQ<|vQ<|vB<|qD (fun h=>Z [p 3 (R 3),p 9 (O 92),p 10 (I m),p 11 (L i64 h.2.2)] (GN c a)) H fun h H=>zD (fun i=>Z [p 3 (R 3),p 9 (O 92),p 10 (I m)] (GN i a)) H fun i H=>fK<|fQ<|jB [3,9,10] H fun H=>P H) fun H=>vE<|fE<|F<|fX rfl<|n4 H
  refine iA [3,5,7,8]<|vB<|lX (fun((v,s):Int×List ByteArray)=>Z [p 3 (R 3),p 5 (O 41),p 7 (O 58),p 8 (I v)] [(58,A 9 Ty.str s 0),(41,A 9 Ty.str g 0),(3,K 31 y31 a)]) (0,[]) H fun _ g3 X T t3 ⟨v,s⟩ H=>vQ<|iA [3,5,7,8,63]<|cD H (fun H=>vK<|fQ<|vQ<|vB<|jB [3,5,7,8] H fun H=>fK<|fQ<|jB [3,5,7,8] H fun H=>X H) fun H=>vE<|fE<|T<|fX rfl<|n2 H
 refine iA [3,5,6]<|vB<|lX (fun((t,x):Int×List ByteArray)=>Z [p 3 (R 3),p 5 (O 41),p 6 (I t)] [(41,A 9 Ty.str x 0),(3,K 31 y31 a)]) (0,[]) H fun _ g1 b1 e1 t1 ⟨t,x⟩ H=>vQ<|iA [3,5,6,46]<|cD H (fun H=>vK<|fQ<|vQ<|vB<|jB [3,5,6] H fun H=>fK<|fQ<|jB [3,5,6] H fun H=>b1 H) fun H=>vE<|fE<|e1<|fX rfl<|n0 H
def G0v:Unit->Option Bool
 | _ =>
 some true
def G0u(b:j7)(c:Int->Option Bool):Int->Option Bool
 | a =>
 if(decide (a < (b.2.2.length:Int))) then
  gd (ix a b.2.2.length/\(U4 b.2.1 a).isSome/\(IZ (b.2.2.getD a.toNat (b7 l7)) (↑(vl (U4 b.2.1 a)).length:Int)).isSome/\True)<|lt (vl (U4 b.2.1 a)) fun d =>
  if(!vl (IZ (b.2.2.getD a.toNat (b7 l7)) (d.length:Int))) then
   some false
  else
   gd (c9 (a+1)/\True) <|
   c (a+1)
 else
  G0v ()
def U7(a:j7):Option Bool :=
 gd ((Lw a.1 a.2.1).isSome/\True) <|
 if(!vl (Lw a.1 a.2.1)||(a.2.2.length:Int) != (a.2.1.2.1.length:Int)) then
  some false
 else
  lp (G0u a) 0
def k39:Ct:=j9 39 [.agg k8] (fun x=>U7 x.1) (fun r:Bool=>B r) (fun _=>())
theorem Ja:Ok prog k39:=by
 refine k6 [.tmp 2] func39 ?_;intro y ⟨b,_⟩ r H Q hn hr;have:=hz (tc o93 (tc OV (tc o92 tn)));refine iA [1]<|vQ<|iB [1,19] H fun H=>cD H (fun H=>iA [2]<|j0<|fR<|hr H) fun H=>vK<|fQ<|jN r (fun(_:Unit)=>Z [] []) (G0v) (fun _ H=>?_) (fun _ d j g=>?_)
 ·refine iA [2]<|j0<|hr H
 refine iA [1,3]<|vB<|lX (fun(a:Int)=>Z (O6 a []) [(1,K 34 k8 b)]) 0 H fun _ i f e h a H=>vQ<|iA [1,3,24]<|cD H (fun H=>?_) (fun H=>?_)
 ·refine vK<|fQ<|vQ<|vB<|qD (fun c=>Z (O6 a [p 38 (B !vl (IZ (b.2.2.getD a.toNat (b7 l7)) (c.length:Int)))]) [(35,A 2 i64 c 0),(1,K 34 k8 b)]) H fun c H=>cD H (fun H=>iA [2]<|j0<|l9<|fR<|h<|l9<|g<|hr H) fun H=>vK<|fK<|fQ<|jB [1,3] H fun H=>f H
 exact vE<|fE<|e<|fX rfl<|d H
def Fu(a:j7)(b:List Int):Option Int :=
 gd ((U7 a).isSome/\True) <|
 if(!vl (U7 a)) then
  some 1
 else
  gd ((u32 a).isSome/\(Li b (↑(vl (u32 a)).length:Int)).isSome/\True)<|lt (vl (u32 a)) fun c =>
  if(!vl (Li b (c.length:Int))) then
   some 2
  else
   some 0
def k71:Ct:=j9 71 [.agg k8,.dat i64.sl] (fun x=>Fu x.1 x.2.1) (fun r:Int=>I r) (fun _=>())
theorem o71:Ok prog k71:=by
 refine k6 [.tmp 4] func71 ?_;intro y ⟨b,c,_⟩ r H Q hn hr;have:=hz (tc O0N (tc Lf (tc Ja tn)));refine iA [1,2]<|vQ<|iB [1,2,7] H fun H=>cD H (fun H=>iA [4]<|j0<|fR<|hr H) fun H=>vK<|fQ<|vQ<|qD (fun a=>Z [p 13 (B !vl (Li c (a.length:Int)))] [(10,A 80 y80 a 0),(2,K 34 k8 b)]) H fun a H=>cD H (fun H=>iA [4]<|j0<|fR<|hr H) fun H=>vK<|fQ<|iA [4]<|j0<|hr H
def Lx(a:j7)(c:List Int):Option (List Int×Int) :=
 gd ((Fu a c).isSome/\True)<|lt (vl (Fu a c)) fun e =>
 if(e != 0) then
  some ([],e)
 else
  gd ((u32 a).isSome/\True)<|lt (vl (u32 a)) fun b =>
  gd ((U5 a).isSome/\(Bg b c).isSome/\(Lh (vl (U5 a)) b (vl (Bg b c))).isSome/\True)<|lt ((vl (Lh (vl (U5 a)) b (vl (Bg b c))),vl (Bg b c))) fun(d,_) =>
  if(!d.2) then
   some (([],(7:Int)))
  else
   some ((d.1,(0:Int)))
def k72:Ct:=j9 72 [.agg k8,.dat i64.sl] (fun x=>Lx x.1 x.2.1) (fun r:List Int×Int=>AV.tup [AV.ow 2 true i64 r.1,I r.2]) (fun _=>())
theorem o72:Ok prog k72:=by
 refine k6 [.tmp 4,.tmp 5] func72 ?_;intro y ⟨b,f,_⟩ r H Q hn hr;have:=hz (tc O0M (tc TR (tc Lc (tc Lf (tc o71 tn)))));refine iA [1,2]<|vQ<|qD (fun e=>Z [p 1 (L i64 f),p 2 (R 2),p 6 (I e)] [(2,K 34 k8 b)]) H fun e H=>iA [1,2,6,14]<|cD H (fun H=>iA [4,5]<|j0<|fR<|hr H) fun H=>vK<|fQ<|qD (fun a=>Z [p 1 (L i64 f),p 2 (R 2),p 7 (O 18)] [(18,A 80 y80 a 0),(2,K 34 k8 b)]) H fun a H=>qD (fun(c,d)=>Z [p 8 (O 26),p 9 (B c.2)] [(26,A 2 i64 c.1 0),(25,A 4 Ty.bool d 0),(18,A 80 y80 a 0),(2,K 34 k8 b)]) H fun⟨c,d⟩ H =>
  vQ <|
  iA [8,30] <|
  cD H (fun H=>iA [4,5]<|j0<|fR<|hr H) fun H=>vK<|fQ<|iA [4,5]<|j0<|hr H
def Ly(a:s9):Option Bool :=
 some (decide (0<=a.1)&&decide (a.1<=a.2)&&decide (a.2<=1000000))
def R0n:Ct:=j9 102 [.agg y51] (fun x=>Ly x.1) (fun r:Bool=>B r) (fun _=>())
theorem O0Z:Ok prog R0n:=by
 refine k6 [.tmp 2] func102 ?_;intro y ⟨_,_⟩ r H Q hn hr;refine iA [1]<|iA [2]<|j0<|hr H
def G0r:Unit->Option Bool
 | _ =>
 some true
def G0q(b:List m6)(c:Int)(d:Int->Option Bool):Int->Option Bool
 | a =>
 if(decide (a < (b.length:Int))) then
  gd (ix a b.length/\c9 (c-1)/\(u5 (b.getD a.toNat (b7 y53)).1 0 (c-1)).isSome/\(decide (0<a)=true/\(!vl (u5 (b.getD a.toNat (b7 y53)).1 0 (c-1)))=false/\True->c9 (a-1))/\(decide (0<a)=true/\(!vl (u5 (b.getD a.toNat (b7 y53)).1 0 (c-1)))=false/\True->ix (a-1) b.length)/\(decide (0<a)=true/\(!vl (u5 (b.getD a.toNat (b7 y53)).1 0 (c-1)))=false/\True->ix a b.length)/\((!vl (u5 (b.getD a.toNat (b7 y53)).1 0 (c-1))||decide (0<a)&&decide ((b.getD a.toNat (b7 y53)).1<=(b.getD (a-1).toNat (b7 y53)).1))=false/\True->ix a b.length)/\((!vl (u5 (b.getD a.toNat (b7 y53)).1 0 (c-1))||decide (0<a)&&decide ((b.getD a.toNat (b7 y53)).1<=(b.getD (a-1).toNat (b7 y53)).1))=false/\True->(Dp (b.getD a.toNat (b7 y53)).2.1).isSome)/\((!vl (u5 (b.getD a.toNat (b7 y53)).1 0 (c-1))||decide (0<a)&&decide ((b.getD a.toNat (b7 y53)).1<=(b.getD (a-1).toNat (b7 y53)).1)||!vl (Dp (b.getD a.toNat (b7 y53)).2.1))=false/\True->ix a b.length)/\((!vl (u5 (b.getD a.toNat (b7 y53)).1 0 (c-1))||decide (0<a)&&decide ((b.getD a.toNat (b7 y53)).1<=(b.getD (a-1).toNat (b7 y53)).1)||!vl (Dp (b.getD a.toNat (b7 y53)).2.1))=false/\True->(Ly (b.getD a.toNat (b7 y53)).2.2).isSome)/\True) <|
  if(!vl (u5 (b.getD a.toNat (b7 y53)).1 0 (c-1))||decide (0<a)&&decide ((b.getD a.toNat (b7 y53)).1<=(b.getD (a-1).toNat (b7 y53)).1)||!vl (Dp (b.getD a.toNat (b7 y53)).2.1)||!vl (Ly (b.getD a.toNat (b7 y53)).2.2)) then
   some false
  else
   gd (c9 (a+1)/\True) <|
   d (a+1)
 else
  G0r ()
def Jb(a:j7)(c:List m6):Option Bool :=
 gd ((U5 a).isSome/\True)<|lt (vl (U5 a)) fun b =>
 lp (G0q c b) 0
def k44:Ct:=j9 44 [.agg k8,.dat y53.sl] (fun x=>Jb x.1 x.2.1) (fun r:Bool=>B r) (fun _=>())
theorem o44:Ok prog k44:=by
 refine k6 [.tmp 4] func44 ?_;intro y ⟨d,c,_⟩ r H Q hn hr;have:=hz (tc O0Z (tc Zt (tc BK (tc Lc tn))));refine iA [1,2]<|qD (fun a=>Z [p 1 (L y53 c),p 5 (I a)] [(2,K 34 k8 d)]) H fun a H=>jN r (fun(_:Unit)=>Z [] []) (G0r) (fun _ H=>?_) (fun _ e k h=>?_)
 ·refine iA [4]<|j0<|hr H
 refine iA [1,5,6]<|vB<|lX (fun(b:Int)=>Z [p 1 (L y53 c),p 5 (I a),p 6 (I b)] []) 0 H fun _ j g f i b H=>vQ<|iA [1,5,6,12]<|cD H (fun H=>?_) (fun H=>?_)
 ·refine vK<|fQ<|vQ<|vB<|iB [1,5,6,59] H fun H=>cD H (fun H=>iA [4]<|j0<|l9<|fR<|i<|l9<|h<|hr H) fun H=>vK<|fK<|fQ<|jB [1,5,6] H fun H=>g H
 exact vE<|fE<|f<|fX rfl<|e H
def Lz(a:p7):Unit->Option Bool
 | _ =>
 gd ((Ad a.1).isSome/\True) <|
 some (vl (Ad a.1)&&decide (a.2.1<=a.2.2.1)&&decide (a.2.2.2.1<=a.2.2.2.2))
def Pp(b:List Int)(c:p7)(d:Int->Option Bool):Int->Option Bool
 | a =>
 if(decide (a < (b.length:Int))) then
  gd (ix a b.length/\a.toNat<b.length/\(u5 (b.getD a.toNat 0) 100 5000).isSome/\True) <|
  if(!vl (u5 (b.getD a.toNat 0) 100 5000)) then
   some false
  else
   gd (c9 (a+1)/\True) <|
   d (a+1)
 else
  Lz c ()
def LA(a:p7):Option Bool :=
 lt ([a.2.1,a.2.2.1,a.2.2.2.1,a.2.2.2.2]) fun b =>
 lp (Pp b a) 0
def k70:Ct:=j9 70 [.agg p5] (fun x=>LA x.1) (fun r:Bool=>B r) (fun _=>())
theorem o70:Ok prog k70:=by
 refine k6 [.tmp 2] func70 ?_;intro y ⟨a,_⟩ r H Q hn hr;have:=hz (tc Pf (tc BK tn));refine iA [1]<|qC (fun b=>Z [p 1 (R 1),p 3 (O 13)] [(13,A 2 i64 b 0),(1,K 36 p5 a)]) H fun b H=>jN r (fun(_:Unit)=>Z [p 1 (R 1)] [(1,K 36 p5 a)]) (Lz a) (fun _ H=>?_) (fun _ d j g=>?_)
 ·refine iB [2] H fun H=>j0<|hr H
 refine iA [1,3,4]<|vB<|lX (fun(c:Int)=>Z [p 1 (R 1),p 3 (O 13),p 4 (I c)] [(13,A 2 i64 b 0),(1,K 36 p5 a)]) 0 H fun _ i f e h c H=>vQ<|iA [1,3,4,17]<|cD H (fun H=>?_) (fun H=>?_)
 ·refine vK<|fQ<|vQ<|vB<|iB [1,3,4,25] H fun H=>cD H (fun H=>iA [2]<|j0<|l9<|fR<|h<|l9<|g<|hr H) fun H=>vK<|fK<|fQ<|jB [1,3,4] H fun H=>f H
 exact vE<|fE<|e<|fX rfl<|d H
def LB(a:j7)(d:p7)(b:List Int)(c:List m6):Option (List Int×Int) :=
 gd ((U7 a).isSome/\((!vl (U7 a))=false/\True->(LA d).isSome)/\True) <|
 if(!vl (U7 a)||!vl (LA d)) then
  some (([],(1:Int)))
 else
  gd ((Fu a b).isSome/\((vl (Fu a b) != 0)=false/\True->(Jb a c).isSome)/\True)<|lt (vl (Fu a b)) fun f =>
  if(f != 0||!vl (Jb a c)) then
   some (([],(2:Int)))
  else
   gd ((Lx a b).isSome/\True)<|lt (vl (Lx a b)) fun e =>
   some e
def k31:Ct:=j9 31 [.agg k8,.agg p5,.dat i64.sl,.dat y53.sl] (fun x=>LB x.1 x.2.1 x.2.2.1 x.2.2.2.1) (fun r:List Int×Int=>AV.tup [AV.ow 2 true i64 r.1,I r.2]) (fun _=>())
theorem o31:Ok prog k31:=by
 refine k6 [.tmp 8,.tmp 9] func31 ?_;intro y ⟨b,d,e,f,_⟩ r H Q hn hr;have:=hz (tc o72 (tc o44 (tc o71 (tc o70 (tc Ja tn)))));refine iA [2,3,4,5]<|vQ<|iB [2,3,4,17] H fun H=>cD H (fun H=>iA [8,9]<|j0<|fR<|hr H) fun H=>vK<|fQ<|vQ<|qD (fun c=>Z [p 2 (L i64 e),p 4 (R 4),p 28 (B (c != 0||!vl (Jb b f)))] [(5,K 36 p5 d),(4,K 34 k8 b)]) H fun c H=>cD H (fun H=>iA [8,9]<|j0<|fR<|hr H) fun H=>vK<|fQ<|qD (fun a=>Z [p 8 (O 32),p 9 (I a.2)] [(32,A 2 i64 a.1 0),(5,K 36 p5 d),(4,K 34 k8 b)]) H fun a H=>j0<|hr H
def G0E:Unit->Option Bool
 | _ =>
 some true
def G0D(b:List s9)(c:List s9)(d:Int->Option Bool):Int->Option Bool
 | a =>
 if(decide (a < (b.length:Int))) then
  gd (ix a b.length/\ix a c.length/\True) <|
  if(!((b.getD a.toNat (b7 y51)).1==(c.getD a.toNat (b7 y51)).1&&((b.getD a.toNat (b7 y51)).2==(c.getD a.toNat (b7 y51)).2&&true))) then
   some false
  else
   gd (c9 (a+1)/\True) <|
   d (a+1)
 else
  G0E ()
def Fv(a:List s9)(b:List s9):Option Bool :=
 if((a.length:Int) != (b.length:Int)) then
  some false
 else
  lp (G0D a b) 0
def k35:Ct:=j9 35 [.dat y51.sl,.dat y51.sl] (fun x=>Fv x.1 x.2.1) (fun r:Bool=>B r) (fun _=>())
theorem o35:Ok prog k35:=by
 refine k6 [.tmp 4] func35 ?_;intro y ⟨b,d,_⟩ r H Q hn hr;refine iA [0,1]<|vQ<|iA [0,1,10]<|cD H (fun H=>iA [4]<|j0<|fR<|hr H) fun H=>vK<|fQ<|jN r (fun(_:Unit)=>Z [] []) (G0E) (fun _ H=>?_) (fun _ c j g=>?_)
 ·refine iA [4]<|j0<|hr H
 refine iA [0,1,5]<|vB<|lX (fun(a:Int)=>Z [p 0 (L y51 b),p 1 (L y51 d),p 5 (I a)] []) 0 H fun _ i f e h a H=>vQ<|iA [0,1,5,14]<|cD H (fun H=>?_) (fun H=>?_)
 ·refine vK<|fQ<|vQ<|vB<|iB [0,1,5,25] H fun H=>cD H (fun H=>iA [4]<|j0<|l9<|fR<|h<|l9<|g<|hr H) fun H=>vK<|fK<|fQ<|jB [0,1,5] H fun H=>f H
 exact vE<|fE<|e<|fX rfl<|c H
def Ub(a:B3)(b:B3):Unit->Option Bool
 | _ =>
 gd ((Fv a.2.1 b.2.1).isSome/\(vl (Fv a.2.1 b.2.1)=true/\True->(Fv a.2.2 b.2.2).isSome)/\True) <|
 some (vl (Fv a.2.1 b.2.1)&&vl (Fv a.2.2 b.2.2))
def H0t(b:B3)(c:B3)(d:Int->Option Bool):Int->Option Bool
 | a =>
 if(decide (a < (b.1.length:Int))) then
  gd (ix a b.1.length/\ix a c.1.length/\True) <|
  if(!b.1.getD a.toNat false==c.1.getD a.toNat false) then
   some false
  else
   gd (c9 (a+1)/\True) <|
   d (a+1)
 else
  Ub b c ()
def GX(a:B3)(b:B3):Option Bool :=
 if((a.1.length:Int) != (b.1.length:Int)) then
  some false
 else
  lp (H0t a b) 0
def k11:Ct:=j9 11 [.agg y44,.agg y44] (fun x=>GX x.1 x.2.1) (fun r:Bool=>B r) (fun _=>())
theorem o11:Ok prog k11:=by
 refine k6 [.tmp 4] func11 ?_;intro y ⟨a,b,_⟩ r H Q hn hr;have:=hz (tc o35 tn);refine iA [2,3]<|vQ<|iA [2,3,12]<|cD H (fun H=>iA [4]<|j0<|fR<|hr H) fun H=>vK<|fQ<|jN r (fun(_:Unit)=>Z (G9 []) [(3,K 44 y44 b),(2,K 44 y44 a)]) (Ub a b) (fun _ H=>?_) (fun _ d j g=>?_)
 ·refine iB [4] H fun H=>j0<|hr H
 refine iA [2,3,5]<|vB<|lX (fun(c:Int)=>Z (G9 [p 5 (I c)]) [(3,K 44 y44 b),(2,K 44 y44 a)]) 0 H fun _ i f e h c H=>vQ<|iA [2,3,5,17]<|cD H (fun H=>?_) (fun H=>?_)
 ·refine vK<|fQ<|vQ<|vB<|iB [2,3,5,30] H fun H=>cD H (fun H=>iA [4]<|j0<|l9<|fR<|h<|l9<|g<|hr H) fun H=>vK<|fK<|fQ<|jB [2,3,5] H fun H=>f H
 exact vE<|fE<|e<|fX rfl<|d H
def A9(a:Int)(c:Int)(b:Int):Option Bool :=
 some (decide (c<=a)&&decide (a<=b))
def k95:Ct:=j9 95 [.dat i64,.dat i64,.dat i64] (fun x=>A9 x.1 x.2.1 x.2.2.1) (fun r:Bool=>B r) (fun _=>())
theorem Ae:Ok prog k95:=by
 refine k6 [.tmp 6] func95 ?_;intro y ⟨_,_,_,_⟩ r H Q hn hr;refine iA [0,1,2]<|iA [6]<|j0<|hr H
def Fw(a:Int):Option Bool :=
 gd ((A9 a 0 1000000).isSome/\True) <|
 some (vl (A9 a 0 1000000))
def R0h:Ct:=j9 114 [.dat i64] (fun x=>Fw x.1) (fun r:Bool=>B r) (fun _=>())
theorem O0U:Ok prog R0h:=by
 refine k6 [.tmp 2] func114 ?_;intro y ⟨_,_⟩ r H Q hn hr;have:=hz (tc Ae tn);refine iA [0]<|iB [2] H fun H=>j0<|hr H
def Fx(a:Int):Option Bool :=
 gd ((A9 a (-1000000000) 1000000000).isSome/\True) <|
 some (vl (A9 a (-1000000000) 1000000000))
def R0p:Ct:=j9 100 [.dat i64] (fun x=>Fx x.1) (fun r:Bool=>B r) (fun _=>())
theorem P0a:Ok prog R0p:=by
 refine k6 [.tmp 2] func100 ?_;intro y ⟨_,_⟩ r H Q hn hr;have:=hz (tc Ae tn);refine iA [0]<|iB [2] H fun H=>j0<|hr H
def K5(a:s9):Option Bool :=
 gd ((Fx a.1).isSome/\(vl (Fx a.1)=true/\True->(Fx a.2).isSome)/\True) <|
 some (vl (Fx a.1)&&vl (Fx a.2)&&decide (a.1<=a.2))
def k43:Ct:=j9 43 [.agg y51] (fun x=>K5 x.1) (fun r:Bool=>B r) (fun _=>())
theorem LC:Ok prog k43:=by
 refine k6 [.tmp 2] func43 ?_;intro y ⟨_,_⟩ r H Q hn hr;have:=hz (tc P0a tn);refine iA [1]<|iB [2] H fun H=>j0<|hr H
def Bh(a:s9):Option Bool :=
 gd ((K5 a).isSome/\(vl (K5 a)=true/\True->(Fw a.1).isSome)/\((vl (K5 a)&&vl (Fw a.1))=true/\True->(Fw a.2).isSome)/\True) <|
 some (vl (K5 a)&&vl (Fw a.1)&&vl (Fw a.2))
def k56:Ct:=j9 56 [.agg y51] (fun x=>Bh x.1) (fun r:Bool=>B r) (fun _=>())
theorem o56:Ok prog k56:=by
 refine k6 [.tmp 2] func56 ?_;intro y ⟨_,_⟩ r H Q hn hr;have:=hz (tc O0U (tc LC tn));refine iA [1]<|iB [2] H fun H=>j0<|hr H
def GY(a:List s9):Option Int :=
 some (a.length:Int)
def k91:Ct:=j9 91 [.dat y51.sl] (fun x=>GY x.1) (fun r:Int=>I r) (fun _=>())
theorem o91:Ok prog k91:=by
 refine k6 [.tmp 2] func91 ?_;intro y ⟨_,_⟩ r H Q hn hr;refine iA [0]<|iA [2]<|j0<|hr H
def Jc(a:List Bool):Option Int :=
 some (a.length:Int)
def k90:Ct:=j9 90 [.dat Ty.bool.sl] (fun x=>Jc x.1) (fun r:Int=>I r) (fun _=>())
theorem o90:Ok prog k90:=by
 refine k6 [.tmp 2] func90 ?_;intro y ⟨_,_⟩ r H Q hn hr;refine iA [0]<|iA [2]<|j0<|hr H
def Jd(a:List B9):Option Int :=
 some (a.length:Int)
def Q0H:Ct:=j9 145 [.dat y151.sl] (fun x=>Jd x.1) (fun r:Int=>I r) (fun _=>())
theorem O0B:Ok prog Q0H:=by
 refine k6 [.tmp 2] func145 ?_;intro y ⟨_,_⟩ r H Q hn hr;refine iA [0]<|iA [2]<|j0<|hr H
def O7(a:C6):Option Int :=
 gd ((Jd a.2.1).isSome/\c9 (2*vl (Jd a.2.1))/\True)<|lt (vl (Jd a.2.1)) fun b =>
 some (2*b)
def k89:Ct:=j9 89 [.dat y157.pt] (fun x=>O7 x.1) (fun r:Int=>I r) (fun _=>())
theorem Pq:Ok prog k89:=by
 refine k6 [.tmp 2] func89 ?_;intro y ⟨_,_⟩ r H Q hn hr;have:=hz (tc O0B tn);refine iA [0]<|qD (fun a=>Z [p 2 (I (2*a))] []) H fun a H=>j0<|hr H
def G0x:Unit->Option Bool
 | _ =>
 some true
def G0w(b:B3)(c:Int->Option Bool):Int->Option Bool
 | a =>
 if(decide (a < (b.1.length:Int))) then
  gd (ix a b.1.length/\True) <|
  gd (ix a b.2.1.length/\(K5 (b.2.1.getD a.toNat (b7 y51))).isSome/\((!vl (K5 (b.2.1.getD a.toNat (b7 y51))))=false/\True->ix a b.2.2.length)/\((!vl (K5 (b.2.1.getD a.toNat (b7 y51))))=false/\True->(Bh (b.2.2.getD a.toNat (b7 y51))).isSome)/\((!b.1.getD a.toNat false)=true/\(!vl (K5 (b.2.1.getD a.toNat (b7 y51)))||!vl (Bh (b.2.2.getD a.toNat (b7 y51))))=false/\True->ix a b.2.1.length)/\((!((b.2.1.getD a.toNat (b7 y51)).1==0&&((b.2.1.getD a.toNat (b7 y51)).2==0&&true)))=false/\(!b.1.getD a.toNat false)=true/\(!vl (K5 (b.2.1.getD a.toNat (b7 y51)))||!vl (Bh (b.2.2.getD a.toNat (b7 y51))))=false/\True->ix a b.2.2.length)/\True)<|lt (!vl (K5 (b.2.1.getD a.toNat (b7 y51)))||!vl (Bh (b.2.2.getD a.toNat (b7 y51)))||!b.1.getD a.toNat false&&(!((b.2.1.getD a.toNat (b7 y51)).1==0&&((b.2.1.getD a.toNat (b7 y51)).2==0&&true))||!((b.2.2.getD a.toNat (b7 y51)).1==0&&((b.2.2.getD a.toNat (b7 y51)).2==0&&true)))) fun d =>
  if d then
   some false
  else
   gd (c9 (a+1)/\True) <|
   c (a+1)
 else
  G0x ()
def GZ(c:C6)(a:B3):Option Bool :=
 gd ((O7 c).isSome/\True)<|lt (vl (O7 c)) fun b =>
 gd ((Jc a.1).isSome/\((vl (Jc a.1) != b)=false/\True->(GY a.2.1).isSome)/\((vl (Jc a.1) != b||vl (GY a.2.1) != b)=false/\True->(GY a.2.2).isSome)/\True)<|lt ((vl (Jc a.1),vl (GY a.2.1),vl (GY a.2.2))) fun(d,f,e) =>
 if(d != b||f != b||e != b) then
  some false
 else
  lp (G0w a) 0
def k38:Ct:=j9 38 [.dat y157.pt,.agg y44] (fun x=>GZ x.1 x.2.1) (fun r:Bool=>B r) (fun _=>())
theorem Uc:Ok prog k38:=by
 refine k6 [.tmp 4] func38 ?_;intro y ⟨_,a,_⟩ r H Q hn hr;have:=hz (tc o56 (tc LC (tc o91 (tc o90 (tc Pq tn)))));refine iA [0,3]<|qD (fun b=>Z [p 3 (R 3),p 5 (I b)] [(3,K 44 y44 a)]) H fun b H=>vQ<|qD (fun(d,f,e)=>Z [p 3 (R 3),p 28 (B (d != b||f != b||e != b))] [(3,K 44 y44 a)]) H fun⟨d,f,e⟩ H =>
  cD H (fun H=>iA [4]<|j0<|fR<|hr H) fun H=>vK<|fQ<|jN r (fun(_:Unit)=>Z [] []) (G0x) (fun _ H=>?_) (fun _ h n k=>?_)
 ·refine iA [4]<|j0<|hr H
 refine iA [3,30,31,32]<|vB<|lX (fun(c:Int)=>Z [p 3 (R 3),p 30 (L Ty.bool a.1),p 31 (I (a.1.length:Int)),p 32 (I c)] [(3,K 44 y44 a)]) 0 H fun _ m j i l c H=>iA [3,30,31,32,33]<|vQ<|cD H (fun H=>?_) (fun H=>?_)
 ·refine vK<|fQ<|vQ<|vB<|iB [3,6,7,30,31,32] H fun H=>qD (fun g=>Z [p 3 (R 3),p 30 (L Ty.bool a.1),p 31 (I (a.1.length:Int)),p 32 (I c),p 74 (B g)] [(3,K 44 y44 a)]) H fun g H=>cD H (fun H=>iA [4]<|j0<|l9<|fR<|l<|l9<|k<|hr H) fun H=>vK<|fK<|fQ<|jB [3,30,31,32] H fun H=>j H
 exact vE<|fE<|i<|fX rfl<|h H
def Ha(b:r8)(c:List m5)(a:B9):Option Int :=
 if(decide (a.1<0)) then
  some 0
 else
  gd (ix a.1 b.1.length/\ix (b.1.getD a.1.toNat (b7 y139)).2.1 c.length/\ix a.2.1 (c.getD (b.1.getD a.1.toNat (b7 y139)).2.1.toNat (b7 y64)).2.2.1.length/\True)<|lt ((c.getD (b.1.getD a.1.toNat (b7 y139)).2.1.toNat (b7 y64)).2.2.1.getD a.2.1.toNat (b7 y233)) fun d =>
  some d.2.2.1
def Q0J:Ct:=j9 143 [.agg y31,.agg y64.sl,.agg y151] (fun x=>Ha x.1 x.2.1 x.2.2.1) (fun r:Int=>I r) (fun _=>())
theorem O0D:Ok prog Q0J:=by
 refine k6 [.tmp 6] func143 ?_;intro y ⟨b,d,c,_⟩ r H Q hn hr;refine iA [3,4,5]<|vQ<|iA [3,4,5,9]<|cD H (fun H=>iA [6]<|j0<|fR<|hr H) fun H=>vK<|fQ<|qD (fun a=>Z [p 6 (J a.2.2.1)] [(5,K 151 y151 c),(4,bx 26 [L y64 d]),(3,K 31 y31 b)]) H fun a H=>j0<|hr H
def F0L:List B9->Option (List B9)
 | a =>
 some a
def F0I(d:r8)(e:Int×List B9->Option (List B9)):Int×List B9->Option (List B9)
 | (a,c) =>
 if(decide (a < (d.2.2.length:Int))) then
  gd (ix a d.2.2.length/\True)<|lt (d.2.2.getD a.toNat (b7 y202)) fun b =>
  gd ((c.length+[(-1,a,b.2.2,b.2.1==1)].length<=9223372036854775807/\(c.length+[(-1,a,b.2.2,b.2.1==1)].length)*32<=140737488355328)/\True) <|
  gd (c9 (a+1)/\True) <|
  e ((a+1,c++[(-1,a,b.2.2,b.2.1==1)]))
 else
  F0L c
def LD(b:r8):List B9->Option (List B9)
 | a =>
 lp (F0I b) (0,a)
def Ud(b:Int)(c:List B9×Int->Option (List B9)):List B9->Option (List B9)
 | a =>
 gd (c9 (b+1)/\True) <|
 c (a,b+1)
def F0J(d:Int)(b:o4)(f:List B9×Int->Option (List B9))(g:Int×List B9->Option (List B9)):Int×List B9->Option (List B9)
 | (a,c) =>
 if(decide (a < (b.2.2.length:Int))) then
  gd (ix a b.2.2.length/\True) <|
  gd (c9 ((b.2.2.length:Int)-1)/\(c.length+[(d,a,b.2.2.getD a.toNat 0,a==(b.2.2.length:Int)-1)].length<=9223372036854775807/\(c.length+[(d,a,b.2.2.getD a.toNat 0,a==(b.2.2.length:Int)-1)].length)*32<=140737488355328)/\True)<|lt ((c++[(d,a,b.2.2.getD a.toNat 0,a==(b.2.2.length:Int)-1)],[(d,a,b.2.2.getD a.toNat 0,a==(b.2.2.length:Int)-1)])) fun(e,_) =>
  gd (c9 (a+1)/\True) <|
  g (a+1,e)
 else
  Ud d f c
def F0K(a:r8)(d:List B9×Int->Option (List B9)):List B9×Int->Option (List B9)
 | (c,b) =>
 if(decide (b < (a.1.length:Int))) then
  gd (ix b a.1.length/\True)<|lt (a.1.getD b.toNat (b7 y139)) fun e =>
  lp (F0J b e d) (0,c)
 else
  LD a c
def BO(a:r8):Option (List B9) :=
 lp (F0K a) ([],0)
def k83:Ct:=j9 83 [.agg y31] (fun x=>BO x.1) (fun r:List B9=>AV.ow 151 true y151 r) (fun _=>())
theorem Pr:Ok prog k83:=by
 refine k6 [.tmp 2] func83 ?_;intro y ⟨a,_⟩ r H Q hn hr;refine iA [1]<|iA [1,3]<|jN r (fun(g:List B9)=>Z [p 1 (R 1),p 3 (O 38)] [(1,K 31 y31 a),(38,A 151 y151 g 0)]) (LD a) (fun g H=>?_) (fun _ w P V=>?_)
 ·refine jN r (fun(h:List B9)=>Z [p 3 (O 38)] [(38,A 151 y151 h 0)]) (F0L) (fun h H=>?_) (fun _ v T G=>?_)
  ·refine iA [2]<|j0<|hr H
  refine iA [3,42,43,44]<|vB<|lX (fun((c,e):Int×List B9)=>Z [p 3 (O 38),p 42 (L y202 a.2.2),p 43 (I (a.2.2.length:Int)),p 44 (I c)] [(38,A 151 y151 e 0)]) (0,g) H fun _ X s o W ⟨c,e⟩ H=>iA [3,42,43,44,45]<|vQ<|cD H (fun H=>vK<|fQ<|vQ<|vB<|qD (fun k=>Z [p 3 (O 38),p 8 (I c),p 9 (R 9),p 42 (L y202 a.2.2),p 43 (I (a.2.2.length:Int)),p 44 (I c)] [(9,K 202 y202 k),(38,A 151 y151 e 0)]) H fun k H=>jB [3,42,43,44] H fun H=>fK<|fQ<|jB [3,42,43,44] H fun H=>s H) fun H=>vE<|fE<|o<|fX rfl<|v H
 refine iA [1,3,11,12,13]<|vB<|lX (fun((n,b):List B9×Int)=>Z [p 1 (R 1),p 3 (O 38),p 11 (L y139 a.1),p 12 (I (a.1.length:Int)),p 13 (I b)] [(1,K 31 y31 a),(38,A 151 y151 n 0)]) ([],0) H fun _ q E z t1 ⟨n,b⟩ H=>iA [1,3,11,12,13,14]<|vQ<|cD H (fun H=>?_) (fun H=>?_)
 ·refine vK<|fQ<|jN r (fun(i:List B9)=>Z [p 1 (R 1),p 3 (O 38),p 11 (L y139 a.1),p 12 (I (a.1.length:Int)),p 13 (I b)] [(1,K 31 y31 a),(38,A 151 y151 i 0)]) (Ud b q) (fun i H=>?_) (fun _ x e2 Y=>?_)
  ·refine jB [1,3,11,12,13] H fun H=>E H
  refine vB<|qD (fun d=>Z [p 1 (R 1),p 3 (O 38),p 4 (I b),p 5 (R 5),p 11 (L y139 a.1),p 12 (I (a.1.length:Int)),p 13 (I b)] [(5,K 139 y139 d),(1,K 31 y31 a),(38,A 151 y151 n 0)]) H fun d H=>iA [1,3,4,5,11,12,13,19,20,21]<|vB<|lX (fun((f,l):Int×List B9)=>Z [p 1 (R 1),p 3 (O 38),p 4 (I b),p 5 (R 5),p 11 (L y139 a.1),p 12 (I (a.1.length:Int)),p 13 (I b),p 19 (L i64 d.2.2),p 20 (I (d.2.2.length:Int)),p 21 (I f)] [(5,K 139 y139 d),(1,K 31 y31 a),(38,A 151 y151 l 0)]) (0,n) H fun _ F u t t3 ⟨f,l⟩ H=>iA [1,3,4,5,11,12,13,19,20,21,22]<|vQ<|cD H (fun H=>?_) (fun H=>?_)
  ·refine vK<|fQ<|vQ<|vB<|iB [1,3,4,5,6,7,11,12,13,19,20,21] H fun H=>zD (fun(j,m)=>Z [p 1 (R 1),p 3 (AV.os 38 1),p 4 (I b),p 5 (R 5),p 11 (L y139 a.1),p 12 (I (a.1.length:Int)),p 13 (I b),p 19 (L i64 d.2.2),p 20 (I (d.2.2.length:Int)),p 21 (I f)] [(38,A 151 y151 j 1),(37,A 151 y151 m 0),(5,K 139 y139 d),(1,K 31 y31 a)]) H fun⟨j,m⟩ H =>
    fK<|fQ <|
    jB [1,3,4,5,11,12,13,19,20,21] H fun H =>
    u H
  exact vE<|fE<|t<|fX rfl<|fK<|x H
 exact vE<|fE<|z<|fX rfl<|w H
def B0a:List Int->Option (List Int)
 | a =>
 some a
def Ps(a:Int)(b:List Int×Int->Option (List Int)):List Int->Option (List Int)
 | c =>
 gd (c9 (a+1)/\True) <|
 b (c,a+1)
def A0Z(f:Int)(c:List B9)(d:List Int×Int->Option (List Int)):List Int×Int->Option (List Int)
 | (b,a) =>
 if(decide (a < (c.length:Int))) then
  gd (ix a c.length/\a.toNat<c.length/\True)<|lt (c.getD a.toNat (b7 y151)) fun e =>
  if(e.2.2.1==f&&!e.2.2.2) then
   gd ((b.length+[a].length<=9223372036854775807/\(b.length+[a].length)*8<=140737488355328)/\True) <|
   Ps a d (b++[a])
  else
   Ps a d b
 else
  B0a b
def LF(a:r8)(c:Int):Option (List Int) :=
 gd ((BO a).isSome/\True)<|lt (vl (BO a)) fun b =>
 lp (A0Z c b) ([],0)
def Q0K:Ct:=j9 142 [.agg y31,.dat i64] (fun x=>LF x.1 x.2.1) (fun r:List Int=>AV.ow 2 true i64 r) (fun _=>())
theorem O0E:Ok prog Q0K:=by
 refine k6 [.tmp 4] func142 ?_;intro y ⟨j,c,_⟩ r H Q hn hr;have:=hz (tc Pr tn);refine iA [1,2]<|iA [1,2,5]<|jN r (fun(h:List Int)=>Z [p 5 (O 28)] [(28,A 2 i64 h 0)]) (B0a) (fun h H=>?_) (fun _ k o s=>?_)
 ·refine iA [4]<|j0<|hr H
 refine qD (fun a=>Z [p 1 (J c),p 5 (nil),p 9 (O 9),p 10 (I (a.length:Int)),p 11 (I 0)] [(9,A 151 y151 a 0),(2,K 31 y31 j)]) H fun a H=>vB<|lX (fun((d,b):List Int×Int)=>Z [p 1 (J c),p 5 (O 28),p 9 (O 9),p 10 (I (a.length:Int)),p 11 (I b)] [(9,A 151 y151 a 0),(28,A 2 i64 d 0)]) ([],0) H fun _ i m l t ⟨d,b⟩ H=>iA [1,5,9,10,11,12]<|vQ<|cD H (fun H=>?_) (fun H=>?_)
 ·refine vK<|fQ<|jN r (fun(f:List Int)=>Z [p 1 (J c),p 5 (O 28),p 9 (O 9),p 10 (I (a.length:Int)),p 11 (I b)] [(28,A 2 i64 f 0),(9,A 151 y151 a 0)]) (Ps b i) (fun f H=>?_) (fun _ g n q=>?_)
  ·refine jB [1,5,9,10,11] H fun H=>m H
  refine vB<|qD (fun e=>Z [p 1 (J c),p 5 (O 28),p 6 (I b),p 7 (R 7),p 9 (O 9),p 10 (I (a.length:Int)),p 11 (I b)] [(7,bx 151 (o8 true y151 e)),(9,A 151 y151 a 0),(28,A 2 i64 d 0)]) H fun e H=>iA [1,5,6,9,10,11,24]<|cD H (fun H=>jB [1,5,9,10,11] H fun H=>fK<|g H) fun H=>vK<|fK<|g H
 exact vE<|fE<|l<|fX rfl<|k H
def Ue:List Int->Option (List Int)
 | a =>
 some a
def Je(c:x9)(e:Int×List Int->Option (List Int)):Int×List Int->Option (List Int)
 | (a,b) =>
 if(decide (0<a)) then
  gd (ix a c.1.length/\ix (c.1.getD a.toNat 0) b.length/\Int.toNat (c.1.getD a.toNat 0)<b.length/\ix a b.length/\a.toNat<b.length/\c9 (b.getD (Int.toNat (c.1.getD a.toNat 0)) 0+b.getD a.toNat 0)/\ix (c.1.getD a.toNat 0) b.length/\Int.toNat (c.1.getD a.toNat 0)<b.length/\True)<|lt (b.set (Int.toNat (c.1.getD a.toNat 0)) (b.getD (Int.toNat (c.1.getD a.toNat 0)) 0+b.getD a.toNat 0)) fun d =>
  gd (c9 (a-1)/\True) <|
  e (a-1,d)
 else
  Ue b
def Pt(b:x9):List Int->Option (List Int)
 | a =>
 gd (c9 ((a.length:Int)-1)/\True) <|
 lp (Je b) (((a.length:Int)-1,a))
def F0G(d:j7)(f:List B9)(b:List Int)(c:x9)(g:Int×List Int->Option (List Int)):Int×List Int->Option (List Int)
 | (a,e) =>
 if(decide (a < (b.length:Int))) then
  gd (ix a b.length/\a.toNat<b.length/\True) <|
  gd (ix a c.2.2.2.length/\ix (c.2.2.2.getD a.toNat 0) e.length/\Int.toNat (c.2.2.2.getD a.toNat 0)<e.length/\ix (b.getD a.toNat 0) f.length/\Int.toNat (b.getD a.toNat 0)<f.length/\(Ha d.2.1 d.1 (f.getD (Int.toNat (b.getD a.toNat 0)) (b7 y151))).isSome/\c9 (e.getD (Int.toNat (c.2.2.2.getD a.toNat 0)) 0+vl (Ha d.2.1 d.1 (f.getD (Int.toNat (b.getD a.toNat 0)) (b7 y151))))/\ix (c.2.2.2.getD a.toNat 0) e.length/\Int.toNat (c.2.2.2.getD a.toNat 0)<e.length/\True)<|lt ((vl (Ha d.2.1 d.1 (f.getD (Int.toNat (b.getD a.toNat 0)) (b7 y151))),e.set (Int.toNat (c.2.2.2.getD a.toNat 0)) (e.getD (Int.toNat (c.2.2.2.getD a.toNat 0)) 0+vl (Ha d.2.1 d.1 (f.getD (Int.toNat (b.getD a.toNat 0)) (b7 y151)))))) fun(_,h) =>
  gd (c9 (a+1)/\True) <|
  g (a+1,h)
 else
  Pt c e
def BP(a:j7)(b:Int):Option (List Int) :=
 gd (ix b a.2.2.length/\True)<|lt (a.2.2.getD b.toNat (b7 l7)) fun c =>
 gd ((Pu c.2.2.1).isSome/\True)<|lt (vl (Pu c.2.2.1)) fun d =>
 gd ((BO a.2.1).isSome/\True)<|lt (vl (BO a.2.1)) fun f =>
 gd ((LF a.2.1 b).isSome/\True)<|lt (vl (LF a.2.1 b)) fun e =>
 lp (F0G a f e c) (0,d)
def k87:Ct:=j9 87 [.agg k8,.dat i64] (fun x=>BP x.1 x.2.1) (fun r:List Int=>AV.ow 2 true i64 r) (fun _=>())
theorem o87:Ok prog k87:=by
 refine k6 [.tmp 4] func87 ?_;intro y ⟨e,l,_⟩ r H Q hn hr;have:=hz (tc O0D (tc O0E (tc Pr (tc O0F tn))));refine iA [1,2]<|qD (fun a=>Z (GM l []) (Ac a e)) H fun a H=>qD (fun i=>Z (GM l [p 6 (O 18)]) ((18,A 2 i64 i 0)::Ac a e)) H fun i H=>qD (fun f=>Z (GM l [p 6 (O 18),p 7 (O 21)]) ((21,A 151 y151 f 0)::(18,A 2 i64 i 0)::Ac a e)) H fun f H=>jN r (fun(b:List Int)=>Z [p 5 (R 5),p 6 (O 18)] [(18,A 2 i64 b 0),(5,K 153 l7 a)]) (Pt a) (fun b H=>?_) (fun _ s z E=>?_)
 ·refine jN r (fun(j:List Int)=>Z [p 6 (O 18)] [(18,A 2 i64 j 0)]) (Ue) (fun j H=>?_) (fun _ t T F=>?_)
  ·refine iA [4]<|j0<|hr H
  refine iB [5,6,10] H fun H=>vB<|lX (fun((d,h):Int×List Int)=>Z [p 5 (R 5),p 6 (O 18),p 10 (I d)] [(18,A 2 i64 h 0),(5,K 153 l7 a)]) (((b.length:Int)-1,b)) H fun _ x q o V ⟨d,h⟩ H=>vQ<|iA [5,6,10,56]<|cD H (fun H=>vK<|fQ<|vQ<|vB<|zD (fun g=>Z [p 5 (R 5),p 6 (O 18),p 10 (I d)] [(18,A 2 i64 g 0),(5,K 153 l7 a)]) H fun g H=>fK<|fQ<|jB [5,6,10] H fun H=>q H) fun H=>vE<|fE<|o<|fX rfl<|t H
 refine qD (fun c=>Z (IN [p 25 (O 25),p 26 (I (c.length:Int)),p 27 (I 0)]) ((25,A 2 i64 c 0)::(21,A 151 y151 f 0)::(18,A 2 i64 i 0)::Ac a e)) H fun c H=>vB<|lX (fun((k,m):Int×List Int)=>Z (IN [p 25 (O 25),p 26 (I (c.length:Int)),p 27 (I k)]) ((25,A 2 i64 c 0)::(21,A 151 y151 f 0)::(18,A 2 i64 m 0)::Ac a e)) (0,i) H fun _ P w u G ⟨k,m⟩ H=>iA [2,5,6,7,25,26,27,28]<|vQ<|cD H (fun H=>?_) (fun H=>?_)
 ·refine vK<|fQ<|vQ<|vB<|iB [2,5,6,7,8,9,25,26,27] H fun H=>zD (fun(v,n)=>Z (IN [p 25 (O 25),p 26 (I (c.length:Int)),p 27 (I k)]) ((18,A 2 i64 n 0)::(25,A 2 i64 c 0)::(21,A 151 y151 f 0)::Ac a e)) H fun⟨v,n⟩ H =>
   fK<|fQ <|
   jB [2,5,6,7,25,26,27] H fun H =>
   w H
 exact vE<|fE<|u<|fX rfl<|s H
def A0Y:List Int->Option (List Int)
 | a =>
 some a
def LG(b:x9)(d:List Int)(e:Int×List Int->Option (List Int)):Int×List Int->Option (List Int)
 | (a,c) =>
 if(decide (a < (c.length:Int))) then
  gd (ix a b.1.length/\ix (b.1.getD a.toNat 0) c.length/\Int.toNat (b.1.getD a.toNat 0)<c.length/\ix a b.2.1.length/\ix a d.length/\a.toNat<d.length/\c9 (b.2.1.getD a.toNat 0*d.getD a.toNat 0)/\c9 (c.getD (Int.toNat (b.1.getD a.toNat 0)) 0+b.2.1.getD a.toNat 0*d.getD a.toNat 0)/\ix a c.length/\a.toNat<c.length/\True)<|lt (c.set a.toNat (c.getD (Int.toNat (b.1.getD a.toNat 0)) 0+b.2.1.getD a.toNat 0*d.getD a.toNat 0)) fun f =>
  gd (c9 (a+1)/\True) <|
  e (a+1,f)
 else
  A0Y c
def LH(b:j7)(c:Int):Option (List Int) :=
 gd (ix c b.2.2.length/\(BP b c).isSome/\True)<|lt ((vl (BP b c),b.2.2.getD c.toNat (b7 l7))) fun(a,d) =>
 gd ((0<=(a.length:Int)/\(a.length:Int)=(a.length:Int)/\(a.length:Int).toNat*8<=281474976710656/\(a.length:Int)<=9223372036854775807)/\True) <|
 lp (LG d a) ((1,List.replicate (a.length:Int).toNat 0))
def Q0I:Ct:=j9 144 [.agg k8,.dat i64] (fun x=>LH x.1 x.2.1) (fun r:List Int=>AV.ow 2 true i64 r) (fun _=>())
theorem O0C:Ok prog Q0I:=by
 refine k6 [.tmp 4] func144 ?_;intro y ⟨g,_,_⟩ r H Q hn hr;have:=hz (tc o87 tn);refine iA [1,2]<|qD (fun(a,b)=>Z [p 5 (R 5),p 6 (O 16)] [(5,K 153 l7 b),(16,A 2 i64 a 0),(2,K 34 k8 g)]) H fun w H=>?_
 obtain⟨a,b⟩:=w;refine iB [5,6,7] H fun H=>jN r (fun(e:List Int)=>Z [p 7 (O 19)] [(19,A 2 i64 e 0)]) (A0Y) (fun e H=>?_) (fun _ h l m=>?_)
 ·refine iA [4]<|j0<|hr H
 refine iA [5,6,7,8]<|vB<|lX (fun((c,f):Int×List Int)=>Z [p 5 (R 5),p 6 (O 16),p 7 (O 19),p 8 (I c)] [(19,A 2 i64 f 0),(5,K 153 l7 b),(16,A 2 i64 a 0)]) ((1,List.replicate (a.length:Int).toNat 0)) H fun _ k j i n ⟨c,f⟩ H=>vQ<|iA [5,6,7,8,23]<|cD H (fun H=>vK<|fQ<|vQ<|vB<|zD (fun d=>Z [p 5 (R 5),p 6 (O 16),p 7 (O 19),p 8 (I c)] [(19,A 2 i64 d 0),(5,K 153 l7 b),(16,A 2 i64 a 0)]) H fun d H=>fK<|fQ<|jB [5,6,7,8] H fun H=>j H) fun H=>vE<|fE<|i<|fX rfl<|h H
def F0F:List Int->Option (List Int)
 | a =>
 some a
def F0E(c:List Int)(b:x9)(e:List Int×Int->Option (List Int)):List Int×Int->Option (List Int)
 | (d,a) =>
 if(decide (a < (b.2.2.2.length:Int))) then
  gd (ix a b.2.2.2.length/\True) <|
  gd (ix (b.2.2.2.getD a.toNat 0) c.length/\Int.toNat (b.2.2.2.getD a.toNat 0)<c.length/\(d.length+[c.getD (Int.toNat (b.2.2.2.getD a.toNat 0)) 0].length<=9223372036854775807/\(d.length+[c.getD (Int.toNat (b.2.2.2.getD a.toNat 0)) 0].length)*8<=140737488355328)/\True)<|lt (d++[c.getD (Int.toNat (b.2.2.2.getD a.toNat 0)) 0]) fun f =>
  gd (c9 (a+1)/\True) <|
  e (f,a+1)
 else
  F0F d
def Fy(a:j7)(b:Int):Option (List Int) :=
 gd ((LH a b).isSome/\True)<|lt (vl (LH a b)) fun d =>
 gd (ix b a.2.2.length/\True)<|lt (a.2.2.getD b.toNat (b7 l7)) fun c =>
 lp (F0E d c) ([],0)
def k88:Ct:=j9 88 [.agg k8,.dat i64] (fun x=>Fy x.1 x.2.1) (fun r:List Int=>AV.ow 2 true i64 r) (fun _=>())
theorem o88:Ok prog k88:=by
 refine k6 [.tmp 4] func88 ?_;intro y ⟨d,i,_⟩ r H Q hn hr;have:=hz (tc O0C tn);refine iA [1,2]<|qD (fun b=>Z [p 1 (J i),p 2 (R 2),p 5 (O 11)] [(11,A 2 i64 b 0),(2,K 34 k8 d)]) H fun b H=>iA [1,2,5,6]<|jN r (fun(g:List Int)=>Z [p 6 (O 29)] [(29,A 2 i64 g 0)]) (F0F) (fun g H=>?_) (fun _ h m n=>?_)
 ·refine iA [4]<|j0<|hr H
 refine qD (fun a=>Z [p 5 (O 11),p 6 (nil),p 17 (L i64 a.2.2.2),p 18 (I (a.2.2.2.length:Int)),p 19 (I 0)] [(11,A 2 i64 b 0),(2,K 34 k8 d)]) H fun a H=>vB<|lX (fun((e,c):List Int×Int)=>Z [p 5 (O 11),p 6 (O 29),p 17 (L i64 a.2.2.2),p 18 (I (a.2.2.2.length:Int)),p 19 (I c)] [(11,A 2 i64 b 0),(29,A 2 i64 e 0)]) ([],0) H fun _ l k j o ⟨e,c⟩ H=>iA [5,6,17,18,19,20]<|vQ<|cD H (fun H=>vK<|fQ<|vQ<|vB<|iB [5,6,8,17,18,19] H fun H=>zD (fun f=>Z [p 5 (O 11),p 6 (AV.os 29 1),p 17 (L i64 a.2.2.2),p 18 (I (a.2.2.2.length:Int)),p 19 (I c)] [(29,A 2 i64 f 1),(28,A 2 i64 [b.getD (Int.toNat (a.2.2.2.getD c.toNat 0)) 0] 0),(11,A 2 i64 b 0)]) H fun f H=>fK<|fQ<|jB [5,6,17,18,19] H fun H=>k H) fun H=>vE<|fE<|j<|fX rfl<|h H
def P0e:Ct:=j9 88 [.agg k8,.dat i64] (fun x=>Fy x.1 x.2.1) (fun r=>frz ((fun r:List Int=>AV.ow 2 true i64 r) r)) (fun _=>())
theorem N0u:Ok prog P0e:=Uf o88
def D5(a:List Int):Option Int :=
 some (a.length:Int)
def k86:Ct:=j9 86 [.dat i64.sl] (fun x=>D5 x.1) (fun r:Int=>I r) (fun _=>())
theorem Ug:Ok prog k86:=by
 refine k6 [.tmp 2] func86 ?_;intro y ⟨_,_⟩ r H Q hn hr;refine iA [0]<|iA [2]<|j0<|hr H
def LJ(a:A8):Option (List (Int×Int)) :=
 if(a.1==2) then
  some ([((0:Int),(0:Int)),((0:Int),(1:Int))])
 else
  if(a.1==3) then
   some ([((1:Int),(0:Int)),((1:Int),(1:Int))])
  else
   if(a.1 != 1) then
    some []
   else
    if(a.2.2.2.1==1) then
     some ([((0:Int),(0:Int)),((1:Int),(1:Int))])
    else
     if(a.2.2.2.1==2) then
      some ([((0:Int),(1:Int)),((1:Int),(0:Int))])
     else
      lt ([((0:Int),(0:Int)),((0:Int),(1:Int)),((1:Int),(0:Int)),((1:Int),(1:Int))]) fun b =>
      some b
def Q0M:Ct:=j9 140 [.agg y67] (fun x=>LJ x.1) (fun r:List (Int×Int)=>AV.ow 207 true (i64.pr i64) r) (fun _=>())
theorem O0G:Ok prog Q0M:=by
 refine k6 [.tmp 2] func140 ?_;intro y ⟨b,_⟩ r H Q hn hr;refine iA [1]<|iA [1,3]<|iA [1,3,4]<|vQ<|vB<|iA [1,3,4,11]<|cD H (fun H=>iA [2]<|j0<|l9<|fR<|hr H) fun H=>iA [1,3,4,18]<|cD H (fun H=>iA [2]<|j0<|l9<|fR<|hr H) fun H=>iA [1,3,4,25]<|cD H (fun H=>iA [2]<|j0<|l9<|fR<|hr H) fun H=>iA [1,3,4,29]<|cD H (fun H=>iA [2]<|j0<|l9<|fR<|hr H) fun H=>iA [4,34]<|cD H (fun H=>iA [2]<|j0<|l9<|fR<|hr H) fun H=>vK<|fK<|fQ<|qC (fun a=>Z [p 2 (O 43)] [(43,A 207 (i64.pr i64) a 0),(10,A 207 (i64.pr i64) [((0:Int),(1:Int)),((1:Int),(0:Int))] 0),(7,A 207 (i64.pr i64) [((0:Int),(0:Int)),((1:Int),(1:Int))] 0),(1,K 67 y67 b)]) H fun a H=>j0<|hr H
def F0H:List l8->Option (List l8)
 | a =>
 some a
def Uh(a:Int)(c:List l8×Int->Option (List l8)):List l8->Option (List l8)
 | b =>
 gd (c9 (a+1)/\True) <|
 c (b,a+1)
def Ui(c:Int)(a:A8)(e:Int)(g:List (Int×Int))(i:List l8×Int->Option (List l8))(j:Int×List l8->Option (List l8)):Int×List l8->Option (List l8)
 | (d,f) =>
 if(decide (d < (g.length:Int))) then
  gd (ix d g.length/\d.toNat<g.length/\True)<|lt (g.getD d.toNat (b7 (i64.pr i64))) fun b =>
  gd (c9 (c+a.2.1)/\c9 ((2:Int)*(c+a.2.1))/\ix (0:Int) 2/\c9 ((2:Int)*(c+a.2.1)+b.1)/\c9 (c+a.2.2.1)/\c9 ((2:Int)*(c+a.2.2.1))/\ix (1:Int) 2/\c9 ((2:Int)*(c+a.2.2.1)+b.2)/\(f.length+[((2:Int)*(c+a.2.1)+b.1,(2:Int)*(c+a.2.2.1)+b.2,(1:Int),e)].length<=9223372036854775807/\(f.length+[((2:Int)*(c+a.2.1)+b.1,(2:Int)*(c+a.2.2.1)+b.2,(1:Int),e)].length)*32<=140737488355328)/\True)<|lt ((f++[((2:Int)*(c+a.2.1)+b.1,(2:Int)*(c+a.2.2.1)+b.2,(1:Int),e)],[((2:Int)*(c+a.2.1)+b.1,(2:Int)*(c+a.2.2.1)+b.2,(1:Int),e)])) fun(h,_) =>
  gd (c9 (d+1)/\True) <|
  j (d+1,h)
 else
  Uh e i f
def Uj(g:Int)(d:m5)(f:List l8×Int->Option (List l8)):List l8×Int->Option (List l8)
 | (c,a) =>
 if(decide (a < (d.2.2.2.1.length:Int))) then
  gd (ix a d.2.2.2.1.length/\True)<|lt (d.2.2.2.1.getD a.toNat (b7 y67)) fun b =>
  gd ((LJ b).isSome/\True)<|lt (vl (LJ b)) fun e =>
  lp (Ui g b a e f) (0,c)
 else
  F0H c
def Fz(a:j7)(b:o4)(c:Int):Option (List l8) :=
 gd (ix b.2.1 a.1.length/\True)<|lt (a.1.getD b.2.1.toNat (b7 y64)) fun d =>
 lp (Uj c d) ([],0)
def k85:Ct:=j9 85 [.agg k8,.agg y139,.dat i64] (fun x=>Fz x.1 x.2.1 x.2.2.1) (fun r:List l8=>AV.ow 80 true y80 r) (fun _=>())
theorem o85:Ok prog k85:=by
 refine k6 [.tmp 6] func85 ?_;intro y ⟨n,v,g,_⟩ r H Q hn hr;have:=hz (tc O0G tn);refine iA [2,3,4]<|iA [2,3,4,7]<|jN r (fun(j:List l8)=>Z [p 7 (O 53)] [(53,A 80 y80 j 0)]) (F0H) (fun j H=>?_) (fun _ t E F=>?_)
 ·refine iA [6]<|j0<|hr H
 refine qD (fun c=>Z [p 2 (J g),p 7 (nil),p 19 (L y67 c.2.2.2.1),p 20 (I (c.2.2.2.1.length:Int)),p 21 (I 0)] [(4,K 139 y139 v),(3,K 34 k8 n)]) H fun c H=>vB<|lX (fun((e,a):List l8×Int)=>Z [p 2 (J g),p 7 (O 53),p 19 (L y67 c.2.2.2.1),p 20 (I (c.2.2.2.1.length:Int)),p 21 (I a)] [(53,A 80 y80 e 0)]) ([],0) H fun _ o x w P ⟨e,a⟩ H=>iA [2,7,19,20,21,22]<|vQ<|cD H (fun H=>?_) (fun H=>?_)
 ·refine vK<|fQ<|jN r (fun(m:List l8)=>Z [p 2 (J g),p 7 (O 53),p 19 (L y67 c.2.2.2.1),p 20 (I (c.2.2.2.1.length:Int)),p 21 (I a)] [(53,A 80 y80 m 0)]) (Uh a o) (fun m H=>?_) (fun _ u T G=>?_)
  ·refine jB [2,7,19,20,21] H fun H=>x H
  refine vB<|qD (fun d=>Z [p 2 (J g),p 7 (O 53),p 8 (I a),p 9 (R 9),p 19 (L y67 c.2.2.2.1),p 20 (I (c.2.2.2.1.length:Int)),p 21 (I a)] [(9,K 67 y67 d),(53,A 80 y80 e 0)]) H fun d H=>qD (fun b=>Z [p 2 (J g),p 7 (O 53),p 8 (I a),p 9 (R 9),p 19 (L y67 c.2.2.2.1),p 20 (I (c.2.2.2.1.length:Int)),p 21 (I a),p 27 (O 27),p 28 (I (b.length:Int)),p 29 (I 0)] [(27,A 207 (i64.pr i64) b 0),(9,K 67 y67 d),(53,A 80 y80 e 0)]) H fun b H=>vB<|lX (fun((f,i):Int×List l8)=>Z [p 2 (J g),p 7 (O 53),p 8 (I a),p 9 (R 9),p 19 (L y67 c.2.2.2.1),p 20 (I (c.2.2.2.1.length:Int)),p 21 (I a),p 27 (O 27),p 28 (I (b.length:Int)),p 29 (I f)] [(27,A 207 (i64.pr i64) b 0),(9,K 67 y67 d),(53,A 80 y80 i 0)]) (0,e) H fun _ z s q V ⟨f,i⟩ H=>iA [2,7,8,9,19,20,21,27,28,29,30]<|vQ<|cD H (fun H=>?_) (fun H=>?_)
  ·refine vK<|fQ<|vQ<|vB<|qD (fun h=>Z [p 2 (J g),p 7 (O 53),p 8 (I a),p 9 (R 9),p 11 (R 11),p 19 (L y67 c.2.2.2.1),p 20 (I (c.2.2.2.1.length:Int)),p 21 (I a),p 27 (O 27),p 28 (I (b.length:Int)),p 29 (I f)] [(11,bx 207 (o8 true (i64.pr i64) h)),(27,A 207 (i64.pr i64) b 0),(9,K 67 y67 d),(53,A 80 y80 i 0)]) H fun h H=>zD (fun(k,l)=>Z [p 2 (J g),p 7 (AV.os 53 1),p 8 (I a),p 9 (R 9),p 19 (L y67 c.2.2.2.1),p 20 (I (c.2.2.2.1.length:Int)),p 21 (I a),p 27 (O 27),p 28 (I (b.length:Int)),p 29 (I f)] [(53,A 80 y80 k 1),(52,A 80 y80 l 0),(11,bx 207 (o8 true (i64.pr i64) h)),(27,A 207 (i64.pr i64) b 0),(9,K 67 y67 d)]) H fun⟨k,l⟩ H =>
    fK<|fQ <|
    jB [2,7,8,9,19,20,21,27,28,29] H fun H =>
    s H
  exact vE<|fE<|q<|fX rfl<|fK<|u H
 exact vE<|fE<|w<|fX rfl<|t H
def G0z(d:j7)(e:List B9):List l8×List Int×List (List Int)->Option C6
 | (b,a,c) =>
 some (d,e,b,a,c,[])
def Uk(a:Int)(e:Int×List Int×List (List Int)×List l8->Option C6):List (List Int)×List Int×List l8->Option C6
 | (d,c,b) =>
 gd (c9 (a+1)/\True) <|
 e (a+1,c,d,b)
def Um(a:Int)(c:Int×List l8->Option C6):List l8->Option C6
 | b =>
 gd (c9 (a+1)/\True) <|
 c (a+1,b)
def LK(d:List Int)(a:Int)(e:List (List Int))(c:Int)(i:Int×List l8->Option C6)(h:Int×List l8->Option C6):Int×List l8->Option C6
 | (b,f) =>
 if(decide (b<2)) then
  gd (ix a d.length/\a.toNat<d.length/\c9 ((2:Int)*d.getD a.toNat (0:Int))/\c9 ((2:Int)*d.getD a.toNat (0:Int)+b)/\c9 ((2:Int)*List.getD (e.getD a.toNat []) c.toNat (0:Int))/\c9 ((2:Int)*List.getD (e.getD a.toNat []) c.toNat (0:Int)+b)/\(f.length+[((2:Int)*d.getD a.toNat (0:Int)+b,(2:Int)*List.getD (e.getD a.toNat []) c.toNat (0:Int)+b,(2:Int),c)].length<=9223372036854775807/\(f.length+[((2:Int)*d.getD a.toNat (0:Int)+b,(2:Int)*List.getD (e.getD a.toNat []) c.toNat (0:Int)+b,(2:Int),c)].length)*32<=140737488355328)/\True)<|lt ((f++[((2:Int)*d.getD a.toNat (0:Int)+b,(2:Int)*List.getD (e.getD a.toNat []) c.toNat (0:Int)+b,(2:Int),c)],[((2:Int)*d.getD a.toNat (0:Int)+b,(2:Int)*List.getD (e.getD a.toNat []) c.toNat (0:Int)+b,(2:Int),c)])) fun(g,_) =>
  gd (c9 (b+1)/\True) <|
  h (b+1,g)
 else
  Um c i f
def Hb(e:List Int)(a:Int)(b:List (List Int))(f:List (List Int))(g:List Int)(h:List Int)(i:List Int)(k:Int×List Int×List (List Int)×List l8->Option C6)(j:Int×List l8->Option C6):Int×List l8->Option C6
 | (c,d) =>
 if(decide (c < (↑(List.length (b.getD a.toNat [])):Int))) then
  gd (ix c (List.length (b.getD a.toNat []))/\True) <|
  lp (LK e a b c j) (0,d)
 else
  Uk a k ((f++[g],h++[i.getD (Int.toNat (0:Int)) (0:Int)],d))
def Un(g:List Int)(f:List (List Int))(b:j7)(j:List B9)(k:Int×List Int×List (List Int)×List l8->Option C6):Int×List Int×List (List Int)×List l8->Option C6
 | (a,c,d,e) =>
 if(decide (a < (b.2.2.length:Int))) then
  gd ((BP b a).isSome/\ix (0:Int) (vl (BP b a)).length/\Int.toNat (0:Int) < (vl (BP b a)).length/\(c.length+[(vl (BP b a)).getD (Int.toNat (0:Int)) (0:Int)].length<=9223372036854775807/\(c.length+[(vl (BP b a)).getD (Int.toNat (0:Int)) (0:Int)].length)*8<=140737488355328)/\True)<|lt (vl (BP b a)) fun i =>
  gd ((Fy b a).isSome/\(d.length+[vl (Fy b a)].length<=9223372036854775807/\(d.length+[vl (Fy b a)].length)*24<=140737488355328)/\True)<|lt (vl (Fy b a)) fun h =>
  gd (ix a f.length/\True) <|
  lp (Hb g a f d h c i k) (0,e)
 else
  G0z b j (e,c,d)
def Uo(d:j7)(e:List B9)(c:List l8):List (List Int)×List Int->Option C6
 | (b,a) =>
 lp (Un a b d e) (0,[],[],c)
def Pv(a:Int)(d:Int×List (List Int)×List Int->Option C6):List Int×List (List Int)->Option C6
 | (c,b) =>
 gd (c9 (a+1)/\True) <|
 d (a+1,b,c)
def Up(e:List B9)(i:j7)(f:List l8)(h:Int×List (List Int)×List Int->Option C6):Int×List (List Int)×List Int->Option C6
 | (c,b,d) =>
 if(decide (c < (e.length:Int))) then
  gd (ix c e.length/\c.toNat<e.length/\True)<|lt (e.getD c.toNat (b7 y151)) fun a =>
  if a.2.2.2 then
   gd (ix a.2.2.1 d.length/\a.2.2.1.toNat<d.length/\True) <|
   Pv c h (d.set a.2.2.1.toNat c,b)
  else
   gd (ix a.2.2.1 b.length/\a.2.2.1.toNat<b.length/\((b.getD a.2.2.1.toNat []).length+[c].length<=9223372036854775807/\((b.getD a.2.2.1.toNat []).length+[c].length)*8<=140737488355328)/\ix a.2.2.1 b.length/\(a.2.2.1.toNat<b.length/\a.2.2.1.toNat=a.2.2.1.toNat)/\True)<|lt (b.set a.2.2.1.toNat (b.getD a.2.2.1.toNat []++[c])) fun g =>
   Pv c h (d,g)
 else
  Uo i e f (b,d)
def LL(c:List B9)(a:j7):List l8->Option C6
 | b =>
 gd ((0<=(a.2.2.length:Int)/\(a.2.2.length:Int)=(a.2.2.length:Int)/\(a.2.2.length:Int).toNat*8<=281474976710656/\(a.2.2.length:Int)<=9223372036854775807)/\True) <|
 gd ((0<=(a.2.2.length:Int)/\(a.2.2.length:Int)=(a.2.2.length:Int)/\(a.2.2.length:Int).toNat*24<=281474976710656/\(a.2.2.length:Int)<=9223372036854775807)/\True) <|
 lp (Up c a b) ((0,List.replicate (a.2.2.length:Int).toNat [],List.replicate (a.2.2.length:Int).toNat 0))
def G0y(a:j7)(g:List B9)(f:Int×Int×List l8->Option C6):Int×Int×List l8->Option C6
 | (c,d,e) =>
 if(decide (d < (a.2.1.1.length:Int))) then
  gd (ix d a.2.1.1.length/\True)<|lt (a.2.1.1.getD d.toNat (b7 y139)) fun b =>
  gd ((Fz a b c).isSome/\(e.length+(vl (Fz a b c)).length<=9223372036854775807/\(e.length+(vl (Fz a b c)).length)*32<=140737488355328)/\True)<|lt (vl (Fz a b c)) fun i =>
  gd ((D5 b.2.2).isSome/\c9 (c+vl (D5 b.2.2))/\True)<|lt (vl (D5 b.2.2)) fun h =>
  gd (c9 (d+1)/\True) <|
  f (c+h,d+1,e++i)
 else
  LL g a e
def CA(a:j7):Option C6 :=
 gd ((BO a.2.1).isSome/\True)<|lt (vl (BO a.2.1)) fun b =>
 lp (G0y a b) (0,0,[])
def k37:Ct:=j9 37 [.agg k8] (fun x=>CA x.1) (fun r:C6=>D y157.pt r) (fun _=>())
theorem Uq:Ok prog k37:=by
 refine k6 [.tmp 2] func37 ?_;intro y ⟨a,_⟩ r H Q hn hr;have:=hz (tc N0u (tc o87 (tc Ug (tc o85 (tc Pr tn)))));refine iA [1]<|qD (fun d=>Z [p 1 (R 1),p 3 (R 20)] [(20,bx 157 [L y64 a.1,L y139 a.2.1.1,L Ty.str a.2.1.2.1,L y202 a.2.1.2.2,L l7 a.2.2,AV.os 18 0,nil,nil,nil,nil]),(18,A 151 y151 d 0),(1,K 34 k8 a)]) H fun d H=>iA [1,3,4]<|jN r (fun(g:List l8)=>Z [p 1 (R 1),p 3 (R 20)] ((20,bx 157 (Q2 a))::W6 d a g)) (LL d a) (fun g H=>?_) (fun _ n0 e0 t0=>?_)
 ·refine iB [1,3,7] H fun H=>iB [1,3,7,8] H fun H=>jN r (fun((c,e):List (List Int)×List Int)=>Z (Ab [p 8 (AV.og 54)]) ((54,Ob.grd 37 2 true i64 c none)::(50,A 2 i64 e 0)::(20,bx 157 (Q2 a))::W6 d a g)) (Uo a d g) (fun⟨c,e⟩ H=>?_) (fun _ n2 e2 t2=>?_)
  ·refine jN r (fun((aA,w,aB):List l8×List Int×List (List Int))=>Z [p 3 (R 20)] [(20,bx 157 (Q3 a)),(18,A 151 y151 d 0),(38,A 80 y80 aA 0),(102,A 2 i64 w 0),(114,A 37 i64.sl aB 0)]) (G0z a d) (fun⟨aA,w,aB⟩ H=>?_) (fun _ n5 e5 t5=>?_)
   ·refine iA [2]<|j0<|hr H
   refine iA [1,3,7,8,87,88]<|vB<|fZ 54 (Z (Ab [p 8 (M i64.sl c),p 87 (I (a.2.2.length:Int)),p 88 (I 0)]) ((50,A 2 i64 e 0)::(20,bx 157 (Q2 a))::W6 d a g))<|lX (fun((b,j,k,m):Int×List Int×List (List Int)×List l8)=>Z (Ab [p 8 (M i64.sl c),p 87 (I (a.2.2.length:Int)),p 88 (I b)]) [(50,A 2 i64 e 0),(20,bx 157 (Q3 a)),(18,A 151 y151 d 0),(1,K 34 k8 a),(38,A 80 y80 m 0),(102,A 2 i64 j 0),(114,A 37 i64.sl k 0)]) (0,[],[],g) H fun _ g6 b6 e6 t6 ⟨b,j,k,m⟩ H=>iA [1,3,7,8,87,88,89]<|vQ<|cD H (fun H=>?_) (fun H=>?_)
   ·refine vK<|fQ<|jN r (fun((E,W,T):List (List Int)×List Int×List l8)=>Z (Ab [p 8 (M i64.sl c),p 87 (I (a.2.2.length:Int)),p 88 (I b)]) ((20,bx 157 (Q3 a))::(114,A 37 i64.sl E 0)::(102,A 2 i64 W 0)::(50,A 2 i64 e 0)::W6 d a T)) (Uk b g6) (fun⟨E,W,T⟩ H=>?_) (fun _ n7 e7 t7=>?_)
    ·refine jB [1,3,7,8,87,88] H fun H=>b6 H
    refine vB<|iA [1,3,7,8,11,87,88]<|qD (fun f=>Z (Ab [p 8 (M i64.sl c),p 11 (I b),p 87 (I (a.2.2.length:Int)),p 88 (I b)]) [(20,bx 157 [L y64 a.1,L y139 a.2.1.1,L Ty.str a.2.1.2.1,L y202 a.2.1.2.2,L l7 a.2.2,AV.os 18 0,AV.os 38 0,AV.os 102 1,AV.os 114 0,nil]),(102,A 2 i64 (j++[f.getD (Int.toNat (0:Int)) (0:Int)]) 1),(101,A 2 i64 [f.getD (Int.toNat (0:Int)) (0:Int)] 0),(98,A 2 i64 f 0),(50,A 2 i64 e 0),(18,A 151 y151 d 0),(1,K 34 k8 a),(38,A 80 y80 m 0),(114,A 37 i64.sl k 0)]) H fun f H=>qD (fun l=>Z (Ab [p 8 (M i64.sl c),p 11 (I b),p 87 (I (a.2.2.length:Int)),p 88 (I b)]) ((20,bx 157 [L y64 a.1,L y139 a.2.1.1,L Ty.str a.2.1.2.1,L y202 a.2.1.2.2,L l7 a.2.2,AV.os 18 0,AV.os 38 0,AV.os 102 1,AV.os 114 1,nil])::(114,A 37 i64.sl (k++[l]) 1)::(113,A 37 i64.sl [l] 0)::(102,A 2 i64 (j++[f.getD (Int.toNat (0:Int)) (0:Int)]) 1)::(101,A 2 i64 [f.getD (Int.toNat (0:Int)) (0:Int)] 0)::(98,A 2 i64 f 0)::(50,A 2 i64 e 0)::W6 d a m)) H fun l H=>iB [1,3,7,8,11,87,88,120,121,122] H fun H=>vB<|lX (fun((h,t):Int×List l8)=>Z (Ab [p 8 (M i64.sl c),p 11 (I b),p 87 (I (a.2.2.length:Int)),p 88 (I b),p 120 (M i64 (c.getD b.toNat [])),p 121 (I (↑(List.length (c.getD b.toNat [])):Int)),p 122 (I h)]) ((20,bx 157 (Q3 a))::(114,A 37 i64.sl (k++[l]) 0)::(102,A 2 i64 (j++[f.getD (Int.toNat (0:Int)) (0:Int)]) 0)::(50,A 2 i64 e 0)::W6 d a t)) (0,m) H fun _ g8 b8 e8 t8 ⟨h,t⟩ H=>iA [1,3,7,8,11,87,88,120,121,122,123]<|vQ<|cD H (fun H=>?_) (fun H=>?_)
    ·refine vK<|fQ<|jN r (fun(G:List l8)=>Z (Ab [p 8 (M i64.sl c),p 11 (I b),p 87 (I (a.2.2.length:Int)),p 88 (I b),p 120 (M i64 (c.getD b.toNat [])),p 121 (I (↑(List.length (c.getD b.toNat [])):Int)),p 122 (I h)]) ((20,bx 157 (Q3 a))::(114,A 37 i64.sl (k++[l]) 0)::(102,A 2 i64 (j++[f.getD (Int.toNat (0:Int)) (0:Int)]) 0)::(50,A 2 i64 e 0)::W6 d a G)) (Um h g8) (fun G H=>?_) (fun _ n9 e9 t9=>?_)
     ·refine jB [1,3,7,8,11,87,88,120,121,122] H fun H=>b8 H
     refine vB<|iB [1,3,7,8,11,12,13,87,88,120,121,122] H fun H=>iA [1,3,7,8,11,12,13,87,88,120,121,122,127]<|vB<|lX (fun((s,F):Int×List l8)=>Z (Ab [p 8 (M i64.sl c),p 11 (I b),p 12 (I h),p 13 (I (List.getD (c.getD b.toNat []) h.toNat (0:Int))),p 87 (I (a.2.2.length:Int)),p 88 (I b),p 120 (M i64 (c.getD b.toNat [])),p 121 (I (↑(List.length (c.getD b.toNat [])):Int)),p 122 (I h),p 127 (I s)]) ((20,bx 157 (Q3 a))::(114,A 37 i64.sl (k++[l]) 0)::(102,A 2 i64 (j++[f.getD (Int.toNat (0:Int)) (0:Int)]) 0)::(50,A 2 i64 e 0)::W6 d a F)) (0,t) H fun _ aG aD aC aF ⟨s,F⟩ H=>iA [1,3,7,8,11,12,13,87,88,120,121,122,127,128]<|vQ<|cD H (fun H=>?_) (fun H=>?_)
     ·refine vK<|fQ<|vQ<|vB<|iA [1,3,7,8,11,12,13,14,87,88,120,121,122,127]<|zD (fun(P,X)=>Z (Ab [p 8 (M i64.sl c),p 11 (I b),p 12 (I h),p 13 (I (List.getD (c.getD b.toNat []) h.toNat (0:Int))),p 87 (I (a.2.2.length:Int)),p 88 (I b),p 120 (M i64 (c.getD b.toNat [])),p 121 (I (↑(List.length (c.getD b.toNat [])):Int)),p 122 (I h),p 127 (I s)]) [(20,bx 157 [L y64 a.1,L y139 a.2.1.1,L Ty.str a.2.1.2.1,L y202 a.2.1.2.2,L l7 a.2.2,AV.os 18 0,AV.os 38 1,AV.os 102 0,AV.os 114 0,nil]),(38,A 80 y80 P 1),(148,A 80 y80 X 0),(114,A 37 i64.sl (k++[l]) 0),(102,A 2 i64 (j++[f.getD (Int.toNat (0:Int)) (0:Int)]) 0),(50,A 2 i64 e 0),(18,A 151 y151 d 0),(1,K 34 k8 a)]) H fun⟨P,X⟩ H =>
       fK<|fQ <|
       jB [1,3,7,8,11,12,13,87,88,120,121,122,127] H fun H =>
       aD H
     exact vE<|fE<|aC<|fX rfl<|fK<|n9 H
    exact vE<|fE<|e8<|fX rfl<|fK<|n7 H
   exact vE<|fE<|e6<|fX rfl<|n5 H
  refine iA [1,3,7,8,58,59,60]<|vB<|lX (fun((i,o,n):Int×List (List Int)×List Int)=>Z (Ab [p 8 (AV.og 54),p 58 (O 18),p 59 (I (d.length:Int)),p 60 (I i)]) ((54,Ob.grd 37 2 true i64 o none)::(50,A 2 i64 n 0)::(20,bx 157 (Q2 a))::W6 d a g)) ((0,List.replicate (a.2.2.length:Int).toNat [],List.replicate (a.2.2.length:Int).toNat 0)) H fun _ g3 b3 e3 t3 ⟨i,o,n⟩ H=>iA [1,3,7,8,58,59,60,61]<|vQ<|cD H (fun H=>?_) (fun H=>?_)
  ·refine vK<|fQ<|jN r (fun((u,z):List Int×List (List Int))=>Z (Ab [p 8 (AV.og 54),p 58 (O 18),p 59 (I (d.length:Int)),p 60 (I i)]) ((50,A 2 i64 u 0)::(54,Ob.grd 37 2 true i64 z none)::(20,bx 157 (Q2 a))::W6 d a g)) (Pv i g3) (fun⟨u,z⟩ H=>?_) (fun _ n4 e4 t4=>?_)
   ·refine jB [1,3,7,8,58,59,60] H fun H=>b3 H
   refine vB<|qD (fun q=>Z (Ab [p 8 (AV.og 54),p 9 (I i),p 10 (R 10),p 58 (O 18),p 59 (I (d.length:Int)),p 60 (I i)]) ((10,bx 151 (o8 true y151 q))::(54,Ob.grd 37 2 true i64 o none)::(50,A 2 i64 n 0)::(20,bx 157 (Q2 a))::W6 d a g)) H fun q H=>iA [1,3,7,8,9,10,58,59,60,66]<|cD H (fun H=>jB [1,3,7,8,58,59,60] H fun H=>fK<|n4 H) fun H=>zD (fun Y=>Z (Ab [p 8 (AV.og 54),p 58 (O 18),p 59 (I (d.length:Int)),p 60 (I i)]) ((54,Ob.grd 37 2 true i64 Y none)::(79,A 2 i64 [] 2)::(81,A 2 i64 [i] 0)::(10,bx 151 (o8 true y151 q))::(50,A 2 i64 n 0)::(20,bx 157 (Q2 a))::W6 d a g)) H fun Y H=>fK<|n4 H
  exact vE<|fE<|e3<|fX rfl<|n2 H
 refine iA [1,3,4,23,24,25]<|vB<|lX (fun((x,v,V):Int×Int×List l8)=>Z [p 1 (R 1),p 3 (R 20),p 4 (I x),p 23 (L y139 a.2.1.1),p 24 (I (a.2.1.1.length:Int)),p 25 (I v)] ((20,bx 157 (Q2 a))::W6 d a V)) (0,0,[]) H fun _ g1 b1 e1 t1 ⟨x,v,V⟩ H=>iA [1,3,4,23,24,25,26]<|vQ<|cD H (fun H=>vK<|fQ<|vQ<|vB<|qD (fun v7=>Z [p 1 (R 1),p 3 (R 20),p 4 (I x),p 6 (R 6),p 23 (L y139 a.2.1.1),p 24 (I (a.2.1.1.length:Int)),p 25 (I v)] ((6,K 139 y139 v7)::(20,bx 157 (Q2 a))::W6 d a V)) H fun v7 H=>qD (fun v8=>Z [p 1 (R 1),p 3 (R 20),p 4 (I x),p 6 (R 6),p 23 (L y139 a.2.1.1),p 24 (I (a.2.1.1.length:Int)),p 25 (I v)] [(20,bx 157 [L y64 a.1,L y139 a.2.1.1,L Ty.str a.2.1.2.1,L y202 a.2.1.2.2,L l7 a.2.2,AV.os 18 0,AV.os 38 1,nil,nil,nil]),(38,A 80 y80 (V++v8) 1),(37,A 80 y80 v8 0),(6,K 139 y139 v7),(18,A 151 y151 d 0),(1,K 34 k8 a)]) H fun v8 H=>zD (fun v9=>Z [p 1 (R 1),p 3 (R 20),p 4 (I (x+v9)),p 23 (L y139 a.2.1.1),p 24 (I (a.2.1.1.length:Int)),p 25 (I v)] [(20,bx 157 [L y64 a.1,L y139 a.2.1.1,L Ty.str a.2.1.2.1,L y202 a.2.1.2.2,L l7 a.2.2,AV.os 18 0,AV.os 38 1,nil,nil,nil]),(38,A 80 y80 (V++v8) 1),(37,A 80 y80 v8 0),(6,K 139 y139 v7),(18,A 151 y151 d 0),(1,K 34 k8 a)]) H fun v9 H=>fK<|fQ<|jB [1,3,4,23,24,25] H fun H=>b1 H) fun H=>vE<|fE<|e1<|fX rfl<|n0 H
def LM(a:Int)(c:Int)(b:Int):Option Bool :=
 gd ((A9 a c b).isSome/\True) <|
 some (!vl (A9 a c b))
def Q0l:Ct:=j9 172 [.dat i64,.dat (.pt i64),.dat (.pt i64)] (fun x=>LM x.1 x.2.1 x.2.2.1) (fun r:Bool=>B r) (fun _=>())
theorem Ur:Ok prog Q0l:=by
 refine k6 [.tmp 4] func172 ?_;intro y ⟨_,_,_,_⟩ r H Q hn hr;have:=hz (tc Ae tn);refine iA [0,1,2]<|iB [4] H fun H=>j0<|hr H
def j0J:Unit->Option Int
 | _ =>
 some (-1)
def r0K(b:List Int)(c:Int×Int)(d:Int->Option Int):Int->Option Int
 | a =>
 if(decide (a < (b.length:Int))) then
  gd (ix a b.length/\(LM (b.getD a.toNat 0) c.1 c.2).isSome/\True) <|
  if(vl (LM (b.getD a.toNat 0) c.1 c.2)) then
   some a
  else
   gd (c9 (a+1)/\True) <|
   d (a+1)
 else
  j0J ()
def Pw(a:List Int)(b:Int×Int):Option Int :=
 lp (r0K a b) 0
def z0d:Ct:=j9 200 [.dat i64.sl,.fn 172 (.pr i64.pt i64.pt)] (fun x=>Pw x.1 x.2.1) (fun r:Int=>I r) (fun _=>())
theorem q0r:Ok prog z0d:=by
 refine k6 [.tmp 4] func200 ?_;intro y ⟨a,c,_⟩ r H Q hn hr;have:=hz (tc Ur tn);refine iA [0,1]<|jN r (fun(_:Unit)=>Z [] []) (j0J) (fun _ H=>?_) (fun _ d j g=>?_)
 ·refine iA [4]<|j0<|hr H
 refine iA [0,1,7,8]<|vB<|lX (fun(b:Int)=>Z [p 0 (L i64 a),p 1 (AV.fn 172 [D i64.pt c.1,D i64.pt c.2]),p 7 (I (a.length:Int)),p 8 (I b)] []) 0 H fun _ i f e h b H=>iA [0,1,7,8,9]<|vQ<|cD H (fun H=>?_) (fun H=>?_)
 ·refine vK<|fQ<|vQ<|vB<|iA [0,1,5,7,8]<|iB [0,1,5,7,8,16] H fun H=>cD H (fun H=>iA [4]<|j0<|l9<|fR<|h<|l9<|g<|hr H) fun H=>vK<|fK<|fQ<|jB [0,1,7,8] H fun H=>f H
 exact vE<|fE<|e<|fX rfl<|d H
def Px(a:List Int)(b:Int×Int):Option Bool :=
 gd ((Pw a b).isSome/\True)<|lt (vl (Pw a b)) fun c =>
 some (decide (0<=c))
def z0g:Ct:=j9 171 [.dat i64.sl,.fn 172 (.pr (.pt i64) (.pt i64))] (fun x=>Px x.1 x.2.1) (fun r:Bool=>B r) (fun _=>())
theorem q0s:Ok prog z0g:=by
 refine k6 [.tmp 4] func171 ?_;intro y ⟨_,_,_⟩ r H Q hn hr;have:=hz (tc q0r (tc Ur tn));refine iA [0,1]<|qD (fun a=>Z [p 4 (B (decide (0<=a)))] []) H fun a H=>j0<|hr H
def I0(a:List Int)(c:Int)(b:Int):Option Bool :=
 gd ((Px a (c,b)).isSome/\True) <|
 some (!vl (Px a (c,b)))
def R0b:Ct:=j9 123 [.dat i64.sl,.dat i64,.dat i64] (fun x=>I0 x.1 x.2.1 x.2.2.1) (fun r:Bool=>B r) (fun _=>())
theorem LN:Ok prog R0b:=by
 refine k6 [.tmp 6] func123 ?_;intro y ⟨_,_,_,_⟩ r H Q hn hr;have:=hz (tc q0s (tc Ur tn));refine iA [0,4,5]<|iB [6] H fun H=>j0<|hr H
def B0c:Unit->Option Bool
 | _ =>
 some true
def B0b(b:x9)(c:Int->Option Bool):Int->Option Bool
 | a =>
 if(decide (a < (b.1.length:Int))) then
  gd (ix a b.1.length/\True) <|
  gd (((b.1.getD a.toNat (0:Int) != (-1:Int))=false/\(a==(0:Int))=true/\True->ix (0:Int) b.2.1.length)/\(decide ((0:Int)<a)=true/\(a==(0:Int)&&(b.1.getD a.toNat (0:Int) != (-1:Int)||b.2.1.getD (Int.toNat (0:Int)) (0:Int) != (0:Int)))=false/\True->c9 (a-(1:Int)))/\(decide ((0:Int)<a)=true/\(a==(0:Int)&&(b.1.getD a.toNat (0:Int) != (-1:Int)||b.2.1.getD (Int.toNat (0:Int)) (0:Int) != (0:Int)))=false/\True->(A9 (b.1.getD a.toNat (0:Int)) (0:Int) (a-(1:Int))).isSome)/\True) <|
  if(a==(0:Int)&&(b.1.getD a.toNat (0:Int) != (-1:Int)||b.2.1.getD (Int.toNat (0:Int)) (0:Int) != (0:Int))||decide ((0:Int)<a)&&!vl (A9 (b.1.getD a.toNat (0:Int)) (0:Int) (a-(1:Int)))) then
   some false
  else
   gd (c9 (a+1)/\True) <|
   c (a+1)
 else
  B0c ()
def CB(a:x9):Option Bool :=
 lp (B0b a) 0
def Q0N:Ct:=j9 139 [.agg l7] (fun x=>CB x.1) (fun r:Bool=>B r) (fun _=>())
theorem O0H:Ok prog Q0N:=by
 refine k6 [.tmp 2] func139 ?_;intro y ⟨a,_⟩ r H Q hn hr;have:=hz (tc Ae tn);refine iA [1]<|jN r (fun(_:Unit)=>Z [] []) (B0c) (fun _ H=>?_) (fun _ c i f=>?_)
 ·refine iA [2]<|j0<|hr H
 refine iA [1,6,7,8]<|vB<|lX (fun(b:Int)=>Z [p 1 (R 1),p 6 (L i64 a.1),p 7 (I (a.1.length:Int)),p 8 (I b)] [(1,K 153 l7 a)]) 0 H fun _ h e d g b H=>iA [1,6,7,8,9]<|vQ<|cD H (fun H=>?_) (fun H=>?_)
 ·refine vK<|fQ<|vQ<|vB<|iB [1,3,4,6,7,8] H fun H=>iB [1,6,7,8,36] H fun H=>cD H (fun H=>iA [2]<|j0<|l9<|fR<|g<|l9<|f<|hr H) fun H=>vK<|fK<|fQ<|jB [1,6,7,8] H fun H=>e H
 exact vE<|fE<|d<|fX rfl<|c H
def LO(a:x9)(c:Int):Option Bool :=
 gd ((D5 a.1).isSome/\True)<|lt (vl (D5 a.1)) fun b =>
 gd ((A9 b 1 8).isSome/\(vl (A9 b 1 8)=true/\True->(D5 a.2.1).isSome)/\((vl (A9 b 1 8)&&vl (D5 a.2.1)==b)=true/\True->(D5 a.2.2.1).isSome)/\((vl (A9 b 1 8)&&vl (D5 a.2.1)==b&&vl (D5 a.2.2.1)==b)=true/\True->(CB a).isSome)/\((vl (A9 b 1 8)&&vl (D5 a.2.1)==b&&vl (D5 a.2.2.1)==b&&vl (CB a))=true/\True->(I0 a.2.1 0 1000).isSome)/\((vl (A9 b 1 8)&&vl (D5 a.2.1)==b&&vl (D5 a.2.2.1)==b&&vl (CB a)&&vl (I0 a.2.1 0 1000))=true/\True->(I0 a.2.2.1 0 500).isSome)/\((vl (A9 b 1 8)&&vl (D5 a.2.1)==b&&vl (D5 a.2.2.1)==b&&vl (CB a)&&vl (I0 a.2.1 0 1000)&&vl (I0 a.2.2.1 0 500))=true/\True->(D5 a.2.2.2).isSome)/\((vl (A9 b 1 8)&&vl (D5 a.2.1)==b&&vl (D5 a.2.2.1)==b&&vl (CB a)&&vl (I0 a.2.1 0 1000)&&vl (I0 a.2.2.1 0 500)&&vl (D5 a.2.2.2)==c)=true/\True->c9 (b-1))/\((vl (A9 b 1 8)&&vl (D5 a.2.1)==b&&vl (D5 a.2.2.1)==b&&vl (CB a)&&vl (I0 a.2.1 0 1000)&&vl (I0 a.2.2.1 0 500)&&vl (D5 a.2.2.2)==c)=true/\True->(I0 a.2.2.2 0 (b-1)).isSome)/\True)<|lt ((vl (D5 a.2.1),vl (D5 a.2.2.1),vl (D5 a.2.2.2))) fun(d,f,e) =>
 some (vl (A9 b 1 8)&&d==b&&f==b&&vl (CB a)&&vl (I0 a.2.1 0 1000)&&vl (I0 a.2.2.1 0 500)&&e==c&&vl (I0 a.2.2.2 0 (b-1)))
def k84:Ct:=j9 84 [.agg l7,.dat i64] (fun x=>LO x.1 x.2.1) (fun r:Bool=>B r) (fun _=>())
theorem o84:Ok prog k84:=by
 refine k6 [.tmp 4] func84 ?_;intro y ⟨a,f,_⟩ r H Q hn hr;have:=hz (tc LN (tc Ug (tc O0H (tc Ae tn))));refine iA [1,2]<|qD (fun b=>Z [p 1 (J f),p 2 (R 2),p 5 (I b)] [(2,K 153 l7 a)]) H fun b H=>qD (fun(c,e,d)=>Z [p 4 (B (vl (A9 b 1 8)&&c==b&&e==b&&vl (CB a)&&vl (I0 a.2.1 0 1000)&&vl (I0 a.2.2.1 0 500)&&d==f&&vl (I0 a.2.2.2 0 (b-1))))] [(2,K 153 l7 a)]) H fun⟨c,e,d⟩ H =>
  j0<|hr H
def Ut(a:Int):Option Bool :=
 some (a != 1)
def Q0O:Ct:=j9 138 [.dat i64] (fun x=>Ut x.1) (fun r:Bool=>B r) (fun _=>())
theorem Uu:Ok prog Q0O:=by
 refine k6 [.tmp 2] func138 ?_;intro y ⟨_,_⟩ r H Q hn hr;refine iA [0]<|iA [2]<|j0<|hr H
def Jf(a:List ByteArray):Option Int :=
 some (a.length:Int)
def Q0f:Ct:=j9 178 [.dat Ty.str.sl] (fun x=>Jf x.1) (fun r:Int=>I r) (fun _=>())
theorem O0i:Ok prog Q0f:=by
 refine k6 [.tmp 2] func178 ?_;intro y ⟨_,_⟩ r H Q hn hr;refine iA [0]<|iA [2]<|j0<|hr H
def Hc(a:r8)(b:Int):Option Bool :=
 gd ((Jf a.2.1).isSome/\c9 (vl (Jf a.2.1)-1)/\(A9 b 0 (vl (Jf a.2.1)-1)).isSome/\True) <|
 some (vl (A9 b 0 (vl (Jf a.2.1)-1)))
def Q0P:Ct:=j9 136 [.agg y31,.dat i64] (fun x=>Hc x.1 x.2.1) (fun r:Bool=>B r) (fun _=>())
theorem M0f:Ok prog Q0P:=by
 refine k6 [.tmp 4] func136 ?_;intro y ⟨_,_,_⟩ r H Q hn hr;have:=hz (tc Ae (tc O0i tn));refine iA [1,2]<|iB [4] H fun H=>j0<|hr H
def FA(a:List m5):Option Int :=
 some (a.length:Int)
def Q0h:Ct:=j9 176 [.dat y64.sl] (fun x=>FA x.1) (fun r:Int=>I r) (fun _=>())
theorem O0j:Ok prog Q0h:=by
 refine k6 [.tmp 2] func176 ?_;intro y ⟨_,_⟩ r H Q hn hr;refine iA [0]<|iA [2]<|j0<|hr H
def LP(a:Int)(b:r8):Option Bool :=
 gd ((Hc b a).isSome/\True) <|
 some (!vl (Hc b a))
def Q0g:Ct:=j9 177 [.dat i64,.dat (.pt y31)] (fun x=>LP x.1 x.2.1) (fun r:Bool=>B r) (fun _=>())
theorem Uv:Ok prog Q0g:=by
 refine k6 [.tmp 3] func177 ?_;intro y ⟨_,_,_⟩ r H Q hn hr;have:=hz (tc M0f tn);refine iA [0,1]<|iB [3] H fun H=>j0<|hr H
def j0I:Unit->Option Int
 | _ =>
 some (-1)
def r0J(b:List Int)(c:r8)(d:Int->Option Int):Int->Option Int
 | a =>
 if(decide (a < (b.length:Int))) then
  gd (ix a b.length/\(LP (b.getD a.toNat 0) c).isSome/\True) <|
  if(vl (LP (b.getD a.toNat 0) c)) then
   some a
  else
   gd (c9 (a+1)/\True) <|
   d (a+1)
 else
  j0I ()
def Py(a:List Int)(b:r8):Option Int :=
 lp (r0J a b) 0
def z0c:Ct:=j9 200 [.dat i64.sl,.fn 177 y31.pt] (fun x=>Py x.1 x.2.1) (fun r:Int=>I r) (fun _=>())
theorem y0A:Ok prog z0c:=by
 refine k6 [.tmp 4] func200 ?_;intro y ⟨a,d,_⟩ r H Q hn hr;have:=hz (tc Uv tn);refine iA [0,1]<|jN r (fun(_:Unit)=>Z [] []) (j0I) (fun _ H=>?_) (fun _ c j g=>?_)
 ·refine iA [4]<|j0<|hr H
 refine iA [0,1,7,8]<|vB<|lX (fun(b:Int)=>Z [p 0 (L i64 a),p 1 (AV.fn 177 [D y31.pt d]),p 7 (I (a.length:Int)),p 8 (I b)] []) 0 H fun _ i f e h b H=>iA [0,1,7,8,9]<|vQ<|cD H (fun H=>?_) (fun H=>?_)
 ·refine vK<|fQ<|vQ<|vB<|iA [0,1,5,7,8]<|iB [0,1,5,7,8,16] H fun H=>cD H (fun H=>iA [4]<|j0<|l9<|fR<|h<|l9<|g<|hr H) fun H=>vK<|fK<|fQ<|jB [0,1,7,8] H fun H=>f H
 exact vE<|fE<|e<|fX rfl<|c H
def Pz(a:List Int)(b:r8):Option Bool :=
 gd ((Py a b).isSome/\True)<|lt (vl (Py a b)) fun c =>
 some (decide (0<=c))
def z0f:Ct:=j9 171 [.dat i64.sl,.fn 177 (.pt y31)] (fun x=>Pz x.1 x.2.1) (fun r:Bool=>B r) (fun _=>())
theorem y0C:Ok prog z0f:=by
 refine k6 [.tmp 4] func171 ?_;intro y ⟨_,_,_⟩ r H Q hn hr;have:=hz (tc q0r (tc y0A (tc Uv tn)));refine iA [0,1]<|qD (fun a=>Z [p 4 (B (decide (0<=a)))] []) H fun a H=>j0<|hr H
def LQ(c:r8)(b:List m5)(a:o4):Option Bool :=
 gd ((FA b).isSome/\c9 (vl (FA b)-1)/\(A9 a.2.1 0 (vl (FA b)-1)).isSome/\(vl (A9 a.2.1 0 (vl (FA b)-1))=true/\True->ix a.2.1 b.length)/\((vl (A9 a.2.1 0 (vl (FA b)-1))&&(a.2.2.length:Int)==(↑(b.getD a.2.1.toNat (b7 y64)).2.2.1.length:Int))=true/\True->(Pz a.2.2 c).isSome)/\True) <|
 some (vl (A9 a.2.1 0 (vl (FA b)-1))&&(a.2.2.length:Int)==(↑(b.getD a.2.1.toNat (b7 y64)).2.2.1.length:Int)&&!vl (Pz a.2.2 c))
def Q0Q:Ct:=j9 135 [.agg y31,.agg y64.sl,.agg y139] (fun x=>LQ x.1 x.2.1 x.2.2.1) (fun r:Bool=>B r) (fun _=>())
theorem O0I:Ok prog Q0Q:=by
 refine k6 [.tmp 6] func135 ?_;intro y ⟨_,_,_,_⟩ r H Q hn hr;have:=hz (tc q0s (tc y0C (tc Uv (tc Ae (tc O0j tn)))));refine iA [3,4,5]<|iB [6] H fun H=>j0<|hr H
def A0j:Unit->Option Int
 | _ =>
 some (-1)
def G0V(d:ByteArray)(b:List ByteArray)(c:Int->Option Int):Int->Option Int
 | a =>
 if(decide (a < (b.length:Int))) then
  gd (ix a b.length/\True) <|
  if(decide (d=b.getD a.toNat (b7 Ty.str))) then
   some a
  else
   gd (c9 (a+1)/\True) <|
   c (a+1)
 else
  A0j ()
def PA(a:List ByteArray)(b:ByteArray):Option Int :=
 lp (G0V b a) 0
def P0A:Ct:=j9 225 [.dat Ty.str.sl,.dat Ty.str] (fun x=>PA x.1 x.2.1) (fun r:Int=>I r) (fun _=>())
theorem N0M:Ok prog P0A:=by
 refine k6 [.tmp 4] func225 ?_;intro y ⟨a,d,_⟩ r H Q hn hr;refine iA [0,1]<|jN r (fun(_:Unit)=>Z [] []) (A0j) (fun _ H=>?_) (fun _ c j g=>?_)
 ·refine iA [4]<|j0<|hr H
 refine iA [0,1,7,8]<|vB<|lX (fun(b:Int)=>Z [p 0 (L Ty.str a),p 1 (U d),p 7 (I (a.length:Int)),p 8 (I b)] []) 0 H fun _ i f e h b H=>iA [0,1,7,8,9]<|vQ<|cD H (fun H=>?_) (fun H=>?_)
 ·refine vK<|fQ<|vQ<|vB<|iA [0,1,5,7,8]<|iB [0,1,5,7,8,16] H fun H=>cD H (fun H=>iA [4]<|j0<|l9<|fR<|h<|l9<|g<|hr H) fun H=>vK<|fK<|fQ<|jB [0,1,7,8] H fun H=>f H
 exact vE<|fE<|e<|fX rfl<|c H
def PB(a:List ByteArray)(b:ByteArray):Option Bool :=
 gd ((PA a b).isSome/\True)<|lt (vl (PA a b)) fun c =>
 some (decide (0<=c))
def P0P:Ct:=j9 204 [.dat Ty.str.sl,.dat Ty.str] (fun x=>PB x.1 x.2.1) (fun r:Bool=>B r) (fun _=>())
theorem N0W:Ok prog P0P:=by
 refine k6 [.tmp 4] func204 ?_;intro y ⟨_,_,_⟩ r H Q hn hr;have:=hz (tc N0M tn);refine iA [0,1]<|qD (fun a=>Z [p 4 (B (decide (0<=a)))] []) H fun a H=>j0<|hr H
def R9(a:ByteArray):Option Bool :=
 gd ((A9 (a.size:Int) (1:Int) (8:Int)).isSome/\(vl (A9 (a.size:Int) (1:Int) (8:Int))=true/\True->(FB a (ByteArray.mk #[(97:UInt8),(98:UInt8),(99:UInt8),(100:UInt8),(101:UInt8),(102:UInt8),(103:UInt8),(104:UInt8),(105:UInt8),(106:UInt8),(107:UInt8),(108:UInt8),(109:UInt8),(110:UInt8),(111:UInt8),(112:UInt8),(113:UInt8),(114:UInt8),(115:UInt8),(116:UInt8),(117:UInt8),(118:UInt8),(119:UInt8),(120:UInt8),(121:UInt8),(122:UInt8),(48:UInt8),(49:UInt8),(50:UInt8),(51:UInt8),(52:UInt8),(53:UInt8),(54:UInt8),(55:UInt8),(56:UInt8),(57:UInt8)])).isSome)/\((vl (A9 (a.size:Int) (1:Int) (8:Int))&&decide (vl (FB a (ByteArray.mk #[(97:UInt8),(98:UInt8),(99:UInt8),(100:UInt8),(101:UInt8),(102:UInt8),(103:UInt8),(104:UInt8),(105:UInt8),(106:UInt8),(107:UInt8),(108:UInt8),(109:UInt8),(110:UInt8),(111:UInt8),(112:UInt8),(113:UInt8),(114:UInt8),(115:UInt8),(116:UInt8),(117:UInt8),(118:UInt8),(119:UInt8),(120:UInt8),(121:UInt8),(122:UInt8),(48:UInt8),(49:UInt8),(50:UInt8),(51:UInt8),(52:UInt8),(53:UInt8),(54:UInt8),(55:UInt8),(56:UInt8),(57:UInt8)]))=ByteArray.mk #[]))=true/\True->ix (0:Int) a.size)/\((vl (A9 (a.size:Int) (1:Int) (8:Int))&&decide (vl (FB a (ByteArray.mk #[(97:UInt8),(98:UInt8),(99:UInt8),(100:UInt8),(101:UInt8),(102:UInt8),(103:UInt8),(104:UInt8),(105:UInt8),(106:UInt8),(107:UInt8),(108:UInt8),(109:UInt8),(110:UInt8),(111:UInt8),(112:UInt8),(113:UInt8),(114:UInt8),(115:UInt8),(116:UInt8),(117:UInt8),(118:UInt8),(119:UInt8),(120:UInt8),(121:UInt8),(122:UInt8),(48:UInt8),(49:UInt8),(50:UInt8),(51:UInt8),(52:UInt8),(53:UInt8),(54:UInt8),(55:UInt8),(56:UInt8),(57:UInt8)]))=ByteArray.mk #[]))=true/\True->(PC (ByteArray.mk #[(97:UInt8),(98:UInt8),(99:UInt8),(100:UInt8),(101:UInt8),(102:UInt8),(103:UInt8),(104:UInt8),(105:UInt8),(106:UInt8),(107:UInt8),(108:UInt8),(109:UInt8),(110:UInt8),(111:UInt8),(112:UInt8),(113:UInt8),(114:UInt8),(115:UInt8),(116:UInt8),(117:UInt8),(118:UInt8),(119:UInt8),(120:UInt8),(121:UInt8),(122:UInt8)]) (F3 a (Int.toNat (0:Int)))).isSome)/\True)<|lt ((vl (FB a (ByteArray.mk #[97,98,99,100,101,102,103,104,105,106,107,108,109,110,111,112,113,114,115,116,117,118,119,120,121,122,48,49,50,51,52,53,54,55,56,57])),vl (PC (ByteArray.mk #[(97:UInt8),(98:UInt8),(99:UInt8),(100:UInt8),(101:UInt8),(102:UInt8),(103:UInt8),(104:UInt8),(105:UInt8),(106:UInt8),(107:UInt8),(108:UInt8),(109:UInt8),(110:UInt8),(111:UInt8),(112:UInt8),(113:UInt8),(114:UInt8),(115:UInt8),(116:UInt8),(117:UInt8),(118:UInt8),(119:UInt8),(120:UInt8),(121:UInt8),(122:UInt8)]) (F3 a (Int.toNat (0:Int)))))) fun(c,b) =>
 some (vl (A9 (a.size:Int) 1 8)&&decide (c=ByteArray.mk #[])&&decide (0<=b))
def R0k:Ct:=j9 111 [.dat Ty.str] (fun x=>R9 x.1) (fun r:Bool=>B r) (fun _=>())
theorem Uw:Ok prog R0k:=by
 refine k6 [.tmp 2] func111 ?_;intro y ⟨c,_⟩ r H Q hn hr;have:=hz (tc O0t (tc O0u (tc Ae tn)));refine iA [0]<|qD (fun(b,a)=>Z [p 2 (B (vl (A9 (c.size:Int) 1 8)&&decide (b=ByteArray.mk #[])&&decide (0<=a)))] []) H fun⟨b,a⟩ H =>
  j0<|hr H
def A0G:Unit->Option Bool
 | _ =>
 some true
def A0F(b:List ByteArray)(c:Int->Option Bool):Int->Option Bool
 | a =>
 if(decide (a < (b.length:Int))) then
  gd (ix a b.length/\True) <|
  gd ((R9 (b.getD a.toNat (b7 Ty.str))).isSome/\((!vl (R9 (b.getD a.toNat (b7 Ty.str))))=false/\True->(0:Int)<=(0:Int)/\(0:Int)<=a/\a<=(b.length:Int))/\((!vl (R9 (b.getD a.toNat (b7 Ty.str))))=false/\True->(PB (List.take a.toNat b) (b.getD a.toNat (b7 Ty.str))).isSome)/\True) <|
  if(!vl (R9 (b.getD a.toNat (b7 Ty.str)))||vl (PB (List.take a.toNat b) (b.getD a.toNat (b7 Ty.str)))) then
   some false
  else
   gd (c9 (a+1)/\True) <|
   c (a+1)
 else
  A0G ()
def Y3(a:List ByteArray):Option Bool :=
 lp (A0F a) 0
def Q0i:Ct:=j9 175 [.dat Ty.str.sl] (fun x=>Y3 x.1) (fun r:Bool=>B r) (fun _=>())
theorem Ux:Ok prog Q0i:=by
 refine k6 [.tmp 2] func175 ?_;intro y ⟨a,_⟩ r H Q hn hr;have:=hz (tc N0W (tc Uw tn));refine iA [0]<|jN r (fun(_:Unit)=>Z [] []) (A0G) (fun _ H=>?_) (fun _ c i f=>?_)
 ·refine iA [2]<|j0<|hr H
 refine iA [0,5,6,7]<|vB<|lX (fun(b:Int)=>Z [p 0 (L Ty.str a),p 5 (L Ty.str a),p 6 (I (a.length:Int)),p 7 (I b)] []) 0 H fun _ h e d g b H=>iA [0,5,6,7,8]<|vQ<|cD H (fun H=>?_) (fun H=>?_)
 ·refine vK<|fQ<|vQ<|vB<|iB [0,3,4,5,6,7] H fun H=>iB [0,5,6,7,21] H fun H=>cD H (fun H=>iA [2]<|j0<|l9<|fR<|g<|l9<|f<|hr H) fun H=>vK<|fK<|fQ<|jB [0,5,6,7] H fun H=>e H
 exact vE<|fE<|d<|fX rfl<|c H
def LR(a:List ByteArray)(b:r8):List ByteArray->Option Bool
 | c =>
 gd (((decide ((a.length:Int)<=14)&&decide ((b.2.1.length:Int)<=30)&&decide ((c.length:Int)<=8))=true/\True->(Y3 a).isSome)/\((decide ((a.length:Int)<=14)&&decide ((b.2.1.length:Int)<=30)&&decide ((c.length:Int)<=8)&&vl (Y3 a))=true/\True->(Y3 b.2.1).isSome)/\((decide ((a.length:Int)<=14)&&decide ((b.2.1.length:Int)<=30)&&decide ((c.length:Int)<=8)&&vl (Y3 a)&&vl (Y3 b.2.1))=true/\True->(Y3 c).isSome)/\True) <|
 some (decide ((a.length:Int)<=14)&&decide ((b.2.1.length:Int)<=30)&&decide ((c.length:Int)<=8)&&vl (Y3 a)&&vl (Y3 b.2.1)&&vl (Y3 c))
def B0d(b:r8)(f:List ByteArray)(e:List ByteArray×Int->Option Bool):List ByteArray×Int->Option Bool
 | (c,a) =>
 if(decide (a < (b.2.2.length:Int))) then
  gd (ix a b.2.2.length/\True)<|lt (b.2.2.getD a.toNat (b7 y202)) fun d =>
  gd ((c.length+[d.1].length<=9223372036854775807/\(c.length+[d.1].length)*16<=140737488355328)/\True) <|
  gd (c9 (a+1)/\True) <|
  e (c++[d.1],a+1)
 else
  LR f b c
def LS(b:r8):List ByteArray->Option Bool
 | a =>
 lp (B0d b a) ([],0)
def B0e(c:r8)(e:List ByteArray×Int->Option Bool):List ByteArray×Int->Option Bool
 | (b,a) =>
 if(decide (a < (c.1.length:Int))) then
  gd (ix a c.1.length/\True)<|lt (c.1.getD a.toNat (b7 y139)) fun d =>
  gd ((b.length+[d.1].length<=9223372036854775807/\(b.length+[d.1].length)*16<=140737488355328)/\True) <|
  gd (c9 (a+1)/\True) <|
  e (b++[d.1],a+1)
 else
  LS c b
def PD(a:r8):Option Bool :=
 lp (B0e a) ([],0)
def Q0R:Ct:=j9 134 [.agg y31] (fun x=>PD x.1) (fun r:Bool=>B r) (fun _=>())
theorem O0J:Ok prog Q0R:=by
 refine k6 [.tmp 2] func134 ?_;intro y ⟨a,_⟩ r H Q hn hr;have:=hz (tc Ux tn);refine iA [1]<|iA [1,3,4]<|jN r (fun(b:List ByteArray)=>Z (Dn [p 4 (nil)]) [(1,K 31 y31 a),(20,A 9 Ty.str b 0)]) (LS a) (fun b H=>?_) (fun _ l s t=>?_)
 ·refine jN r (fun(h:List ByteArray)=>Z (Dn [p 4 (O 33)]) [(1,K 31 y31 a),(20,A 9 Ty.str b 0),(33,A 9 Ty.str h 0)]) (LR b a) (fun h H=>?_) (fun _ m x u=>?_)
  ·refine iB [2] H fun H=>j0<|hr H
  refine iA [1,3,4,23,24,25]<|vB<|lX (fun((e,d):List ByteArray×Int)=>Z (Dn [p 4 (O 33),p 23 (L y202 a.2.2),p 24 (I (a.2.2.length:Int)),p 25 (I d)]) [(1,K 31 y31 a),(20,A 9 Ty.str b 0),(33,A 9 Ty.str e 0)]) ([],0) H fun _ q k j z ⟨e,d⟩ H=>iA [1,3,4,23,24,25,26]<|vQ<|cD H (fun H=>vK<|fQ<|vQ<|vB<|qD (fun i=>Z (Dn [p 4 (O 33),p 8 (R 8),p 23 (L y202 a.2.2),p 24 (I (a.2.2.length:Int)),p 25 (I d)]) [(8,K 202 y202 i),(1,K 31 y31 a),(20,A 9 Ty.str b 0),(33,A 9 Ty.str e 0)]) H fun i H=>jB [1,3,4,23,24,25] H fun H=>fK<|fQ<|jB [1,3,4,23,24,25] H fun H=>k H) fun H=>vE<|fE<|j<|fX rfl<|m H
 refine iA [1,3,4,10,11,12]<|vB<|lX (fun((f,c):List ByteArray×Int)=>Z (Dn [p 4 (nil),p 10 (L y139 a.1),p 11 (I (a.1.length:Int)),p 12 (I c)]) [(1,K 31 y31 a),(20,A 9 Ty.str f 0)]) ([],0) H fun _ w o n v ⟨f,c⟩ H=>iA [1,3,4,10,11,12,13]<|vQ<|cD H (fun H=>vK<|fQ<|vQ<|vB<|qD (fun g=>Z (Dn [p 4 (nil),p 6 (R 6),p 10 (L y139 a.1),p 11 (I (a.1.length:Int)),p 12 (I c)]) [(6,K 139 y139 g),(1,K 31 y31 a),(20,A 9 Ty.str f 0)]) H fun g H=>jB [1,3,4,10,11,12] H fun H=>fK<|fQ<|jB [1,3,4,10,11,12] H fun H=>o H) fun H=>vE<|fE<|n<|fX rfl<|l H
def Uy(a:A8)(b:Int):Option Bool :=
 some (a.1==b)
def P0q:Ct:=j9 239 [.agg y67,.dat (.pt i64)] (fun x=>Uy x.1 x.2.1) (fun r:Bool=>B r) (fun _=>())
theorem Uz:Ok prog P0q:=by
 refine k6 [.tmp 3] func239 ?_;intro y ⟨_,_,_⟩ r H Q hn hr;refine iA [1,2]<|iA [3]<|j0<|hr H
def j0D:Unit->Option Int
 | _ =>
 some (-1)
def r0G(b:List A8)(c:Int)(d:Int->Option Int):Int->Option Int
 | a =>
 if(decide (a < (b.length:Int))) then
  gd (ix a b.length/\(Uy (b.getD a.toNat (b7 y67)) c).isSome/\True) <|
  if(vl (Uy (b.getD a.toNat (b7 y67)) c)) then
   some a
  else
   gd (c9 (a+1)/\True) <|
   d (a+1)
 else
  j0D ()
def PE(a:List A8)(b:Int):Option Int :=
 lp (r0G a b) 0
def y0Y:Ct:=j9 238 [.dat y67.sl,.fn 239 i64.pt] (fun x=>PE x.1 x.2.1) (fun r:Int=>I r) (fun _=>())
theorem q0p:Ok prog y0Y:=by
 refine k6 [.tmp 4] func238 ?_;intro y ⟨a,d,_⟩ r H Q hn hr;have:=hz (tc Uz tn);refine iA [0,1]<|jN r (fun(_:Unit)=>Z [] []) (j0D) (fun _ H=>?_) (fun _ c j g=>?_)
 ·refine iA [4]<|j0<|hr H
 refine iA [0,1,7,8]<|vB<|lX (fun(b:Int)=>Z [p 0 (L y67 a),p 1 (AV.fn 239 [D i64.pt d]),p 7 (I (a.length:Int)),p 8 (I b)] []) 0 H fun _ i f e h b H=>iA [0,1,7,8,9]<|vQ<|cD H (fun H=>?_) (fun H=>?_)
 ·refine vK<|fQ<|vQ<|vB<|iA [0,1,5,7,8]<|iB [0,1,5,7,8,16] H fun H=>cD H (fun H=>iA [4]<|j0<|l9<|fR<|h<|l9<|g<|hr H) fun H=>vK<|fK<|fQ<|jB [0,1,7,8] H fun H=>f H
 exact vE<|fE<|e<|fX rfl<|c H
def PF(a:List A8)(b:Int):Option Bool :=
 gd ((PE a b).isSome/\True)<|lt (vl (PE a b)) fun c =>
 some (decide (0<=c))
def z0a:Ct:=j9 221 [.dat y67.sl,.fn 239 (.pt i64)] (fun x=>PF x.1 x.2.1) (fun r:Bool=>B r) (fun _=>())
theorem q0q:Ok prog z0a:=by
 refine k6 [.tmp 4] func221 ?_;intro y ⟨_,_,_⟩ r H Q hn hr;have:=hz (tc q0p (tc Uz tn));refine iA [0,1]<|qD (fun a=>Z [p 4 (B (decide (0<=a)))] []) H fun a H=>j0<|hr H
def O8(a:m5)(b:Int):Option Bool :=
 gd ((PF a.2.2.2.1 b).isSome/\True) <|
 some (vl (PF a.2.2.2.1 b))
def P0B:Ct:=j9 224 [.agg y64,.dat i64] (fun x=>O8 x.1 x.2.1) (fun r:Bool=>B r) (fun _=>())
theorem N0N:Ok prog P0B:=by
 refine k6 [.tmp 4] func224 ?_;intro y ⟨_,_,_⟩ r H Q hn hr;have:=hz (tc q0q (tc Uz tn));refine iA [2,3]<|iB [4] H fun H=>j0<|hr H
def CC(a:List I3):Option Int :=
 some (a.length:Int)
def P0F:Ct:=j9 219 [.dat y233.sl] (fun x=>CC x.1) (fun r:Int=>I r) (fun _=>())
theorem L0U:Ok prog P0F:=by
 refine k6 [.tmp 2] func219 ?_;intro y ⟨_,_⟩ r H Q hn hr;refine iA [0]<|iA [2]<|j0<|hr H
def W5(a:m5):Option Int :=
 gd ((CC a.2.2.1).isSome/\c9 (vl (CC a.2.2.1)-1)/\True)<|lt (vl (CC a.2.2.1)) fun b =>
 some (b-1)
def P0C:Ct:=j9 223 [.agg y64] (fun x=>W5 x.1) (fun r:Int=>I r) (fun _=>())
theorem UA:Ok prog P0C:=by
 refine k6 [.tmp 2] func223 ?_;intro y ⟨b,_⟩ r H Q hn hr;have:=hz (tc L0U tn);refine iA [1]<|qD (fun a=>Z [p 2 (I (a-1))] [(1,K 64 y64 b)]) H fun a H=>j0<|hr H
def Jg(a:m5):Int->Option Bool
 | b =>
 if(a.2.1==1) then
  gd (((b==(0:Int))=true/\True->(W5 a).isSome)/\((b==(0:Int))=true/\True->((0:Int)<=vl (W5 a)/\vl (W5 a)<=(62:Int))/\c9 ((1:Int)*(2:Int) ^ (vl (W5 a)).toNat))/\((b==(0:Int)&&(a.2.2.2.2.1.length:Int)==(1:Int)*(2:j5 i64) ^ (vl (W5 a)).toNat)=true/\True->(I0 a.2.2.2.2.1 (0:Int) (1:Int)).isSome)/\True)<|lt (vl (W5 a)) fun c =>
  some (b==(0:Int)&&(a.2.2.2.2.1.length:Int)==(1:Int)*(2:j5 i64) ^ c.toNat&&vl (I0 a.2.2.2.2.1 (0:Int) (1:Int)))
 else
  if(a.2.1==2) then
   gd (((b==1&&(a.2.2.2.2.1.length:Int)==0)=true/\True->(O8 a 1).isSome)/\((b==1&&(a.2.2.2.2.1.length:Int)==0&&!vl (O8 a 1))=true/\True->(O8 a 2).isSome)/\((b==1&&(a.2.2.2.2.1.length:Int)==0&&!vl (O8 a 1))=true/\True->(O8 a 3).isSome)/\True) <|
   some (b==1&&(a.2.2.2.2.1.length:Int)==0&&!vl (O8 a 1)&&!vl (O8 a 2)==vl (O8 a 3))
  else
   if(a.2.1==3) then
    gd (((b==1&&(a.2.2.2.2.1.length:Int)==0)=true/\True->(O8 a 1).isSome)/\((b==1&&(a.2.2.2.2.1.length:Int)==0&&vl (O8 a 1))=true/\True->(O8 a 2).isSome)/\((b==1&&(a.2.2.2.2.1.length:Int)==0&&vl (O8 a 1)&&vl (O8 a 2))=true/\True->(O8 a 3).isSome)/\True) <|
    some (b==1&&(a.2.2.2.2.1.length:Int)==0&&vl (O8 a 1)&&vl (O8 a 2)&&!vl (O8 a 3))
   else
    some false
def PG(a:Int)(b:Int×Int->Option Bool):Int->Option Bool
 | c =>
 gd (c9 (a+1)/\True) <|
 b (c,a+1)
def A0r(b:m5)(d:Int×Int->Option Bool):Int×Int->Option Bool
 | (c,a) =>
 if(decide (a < (b.2.2.1.length:Int))) then
  gd (ix a b.2.2.1.length/\True)<|lt (b.2.2.1.getD a.toNat (b7 y233)) fun e =>
  if e.2.2.2 then
   gd (c9 (c+1)/\True) <|
   PG a d (c+1)
  else
   PG a d c
 else
  Jg b c
def PH(a:m5):Option Bool :=
 lp (A0r a) (0,0)
def P0Q:Ct:=j9 203 [.agg y64] (fun x=>PH x.1) (fun r:Bool=>B r) (fun _=>())
theorem N0X:Ok prog P0Q:=by
 refine k6 [.tmp 2] func203 ?_;intro y ⟨a,_⟩ r H Q hn hr;have:=hz (tc N0N (tc LN (tc UA tn)));refine iA [1]<|iA [1,3]<|jN r (fun(d:Int)=>Z (O6 d []) [(1,K 64 y64 a)]) (Jg a) (fun d H=>?_) (fun _ j n q=>?_)
 ·refine vQ<|iA [1,3,19]<|vB<|iA [1,3,19,20]<|cD H (fun H=>qD (fun g=>Z [p 2 (B (d==(0:Int)&&(a.2.2.2.2.1.length:Int)==(1:Int)*(2:j5 i64) ^ g.toNat&&vl (I0 a.2.2.2.2.1 (0:Int) (1:Int))))] [(1,K 64 y64 a)]) H fun g H=>j0<|l9<|fR<|hr H) fun H=>iA [1,3,19,38]<|cD H (fun H=>iB [2] H fun H=>j0<|l9<|fR<|hr H) fun H=>iA [1,3,60]<|cD H (fun H=>iB [2] H fun H=>j0<|l9<|fR<|hr H) fun H=>vK<|fK<|fQ<|iA [2]<|j0<|hr H
 refine iA [1,3,7,8,9]<|vB<|lX (fun((c,b):Int×Int)=>Z (O6 c [p 7 (L y233 a.2.2.1),p 8 (I (a.2.2.1.length:Int)),p 9 (I b)]) [(1,K 64 y64 a)]) (0,0) H fun _ i l k s ⟨c,b⟩ H=>iA [1,3,7,8,9,10]<|vQ<|cD H (fun H=>?_) (fun H=>?_)
 ·refine vK<|fQ<|jN r (fun(e:Int)=>Z (O6 e [p 7 (L y233 a.2.2.1),p 8 (I (a.2.2.1.length:Int)),p 9 (I b)]) [(1,K 64 y64 a)]) (PG b i) (fun e H=>?_) (fun _ f m o=>?_)
  ·refine jB [1,3,7,8,9] H fun H=>l H
  refine vB<|qD (fun h=>Z (O6 c [p 5 (R 5),p 7 (L y233 a.2.2.1),p 8 (I (a.2.2.1.length:Int)),p 9 (I b)]) [(5,K 233 y233 h),(1,K 64 y64 a)]) H fun h H=>iA [1,3,7,8,9,14]<|cD H (fun H=>jB [1,3,7,8,9] H fun H=>fK<|f H) fun H=>vK<|fK<|f H
 exact vE<|fE<|k<|fX rfl<|j H
def Du(a:m5)(b:Int):Option Bool :=
 gd ((W5 a).isSome/\c9 (vl (W5 a)-1)/\(A9 b 0 (vl (W5 a)-1)).isSome/\True) <|
 some (vl (A9 b 0 (vl (W5 a)-1)))
def P0r:Ct:=j9 237 [.agg y64,.dat i64] (fun x=>Du x.1 x.2.1) (fun r:Bool=>B r) (fun _=>())
theorem N0D:Ok prog P0r:=by
 refine k6 [.tmp 4] func237 ?_;intro y ⟨_,_,_⟩ r H Q hn hr;have:=hz (tc Ae (tc UA tn));refine iA [1,2]<|iB [4] H fun H=>j0<|hr H
def A0b:Int->Option Int
 | a =>
 some a
def UB(b:List Int)(d:Int×Int->Option Int):Int×Int->Option Int
 | (c,a) =>
 if(decide (a < (b.length:Int))) then
  gd (ix a b.length/\True) <|
  gd (c9 (a+1)/\True) <|
  d ((min c (b.getD a.toNat 0),a+1))
 else
  A0b c
def UC(a:List Int):Unit->Option Int
 | _ =>
 gd (ix 0 a.length/\True) <|
 lp (UB a) ((a.getD (Int.toNat (0:Int)) (0:Int),1))
def Jh(a:List Int):Option Int :=
 if(decide ((a.length:Int)<1)) then
  none
 else
  UC a ()
def P0k:Ct:=j9 249 [.dat i64.sl] (fun x=>Jh x.1) (fun r:Int=>I r) (fun _=>())
theorem N0y:Ok prog P0k:=by
 refine k6 [.tmp 2] func249 ?_;intro y ⟨a,_⟩ r H Q hn hr;refine iA [0]<|jN r (fun(_:Unit)=>Z [p 0 (L i64 a)] []) (UC a) (fun _ H=>?_) (fun _ f j m=>?_)
 ·refine iB [0,3] H fun H=>jN r (fun(c:Int)=>Z [p 3 (J c)] []) (A0b) (fun c H=>?_) (fun _ g k n=>?_)
  ·refine iA [2]<|j0<|hr H
  refine iA [0,3,4]<|vB<|lX (fun((b,d):Int×Int)=>Z [p 0 (L i64 a),p 3 (J b),p 4 (I d)] []) ((a.getD (Int.toNat (0:Int)) (0:Int),1)) H fun _ i h e l ⟨b,d⟩ H=>vQ<|iA [0,3,4,15]<|cD H (fun H=>vK<|fQ<|vQ<|vB<|jB [0,3,4] H fun H=>fK<|fQ<|jB [0,3,4] H fun H=>h H) fun H=>vE<|fE<|e<|fX rfl<|g H
 refine iA [0,7]<|cD H (fun H=>UD H) fun H=>vK<|f H
def B0q:Unit->Option Bool
 | _ =>
 some true
def B0p(b:List Int)(c:Int->Option Bool):Int->Option Bool
 | a =>
 if(decide (a < (b.length:Int))) then
  gd (c9 (a-1)/\ix (a-1) b.length/\ix a b.length/\True) <|
  if(decide (b.getD a.toNat 0<=b.getD (a-1).toNat 0)) then
   some false
  else
   gd (c9 (a+1)/\True) <|
   c (a+1)
 else
  B0q ()
def CD(a:List Int):Option Bool :=
 lp (B0p a) 1
def R0a:Ct:=j9 124 [.dat i64.sl] (fun x=>CD x.1) (fun r:Bool=>B r) (fun _=>())
theorem M0h:Ok prog R0a:=by
 refine k6 [.tmp 2] func124 ?_;intro y ⟨b,_⟩ r H Q hn hr;refine iA [0]<|jN r (fun(_:Unit)=>Z [] []) (B0q) (fun _ H=>?_) (fun _ c i f=>?_)
 ·refine iA [2]<|j0<|hr H
 refine iA [0,3]<|vB<|lX (fun(a:Int)=>Z [p 0 (L i64 b),p 3 (I a)] []) 1 H fun _ h e d g a H=>vQ<|iA [0,3,7]<|cD H (fun H=>?_) (fun H=>?_)
 ·refine vK<|fQ<|vQ<|vB<|iB [0,3,19] H fun H=>cD H (fun H=>iA [2]<|j0<|l9<|fR<|g<|l9<|f<|hr H) fun H=>vK<|fK<|fQ<|jB [0,3] H fun H=>e H
 exact vE<|fE<|d<|fX rfl<|c H
def Bi(a:List Int):Option Bool :=
 gd ((D5 a).isSome/\(A9 (vl (D5 a)) 1 4).isSome/\(vl (A9 (vl (D5 a)) 1 4)=true/\True->(I0 a 0 100000).isSome)/\((vl (A9 (vl (D5 a)) 1 4)&&vl (I0 a 0 100000))=true/\True->(CD a).isSome)/\True) <|
 some (vl (A9 (vl (D5 a)) 1 4)&&vl (I0 a 0 100000)&&vl (CD a))
def P0i:Ct:=j9 253 [.dat i64.sl] (fun x=>Bi x.1) (fun r:Bool=>B r) (fun _=>())
theorem N0x:Ok prog P0i:=by
 refine k6 [.tmp 2] func253 ?_;intro y ⟨_,_⟩ r H Q hn hr;have:=hz (tc M0h (tc LN (tc Ae (tc Ug tn))));refine iA [0]<|iB [2] H fun H=>j0<|hr H
end Go.Proofs.YtdjgagoledoaaaaGreatDoor
end
