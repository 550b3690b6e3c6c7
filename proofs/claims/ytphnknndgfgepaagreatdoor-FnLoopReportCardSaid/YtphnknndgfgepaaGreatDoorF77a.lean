/- Functions of this program as plain functions of data, and that they are so: printed by program. -/
import Derived.Test.YtphnknndgfgepaaGreatDoorXE
import Derived.Test.YtphnknndgfgepaaGreatDoorXF
import Derived.Test.YtphnknndgfgepaaGreatDoorTY
import Derived.Test.YtphnknndgfgepaaGreatDoorLB
section
namespace Go.Proofs.YtphnknndgfgepaaGreatDoor
open Go Go.Proofs Go.Proofs.Sv Go.Proofs.Xv Go.Proofs.Xl Go.RowKit
open Tryz
instance:HG Tryz.prog Γ:=⟨tok⟩
abbrev bx(T:TypeId)(c:List AV):Ob:=.box T c
abbrev b8:Ty:=.int .u8
abbrev Q0{α1:Type}{α2:Type}(x:ByteArray×Int×α1×α2×den (.sl i64)×Int×Int):List AV:=[S x.1,I x.2.1,AV.os 21 0,AV.os 1021 0,L i64 x.2.2.2.2.1,I x.2.2.2.2.2.1,I x.2.2.2.2.2.2]
abbrev Q1{α1:Type}{α2:Type}(x:ByteArray×Int×α1×α2×den (.sl i64)×Int×Int):List AV:=[S x.1,I x.2.1,AV.os 18 0,AV.os 1018 0,L i64 x.2.2.2.2.1,I x.2.2.2.2.2.1,I x.2.2.2.2.2.2]
abbrev Q2{α1:Type}{α2:Type}(x:ByteArray×Int×α1×α2×den (.sl i64)×Int×Int):List AV:=[S x.1,I x.2.1,AV.os 24 0,AV.os 1024 0,L i64 x.2.2.2.2.1,I x.2.2.2.2.2.1,I x.2.2.2.2.2.2]
abbrev Q3(x:den (.sl y163)×(den (.sl y165)×den (.sl Ty.str)×den (.sl y175))×den (.sl a0j)):List AV:=[L y163 x.1,L y165 x.2.1.1,L Ty.str x.2.1.2.1,L y175 x.2.1.2.2,L a0j x.2.2,AV.os 18 0,AV.os 38 0,AV.os 102 0,AV.os 114 0,nil]
abbrev Q4(x:den (.sl y163)×(den (.sl y165)×den (.sl Ty.str)×den (.sl y175))×den (.sl a0j)):List AV:=[L y163 x.1,L y165 x.2.1.1,L Ty.str x.2.1.2.1,L y175 x.2.1.2.2,L a0j x.2.2,AV.os 18 0,AV.os 38 0,nil,nil,nil]
abbrev Q5(x:den (.sl y163)×(den (.sl y165)×den (.sl Ty.str)×den (.sl y175))×den (.sl a0j)):List AV:=[L y163 x.1,M y165 x.2.1.1,M Ty.str x.2.1.2.1,M y175 x.2.1.2.2,M a0j x.2.2]
abbrev Q6{α1:Type}{α2:Type}(x:ByteArray×Int×α1×α2×den (.sl i64)×Int×Int):List AV:=[S x.1,I x.2.1,AV.os 15 0,AV.os 1015 0,L i64 x.2.2.2.2.1,I x.2.2.2.2.2.1,I x.2.2.2.2.2.2]
abbrev Q7(x:ByteArray×Int×den (.sl y217)×den (.sl y143)×den (.sl i64)×Int×Int):List AV:=[S x.1,I x.2.1,M y217 x.2.2.1,M y143 x.2.2.2.1,L i64 x.2.2.2.2.1,I x.2.2.2.2.2.1,I x.2.2.2.2.2.2]
abbrev Q8{α1:Type}{α2:Type}(x:ByteArray×Int×α1×α2×den (.sl i64)×Int×Int):List AV:=[S x.1,I x.2.1,AV.os 27 0,AV.os 1027 0,L i64 x.2.2.2.2.1,I x.2.2.2.2.2.1,I x.2.2.2.2.2.2]
abbrev Q9(x:den (.sl y165)×den (.sl Ty.str)×den (.sl y175)):List AV:=[AV.os 9 0,M y165 x.1,M Ty.str x.2.1,M y175 x.2.2,AV.os 1009 0]
abbrev Q10(x:ByteArray×Int×den (.sl y217)×den (.sl y143)×Int×Int):List AV:=[S x.1,I x.2.1,M y217 x.2.2.1,M y143 x.2.2.2.1,nil,I x.2.2.2.2.1,I x.2.2.2.2.2]
abbrev Q11(x:den (.sl y163)×(den (.sl y165)×den (.sl Ty.str)×den (.sl y175))×den (.sl a0j)):List AV:=[L y163 x.1,L y165 x.2.1.1,L Ty.str x.2.1.2.1,L y175 x.2.1.2.2,L a0j x.2.2,AV.os 18 0,AV.os 38 1,nil,nil,nil]
abbrev Q12(x:den (.sl y163)×(den (.sl y165)×den (.sl Ty.str)×den (.sl y175))×den (.sl a0j)):List AV:=[L y163 x.1,L y165 x.2.1.1,L Ty.str x.2.1.2.1,L y175 x.2.1.2.2,L a0j x.2.2,AV.os 18 0,nil,nil,nil,nil]
abbrev Q13{α1:Type}{α2:Type}(x:ByteArray×Int×α1×α2×Int×Int):List AV:=[S x.1,I x.2.1,AV.os 29 0,AV.os 1029 0,nil,I x.2.2.2.2.1,I x.2.2.2.2.2]
abbrev Q14(x:den i64.pt×den i64.pt):List AV:=[D i64.pt x.1,D i64.pt x.2]
abbrev Q60(x1:den (.sl y165)):List AV:=[M y165 x1,AV.os 18 0,AV.os 23 0]
abbrev Q61(x1:den (.sl y165))(x2:den (.sl Ty.str))(x3:den (.sl y175)):List AV:=[M y165 x1,M Ty.str x2,M y175 x3]
abbrev Q62(x1:ByteArray)(x2:Int)(x3:Int)(x4:Int):List AV:=[S x1,I x2,nil,nil,nil,I x3,I x4]
abbrev Q63(x1:den (.sl b8))(x2:Int)(x3:Int):List AV:=[L b8 x1,J x2,J x3]
abbrev Q64(x1:den (.sl y165))(x2:den (.sl Ty.str))(x3:den (.sl y175)):List AV:=[AV.os 9 0,M y165 x1,M Ty.str x2,M y175 x3,AV.os 1009 0]
abbrev Q65(x1:den (.sl i64))(x2:den (.sl i64))(x3:den (.sl i64)):List AV:=[M i64 x1,M i64 x2,M i64 x3,AV.os 3012 0]
abbrev Q66(x1:den y100.pt):List AV:=[D y100.pt x1,AV.os 15 0]
abbrev W0(y0:den (.sl y165))(y1:List (den y175))(y2:List (den Ty.str))(y3:den (.sl y165))(y4:den (.sl Ty.str))(y5:den (.sl y175)):List (Nat×Ob):=[(7,bx 31 (Q60 y0)),(23,A 175 y175 y1 0),(18,A 9 Ty.str y2 0),(6,bx 31 (Q61 y3 y4 y5))]
abbrev W1(y0:den y143):List (Nat×Ob):=[(10,A 210 (i64.pr i64) [((0:Int),(1:Int)),((1:Int),(0:Int))] 0),(7,A 210 (i64.pr i64) [((0:Int),(0:Int)),((1:Int),(1:Int))] 0),(1,K 143 y143 y0)]
abbrev G2(y0:Bool)(y1:Int)(t:List (Nat×Sl)):List (Nat×Sl):=p 0 (R 500000) :: p 2 (C y0) :: p 6 (R 6) :: p 7 (R 7) :: p 8 (O 25) :: p 9 (O 26) :: p 10 (O 27) :: p 11 (I y1) :: t
abbrev W3(y0:List (den a0j))(y1:List (den y163)):List (Nat×Ob):=[(1009,A 110 a0j y0 0),(9,Ob.arr 163 false y163 y1 0),(2,bx 34 [nil,nil,nil,nil,nil])]
abbrev W4(y0:List (den y105))(y1:den y34)(y2:List (den y48)):List (Nat×Ob):=[(18,A 105 y105 y0 0),(1,K 34 y34 y1),(38,A 48 y48 y2 0)]
abbrev G5(y0:den y127.pt)(y1:Int)(t:List (Nat×Sl)):List (Nat×Sl):=p 0 (D y127.pt y0) :: p 3 (I y1) :: p 4 (O 28) :: p 6 (O 31) :: p 7 (O 87) :: t
abbrev W6(y0:den y31)(y1:List (den y163)):List (Nat×Ob):=[(3,K 31 y31 y0),(2,bx 26 [L y163 y1])]
abbrev G7(y0:Int)(y1:List (den y48))(y2:List (den Ty.bool))(y3:Int)(t:List (Nat×Sl)):List (Nat×Sl):=p 0 (J y0) :: p 1 (L y48 y1) :: p 2 (L Ty.bool y2) :: p 7 (O 14) :: p 8 (O 16) :: p 9 (I y3) :: t
abbrev G8(y0:Int)(y1:Int)(y2:Int)(y3:Int)(t:List (Nat×Sl)):List (Nat×Sl):=p 0 (O 500000) :: p 2 (J y0) :: p 3 (J y1) :: p 4 (J y2) :: p 6 (R 6) :: p 11 (I y3) :: t
abbrev G9(t:List (Nat×Sl)):List (Nat×Sl):=p 1 (R 1) :: p 3 (R 20) :: p 7 (O 50) :: t
abbrev W10(y0:List (den Ty.bool))(y1:List (den Ty.bool.sl))(y2:List (den i64.sl))(y3:List (den i64)):List (Nat×Ob):=[(31,A 4 Ty.bool y0 0),(28,A 94 Ty.bool.sl y1 0),(87,A 35 i64.sl y2 0),(63,A 2 i64 y3 0)]
abbrev G11(t:List (Nat×Sl)):List (Nat×Sl):=p 2 (R 2) :: p 3 (R 3) :: t
abbrev G12(y0:Int)(t:List (Nat×Sl)):List (Nat×Sl):=p 0 (R 500000) :: p 1 (J y0) :: t
abbrev W13(y0:den y143)(y1:den y163):List (Nat×Ob):=[(3,K 143 y143 y0),(2,K 163 y163 y1)]
abbrev G14(y0:Int)(t:List (Nat×Sl)):List (Nat×Sl):=p 1 (R 1) :: p 3 (I y0) :: t
abbrev W15(y0:den (.sl b8))(y1:Int)(y2:Int):List (Nat×Ob):=[(500000,bx 152 (Q63 y0 y1 y2)),(6,bx 163 (Q62 (ByteArray.mk #[]) 0 0 0))]
abbrev W16(y0:List (den y163)):List (Nat×Ob):=[(7,bx 26 [AV.os 12 0]),(12,Ob.arr 163 false y163 y0 0),(6,bx 34 [nil,nil,nil,nil,nil])]
abbrev G17(y0:List (den y48))(y1:List (den Ty.bool))(y2:Bool)(t:List (Nat×Sl)):List (Nat×Sl):=p 1 (L y48 y0) :: p 2 (L Ty.bool y1) :: p 4 (C y2) :: p 11 (O 17) :: t
abbrev W18(y0:List (den i64)):List (Nat×Ob):=[(12,A 2 i64 y0 0),(4,bx 140 [nil,nil,nil])]
abbrev W19(y0:List (den i64)):List (Nat×Ob):=[(3012,A 2 i64 y0 0),(4,bx 110 [nil,nil,nil,nil])]
abbrev W20(y0:List (den Ty.bool))(y1:List (den Ty.bool.sl))(y2:List (den i64.sl)):List (Nat×Ob):=[(31,A 4 Ty.bool y0 0),(28,A 94 Ty.bool.sl y1 0),(87,A 35 i64.sl y2 0)]
abbrev W21(y0:den y143)(y1:List (den y48)):List (Nat×Ob):=[(6,K 143 y143 y0),(500000,A 48 y48 y1 0)]
abbrev G22(t:List (Nat×Sl)):List (Nat×Sl):=p 0 (R 500000) :: p 2 (R 2) :: t
abbrev G23(t:List (Nat×Sl)):List (Nat×Sl):=p 0 (R 500000) :: p 4 (R 4) :: p 5 (R 5) :: t
abbrev G24(y0:den y127.pt)(t:List (Nat×Sl)):List (Nat×Sl):=p 0 (D y127.pt y0) :: p 4 (O 16) :: t
abbrev G25(y0:den y127.pt)(y1:List (den i64))(t:List (Nat×Sl)):List (Nat×Sl):=p 0 (D y127.pt y0) :: p 1 (L i64 y1) :: t
abbrev W26(y0:List (den Ty.bool))(y1:List (den i64.sl)):List (Nat×Ob):=[(16,A 4 Ty.bool y0 0),(14,A 35 i64.sl y1 0)]
abbrev G27(t:List (Nat×Sl)):List (Nat×Sl):=p 0 (R 500000) :: p 6 (R 6) :: t
abbrev G28(y0:Bool)(t:List (Nat×Sl)):List (Nat×Sl):=p 0 (R 500000) :: p 2 (C y0) :: p 6 (R 6) :: p 7 (R 7) :: p 9 (O 26) :: p 10 (O 27) :: t
abbrev W29(y0:List (den i64.sl))(y1:List (den Ty.bool))(y2:List (den y48)):List (Nat×Ob):=[(21,A 35 i64.sl y0 0),(15,A 4 Ty.bool y1 0),(12,A 48 y48 y2 0)]
abbrev W30(y0:den y100.pt)(y1:List (den Ty.bool)):List (Nat×Ob):=[(17,bx 127 (Q66 y0)),(15,A 4 Ty.bool y1 0)]
abbrev G31(y0:Int)(y1:Int)(y2:Int)(t:List (Nat×Sl)):List (Nat×Sl):=p 1 (R 1) :: p 4 (I y0) :: p 5 (I y1) :: p 6 (I y2) :: t
abbrev W32(y0:den y105)(y1:List (den y163))(y2:den y31):List (Nat×Ob):=[(5,K 105 y105 y0),(4,bx 26 [L y163 y1]),(3,K 31 y31 y2)]
abbrev W33(y0:den y217)(y1:den y163):List (Nat×Ob):=[(7,K 217 y217 y0),(1,K 163 y163 y1)]
abbrev W34(y0:List (den Ty.str)):List (Nat×Ob):=[(15,A 9 Ty.str y0 0),(6,bx 163 (Q62 (ByteArray.mk #[]) 0 0 0))]
abbrev W35(y0:List (den i64))(y1:den (.sl y163)×(den (.sl y165)×den (.sl Ty.str)×den (.sl y175))×den (.sl a0j)):List (Nat×Ob):=[(25,A 2 i64 y0 0),(3,bx 34 (Q5 y1))]
abbrev W36(y0:List (den y143))(y1:List (den y217)):List (Nat×Ob):=[(1015,A 143 y143 y0 0),(15,A 217 y217 y1 0),(3,bx 26 [nil]),(2,bx 26 [nil])]
abbrev W37(y0:List (den Ty.str))(y1:den y31):List (Nat×Ob):=[(41,A 9 Ty.str y0 0),(3,K 31 y31 y1)]
abbrev G38(y0:Int)(t:List (Nat×Sl)):List (Nat×Sl):=p 1 (R 1) :: p 3 (O 12) :: p 4 (R 4) :: p 5 (I y0) :: t
abbrev W39(y0:List (den y175))(y1:List (den Ty.str))(y2:den a0n):List (Nat×Ob):=[(7,bx 31 [nil,AV.os 18 0,AV.os 23 0]),(23,A 175 y175 y0 0),(18,A 9 Ty.str y1 0),(6,bx 31 [nil,nil,nil]),(500000,K 152 a0n y2)]
abbrev G40(y0:Int)(t:List (Nat×Sl)):List (Nat×Sl):=p 3 (O 12) :: p 4 (O 15) :: p 5 (I y0) :: p 6 (O 21) :: t
abbrev G41(y0:List (den i64.sl))(t:List (Nat×Sl)):List (Nat×Sl):=p 7 (M i64.sl y0) :: p 12 (O 63) :: t
abbrev G42(y0:List (den i64))(t:List (Nat×Sl)):List (Nat×Sl):=p 0 (R 500000) :: p 2 (L i64 y0) :: p 6 (R 6) :: p 7 (O 15) :: p 8 (R 8) :: t
abbrev W43(y0:den a0n):List (Nat×Ob):=[(500000,K 152 a0n y0),(2,bx 34 [nil,nil,nil,nil,nil])]
abbrev W44(y0:List (den i64))(y1:den y31):List (Nat×Ob):=[(92,A 2 i64 y0 0),(3,K 31 y31 y1)]
abbrev W45(y0:den y31)(y1:List (den y48))(y2:den y34):List (Nat×Ob):=[(4,K 31 y31 y0),(12,A 48 y48 y1 0),(1,K 34 y34 y2)]
abbrev W46(y0:List (den b0G))(y1:den y31):List (Nat×Ob):=[(8,A 179 b0G y0 0),(1,K 31 y31 y1)]
abbrev W47(y0:den y140):List (Nat×Ob):=[(2,bx 75 [I 0,I 0]),(1,K 140 y140 y0)]
abbrev W48(y0:den y31)(y1:List (den y105)):List (Nat×Ob):=[(1,K 31 y31 y0),(38,A 105 y105 y1 0)]
abbrev G49(y0:List (den i64))(y1:Int)(t:List (Nat×Sl)):List (Nat×Sl):=p 0 (L i64 y0) :: p 1 (J y1) :: t
abbrev W50(y0:ByteArray)(y1:Int)(y2:Int)(y3:Int)(y4:List (den y217)):List (Nat×Ob):=[(9,bx 163 [U y0,J y1,AV.os 27 0,nil,nil,I y2,I y3]),(27,A 217 y217 y4 0),(8,bx 163 (Q62 (ByteArray.mk #[]) 0 0 0))]
abbrev G51(t:List (Nat×Sl)):List (Nat×Sl):=p 1 (R 1) :: p 3 (O 20) :: t
abbrev G52(y0:Int)(t:List (Nat×Sl)):List (Nat×Sl):=p 1 (J y0) :: p 2 (R 2) :: t
abbrev W53(y0:den y31)(y1:List (den y48)):List (Nat×Ob):=[(4,K 31 y31 y0),(12,A 48 y48 y1 0)]
abbrev G54(t:List (Nat×Sl)):List (Nat×Sl):=p 3 (R 3) :: p 9 (O 92) :: t
abbrev G55(y0:Int)(t:List (Nat×Sl)):List (Nat×Sl):=p 2 (R 2) :: p 5 (R 5) :: p 6 (O 18) :: p 7 (O 21) :: p 25 (O 25) :: p 26 (I y0) :: t
abbrev W56(y0:den y100.pt)(y1:List (den Ty.bool))(y2:List (den i64)):List (Nat×Ob):=[(1009,bx 127 [D y100.pt y0,AV.os 9 0]),(9,A 4 Ty.bool y1 0),(34,A 2 i64 y2 0)]
abbrev W57(y0:den y48)(y1:List (den i64)):List (Nat×Ob):=[(7,K 48 y48 y0),(36,A 2 i64 y1 0)]
abbrev W58(y0:List (den i64))(y1:den y31):List (Nat×Ob):=[(21,A 3 i64 y0 0),(3,K 31 y31 y1)]
abbrev W59(y0:den y143)(y1:den y163):List (Nat×Ob):=[(6,K 143 y143 y0),(1,K 163 y163 y1)]
abbrev G60(t:List (Nat×Sl)):List (Nat×Sl):=p 1 (R 1) :: p 3 (O 8) :: t
abbrev G61(y0:den y127.pt)(y1:Int)(t:List (Nat×Sl)):List (Nat×Sl):=p 0 (D y127.pt y0) :: p 3 (I y1) :: t
abbrev W62(y0:List (den y163))(y1:List (den Ty.str)):List (Nat×Ob):=[(1,bx 26 [L y163 y0]),(20,A 9 Ty.str y1 0)]
abbrev W63(y0:List (den Ty.str))(y1:List (den Ty.str))(y2:den y217):List (Nat×Ob):=[(17,A 9 Ty.str y0 1),(16,A 9 Ty.str y1 0),(5,K 217 y217 y2)]
abbrev W64(y0:List (den i64))(y1:List (den Ty.bool)):List (Nat×Ob):=[(65,A 2 i64 y0 0),(63,A 4 Ty.bool y1 0)]
abbrev G65(y0:Int)(t:List (Nat×Sl)):List (Nat×Sl):=p 3 (O 12) :: p 4 (R 4) :: p 8 (I y0) :: t
abbrev G66(t:List (Nat×Sl)):List (Nat×Sl):=p 3 (R 3) :: p 5 (O 41) :: t
abbrev G67(y0:Int)(t:List (Nat×Sl)):List (Nat×Sl):=p 1 (R 1) :: p 3 (O 27) :: p 30 (O 30) :: p 31 (I y0) :: t
abbrev G68(y0:ByteArray)(t:List (Nat×Sl)):List (Nat×Sl):=p 3 (R 3) :: p 4 (S y0) :: p 6 (O 25) :: t
abbrev W69(y0:den y48)(y1:List (List (den i64))):List (Nat×Ob):=[(9,K 48 y48 y0),(20,Ob.grd 35 2 true i64 y1 none)]
abbrev W70(y0:List (den i64))(y1:den y163):List (Nat×Ob):=[(94,A 2 i64 y0 0),(1,K 163 y163 y1)]
abbrev W71(y0:den a0j)(y1:den y34):List (Nat×Ob):=[(5,K 110 a0j y0),(2,K 34 y34 y1)]
abbrev G72(y0:Bool)(y1:Bool)(y2:Int)(y3:Int)(t:List (Nat×Sl)):List (Nat×Sl):=p 2 (R 2) :: p 5 (B y0) :: p 6 (B y1) :: p 7 (I y2) :: p 8 (I y3) :: t
abbrev G73(y0:List (den y175))(y1:Int)(t:List (Nat×Sl)):List (Nat×Sl):=p 3 (R 3) :: p 5 (O 21) :: p 49 (L y175 y0) :: p 50 (I y1) :: t
abbrev G74(t:List (Nat×Sl)):List (Nat×Sl):=p 1 (R 1) :: p 2 (R 2) :: p 4 (R 4) :: t
abbrev G75(y0:Int)(y1:List (den y165))(y2:Int)(t:List (Nat×Sl)):List (Nat×Sl):=p 1 (R 1) :: p 3 (O 38) :: p 4 (I y0) :: p 5 (R 5) :: p 11 (L y165 y1) :: p 12 (I y2) :: p 13 (I y0) :: t
abbrev G76(t:List (Nat×Sl)):List (Nat×Sl):=p 1 (R 1) :: p 3 (R 20) :: t
abbrev G77(y0:Bool)(y1:Int)(t:List (Nat×Sl)):List (Nat×Sl):=p 0 (R 500000) :: p 2 (C y0) :: p 6 (R 6) :: p 7 (R 7) :: p 8 (O 25) :: p 9 (O 26) :: p 10 (AV.os 27 1) :: p 11 (I y1) :: t
abbrev W78(y0:List (den y105))(y1:den y34):List (Nat×Ob):=[(18,A 105 y105 y0 0),(1,K 34 y34 y1)]
abbrev W79(y0:List (den i64))(y1:den y34):List (Nat×Ob):=[(27,A 2 i64 y0 0),(1,K 34 y34 y1)]
abbrev G80(t:List (Nat×Sl)):List (Nat×Sl):=p 5 (R 5) :: p 6 (O 16) :: p 7 (O 19) :: t
abbrev G81(y0:Int)(t:List (Nat×Sl)):List (Nat×Sl):=p 1 (J y0) :: p 5 (O 8) :: t
abbrev G82(y0:Int)(t:List (Nat×Sl)):List (Nat×Sl):=p 2 (R 2) :: p 5 (I y0) :: t
abbrev W83(y0:Int)(y1:den y140):List (Nat×Ob):=[(4,bx 75 [J y0,J y0]),(2,bx 75 [I (0:Int),I (0:Int)]),(1,K 140 y140 y1)]
abbrev G84(y0:List (den Ty.str))(y1:Int)(t:List (Nat×Sl)):List (Nat×Sl):=p 0 (L Ty.str y0) :: p 3 (I y1) :: t
abbrev G85(y0:Int)(y1:Int)(y2:List (den y143))(y3:Int)(t:List (Nat×Sl)):List (Nat×Sl):=p 2 (J y0) :: p 7 (O 53) :: p 8 (I y1) :: p 9 (R 9) :: p 19 (L y143 y2) :: p 20 (I y3) :: p 21 (I y1) :: t
abbrev W86(y0:den y31)(y1:List (den Ty.str)):List (Nat×Ob):=[(1,K 31 y31 y0),(20,A 9 Ty.str y1 0)]
abbrev W87(y0:ByteArray)(y1:List (den i64))(y2:Int)(y3:Int)(y4:List (den y217)):List (Nat×Ob):=[(8,bx 163 [U y0,I 1,AV.os 23 0,nil,L i64 y1,I y2,I y3]),(23,A 217 y217 y4 0),(6,bx 163 (Q62 (ByteArray.mk #[]) 0 0 0))]
abbrev W88(y0:den y31)(y1:List (den Ty.str))(y2:List (den Ty.str)):List (Nat×Ob):=[(1,K 31 y31 y0),(20,A 9 Ty.str y1 0),(33,A 9 Ty.str y2 0)]
def u12(a0:List Int):Option (Bool) :=
 some (decide (4096 < (a0.length:Int)))
def k12:Ct:=lct 12 [.dat (b8.sl)] (fun x=>u12 x.1) (fun r:Bool=>B r) (fun _=>())
theorem o12:Ok prog k12:=by
 refine okL [.tmp 2] func12 ntmps12 results12 ?_;intro y ⟨a0,_⟩ r H Q hn hr;have:HT _ _:=⟨@tn prog⟩;refine qA (Z [p 0 (L b8 a0)] [])<|qA (Z [p 2 (B (decide (4096 < (a0.length:Int))))] [])<|vTT<|hr H
def D0C(a0:Y48)(a1:Int):Option (Bool) :=
 some (a0.1==a1)
def K0c:Ct:=lct 136 [.agg y48,.dat (.pt i64)] (fun x=>D0C x.1 x.2.1) (fun r:Bool=>B r) (fun _=>())
theorem F0J:Ok prog K0c:=by
 refine okL [.tmp 3] func136 ntmps136 results136 ?_;intro y ⟨a0,a1,_⟩ r H Q hn hr;have:HT _ _:=⟨@tn prog⟩;refine qA (Z [p 1 (D i64.pt a1),p 2 (R 2)] [(2,K 48 y48 a0)])<|qA (Z [p 3 (B (a0.1==a1))] [(2,K 48 y48 a0)])<|vTT<|hr H
def i0H:List Int->Option (List Int)
 | v6 =>
 some v6
def f0B(v3:Int)(g1:List Int×Int->Option (List Int)):List Int->Option (List Int)
 | v5 =>
 gd (a0f (v3+1)/\True) <|
 g1 (v5,v3+1)
def i0G(a0:e0K)(a1:Int)(g1:List Int×Int->Option (List Int)):List Int×Int->Option (List Int)
 | (v2,v3) =>
 if(decide (v3 < (a0.1.2.2.1.length:Int)))=true then
  gd (ix v3 a0.1.2.2.1.length/\True)<|lt (a0.1.2.2.1.getD v3.toNat (a0a y48)) fun v4 =>
  gd (ix v3 a0.2.length/\(a0.2.getD v3.toNat false=true/\True->(D0C v4 a1).isSome=true)/\True) <|
  if(a0.2.getD v3.toNat false&&vl (D0C v4 a1))=true then
   gd ((v2.length+[v3].length<=9223372036854775807/\(v2.length+[v3].length)*8<=140737488355328)/\True) <|
   f0B v3 g1 (v2++[v3])
  else
   f0B v3 g1 v2
 else
  i0H v2
def g0C(a0:e0K)(a1:Int):Option (List Int) :=
 lp (i0G a0 a1) ([],0)
def v0t:Ct:=lct 116 [.dat y127.pt,.fn 136 (.pt i64)] (fun x=>g0C x.1 x.2.1) (fun r:List Int=>AV.ow 2 true i64 r) (fun _=>())
theorem g0I:Ok prog v0t:=by
 refine okL [.tmp 4] func116 ntmps116 results116 ?_;intro y ⟨a0,a1,_⟩ r H Q hn hr;have:HT _ _:=⟨tc F0J tn⟩;refine qA (Z [p 0 (D y127.pt a0),p 1 (AV.fn 136 [D i64.pt a1])] [])<|qA (Z [p 0 (D y127.pt a0),p 1 (AV.fn 136 [D i64.pt a1]),p 5 (nil)] [])<|jN r (fun(v6:List Int)=>Z [p 5 (O 36)] [(36,A 2 i64 v6 0)]) (i0H) (fun v6 H=>?_) (fun _ n0 e0 t0=>?_)
 ·refine qA (Z [p 4 (O 36)] [(36,A 2 i64 v6 0)])<|vTT<|hr H
 refine qA (Z [p 0 (D y127.pt a0),p 1 (AV.fn 136 [D i64.pt a1]),p 5 (nil),p 14 (L y48 a0.1.2.2.1),p 15 (I (a0.1.2.2.1.length:Int)),p 16 (I 0)] [])<|vB<|lX (fun((v2,v3):List Int×Int)=>Z [p 0 (D y127.pt a0),p 1 (AV.fn 136 [D i64.pt a1]),p 5 (O 36),p 14 (L y48 a0.1.2.2.1),p 15 (I (a0.1.2.2.1.length:Int)),p 16 (I v3)] [(36,A 2 i64 v2 0)]) ([],0) H fun _ g1 b1 e1 t1 ⟨v2,v3⟩ H=>qA (Z [p 0 (D y127.pt a0),p 1 (AV.fn 136 [D i64.pt a1]),p 5 (O 36),p 14 (L y48 a0.1.2.2.1),p 15 (I (a0.1.2.2.1.length:Int)),p 16 (I v3),p 17 (B (decide (v3 < (a0.1.2.2.1.length:Int))))] [(36,A 2 i64 v2 0)])<|vQ<|cD H (fun H=>?_) (fun H=>?_)
 ·refine vK<|fQ<|jN r (fun(v5:List Int)=>Z [p 0 (D y127.pt a0),p 1 (AV.fn 136 [D i64.pt a1]),p 5 (O 36),p 14 (L y48 a0.1.2.2.1),p 15 (I (a0.1.2.2.1.length:Int)),p 16 (I v3)] [(36,A 2 i64 v5 0)]) (f0B v3 g1) (fun v5 H=>?_) (fun _ n2 e2 t2=>?_)
  ·refine zB (Z [p 0 (D y127.pt a0),p 1 (AV.fn 136 [D i64.pt a1]),p 5 (O 36),p 14 (L y48 a0.1.2.2.1),p 15 (I (a0.1.2.2.1.length:Int)),p 16 (I (v3+1))] [(36,A 2 i64 v5 0)]) H fun H=>b1 H
  refine vB<|qD (fun v4=>Z [p 0 (D y127.pt a0),p 1 (AV.fn 136 [D i64.pt a1]),p 5 (O 36),p 6 (I v3),p 7 (R 7),p 14 (L y48 a0.1.2.2.1),p 15 (I (a0.1.2.2.1.length:Int)),p 16 (I v3)] (W57 v4 v2)) H fun v4 H=>qB (Z [p 0 (D y127.pt a0),p 1 (AV.fn 136 [D i64.pt a1]),p 5 (O 36),p 6 (I v3),p 14 (L y48 a0.1.2.2.1),p 15 (I (a0.1.2.2.1.length:Int)),p 16 (I v3),p 32 (B (a0.2.getD v3.toNat false&&vl (D0C v4 a1)))] (W57 v4 v2)) H fun H=>cD H (fun H=>?_) (fun H=>?_)
  ·refine zB (Z [p 0 (D y127.pt a0),p 1 (AV.fn 136 [D i64.pt a1]),p 5 (AV.os 36 1),p 14 (L y48 a0.1.2.2.1),p 15 (I (a0.1.2.2.1.length:Int)),p 16 (I v3)] [(36,A 2 i64 (v2++[v3]) 1),(35,A 2 i64 [v3] 0),(7,K 48 y48 v4)]) H fun H=>fK<|n2 H
  exact vK<|fK<|n2 H
 exact vE<|fE<|e1<|fX rfl<|n0 H
def u73(a0:e0K)(a1:Int):Option (List Int) :=
 gd ((g0C a0 a1).isSome=true/\True)<|lt (vl (g0C a0 a1)) fun v0 =>
 some v0
def k73:Ct:=lct 73 [.dat y127.pt,.dat i64] (fun x=>u73 x.1 x.2.1) (fun r:List Int=>AV.ow 2 true i64 r) (fun _=>())
theorem o73:Ok prog k73:=by
 refine okL [.tmp 4] func73 ntmps73 results73 ?_;intro y ⟨a0,a1,_⟩ r H Q hn hr;have:HT _ _:=⟨tc g0I (tc F0J tn)⟩;refine qA (Z [p 0 (D y127.pt a0),p 3 (R 3)] [(3,bx 2 [J a1])])<|qD (fun v0=>Z [p 4 (O 7)] [(7,A 2 i64 v0 0),(3,bx 2 [J a1])]) H fun v0 H=>vTT<|hr H
def x0F:Unit->Option (Int)
 | _ =>
 some (-1)
def x0E(a1:Int)(a0:List Int)(g1:Int->Option (Int)):Int->Option (Int)
 | v0 =>
 if(decide (v0 < (a0.length:Int)))=true then
  gd (ix v0 a0.length/\True) <|
  if(a1==a0.getD v0.toNat 0)=true then
   some v0
  else
   gd (a0f (v0+1)/\True) <|
   g1 (v0+1)
 else
  x0F ()
def D0D(a0:List Int)(a1:Int):Option (Int) :=
 lp (x0E a1 a0) 0
def K0s:Ct:=lct 118 [.dat i64.sl,.dat i64] (fun x=>D0D x.1 x.2.1) (fun r:Int=>I r) (fun _=>())
theorem I0H:Ok prog K0s:=by
 refine okL [.tmp 4] func118 ntmps118 results118 ?_;intro y ⟨a0,a1,_⟩ r H Q hn hr;have:HT _ _:=⟨@tn prog⟩;refine qA (Z (G49 a0 a1 []) [])<|jN r (fun(_:Unit)=>Z [] []) (x0F) (fun _ H=>?_) (fun _ n0 e0 t0=>?_)
 ·refine qA (Z [p 4 (I (-1))] [])<|vTT<|hr H
 refine qA (Z (G49 a0 a1 [p 7 (I (a0.length:Int)),p 8 (I 0)]) [])<|vB<|lX (fun(v0:Int)=>Z (G49 a0 a1 [p 7 (I (a0.length:Int)),p 8 (I v0)]) []) 0 H fun _ g1 b1 e1 t1 v0 H=>qA (Z (G49 a0 a1 [p 7 (I (a0.length:Int)),p 8 (I v0),p 9 (B (decide (v0 < (a0.length:Int))))]) [])<|vQ<|cD H (fun H=>?_) (fun H=>?_)
 ·refine vK<|fQ<|vQ<|vB<|qA (Z (G49 a0 a1 [p 5 (I v0),p 7 (I (a0.length:Int)),p 8 (I v0)]) [])<|qB (Z (G49 a0 a1 [p 5 (I v0),p 7 (I (a0.length:Int)),p 8 (I v0),p 16 (B (a1==a0.getD v0.toNat 0))]) []) H fun H=>cD H (fun H=>?_) (fun H=>?_)
  ·refine qA (Z [p 4 (I v0)] [])<|vTT<|fDD<|fR<|t1<|fDD<|t0<|hr H
  refine vK<|fK<|fQ<|zB (Z (G49 a0 a1 [p 7 (I (a0.length:Int)),p 8 (I (v0+1))]) []) H fun H=>b1 H
 exact vE<|fE<|e1<|fX rfl<|n0 H
def D0E(_a0:Y48):Option (Bool) :=
 some true
def K0t:Ct:=lct 117 [.agg y48] (fun x=>D0E x.1) (fun r:Bool=>B r) (fun _=>())
theorem F0N:Ok prog K0t:=by
 refine okL [.tmp 2] func117 ntmps117 results117 ?_;intro y ⟨a0,_⟩ r H Q hn hr;have:HT _ _:=⟨@tn prog⟩;refine qA (Z [] [(1,K 48 y48 a0)])<|qA (Z [p 2 (B true)] [(1,K 48 y48 a0)])<|vTT<|hr H
def u67(a0:List c0q):Option (Int) :=
 some (a0.length:Int)
def k67:Ct:=lct 67 [.dat y105.sl] (fun x=>u67 x.1) (fun r:Int=>I r) (fun _=>())
theorem o67:Ok prog k67:=by
 refine okL [.tmp 2] func67 ntmps67 results67 ?_;intro y ⟨a0,_⟩ r H Q hn hr;have:HT _ _:=⟨@tn prog⟩;refine qA (Z [p 0 (L y105 a0)] [])<|qA (Z [p 2 (I (a0.length:Int))] [])<|vTT<|hr H
def c0M(a0:c0B):Option (Int) :=
 gd ((u67 a0.2.1).isSome=true/\a0f (2*vl (u67 a0.2.1))/\True)<|lt (vl (u67 a0.2.1)) fun v0 =>
 some (2*v0)
def K0u:Ct:=lct 115 [.dat y100.pt] (fun x=>c0M x.1) (fun r:Int=>I r) (fun _=>())
theorem D0R:Ok prog K0u:=by
 refine okL [.tmp 2] func115 ntmps115 results115 ?_;intro y ⟨a0,_⟩ r H Q hn hr;have:HT _ _:=⟨tc o67 tn⟩;refine qA (Z [p 0 (D y100.pt a0)] [])<|qD (fun v0=>Z [p 2 (I (2*v0))] []) H fun v0 H=>vTT<|hr H
def i0J:List Int->Option (List Int)
 | v6 =>
 some v6
def f0C(v3:Int)(g1:List Int×Int->Option (List Int)):List Int->Option (List Int)
 | v5 =>
 gd (a0f (v3+1)/\True) <|
 g1 (v5,v3+1)
def i0I(a0:e0K)(g1:List Int×Int->Option (List Int)):List Int×Int->Option (List Int)
 | (v2,v3) =>
 if(decide (v3 < (a0.1.2.2.1.length:Int)))=true then
  gd (ix v3 a0.1.2.2.1.length/\True)<|lt (a0.1.2.2.1.getD v3.toNat (a0a y48)) fun v4 =>
  gd (ix v3 a0.2.length/\(a0.2.getD v3.toNat false=true/\True->(D0E v4).isSome=true)/\True) <|
  if(a0.2.getD v3.toNat false&&vl (D0E v4))=true then
   gd ((v2.length+[v3].length<=9223372036854775807/\(v2.length+[v3].length)*8<=140737488355328)/\True) <|
   f0C v3 g1 (v2++[v3])
  else
   f0C v3 g1 v2
 else
  i0J v2
def g0D(a0:e0K):Option (List Int) :=
 lp (i0I a0) ([],0)
def v0u:Ct:=lct 116 [.dat y127.pt,.nof 117] (fun x=>g0D x.1) (fun r:List Int=>AV.ow 2 true i64 r) (fun _=>())
theorem j0G:Ok prog v0u:=by
 refine okL [.tmp 4] func116 ntmps116 results116 ?_;intro y ⟨a0,_,_⟩ r H Q hn hr;have:HT _ _:=⟨tc F0N tn⟩;refine qA (Z [p 0 (D y127.pt a0),p 1 (AV.fn 117 [])] [])<|qA (Z [p 0 (D y127.pt a0),p 1 (AV.fn 117 []),p 5 (nil)] [])<|jN r (fun(v6:List Int)=>Z [p 5 (O 36)] [(36,A 2 i64 v6 0)]) (i0J) (fun v6 H=>?_) (fun _ n0 e0 t0=>?_)
 ·refine qA (Z [p 4 (O 36)] [(36,A 2 i64 v6 0)])<|vTT<|hr H
 refine qA (Z [p 0 (D y127.pt a0),p 1 (AV.fn 117 []),p 5 (nil),p 14 (L y48 a0.1.2.2.1),p 15 (I (a0.1.2.2.1.length:Int)),p 16 (I 0)] [])<|vB<|lX (fun((v2,v3):List Int×Int)=>Z [p 0 (D y127.pt a0),p 1 (AV.fn 117 []),p 5 (O 36),p 14 (L y48 a0.1.2.2.1),p 15 (I (a0.1.2.2.1.length:Int)),p 16 (I v3)] [(36,A 2 i64 v2 0)]) ([],0) H fun _ g1 b1 e1 t1 ⟨v2,v3⟩ H=>qA (Z [p 0 (D y127.pt a0),p 1 (AV.fn 117 []),p 5 (O 36),p 14 (L y48 a0.1.2.2.1),p 15 (I (a0.1.2.2.1.length:Int)),p 16 (I v3),p 17 (B (decide (v3 < (a0.1.2.2.1.length:Int))))] [(36,A 2 i64 v2 0)])<|vQ<|cD H (fun H=>?_) (fun H=>?_)
 ·refine vK<|fQ<|jN r (fun(v5:List Int)=>Z [p 0 (D y127.pt a0),p 1 (AV.fn 117 []),p 5 (O 36),p 14 (L y48 a0.1.2.2.1),p 15 (I (a0.1.2.2.1.length:Int)),p 16 (I v3)] [(36,A 2 i64 v5 0)]) (f0C v3 g1) (fun v5 H=>?_) (fun _ n2 e2 t2=>?_)
  ·refine zB (Z [p 0 (D y127.pt a0),p 1 (AV.fn 117 []),p 5 (O 36),p 14 (L y48 a0.1.2.2.1),p 15 (I (a0.1.2.2.1.length:Int)),p 16 (I (v3+1))] [(36,A 2 i64 v5 0)]) H fun H=>b1 H
  refine vB<|qD (fun v4=>Z [p 0 (D y127.pt a0),p 1 (AV.fn 117 []),p 5 (O 36),p 6 (I v3),p 7 (R 7),p 14 (L y48 a0.1.2.2.1),p 15 (I (a0.1.2.2.1.length:Int)),p 16 (I v3)] (W57 v4 v2)) H fun v4 H=>qB (Z [p 0 (D y127.pt a0),p 1 (AV.fn 117 []),p 5 (O 36),p 6 (I v3),p 14 (L y48 a0.1.2.2.1),p 15 (I (a0.1.2.2.1.length:Int)),p 16 (I v3),p 32 (B (a0.2.getD v3.toNat false&&vl (D0E v4)))] (W57 v4 v2)) H fun H=>cD H (fun H=>?_) (fun H=>?_)
  ·refine zB (Z [p 0 (D y127.pt a0),p 1 (AV.fn 117 []),p 5 (AV.os 36 1),p 14 (L y48 a0.1.2.2.1),p 15 (I (a0.1.2.2.1.length:Int)),p 16 (I v3)] [(36,A 2 i64 (v2++[v3]) 1),(35,A 2 i64 [v3] 0),(7,K 48 y48 v4)]) H fun H=>fK<|n2 H
  exact vK<|fK<|n2 H
 exact vE<|fE<|e1<|fX rfl<|n0 H
def B0x:List Int->Option (List Int×Bool)
 | v26 =>
 some (v26,true)
def t0O(v16:Int)(g3:List Int×Int×List Int->Option (List Int×Bool)):List Int×List Int->Option (List Int×Bool)
 | (v24,v25) =>
 gd (a0f (v16+1)/\True) <|
 g3 (v24,v16+1,v25)
def t0N(a0:e0K)(v19:List Int)(v16:Int)(v15:List Int)(v18:Int)(g3:List Int×Int×List Int->Option (List Int×Bool))(g5:Int×List Int->Option (List Int×Bool)):Int×List Int->Option (List Int×Bool)
 | (v21,v22) =>
 if(decide (v21 < (v19.length:Int)))=true then
  gd (ix v21 v19.length/\v21.toNat<v19.length/\True) <|
  gd (ix (v19.getD v21.toNat 0) a0.1.2.2.1.length/\ix (a0.1.2.2.1.getD (Int.toNat (v19.getD v21.toNat 0)) (a0a y48)).2.1 v22.length/\(a0.1.2.2.1.getD (Int.toNat (v19.getD v21.toNat 0)) (a0a y48)).2.1.toNat<v22.length/\a0f (v22.getD (a0.1.2.2.1.getD (Int.toNat (v19.getD v21.toNat 0)) (a0a y48)).2.1.toNat 0-1)/\ix (a0.1.2.2.1.getD (Int.toNat (v19.getD v21.toNat 0)) (a0a y48)).2.1 v22.length/\(a0.1.2.2.1.getD (Int.toNat (v19.getD v21.toNat 0)) (a0a y48)).2.1.toNat<v22.length/\True)<|lt (v22.set (a0.1.2.2.1.getD (Int.toNat (v19.getD v21.toNat 0)) (a0a y48)).2.1.toNat (v22.getD (a0.1.2.2.1.getD (Int.toNat (v19.getD v21.toNat 0)) (a0a y48)).2.1.toNat 0-1)) fun v23 =>
  gd (a0f (v21+1)/\True) <|
  g5 (v21+1,v23)
 else
  t0O v16 g3 (v15++[v18],v22)
def B0w(a0:e0K)(v6:List Int)(g3:List Int×Int×List Int->Option (List Int×Bool)):List Int×Int×List Int->Option (List Int×Bool)
 | (v15,v16,v17) =>
 if(decide (v16 < (v6.length:Int)))=true then
  gd ((D0D v17 0).isSome=true/\True)<|lt (vl (D0D v17 0)) fun v18 =>
  if(decide (v18<0))=true then
   some ([],false)
  else
   gd (ix v18 v17.length/\v18.toNat<v17.length/\True) <|
   gd ((v15.length+[v18].length<=9223372036854775807/\(v15.length+[v18].length)*8<=140737488355328)/\True) <|
   gd ((u73 a0 v18).isSome=true/\True)<|lt (vl (u73 a0 v18)) fun v19 =>
   lp (t0N a0 v19 v16 v15 v18 g3) ((0,v17.set v18.toNat (-1)))
 else
  B0x v15
def q0G(a0:e0K):List Int->Option (List Int×Bool)
 | v6 =>
 lp (B0w a0 v6) ([],0,v6)
def y0H(a0:e0K)(v1:List Int)(g1:Int×List Int->Option (List Int×Bool)):Int×List Int->Option (List Int×Bool)
 | (v3,v4) =>
 if(decide (v3 < (v1.length:Int)))=true then
  gd (ix v3 v1.length/\v3.toNat<v1.length/\True) <|
  gd (ix (v1.getD v3.toNat 0) a0.1.2.2.1.length/\ix (a0.1.2.2.1.getD (Int.toNat (v1.getD v3.toNat 0)) (a0a y48)).2.1 v4.length/\(a0.1.2.2.1.getD (Int.toNat (v1.getD v3.toNat 0)) (a0a y48)).2.1.toNat<v4.length/\a0f (v4.getD (a0.1.2.2.1.getD (Int.toNat (v1.getD v3.toNat 0)) (a0a y48)).2.1.toNat 0+1)/\ix (a0.1.2.2.1.getD (Int.toNat (v1.getD v3.toNat 0)) (a0a y48)).2.1 v4.length/\(a0.1.2.2.1.getD (Int.toNat (v1.getD v3.toNat 0)) (a0a y48)).2.1.toNat<v4.length/\True)<|lt (v4.set (a0.1.2.2.1.getD (Int.toNat (v1.getD v3.toNat 0)) (a0a y48)).2.1.toNat (v4.getD (a0.1.2.2.1.getD (Int.toNat (v1.getD v3.toNat 0)) (a0a y48)).2.1.toNat 0+1)) fun v5 =>
  gd (a0f (v3+1)/\True) <|
  g1 (v3+1,v5)
 else
  q0G a0 v4
def u57(a0:e0K):Option (List Int×Bool) :=
 gd ((c0M a0.1).isSome=true/\(0<=vl (c0M a0.1)/\vl (c0M a0.1)=vl (c0M a0.1)/\(vl (c0M a0.1)).toNat*8<=281474976710656/\vl (c0M a0.1)<=9223372036854775807)/\True)<|lt (vl (c0M a0.1)) fun v0 =>
 gd ((g0D a0).isSome=true/\True)<|lt (vl (g0D a0)) fun v1 =>
 lp (y0H a0 v1) (0,List.replicate v0.toNat 0)
def k57:Ct:=lct 57 [.dat y127.pt] (fun x=>u57 x.1) (fun r:List Int×Bool=>AV.tup [AV.ow 2 true i64 r.1,B r.2]) (fun _=>())
theorem o57:Ok prog k57:=by
 refine okL [.tmp 2,.tmp 3] func57 ntmps57 results57 ?_;intro y ⟨a0,_⟩ r H Q hn hr;have:HT _ _:=⟨tc o73 (tc I0H (tc F0N (tc g0I (tc j0G (tc D0R tn)))))⟩;refine qA (Z [p 0 (D y127.pt a0)] [])<|qD (fun v0=>Z (G24 a0 []) [(16,A 3 i64 (List.replicate v0.toNat 0) 0)]) H fun v0 H=>jN r (fun(v6:List Int)=>Z (G24 a0 []) [(16,A 3 i64 v6 0)]) (q0G a0) (fun v6 H=>?_) (fun _ n0 e0 t0=>?_)
 ·refine qA (Z (G24 a0 [p 7 (nil)]) [(16,A 3 i64 v6 0)])<|jN r (fun(v26:List Int)=>Z [p 7 (O 55)] [(55,A 2 i64 v26 0)]) (B0x) (fun v26 H=>?_) (fun _ n2 e2 t2=>?_)
  ·refine qA (Z [p 2 (O 55),p 3 (B true)] [(55,A 2 i64 v26 0)])<|vTT<|hr H
  refine qA (Z (G24 a0 [p 7 (nil),p 42 (I (v6.length:Int)),p 43 (I 0)]) [(16,A 3 i64 v6 0)])<|vB<|lX (fun((v15,v16,v17):List Int×Int×List Int)=>Z (G24 a0 [p 7 (O 55),p 42 (I (v6.length:Int)),p 43 (I v16)]) [(16,A 3 i64 v17 0),(55,A 2 i64 v15 0)]) ([],0,v6) H fun _ g3 b3 e3 t3 ⟨v15,v16,v17⟩ H=>qA (Z (G24 a0 [p 7 (O 55),p 42 (I (v6.length:Int)),p 43 (I v16),p 44 (B (decide (v16 < (v6.length:Int))))]) [(16,A 3 i64 v17 0),(55,A 2 i64 v15 0)])<|vQ<|cD H (fun H=>?_) (fun H=>?_)
  ·refine vK<|fQ<|jN r (fun((v24,v25):List Int×List Int)=>Z (G24 a0 [p 7 (O 55),p 42 (I (v6.length:Int)),p 43 (I v16)]) [(55,A 2 i64 v24 0),(16,A 3 i64 v25 0)]) (t0O v16 g3) (fun⟨v24,v25⟩ H=>?_) (fun _ n4 e4 t4=>?_)
   ·refine zB (Z (G24 a0 [p 7 (O 55),p 42 (I (v6.length:Int)),p 43 (I (v16+1))]) [(55,A 2 i64 v24 0),(16,A 3 i64 v25 0)]) H fun H=>b3 H
   refine vB<|qD (fun v18=>Z (G24 a0 [p 7 (O 55),p 8 (I v18),p 42 (I (v6.length:Int)),p 43 (I v16)]) [(16,A 3 i64 v17 0),(55,A 2 i64 v15 0)]) H fun v18 H=>vQ<|qA (Z (G24 a0 [p 7 (O 55),p 8 (I v18),p 42 (I (v6.length:Int)),p 43 (I v16),p 48 (B (decide (v18<0)))]) [(16,A 3 i64 v17 0),(55,A 2 i64 v15 0)])<|cD H (fun H=>?_) (fun H=>?_)
   ·refine qA (Z [p 2 (nil),p 3 (B false)] [(16,A 3 i64 v17 0),(55,A 2 i64 v15 0)])<|vTT<|fR<|fDD<|t4<|t3<|fDD<|t2<|hr H
   refine vK<|fQ<|qB (Z (G24 a0 [p 7 (O 55),p 8 (I v18),p 42 (I (v6.length:Int)),p 43 (I v16)]) [(16,A 3 i64 (v17.set v18.toNat (-1)) 0),(55,A 2 i64 v15 0)]) H fun H=>qB (Z (G24 a0 [p 7 (AV.os 55 1),p 8 (I v18),p 42 (I (v6.length:Int)),p 43 (I v16)]) [(55,A 2 i64 (v15++[v18]) 1),(54,A 2 i64 [v18] 0),(16,A 3 i64 (v17.set v18.toNat (-1)) 0)]) H fun H=>qD (fun v19=>Z (G24 a0 [p 7 (AV.os 55 1),p 42 (I (v6.length:Int)),p 43 (I v16),p 58 (O 58),p 59 (I (v19.length:Int)),p 60 (I 0)]) [(58,A 2 i64 v19 0),(55,A 2 i64 (v15++[v18]) 1),(54,A 2 i64 [v18] 0),(16,A 3 i64 (v17.set v18.toNat (-1)) 0)]) H fun v19 H=>vB<|lX (fun((v21,v22):Int×List Int)=>Z (G24 a0 [p 7 (O 55),p 42 (I (v6.length:Int)),p 43 (I v16),p 58 (O 58),p 59 (I (v19.length:Int)),p 60 (I v21)]) [(58,A 2 i64 v19 0),(55,A 2 i64 (v15++[v18]) 0),(16,A 3 i64 v22 0)]) ((0,v17.set v18.toNat (-1))) H fun _ g5 b5 e5 t5 ⟨v21,v22⟩ H=>qA (Z (G24 a0 [p 7 (O 55),p 42 (I (v6.length:Int)),p 43 (I v16),p 58 (O 58),p 59 (I (v19.length:Int)),p 60 (I v21),p 61 (B (decide (v21 < (v19.length:Int))))]) [(58,A 2 i64 v19 0),(55,A 2 i64 (v15++[v18]) 0),(16,A 3 i64 v22 0)])<|vQ<|cD H (fun H=>?_) (fun H=>?_)
   ·refine vK<|fQ<|vQ<|vB<|qB (Z (G24 a0 [p 7 (O 55),p 10 (I (v19.getD v21.toNat 0)),p 42 (I (v6.length:Int)),p 43 (I v16),p 58 (O 58),p 59 (I (v19.length:Int)),p 60 (I v21)]) [(58,A 2 i64 v19 0),(55,A 2 i64 (v15++[v18]) 0),(16,A 3 i64 v22 0)]) H fun H=>zD (fun v23=>Z (G24 a0 [p 7 (O 55),p 42 (I (v6.length:Int)),p 43 (I v16),p 58 (O 58),p 59 (I (v19.length:Int)),p 60 (I v21)]) [(16,A 3 i64 v23 0),(58,A 2 i64 v19 0),(55,A 2 i64 (v15++[v18]) 0)]) H fun v23 H=>fK<|fQ<|zB (Z (G24 a0 [p 7 (O 55),p 42 (I (v6.length:Int)),p 43 (I v16),p 58 (O 58),p 59 (I (v19.length:Int)),p 60 (I (v21+1))]) [(16,A 3 i64 v23 0),(58,A 2 i64 v19 0),(55,A 2 i64 (v15++[v18]) 0)]) H fun H=>b5 H
   exact vE<|fE<|e5<|fX rfl<|fK<|n4 H
  exact vE<|fE<|e3<|fX rfl<|n2 H
 refine qD (fun v1=>Z (G24 a0 [p 18 (O 18),p 19 (I (v1.length:Int)),p 20 (I 0)]) [(18,A 2 i64 v1 0),(16,A 3 i64 (List.replicate v0.toNat 0) 0)]) H fun v1 H=>vB<|lX (fun((v3,v4):Int×List Int)=>Z (G24 a0 [p 18 (O 18),p 19 (I (v1.length:Int)),p 20 (I v3)]) [(18,A 2 i64 v1 0),(16,A 3 i64 v4 0)]) (0,List.replicate v0.toNat 0) H fun _ g1 b1 e1 t1 ⟨v3,v4⟩ H=>qA (Z (G24 a0 [p 18 (O 18),p 19 (I (v1.length:Int)),p 20 (I v3),p 21 (B (decide (v3 < (v1.length:Int))))]) [(18,A 2 i64 v1 0),(16,A 3 i64 v4 0)])<|vQ<|cD H (fun H=>?_) (fun H=>?_)
 ·refine vK<|fQ<|vQ<|vB<|qB (Z (G24 a0 [p 6 (I (v1.getD v3.toNat 0)),p 18 (O 18),p 19 (I (v1.length:Int)),p 20 (I v3)]) [(18,A 2 i64 v1 0),(16,A 3 i64 v4 0)]) H fun H=>zD (fun v5=>Z (G24 a0 [p 18 (O 18),p 19 (I (v1.length:Int)),p 20 (I v3)]) [(16,A 3 i64 v5 0),(18,A 2 i64 v1 0)]) H fun v5 H=>fK<|fQ<|zB (Z (G24 a0 [p 18 (O 18),p 19 (I (v1.length:Int)),p 20 (I (v3+1))]) [(16,A 3 i64 v5 0),(18,A 2 i64 v1 0)]) H fun H=>b1 H
 exact vE<|fE<|e1<|fX rfl<|n0 H
def x0I(a0:c0B):List Bool->Option (c0B×List Bool)
 | v8 =>
 some (a0,v8)
def x0G(a1:List Int)(a0:c0B)(g3:Int×List Bool->Option (c0B×List Bool)):Int×List Bool->Option (c0B×List Bool)
 | (v6,v7) =>
 if(decide (v6 < (a1.length:Int)))=true then
  gd (ix v6 a1.length/\True) <|
  gd (ix (a1.getD v6.toNat 0) v7.length/\Int.toNat (a1.getD v6.toNat 0)<v7.length/\True) <|
  gd (a0f (v6+1)/\True) <|
  g3 ((v6+1,v7.set (Int.toNat (a1.getD v6.toNat 0)) false))
 else
  x0I a0 v7
def k0E(a1:List Int)(a0:c0B):List Bool->Option (c0B×List Bool)
 | v4 =>
 lp (x0G a1 a0) (0,v4)
def x0H(a1:List Int)(a0:c0B)(v0:Int)(g1:Int×List Bool->Option (c0B×List Bool)):Int×List Bool->Option (c0B×List Bool)
 | (v2,v3) =>
 if(decide (v2<v0))=true then
  gd (ix v2 v3.length/\v2.toNat<v3.length/\True) <|
  gd (a0f (v2+1)/\True) <|
  g1 (v2+1,v3.set v2.toNat true)
 else
  k0E a1 a0 v3
def B0U(a0:c0B)(a1:List Int):Option (c0B×List Bool) :=
 gd ((0<=(a0.2.2.1.length:Int)/\(a0.2.2.1.length:Int)=(a0.2.2.1.length:Int)/\(a0.2.2.1.length:Int).toNat*1<=281474976710656/\(a0.2.2.1.length:Int)<=9223372036854775807)/\True) <|
 lt ((↑(List.replicate (a0.2.2.1.length:Int).toNat false).length:Int)) fun v0 =>
 lp (x0H a1 a0 v0) ((0,List.replicate (a0.2.2.1.length:Int).toNat false))
def K0v:Ct:=lct 114 [.dat y100.pt,.dat i64.sl] (fun x=>B0U x.1 x.2.1) (fun r:c0B×List Bool=>AV.ob 127 [D y100.pt r.1,AV.ow 4 true Ty.bool r.2]) (fun _=>())
theorem I0I:Ok prog K0v:=by
 refine okL [.tmp 4] func114 ntmps114 results114 ?_;intro y ⟨a0,a1,_⟩ r H Q hn hr;have:HT _ _:=⟨@tn prog⟩;refine qA (Z [p 0 (D y100.pt a0),p 1 (L i64 a1)] [])<|qB (Z [p 1 (L i64 a1),p 5 (R 17)] (W30 a0 (List.replicate (a0.2.2.1.length:Int).toNat false))) H fun H=>jN r (fun(v4:List Bool)=>Z [p 1 (L i64 a1),p 5 (R 17)] (W30 a0 v4)) (k0E a1 a0) (fun v4 H=>?_) (fun _ n0 e0 t0=>?_)
 ·refine jN r (fun(v8:List Bool)=>Z [p 5 (R 17)] (W30 a0 v8)) (x0I a0) (fun v8 H=>?_) (fun _ n2 e2 t2=>?_)
  ·refine qA (Z [p 4 (R 17)] (W30 a0 v8))<|vTT<|hr H
  refine qA (Z [p 5 (R 17),p 33 (L i64 a1),p 34 (I (a1.length:Int)),p 35 (I 0)] (W30 a0 v4))<|vB<|lX (fun((v6,v7):Int×List Bool)=>Z [p 5 (R 17),p 33 (L i64 a1),p 34 (I (a1.length:Int)),p 35 (I v6)] (W30 a0 v7)) (0,v4) H fun _ g3 b3 e3 t3 ⟨v6,v7⟩ H=>qA (Z [p 5 (R 17),p 33 (L i64 a1),p 34 (I (a1.length:Int)),p 35 (I v6),p 36 (B (decide (v6 < (a1.length:Int))))] (W30 a0 v7))<|vQ<|cD H (fun H=>?_) (fun H=>?_)
  ·refine vK<|fQ<|vQ<|vB<|qB (Z [p 5 (R 17),p 8 (J (a1.getD v6.toNat 0)),p 33 (L i64 a1),p 34 (I (a1.length:Int)),p 35 (I v6)] (W30 a0 v7)) H fun H=>zB (Z [p 5 (R 17),p 33 (L i64 a1),p 34 (I (a1.length:Int)),p 35 (I v6)] [(15,A 4 Ty.bool (v7.set (Int.toNat (a1.getD v6.toNat 0)) false) 0),(17,bx 127 (Q66 a0))]) H fun H=>fK<|fQ<|zB (Z [p 5 (R 17),p 33 (L i64 a1),p 34 (I (a1.length:Int)),p 35 (I (v6+1))] [(15,A 4 Ty.bool (v7.set (Int.toNat (a1.getD v6.toNat 0)) false) 0),(17,bx 127 (Q66 a0))]) H fun H=>b3 H
  exact vE<|fE<|e3<|fX rfl<|n2 H
 refine qC (fun v0=>Z [p 1 (L i64 a1),p 5 (R 17),p 22 (I v0),p 23 (I 0)] (W30 a0 (List.replicate (a0.2.2.1.length:Int).toNat false))) H fun v0 H=>vB<|lX (fun((v2,v3):Int×List Bool)=>Z [p 1 (L i64 a1),p 5 (R 17),p 22 (I v0),p 23 (I v2)] (W30 a0 v3)) ((0,List.replicate (a0.2.2.1.length:Int).toNat false)) H fun _ g1 b1 e1 t1 ⟨v2,v3⟩ H=>qA (Z [p 1 (L i64 a1),p 5 (R 17),p 22 (I v0),p 23 (I v2),p 24 (B (decide (v2<v0)))] (W30 a0 v3))<|vQ<|cD H (fun H=>?_) (fun H=>?_)
 ·refine vK<|fQ<|vQ<|vB<|qA (Z [p 1 (L i64 a1),p 5 (R 17),p 6 (I v2),p 22 (I v0),p 23 (I v2)] (W30 a0 v3))<|zB (Z [p 1 (L i64 a1),p 5 (R 17),p 22 (I v0),p 23 (I v2)] [(15,A 4 Ty.bool (v3.set v2.toNat true) 0),(17,bx 127 (Q66 a0))]) H fun H=>fK<|fQ<|zB (Z [p 1 (L i64 a1),p 5 (R 17),p 22 (I v0),p 23 (I (v2+1))] [(15,A 4 Ty.bool (v3.set v2.toNat true) 0),(17,bx 127 (Q66 a0))]) H fun H=>b1 H
 exact vE<|fE<|e1<|fX rfl<|n0 H
def w0O:Unit->Option (Bool)
 | _ =>
 some true
def w0N(a0:List Int)(g1:Int->Option (Bool)):Int->Option (Bool)
 | v0 =>
 if(decide (v0 < (a0.length:Int)))=true then
  gd (a0f (v0-1)/\ix (v0-1) a0.length/\ix v0 a0.length/\True) <|
  if(decide (a0.getD v0.toNat 0<=a0.getD (v0-1).toNat 0))=true then
   some false
  else
   gd (a0f (v0+1)/\True) <|
   g1 (v0+1)
 else
  w0O ()
def A0n(a0:List Int):Option (Bool) :=
 lp (w0N a0) 1
def J0M:Ct:=lct 174 [.dat i64.sl] (fun x=>A0n x.1) (fun r:Bool=>B r) (fun _=>())
theorem I0n:Ok prog J0M:=by
 refine okL [.tmp 2] func174 ntmps174 results174 ?_;intro y ⟨a0,_⟩ r H Q hn hr;have:HT _ _:=⟨@tn prog⟩;refine qA (Z [p 0 (L i64 a0)] [])<|jN r (fun(_:Unit)=>Z [] []) (w0O) (fun _ H=>?_) (fun _ n0 e0 t0=>?_)
 ·refine qA (Z [p 2 (B true)] [])<|vTT<|hr H
 refine qA (Z [p 0 (L i64 a0),p 3 (I 1)] [])<|vB<|lX (fun(v0:Int)=>Z [p 0 (L i64 a0),p 3 (I v0)] []) 1 H fun _ g1 b1 e1 t1 v0 H=>vQ<|qA (Z [p 0 (L i64 a0),p 3 (I v0),p 7 (B (decide (v0 < (a0.length:Int))))] [])<|cD H (fun H=>?_) (fun H=>?_)
 ·refine vK<|fQ<|vQ<|vB<|qB (Z [p 0 (L i64 a0),p 3 (I v0),p 19 (B (decide (a0.getD v0.toNat 0<=a0.getD (v0-1).toNat 0)))] []) H fun H=>cD H (fun H=>?_) (fun H=>?_)
  ·refine qA (Z [p 2 (B false)] [])<|vTT<|fDD<|fR<|t1<|fDD<|t0<|hr H
  refine vK<|fK<|fQ<|zB (Z [p 0 (L i64 a0),p 3 (I (v0+1))] []) H fun H=>b1 H
 exact vE<|fE<|e1<|fX rfl<|n0 H
def b0y(a0:Int)(a1:Int)(a2:Int):Option (Bool) :=
 some (decide (a1<=a0)&&decide (a0<=a2))
def J0T:Ct:=lct 150 [.dat i64,.dat i64,.dat i64] (fun x=>b0y x.1 x.2.1 x.2.2.1) (fun r:Bool=>B r) (fun _=>())
theorem r0O:Ok prog J0T:=by
 refine okL [.tmp 6] func150 ntmps150 results150 ?_;intro y ⟨a0,a1,a2,_⟩ r H Q hn hr;have:HT _ _:=⟨@tn prog⟩;refine qA (Z [p 0 (J a0),p 1 (J a1),p 2 (J a2)] [])<|qA (Z [p 6 (B (decide (a1<=a0)&&decide (a0<=a2)))] [])<|vTT<|hr H
def A0j(a0:Int)(a1:Int)(a2:Int):Option (Bool) :=
 gd ((b0y a0 a1 a2).isSome=true/\True) <|
 some (!vl (b0y a0 a1 a2))
def J0u:Ct:=lct 211 [.dat i64,.dat (.pt i64),.dat (.pt i64)] (fun x=>A0j x.1 x.2.1 x.2.2.1) (fun r:Bool=>B r) (fun _=>())
theorem E0B:Ok prog J0u:=by
 refine okL [.tmp 4] func211 ntmps211 results211 ?_;intro y ⟨a0,a1,a2,_⟩ r H Q hn hr;have:HT _ _:=⟨tc r0O tn⟩;refine qA (Z [p 0 (J a0),p 1 (D i64.pt a1),p 2 (D i64.pt a2)] [])<|qB (Z [p 4 (B !vl (b0y a0 a1 a2))] []) H fun H=>vTT<|hr H
def i0w:Unit->Option (Int)
 | _ =>
 some (-1)
def p0m(a0:List Int)(a1:Int×Int)(g1:Int->Option (Int)):Int->Option (Int)
 | v0 =>
 if(decide (v0 < (a0.length:Int)))=true then
  gd (ix v0 a0.length/\(A0j (a0.getD v0.toNat 0) a1.1 a1.2).isSome=true/\True) <|
  if(vl (A0j (a0.getD v0.toNat 0) a1.1 a1.2))=true then
   some v0
  else
   gd (a0f (v0+1)/\True) <|
   g1 (v0+1)
 else
  i0w ()
def g0y(a0:List Int)(a1:Int×Int):Option (Int) :=
 lp (p0m a0 a1) 0
def v0l:Ct:=lct 241 [.dat i64.sl,.fn 211 (.pr i64.pt i64.pt)] (fun x=>g0y x.1 x.2.1) (fun r:Int=>I r) (fun _=>())
theorem o0i:Ok prog v0l:=by
 refine okL [.tmp 4] func241 ntmps241 results241 ?_;intro y ⟨a0,a1,_⟩ r H Q hn hr;have:HT _ _:=⟨tc E0B tn⟩;refine qA (Z [p 0 (L i64 a0),p 1 (AV.fn 211 (Q14 a1))] [])<|jN r (fun(_:Unit)=>Z [] []) (i0w) (fun _ H=>?_) (fun _ n0 e0 t0=>?_)
 ·refine qA (Z [p 4 (I (-1))] [])<|vTT<|hr H
 refine qA (Z [p 0 (L i64 a0),p 1 (AV.fn 211 (Q14 a1)),p 7 (I (a0.length:Int)),p 8 (I 0)] [])<|vB<|lX (fun(v0:Int)=>Z [p 0 (L i64 a0),p 1 (AV.fn 211 (Q14 a1)),p 7 (I (a0.length:Int)),p 8 (I v0)] []) 0 H fun _ g1 b1 e1 t1 v0 H=>qA (Z [p 0 (L i64 a0),p 1 (AV.fn 211 (Q14 a1)),p 7 (I (a0.length:Int)),p 8 (I v0),p 9 (B (decide (v0 < (a0.length:Int))))] [])<|vQ<|cD H (fun H=>?_) (fun H=>?_)
 ·refine vK<|fQ<|vQ<|vB<|qA (Z [p 0 (L i64 a0),p 1 (AV.fn 211 (Q14 a1)),p 5 (I v0),p 7 (I (a0.length:Int)),p 8 (I v0)] [])<|qB (Z [p 0 (L i64 a0),p 1 (AV.fn 211 (Q14 a1)),p 5 (I v0),p 7 (I (a0.length:Int)),p 8 (I v0),p 16 (B (vl (A0j (a0.getD v0.toNat 0) a1.1 a1.2)))] []) H fun H=>cD H (fun H=>?_) (fun H=>?_)
  ·refine qA (Z [p 4 (I v0)] [])<|vTT<|fDD<|fR<|t1<|fDD<|t0<|hr H
  refine vK<|fK<|fQ<|zB (Z [p 0 (L i64 a0),p 1 (AV.fn 211 (Q14 a1)),p 7 (I (a0.length:Int)),p 8 (I (v0+1))] []) H fun H=>b1 H
 exact vE<|fE<|e1<|fX rfl<|n0 H
def e0S(a0:List Int)(a1:Int×Int):Option (Bool) :=
 gd ((g0y a0 a1).isSome=true/\True)<|lt (vl (g0y a0 a1)) fun v0 =>
 some (decide (0<=v0))
def v0o:Ct:=lct 210 [.dat i64.sl,.fn 211 (.pr (.pt i64) (.pt i64))] (fun x=>e0S x.1 x.2.1) (fun r:Bool=>B r) (fun _=>())
theorem o0j:Ok prog v0o:=by
 refine okL [.tmp 4] func210 ntmps210 results210 ?_;intro y ⟨a0,a1,_⟩ r H Q hn hr;have:HT _ _:=⟨tc o0i (tc E0B tn)⟩;refine qA (Z [p 0 (L i64 a0),p 1 (AV.fn 211 (Q14 a1))] [])<|qD (fun v0=>Z [p 4 (B (decide (0<=v0)))] []) H fun v0 H=>vTT<|hr H
def e0U(a0:List Int)(a1:Int)(a2:Int):Option (Bool) :=
 gd ((e0S a0 (a1,a2)).isSome=true/\True) <|
 some (!vl (e0S a0 (a1,a2)))
def J0N:Ct:=lct 173 [.dat i64.sl,.dat i64,.dat i64] (fun x=>e0U x.1 x.2.1 x.2.2.1) (fun r:Bool=>B r) (fun _=>())
theorem D0P:Ok prog J0N:=by
 refine okL [.tmp 6] func173 ntmps173 results173 ?_;intro y ⟨a0,a1,a2,_⟩ r H Q hn hr;have:HT _ _:=⟨tc o0j (tc E0B tn)⟩;refine qA (Z [p 0 (L i64 a0),p 4 (R 4),p 5 (R 5)] [(5,bx 2 [J a2]),(4,bx 2 [J a1])])<|qB (Z [p 6 (B !vl (e0S a0 (a1,a2)))] [(5,bx 2 [J a2]),(4,bx 2 [J a1])]) H fun H=>vTT<|hr H
def y0L(a0:Y31)(a1:List a0y)(a2:c0q):Option (Int) :=
 if(decide (a2.1<0))=true then
  some 0
 else
  gd (ix a2.1 a0.1.length/\ix (a0.1.getD a2.1.toNat (a0a y165)).2.1 a1.length/\ix a2.2.1 (a1.getD (a0.1.getD a2.1.toNat (a0a y165)).2.1.toNat (a0a y163)).2.2.1.length/\True)<|lt ((a1.getD (a0.1.getD a2.1.toNat (a0a y165)).2.1.toNat (a0a y163)).2.2.1.getD a2.2.1.toNat (a0a y217)) fun v0 =>
  some v0.2.2.1
def J0D:Ct:=lct 184 [.agg y31,.agg y163.sl,.agg y105] (fun x=>y0L x.1 x.2.1 x.2.2.1) (fun r:Int=>I r) (fun _=>())
theorem I0g:Ok prog J0D:=by
 refine okL [.tmp 6] func184 ntmps184 results184 ?_;intro y ⟨a0,a1,a2,_⟩ r H Q hn hr;have:HT _ _:=⟨@tn prog⟩;refine qA (Z [p 3 (R 3),p 4 (R 4),p 5 (R 5)] (W32 a2 a1 a0))<|vQ<|qA (Z [p 3 (R 3),p 4 (R 4),p 5 (R 5),p 9 (B (decide (a2.1<0)))] (W32 a2 a1 a0))<|cD H (fun H=>?_) (fun H=>?_)
 ·refine qA (Z [p 6 (I 0)] (W32 a2 a1 a0))<|vTT<|fR<|hr H
 refine vK<|fQ<|qD (fun v0=>Z [p 6 (J v0.2.2.1)] (W32 a2 a1 a0)) H fun v0 H=>vTT<|hr H
def B0j:List c0q->Option (List c0q)
 | v24 =>
 some v24
def B0g(a0:Y31)(g5:Int×List c0q->Option (List c0q)):Int×List c0q->Option (List c0q)
 | (v21,v22) =>
 if(decide (v21 < (a0.2.2.length:Int)))=true then
  gd (ix v21 a0.2.2.length/\True)<|lt (a0.2.2.getD v21.toNat (a0a y175)) fun v23 =>
  gd ((v22.length+[(-1,v21,v23.2.2,v23.2.1==1)].length<=9223372036854775807/\(v22.length+[(-1,v21,v23.2.2,v23.2.1==1)].length)*32<=140737488355328)/\True) <|
  gd (a0f (v21+1)/\True) <|
  g5 ((v21+1,v22++[(-1,v21,v23.2.2,v23.2.1==1)]))
 else
  B0j v22
def q0D(a0:Y31):List c0q->Option (List c0q)
 | v17 =>
 lp (B0g a0) (0,v17)
def y0z(v8:Int)(g1:List c0q×Int->Option (List c0q)):List c0q->Option (List c0q)
 | v16 =>
 gd (a0f (v8+1)/\True) <|
 g1 (v16,v8+1)
def B0h(v8:Int)(v9:a0H)(g1:List c0q×Int->Option (List c0q))(g3:Int×List c0q->Option (List c0q)):Int×List c0q->Option (List c0q)
 | (v12,v13) =>
 if(decide (v12 < (v9.2.2.length:Int)))=true then
  gd (ix v12 v9.2.2.length/\True) <|
  gd (a0f ((v9.2.2.length:Int)-1)/\(v13.length+[(v8,v12,v9.2.2.getD v12.toNat 0,v12==(v9.2.2.length:Int)-1)].length<=9223372036854775807/\(v13.length+[(v8,v12,v9.2.2.getD v12.toNat 0,v12==(v9.2.2.length:Int)-1)].length)*32<=140737488355328)/\True)<|lt ((v13++[(v8,v12,v9.2.2.getD v12.toNat 0,v12==(v9.2.2.length:Int)-1)],[(v8,v12,v9.2.2.getD v12.toNat 0,v12==(v9.2.2.length:Int)-1)])) fun(v14,_v15) =>
  gd (a0f (v12+1)/\True) <|
  g3 (v12+1,v14)
 else
  y0z v8 g1 v13
def B0i(a0:Y31)(g1:List c0q×Int->Option (List c0q)):List c0q×Int->Option (List c0q)
 | (v7,v8) =>
 if(decide (v8 < (a0.1.length:Int)))=true then
  gd (ix v8 a0.1.length/\True)<|lt (a0.1.getD v8.toNat (a0a y165)) fun v9 =>
  lp (B0h v8 v9 g1) (0,v7)
 else
  q0D a0 v7
def u68(a0:Y31):Option (List c0q) :=
 lp (B0i a0) ([],0)
def k68:Ct:=lct 68 [.agg y31] (fun x=>u68 x.1) (fun r:List c0q=>AV.ow 105 true y105 r) (fun _=>())
theorem o68:Ok prog k68:=by
 refine okL [.tmp 2] func68 ntmps68 results68 ?_;intro y ⟨a0,_⟩ r H Q hn hr;have:HT _ _:=⟨@tn prog⟩;refine qA (Z [p 1 (R 1)] [(1,K 31 y31 a0)])<|qA (Z [p 1 (R 1),p 3 (nil)] [(1,K 31 y31 a0)])<|jN r (fun(v17:List c0q)=>Z [p 1 (R 1),p 3 (O 38)] (W48 a0 v17)) (q0D a0) (fun v17 H=>?_) (fun _ n0 e0 t0=>?_)
 ·refine jN r (fun(v24:List c0q)=>Z [p 3 (O 38)] [(38,A 105 y105 v24 0)]) (B0j) (fun v24 H=>?_) (fun _ n4 e4 t4=>?_)
  ·refine qA (Z [p 2 (O 38)] [(38,A 105 y105 v24 0)])<|vTT<|hr H
  refine qA (Z [p 3 (O 38),p 42 (L y175 a0.2.2),p 43 (I (a0.2.2.length:Int)),p 44 (I 0)] (W48 a0 v17))<|vB<|lX (fun((v21,v22):Int×List c0q)=>Z [p 3 (O 38),p 42 (L y175 a0.2.2),p 43 (I (a0.2.2.length:Int)),p 44 (I v21)] [(38,A 105 y105 v22 0)]) (0,v17) H fun _ g5 b5 e5 t5 ⟨v21,v22⟩ H=>qA (Z [p 3 (O 38),p 42 (L y175 a0.2.2),p 43 (I (a0.2.2.length:Int)),p 44 (I v21),p 45 (B (decide (v21 < (a0.2.2.length:Int))))] [(38,A 105 y105 v22 0)])<|vQ<|cD H (fun H=>?_) (fun H=>?_)
  ·refine vK<|fQ<|vQ<|vB<|qD (fun v23=>Z [p 3 (O 38),p 8 (I v21),p 9 (R 9),p 42 (L y175 a0.2.2),p 43 (I (a0.2.2.length:Int)),p 44 (I v21)] [(9,K 175 y175 v23),(38,A 105 y105 v22 0)]) H fun v23 H=>zB (Z [p 3 (AV.os 38 1),p 42 (L y175 a0.2.2),p 43 (I (a0.2.2.length:Int)),p 44 (I v21)] [(38,A 105 y105 (v22++[(-1,v21,v23.2.2,v23.2.1==1)]) 1),(57,A 105 y105 [(-1,v21,v23.2.2,v23.2.1==1)] 0),(9,K 175 y175 v23)]) H fun H=>fK<|fQ<|zB (Z [p 3 (AV.os 38 1),p 42 (L y175 a0.2.2),p 43 (I (a0.2.2.length:Int)),p 44 (I (v21+1))] [(38,A 105 y105 (v22++[(-1,v21,v23.2.2,v23.2.1==1)]) 1),(57,A 105 y105 [(-1,v21,v23.2.2,v23.2.1==1)] 0),(9,K 175 y175 v23)]) H fun H=>b5 H
  exact vE<|fE<|e5<|fX rfl<|n4 H
 refine qA (Z [p 1 (R 1),p 3 (nil),p 11 (L y165 a0.1),p 12 (I (a0.1.length:Int)),p 13 (I 0)] [(1,K 31 y31 a0)])<|vB<|lX (fun((v7,v8):List c0q×Int)=>Z [p 1 (R 1),p 3 (O 38),p 11 (L y165 a0.1),p 12 (I (a0.1.length:Int)),p 13 (I v8)] (W48 a0 v7)) ([],0) H fun _ g1 b1 e1 t1 ⟨v7,v8⟩ H=>qA (Z [p 1 (R 1),p 3 (O 38),p 11 (L y165 a0.1),p 12 (I (a0.1.length:Int)),p 13 (I v8),p 14 (B (decide (v8 < (a0.1.length:Int))))] (W48 a0 v7))<|vQ<|cD H (fun H=>?_) (fun H=>?_)
 ·refine vK<|fQ<|jN r (fun(v16:List c0q)=>Z [p 1 (R 1),p 3 (O 38),p 11 (L y165 a0.1),p 12 (I (a0.1.length:Int)),p 13 (I v8)] (W48 a0 v16)) (y0z v8 g1) (fun v16 H=>?_) (fun _ n2 e2 t2=>?_)
  ·refine zB (Z [p 1 (R 1),p 3 (O 38),p 11 (L y165 a0.1),p 12 (I (a0.1.length:Int)),p 13 (I (v8+1))] (W48 a0 v16)) H fun H=>b1 H
  refine vB<|qD (fun v9=>Z (G75 v8 a0.1 (a0.1.length:Int) []) ((5,K 165 y165 v9)::W48 a0 v7)) H fun v9 H=>qA (Z (G75 v8 a0.1 (a0.1.length:Int) [p 19 (L i64 v9.2.2),p 20 (I (v9.2.2.length:Int)),p 21 (I 0)]) ((5,K 165 y165 v9)::W48 a0 v7))<|vB<|lX (fun((v12,v13):Int×List c0q)=>Z (G75 v8 a0.1 (a0.1.length:Int) [p 19 (L i64 v9.2.2),p 20 (I (v9.2.2.length:Int)),p 21 (I v12)]) ((5,K 165 y165 v9)::W48 a0 v13)) (0,v7) H fun _ g3 b3 e3 t3 ⟨v12,v13⟩ H=>qA (Z (G75 v8 a0.1 (a0.1.length:Int) [p 19 (L i64 v9.2.2),p 20 (I (v9.2.2.length:Int)),p 21 (I v12),p 22 (B (decide (v12 < (v9.2.2.length:Int))))]) ((5,K 165 y165 v9)::W48 a0 v13))<|vQ<|cD H (fun H=>?_) (fun H=>?_)
  ·refine vK<|fQ<|vQ<|vB<|qB (Z [p 1 (R 1),p 3 (O 38),p 4 (I v8),p 5 (R 5),p 6 (I v12),p 7 (J (v9.2.2.getD v12.toNat 0)),p 11 (L y165 a0.1),p 12 (I (a0.1.length:Int)),p 13 (I v8),p 19 (L i64 v9.2.2),p 20 (I (v9.2.2.length:Int)),p 21 (I v12)] ((5,K 165 y165 v9)::W48 a0 v13)) H fun H=>zD (fun(v14,v15)=>Z [p 1 (R 1),p 3 (AV.os 38 1),p 4 (I v8),p 5 (R 5),p 11 (L y165 a0.1),p 12 (I (a0.1.length:Int)),p 13 (I v8),p 19 (L i64 v9.2.2),p 20 (I (v9.2.2.length:Int)),p 21 (I v12)] [(38,A 105 y105 v14 1),(37,A 105 y105 v15 0),(5,K 165 y165 v9),(1,K 31 y31 a0)]) H fun⟨v14,v15⟩ H =>
    fK<|fQ <|
    zB (Z [p 1 (R 1),p 3 (AV.os 38 1),p 4 (I v8),p 5 (R 5),p 11 (L y165 a0.1),p 12 (I (a0.1.length:Int)),p 13 (I v8),p 19 (L i64 v9.2.2),p 20 (I (v9.2.2.length:Int)),p 21 (I (v12+1))] [(38,A 105 y105 v14 1),(37,A 105 y105 v15 0),(5,K 165 y165 v9),(1,K 31 y31 a0)]) H fun H =>
    b3 H
  exact vE<|fE<|e3<|fX rfl<|fK<|n2 H
 exact vE<|fE<|e1<|fX rfl<|n0 H
def w0H:List Int->Option (List Int)
 | v7 =>
 some v7
def n0y(v4:Int)(g1:List Int×Int->Option (List Int)):List Int->Option (List Int)
 | v6 =>
 gd (a0f (v4+1)/\True) <|
 g1 (v6,v4+1)
def w0G(a1:Int)(v0:List c0q)(g1:List Int×Int->Option (List Int)):List Int×Int->Option (List Int)
 | (v3,v4) =>
 if(decide (v4 < (v0.length:Int)))=true then
  gd (ix v4 v0.length/\v4.toNat<v0.length/\True)<|lt (v0.getD v4.toNat (a0a y105)) fun v5 =>
  if(v5.2.2.1==a1&&!v5.2.2.2)=true then
   gd ((v3.length+[v4].length<=9223372036854775807/\(v3.length+[v4].length)*8<=140737488355328)/\True) <|
   n0y v4 g1 (v3++[v4])
  else
   n0y v4 g1 v3
 else
  w0H v3
def B0O(a0:Y31)(a1:Int):Option (List Int) :=
 gd ((u68 a0).isSome=true/\True)<|lt (vl (u68 a0)) fun v0 =>
 lp (w0G a1 v0) ([],0)
def J0E:Ct:=lct 183 [.agg y31,.dat i64] (fun x=>B0O x.1 x.2.1) (fun r:List Int=>AV.ow 2 true i64 r) (fun _=>())
theorem I0h:Ok prog J0E:=by
 refine okL [.tmp 4] func183 ntmps183 results183 ?_;intro y ⟨a0,a1,_⟩ r H Q hn hr;have:HT _ _:=⟨tc o68 tn⟩;refine qA (Z (G52 a1 []) [(2,K 31 y31 a0)])<|qA (Z (G52 a1 [p 5 (nil)]) [(2,K 31 y31 a0)])<|jN r (fun(v7:List Int)=>Z [p 5 (O 28)] [(28,A 2 i64 v7 0)]) (w0H) (fun v7 H=>?_) (fun _ n0 e0 t0=>?_)
 ·refine qA (Z [p 4 (O 28)] [(28,A 2 i64 v7 0)])<|vTT<|hr H
 refine qD (fun v0=>Z [p 1 (J a1),p 5 (nil),p 9 (O 9),p 10 (I (v0.length:Int)),p 11 (I 0)] [(9,A 105 y105 v0 0),(2,K 31 y31 a0)]) H fun v0 H=>vB<|lX (fun((v3,v4):List Int×Int)=>Z [p 1 (J a1),p 5 (O 28),p 9 (O 9),p 10 (I (v0.length:Int)),p 11 (I v4)] [(9,A 105 y105 v0 0),(28,A 2 i64 v3 0)]) ([],0) H fun _ g1 b1 e1 t1 ⟨v3,v4⟩ H=>qA (Z [p 1 (J a1),p 5 (O 28),p 9 (O 9),p 10 (I (v0.length:Int)),p 11 (I v4),p 12 (B (decide (v4 < (v0.length:Int))))] [(9,A 105 y105 v0 0),(28,A 2 i64 v3 0)])<|vQ<|cD H (fun H=>?_) (fun H=>?_)
 ·refine vK<|fQ<|jN r (fun(v6:List Int)=>Z [p 1 (J a1),p 5 (O 28),p 9 (O 9),p 10 (I (v0.length:Int)),p 11 (I v4)] [(28,A 2 i64 v6 0),(9,A 105 y105 v0 0)]) (n0y v4 g1) (fun v6 H=>?_) (fun _ n2 e2 t2=>?_)
  ·refine zB (Z [p 1 (J a1),p 5 (O 28),p 9 (O 9),p 10 (I (v0.length:Int)),p 11 (I (v4+1))] [(28,A 2 i64 v6 0),(9,A 105 y105 v0 0)]) H fun H=>b1 H
  refine vB<|qD (fun v5=>Z [p 1 (J a1),p 5 (O 28),p 6 (I v4),p 7 (R 7),p 9 (O 9),p 10 (I (v0.length:Int)),p 11 (I v4)] [(7,bx 105 (a0i true y105 v5)),(9,A 105 y105 v0 0),(28,A 2 i64 v3 0)]) H fun v5 H=>qA (Z [p 1 (J a1),p 5 (O 28),p 6 (I v4),p 9 (O 9),p 10 (I (v0.length:Int)),p 11 (I v4),p 24 (B (v5.2.2.1==a1&&!v5.2.2.2))] [(7,bx 105 (a0i true y105 v5)),(9,A 105 y105 v0 0),(28,A 2 i64 v3 0)])<|cD H (fun H=>?_) (fun H=>?_)
  ·refine zB (Z [p 1 (J a1),p 5 (AV.os 28 1),p 9 (O 9),p 10 (I (v0.length:Int)),p 11 (I v4)] [(28,A 2 i64 (v3++[v4]) 1),(27,A 2 i64 [v4] 0),(7,bx 105 (a0i true y105 v5)),(9,A 105 y105 v0 0)]) H fun H=>fK<|n2 H
  exact vK<|fK<|n2 H
 exact vE<|fE<|e1<|fX rfl<|n0 H
def q0Z:List Int->Option (List Int)
 | v15 =>
 some v15
def i0z(v0:b0I)(g3:Int×List Int->Option (List Int)):Int×List Int->Option (List Int)
 | (v12,v13) =>
 if(decide (0<v12))=true then
  gd (ix v12 v0.1.length/\ix (v0.1.getD v12.toNat 0) v13.length/\Int.toNat (v0.1.getD v12.toNat 0)<v13.length/\ix v12 v13.length/\v12.toNat<v13.length/\a0f (v13.getD (Int.toNat (v0.1.getD v12.toNat 0)) 0+v13.getD v12.toNat 0)/\ix (v0.1.getD v12.toNat 0) v13.length/\Int.toNat (v0.1.getD v12.toNat 0)<v13.length/\True)<|lt (v13.set (Int.toNat (v0.1.getD v12.toNat 0)) (v13.getD (Int.toNat (v0.1.getD v12.toNat 0)) 0+v13.getD v12.toNat 0)) fun v14 =>
  gd (a0f (v12-1)/\True) <|
  g3 (v12-1,v14)
 else
  q0Z v13
def n0G(v0:b0I):List Int->Option (List Int)
 | v10 =>
 gd (a0f ((v10.length:Int)-1)/\True) <|
 lp (i0z v0) (((v10.length:Int)-1,v10))
def x0q(a0:Y34)(v2:List c0q)(v3:List Int)(v0:b0I)(g1:Int×List Int->Option (List Int)):Int×List Int->Option (List Int)
 | (v6,v7) =>
 if(decide (v6 < (v3.length:Int)))=true then
  gd (ix v6 v3.length/\v6.toNat<v3.length/\True) <|
  gd (ix v6 v0.2.2.2.length/\ix (v0.2.2.2.getD v6.toNat 0) v7.length/\Int.toNat (v0.2.2.2.getD v6.toNat 0)<v7.length/\ix (v3.getD v6.toNat 0) v2.length/\Int.toNat (v3.getD v6.toNat 0)<v2.length/\(y0L a0.2.1 a0.1 (v2.getD (Int.toNat (v3.getD v6.toNat 0)) (a0a y105))).isSome=true/\a0f (v7.getD (Int.toNat (v0.2.2.2.getD v6.toNat 0)) 0+vl (y0L a0.2.1 a0.1 (v2.getD (Int.toNat (v3.getD v6.toNat 0)) (a0a y105))))/\ix (v0.2.2.2.getD v6.toNat 0) v7.length/\Int.toNat (v0.2.2.2.getD v6.toNat 0)<v7.length/\True)<|lt ((vl (y0L a0.2.1 a0.1 (v2.getD (Int.toNat (v3.getD v6.toNat 0)) (a0a y105))),v7.set (Int.toNat (v0.2.2.2.getD v6.toNat 0)) (v7.getD (Int.toNat (v0.2.2.2.getD v6.toNat 0)) 0+vl (y0L a0.2.1 a0.1 (v2.getD (Int.toNat (v3.getD v6.toNat 0)) (a0a y105)))))) fun(_v8,v9) =>
  gd (a0f (v6+1)/\True) <|
  g1 (v6+1,v9)
 else
  n0G v0 v7
def r0a(a0:Y34)(a1:Int):Option (List Int) :=
 gd (ix a1 a0.2.2.length/\True)<|lt (a0.2.2.getD a1.toNat (a0a a0j)) fun v0 =>
 gd ((x0b v0.2.2.1).isSome=true/\True)<|lt (vl (x0b v0.2.2.1)) fun v1 =>
 gd ((u68 a0.2.1).isSome=true/\True)<|lt (vl (u68 a0.2.1)) fun v2 =>
 gd ((B0O a0.2.1 a1).isSome=true/\True)<|lt (vl (B0O a0.2.1 a1)) fun v3 =>
 lp (x0q a0 v2 v3 v0) (0,v1)
def K0h:Ct:=lct 130 [.agg y34,.dat i64] (fun x=>r0a x.1 x.2.1) (fun r:List Int=>AV.ow 2 true i64 r) (fun _=>())
theorem F0K:Ok prog K0h:=by
 refine okL [.tmp 4] func130 ntmps130 results130 ?_;intro y ⟨a0,a1,_⟩ r H Q hn hr;have:HT _ _:=⟨tc I0g (tc I0h (tc o68 (tc E0G tn)))⟩;refine qA (Z (G52 a1 []) [(2,K 34 y34 a0)])<|qD (fun v0=>Z (G52 a1 [p 5 (R 5)]) (W71 v0 a0)) H fun v0 H=>qD (fun v1=>Z (G52 a1 [p 5 (R 5),p 6 (O 18)]) ((18,A 2 i64 v1 0)::W71 v0 a0)) H fun v1 H=>qD (fun v2=>Z (G52 a1 [p 5 (R 5),p 6 (O 18),p 7 (O 21)]) ((21,A 105 y105 v2 0)::(18,A 2 i64 v1 0)::W71 v0 a0)) H fun v2 H=>jN r (fun(v10:List Int)=>Z [p 5 (R 5),p 6 (O 18)] [(18,A 2 i64 v10 0),(5,K 110 a0j v0)]) (n0G v0) (fun v10 H=>?_) (fun _ n0 e0 t0=>?_)
 ·refine jN r (fun(v15:List Int)=>Z [p 6 (O 18)] [(18,A 2 i64 v15 0)]) (q0Z) (fun v15 H=>?_) (fun _ n2 e2 t2=>?_)
  ·refine qA (Z [p 4 (O 18)] [(18,A 2 i64 v15 0)])<|vTT<|hr H
  refine qB (Z [p 5 (R 5),p 6 (O 18),p 10 (I ((v10.length:Int)-1))] [(18,A 2 i64 v10 0),(5,K 110 a0j v0)]) H fun H=>vB<|lX (fun((v12,v13):Int×List Int)=>Z [p 5 (R 5),p 6 (O 18),p 10 (I v12)] [(18,A 2 i64 v13 0),(5,K 110 a0j v0)]) (((v10.length:Int)-1,v10)) H fun _ g3 b3 e3 t3 ⟨v12,v13⟩ H=>vQ<|qA (Z [p 5 (R 5),p 6 (O 18),p 10 (I v12),p 56 (B (decide (0<v12)))] [(18,A 2 i64 v13 0),(5,K 110 a0j v0)])<|cD H (fun H=>?_) (fun H=>?_)
  ·refine vK<|fQ<|vQ<|vB<|zD (fun v14=>Z [p 5 (R 5),p 6 (O 18),p 10 (I v12)] [(18,A 2 i64 v14 0),(5,K 110 a0j v0)]) H fun v14 H=>fK<|fQ<|zB (Z [p 5 (R 5),p 6 (O 18),p 10 (I (v12-1))] [(18,A 2 i64 v14 0),(5,K 110 a0j v0)]) H fun H=>b3 H
  exact vE<|fE<|e3<|fX rfl<|n2 H
 refine qD (fun v3=>Z (G55 (v3.length:Int) [p 27 (I 0)]) ((25,A 2 i64 v3 0)::(21,A 105 y105 v2 0)::(18,A 2 i64 v1 0)::W71 v0 a0)) H fun v3 H=>vB<|lX (fun((v6,v7):Int×List Int)=>Z (G55 (v3.length:Int) [p 27 (I v6)]) ((25,A 2 i64 v3 0)::(21,A 105 y105 v2 0)::(18,A 2 i64 v7 0)::W71 v0 a0)) (0,v1) H fun _ g1 b1 e1 t1 ⟨v6,v7⟩ H=>qA (Z (G55 (v3.length:Int) [p 27 (I v6),p 28 (B (decide (v6 < (v3.length:Int))))]) ((25,A 2 i64 v3 0)::(21,A 105 y105 v2 0)::(18,A 2 i64 v7 0)::W71 v0 a0))<|vQ<|cD H (fun H=>?_) (fun H=>?_)
 ·refine vK<|fQ<|vQ<|vB<|qB (Z [p 2 (R 2),p 5 (R 5),p 6 (O 18),p 7 (O 21),p 8 (I v6),p 9 (I (v3.getD v6.toNat 0)),p 25 (O 25),p 26 (I (v3.length:Int)),p 27 (I v6)] ((25,A 2 i64 v3 0)::(21,A 105 y105 v2 0)::(18,A 2 i64 v7 0)::W71 v0 a0)) H fun H=>zD (fun(v8,v9)=>Z (G55 (v3.length:Int) [p 27 (I v6)]) ((18,A 2 i64 v9 0)::(25,A 2 i64 v3 0)::(21,A 105 y105 v2 0)::W71 v0 a0)) H fun⟨v8,v9⟩ H =>
   fK<|fQ <|
   zB (Z (G55 (v3.length:Int) [p 27 (I (v6+1))]) ((18,A 2 i64 v9 0)::(25,A 2 i64 v3 0)::(21,A 105 y105 v2 0)::W71 v0 a0)) H fun H =>
   b1 H
 exact vE<|fE<|e1<|fX rfl<|n0 H
def w0F:List Int->Option (List Int)
 | v6 =>
 some v6
def k0w(v1:b0I)(v0:List Int)(g1:Int×List Int->Option (List Int)):Int×List Int->Option (List Int)
 | (v3,v4) =>
 if(decide (v3 < (v4.length:Int)))=true then
  gd (ix v3 v1.1.length/\ix (v1.1.getD v3.toNat 0) v4.length/\Int.toNat (v1.1.getD v3.toNat 0)<v4.length/\ix v3 v1.2.1.length/\ix v3 v0.length/\v3.toNat<v0.length/\a0f (v1.2.1.getD v3.toNat 0*v0.getD v3.toNat 0)/\a0f (v4.getD (Int.toNat (v1.1.getD v3.toNat 0)) 0+v1.2.1.getD v3.toNat 0*v0.getD v3.toNat 0)/\ix v3 v4.length/\v3.toNat<v4.length/\True)<|lt (v4.set v3.toNat (v4.getD (Int.toNat (v1.1.getD v3.toNat 0)) 0+v1.2.1.getD v3.toNat 0*v0.getD v3.toNat 0)) fun v5 =>
  gd (a0f (v3+1)/\True) <|
  g1 (v3+1,v5)
 else
  w0F v4
def B0N(a0:Y34)(a1:Int):Option (List Int) :=
 gd (ix a1 a0.2.2.length/\(r0a a0 a1).isSome=true/\True)<|lt ((vl (r0a a0 a1),a0.2.2.getD a1.toNat (a0a a0j))) fun(v0,v1) =>
 gd ((0<=(v0.length:Int)/\(v0.length:Int)=(v0.length:Int)/\(v0.length:Int).toNat*8<=281474976710656/\(v0.length:Int)<=9223372036854775807)/\True) <|
 lp (k0w v1 v0) ((1,List.replicate (v0.length:Int).toNat 0))
def J0C:Ct:=lct 185 [.agg y34,.dat i64] (fun x=>B0N x.1 x.2.1) (fun r:List Int=>AV.ow 2 true i64 r) (fun _=>())
theorem I0f:Ok prog J0C:=by
 refine okL [.tmp 4] func185 ntmps185 results185 ?_;intro y ⟨a0,a1,_⟩ r H Q hn hr;have:HT _ _:=⟨tc F0K tn⟩;refine qA (Z (G52 a1 []) [(2,K 34 y34 a0)])<|qD (fun(v0,v1)=>Z [p 5 (R 5),p 6 (O 16)] [(5,K 110 a0j v1),(16,A 2 i64 v0 0),(2,K 34 y34 a0)]) H fun w H=>?_
 obtain⟨v0,v1⟩:=w;refine qB (Z (G80 []) [(19,A 2 i64 (List.replicate (v0.length:Int).toNat 0) 0),(5,K 110 a0j v1),(16,A 2 i64 v0 0),(2,K 34 y34 a0)]) H fun H=>jN r (fun(v6:List Int)=>Z [p 7 (O 19)] [(19,A 2 i64 v6 0)]) (w0F) (fun v6 H=>?_) (fun _ n0 e0 t0=>?_)
 ·refine qA (Z [p 4 (O 19)] [(19,A 2 i64 v6 0)])<|vTT<|hr H
 refine qA (Z (G80 [p 8 (I 1)]) [(19,A 2 i64 (List.replicate (v0.length:Int).toNat 0) 0),(5,K 110 a0j v1),(16,A 2 i64 v0 0),(2,K 34 y34 a0)])<|vB<|lX (fun((v3,v4):Int×List Int)=>Z (G80 [p 8 (I v3)]) [(19,A 2 i64 v4 0),(5,K 110 a0j v1),(16,A 2 i64 v0 0)]) ((1,List.replicate (v0.length:Int).toNat 0)) H fun _ g1 b1 e1 t1 ⟨v3,v4⟩ H=>vQ<|qA (Z (G80 [p 8 (I v3),p 23 (B (decide (v3 < (v4.length:Int))))]) [(19,A 2 i64 v4 0),(5,K 110 a0j v1),(16,A 2 i64 v0 0)])<|cD H (fun H=>?_) (fun H=>?_)
 ·refine vK<|fQ<|vQ<|vB<|zD (fun v5=>Z (G80 [p 8 (I v3)]) [(19,A 2 i64 v5 0),(5,K 110 a0j v1),(16,A 2 i64 v0 0)]) H fun v5 H=>fK<|fQ<|zB (Z (G80 [p 8 (I (v3+1))]) [(19,A 2 i64 v5 0),(5,K 110 a0j v1),(16,A 2 i64 v0 0)]) H fun H=>b1 H
 exact vE<|fE<|e1<|fX rfl<|n0 H
def x0o:List Int->Option (List Int)
 | v6 =>
 some v6
def x0n(v0:List Int)(v1:b0I)(g1:List Int×Int->Option (List Int)):List Int×Int->Option (List Int)
 | (v3,v4) =>
 if(decide (v4 < (v1.2.2.2.length:Int)))=true then
  gd (ix v4 v1.2.2.2.length/\True) <|
  gd (ix (v1.2.2.2.getD v4.toNat 0) v0.length/\Int.toNat (v1.2.2.2.getD v4.toNat 0)<v0.length/\(v3.length+[v0.getD (Int.toNat (v1.2.2.2.getD v4.toNat 0)) 0].length<=9223372036854775807/\(v3.length+[v0.getD (Int.toNat (v1.2.2.2.getD v4.toNat 0)) 0].length)*8<=140737488355328)/\True)<|lt (v3++[v0.getD (Int.toNat (v1.2.2.2.getD v4.toNat 0)) 0]) fun v5 =>
  gd (a0f (v4+1)/\True) <|
  g1 (v5,v4+1)
 else
  x0o v3
def x0p(a0:Y34)(a1:Int):Option (List Int) :=
 gd ((B0N a0 a1).isSome=true/\True)<|lt (vl (B0N a0 a1)) fun v0 =>
 gd (ix a1 a0.2.2.length/\True)<|lt (a0.2.2.getD a1.toNat (a0a a0j)) fun v1 =>
 lp (x0n v0 v1) ([],0)
def K0g:Ct:=lct 131 [.agg y34,.dat i64] (fun x=>x0p x.1 x.2.1) (fun r:List Int=>AV.ow 2 true i64 r) (fun _=>())
theorem I0A:Ok prog K0g:=by
 refine okL [.tmp 4] func131 ntmps131 results131 ?_;intro y ⟨a0,a1,_⟩ r H Q hn hr;have:HT _ _:=⟨tc I0f tn⟩;refine qA (Z (G52 a1 []) [(2,K 34 y34 a0)])<|qD (fun v0=>Z (G52 a1 [p 5 (O 11)]) [(11,A 2 i64 v0 0),(2,K 34 y34 a0)]) H fun v0 H=>qA (Z (G52 a1 [p 5 (O 11),p 6 (nil)]) [(11,A 2 i64 v0 0),(2,K 34 y34 a0)])<|jN r (fun(v6:List Int)=>Z [p 6 (O 29)] [(29,A 2 i64 v6 0)]) (x0o) (fun v6 H=>?_) (fun _ n0 e0 t0=>?_)
 ·refine qA (Z [p 4 (O 29)] [(29,A 2 i64 v6 0)])<|vTT<|hr H
 refine qD (fun v1=>Z [p 5 (O 11),p 6 (nil),p 17 (L i64 v1.2.2.2),p 18 (I (v1.2.2.2.length:Int)),p 19 (I 0)] [(11,A 2 i64 v0 0),(2,K 34 y34 a0)]) H fun v1 H=>vB<|lX (fun((v3,v4):List Int×Int)=>Z [p 5 (O 11),p 6 (O 29),p 17 (L i64 v1.2.2.2),p 18 (I (v1.2.2.2.length:Int)),p 19 (I v4)] [(11,A 2 i64 v0 0),(29,A 2 i64 v3 0)]) ([],0) H fun _ g1 b1 e1 t1 ⟨v3,v4⟩ H=>qA (Z [p 5 (O 11),p 6 (O 29),p 17 (L i64 v1.2.2.2),p 18 (I (v1.2.2.2.length:Int)),p 19 (I v4),p 20 (B (decide (v4 < (v1.2.2.2.length:Int))))] [(11,A 2 i64 v0 0),(29,A 2 i64 v3 0)])<|vQ<|cD H (fun H=>?_) (fun H=>?_)
 ·refine vK<|fQ<|vQ<|vB<|qB (Z [p 5 (O 11),p 6 (O 29),p 8 (J (v1.2.2.2.getD v4.toNat 0)),p 17 (L i64 v1.2.2.2),p 18 (I (v1.2.2.2.length:Int)),p 19 (I v4)] [(11,A 2 i64 v0 0),(29,A 2 i64 v3 0)]) H fun H=>zD (fun v5=>Z [p 5 (O 11),p 6 (AV.os 29 1),p 17 (L i64 v1.2.2.2),p 18 (I (v1.2.2.2.length:Int)),p 19 (I v4)] [(29,A 2 i64 v5 1),(28,A 2 i64 [v0.getD (Int.toNat (v1.2.2.2.getD v4.toNat 0)) 0] 0),(11,A 2 i64 v0 0)]) H fun v5 H=>fK<|fQ<|zB (Z [p 5 (O 11),p 6 (AV.os 29 1),p 17 (L i64 v1.2.2.2),p 18 (I (v1.2.2.2.length:Int)),p 19 (I (v4+1))] [(29,A 2 i64 v5 1),(28,A 2 i64 [v0.getD (Int.toNat (v1.2.2.2.getD v4.toNat 0)) 0] 0),(11,A 2 i64 v0 0)]) H fun H=>b1 H
 exact vE<|fE<|e1<|fX rfl<|n0 H
def E0T:Ct:=lct 131 [.agg y34,.dat i64] (fun x=>x0p x.1 x.2.1) (fun r=>frz ((fun r:List Int=>AV.ow 2 true i64 r) r)) (fun _=>())
theorem E0H:Ok prog E0T:=l0d I0A
def d0p(a0:List Int):Option (Int) :=
 some (a0.length:Int)
def K0i:Ct:=lct 129 [.dat i64.sl] (fun x=>d0p x.1) (fun r:Int=>I r) (fun _=>())
theorem E0I:Ok prog K0i:=by
 refine okL [.tmp 2] func129 ntmps129 results129 ?_;intro y ⟨a0,_⟩ r H Q hn hr;have:HT _ _:=⟨@tn prog⟩;refine qA (Z [p 0 (L i64 a0)] [])<|qA (Z [p 2 (I (a0.length:Int))] [])<|vTT<|hr H
def B0P(a0:c0f):Option (List (Int×Int)) :=
 if(a0.1==2)=true then
  some ([((0:Int),(0:Int)),((0:Int),(1:Int))])
 else
  if(a0.1==3)=true then
   some ([((1:Int),(0:Int)),((1:Int),(1:Int))])
  else
   if(a0.1 != 1)=true then
    some []
   else
    if(a0.2.2.2.1==1)=true then
     some ([((0:Int),(0:Int)),((1:Int),(1:Int))])
    else
     if(a0.2.2.2.1==2)=true then
      some ([((0:Int),(1:Int)),((1:Int),(0:Int))])
     else
      lt ([((0:Int),(0:Int)),((0:Int),(1:Int)),((1:Int),(0:Int)),((1:Int),(1:Int))]) fun v0 =>
      some v0
def J0F:Ct:=lct 182 [.agg y143] (fun x=>B0P x.1) (fun r:List (Int×Int)=>AV.ow 210 true (i64.pr i64) r) (fun _=>())
theorem I0i:Ok prog J0F:=by
 refine okL [.tmp 2] func182 ntmps182 results182 ?_;intro y ⟨a0,_⟩ r H Q hn hr;have:HT _ _:=⟨@tn prog⟩;refine qA (Z [p 1 (R 1)] [(1,K 143 y143 a0)])<|qA (Z [p 1 (R 1),p 3 (O 7)] [(7,A 210 (i64.pr i64) [((0:Int),(0:Int)),((1:Int),(1:Int))] 0),(1,K 143 y143 a0)])<|qA (Z [p 1 (R 1),p 3 (O 7),p 4 (O 10)] (W1 a0))<|vQ<|vB<|qA (Z [p 1 (R 1),p 3 (O 7),p 4 (O 10),p 11 (B (a0.1==(2:Int)))] (W1 a0))<|cD H (fun H=>?_) (fun H=>?_)
 ·refine qA (Z [p 2 (O 17)] ((17,A 210 (i64.pr i64) [((0:Int),(0:Int)),((0:Int),(1:Int))] 0)::W1 a0))<|vTT<|fDD<|fR<|hr H
 refine qA (Z [p 1 (R 1),p 3 (O 7),p 4 (O 10),p 18 (B (a0.1==(3:Int)))] (W1 a0))<|cD H (fun H=>?_) (fun H=>?_)
 ·refine qA (Z [p 2 (O 24)] ((24,A 210 (i64.pr i64) [((1:Int),(0:Int)),((1:Int),(1:Int))] 0)::W1 a0))<|vTT<|fDD<|fR<|hr H
 refine qA (Z [p 1 (R 1),p 3 (O 7),p 4 (O 10),p 25 (B (a0.1 != (1:Int)))] (W1 a0))<|cD H (fun H=>?_) (fun H=>?_)
 ·refine qA (Z [p 2 (nil)] (W1 a0))<|vTT<|fDD<|fR<|hr H
 refine qA (Z [p 1 (R 1),p 3 (O 7),p 4 (O 10),p 29 (B (a0.2.2.2.1==(1:Int)))] (W1 a0))<|cD H (fun H=>?_) (fun H=>?_)
 ·refine qA (Z [p 2 (O 7)] (W1 a0))<|vTT<|fDD<|fR<|hr H
 refine qA (Z [p 4 (O 10),p 34 (B (a0.2.2.2.1==(2:Int)))] (W1 a0))<|cD H (fun H=>?_) (fun H=>?_)
 ·refine qA (Z [p 2 (O 10)] (W1 a0))<|vTT<|fDD<|fR<|hr H
 refine vK<|fK<|fQ<|qC (fun v0=>Z [p 2 (O 43)] ((43,A 210 (i64.pr i64) v0 0)::W1 a0)) H fun v0 H=>vTT<|hr H
def x0r:List Y48->Option (List Y48)
 | v24 =>
 some v24
def r0d(v12:Int)(g1:List Y48×Int->Option (List Y48)):List Y48->Option (List Y48)
 | v23 =>
 gd (a0f (v12+1)/\True) <|
 g1 (v23,v12+1)
def r0b(a2:Int)(v13:c0f)(v12:Int)(v14:List (Int×Int))(g1:List Y48×Int->Option (List Y48))(g3:Int×List Y48->Option (List Y48)):Int×List Y48->Option (List Y48)
 | (v18,v19) =>
 if(decide (v18 < (v14.length:Int)))=true then
  gd (ix v18 v14.length/\v18.toNat<v14.length/\True)<|lt (v14.getD v18.toNat (a0a (i64.pr i64))) fun v20 =>
  gd (a0f (a2+v13.2.1)/\a0f ((2:Int)*(a2+v13.2.1))/\ix (0:Int) 2/\a0f ((2:Int)*(a2+v13.2.1)+v20.1)/\a0f (a2+v13.2.2.1)/\a0f ((2:Int)*(a2+v13.2.2.1))/\ix (1:Int) 2/\a0f ((2:Int)*(a2+v13.2.2.1)+v20.2)/\(v19.length+[((2:Int)*(a2+v13.2.1)+v20.1,(2:Int)*(a2+v13.2.2.1)+v20.2,(1:Int),v12)].length<=9223372036854775807/\(v19.length+[((2:Int)*(a2+v13.2.1)+v20.1,(2:Int)*(a2+v13.2.2.1)+v20.2,(1:Int),v12)].length)*32<=140737488355328)/\True)<|lt ((v19++[((2:Int)*(a2+v13.2.1)+v20.1,(2:Int)*(a2+v13.2.2.1)+v20.2,(1:Int),v12)],[((2:Int)*(a2+v13.2.1)+v20.1,(2:Int)*(a2+v13.2.2.1)+v20.2,(1:Int),v12)])) fun(v21,_v22) =>
  gd (a0f (v18+1)/\True) <|
  g3 (v18+1,v21)
 else
  r0d v12 g1 v19
def r0c(a2:Int)(v0:a0y)(g1:List Y48×Int->Option (List Y48)):List Y48×Int->Option (List Y48)
 | (v11,v12) =>
 if(decide (v12 < (v0.2.2.2.1.length:Int)))=true then
  gd (ix v12 v0.2.2.2.1.length/\True)<|lt (v0.2.2.2.1.getD v12.toNat (a0a y143)) fun v13 =>
  gd ((B0P v13).isSome=true/\True)<|lt (vl (B0P v13)) fun v14 =>
  lp (r0b a2 v13 v12 v14 g1) (0,v11)
 else
  x0r v11
def x0s(a0:Y34)(a1:a0H)(a2:Int):Option (List Y48) :=
 gd (ix a1.2.1 a0.1.length/\True)<|lt (a0.1.getD a1.2.1.toNat (a0a y163)) fun v0 =>
 lp (r0c a2 v0) ([],0)
def K0j:Ct:=lct 128 [.agg y34,.agg y165,.dat i64] (fun x=>x0s x.1 x.2.1 x.2.2.1) (fun r:List Y48=>AV.ow 48 true y48 r) (fun _=>())
theorem I0B:Ok prog K0j:=by
 refine okL [.tmp 6] func128 ntmps128 results128 ?_;intro y ⟨a0,a1,a2,_⟩ r H Q hn hr;have:HT _ _:=⟨tc I0i tn⟩;refine qA (Z [p 2 (J a2),p 3 (R 3),p 4 (R 4)] [(4,K 165 y165 a1),(3,K 34 y34 a0)])<|qA (Z [p 2 (J a2),p 3 (R 3),p 4 (R 4),p 7 (nil)] [(4,K 165 y165 a1),(3,K 34 y34 a0)])<|jN r (fun(v24:List Y48)=>Z [p 7 (O 53)] [(53,A 48 y48 v24 0)]) (x0r) (fun v24 H=>?_) (fun _ n0 e0 t0=>?_)
 ·refine qA (Z [p 6 (O 53)] [(53,A 48 y48 v24 0)])<|vTT<|hr H
 refine qD (fun v0=>Z [p 2 (J a2),p 7 (nil),p 19 (L y143 v0.2.2.2.1),p 20 (I (v0.2.2.2.1.length:Int)),p 21 (I 0)] [(4,K 165 y165 a1),(3,K 34 y34 a0)]) H fun v0 H=>vB<|lX (fun((v11,v12):List Y48×Int)=>Z [p 2 (J a2),p 7 (O 53),p 19 (L y143 v0.2.2.2.1),p 20 (I (v0.2.2.2.1.length:Int)),p 21 (I v12)] [(53,A 48 y48 v11 0)]) ([],0) H fun _ g1 b1 e1 t1 ⟨v11,v12⟩ H=>qA (Z [p 2 (J a2),p 7 (O 53),p 19 (L y143 v0.2.2.2.1),p 20 (I (v0.2.2.2.1.length:Int)),p 21 (I v12),p 22 (B (decide (v12 < (v0.2.2.2.1.length:Int))))] [(53,A 48 y48 v11 0)])<|vQ<|cD H (fun H=>?_) (fun H=>?_)
 ·refine vK<|fQ<|jN r (fun(v23:List Y48)=>Z [p 2 (J a2),p 7 (O 53),p 19 (L y143 v0.2.2.2.1),p 20 (I (v0.2.2.2.1.length:Int)),p 21 (I v12)] [(53,A 48 y48 v23 0)]) (r0d v12 g1) (fun v23 H=>?_) (fun _ n2 e2 t2=>?_)
  ·refine zB (Z [p 2 (J a2),p 7 (O 53),p 19 (L y143 v0.2.2.2.1),p 20 (I (v0.2.2.2.1.length:Int)),p 21 (I (v12+1))] [(53,A 48 y48 v23 0)]) H fun H=>b1 H
  refine vB<|qD (fun v13=>Z (G85 a2 v12 v0.2.2.2.1 (v0.2.2.2.1.length:Int) []) [(9,K 143 y143 v13),(53,A 48 y48 v11 0)]) H fun v13 H=>qD (fun v14=>Z (G85 a2 v12 v0.2.2.2.1 (v0.2.2.2.1.length:Int) [p 27 (O 27),p 28 (I (v14.length:Int)),p 29 (I 0)]) [(27,A 210 (i64.pr i64) v14 0),(9,K 143 y143 v13),(53,A 48 y48 v11 0)]) H fun v14 H=>vB<|lX (fun((v18,v19):Int×List Y48)=>Z (G85 a2 v12 v0.2.2.2.1 (v0.2.2.2.1.length:Int) [p 27 (O 27),p 28 (I (v14.length:Int)),p 29 (I v18)]) [(27,A 210 (i64.pr i64) v14 0),(9,K 143 y143 v13),(53,A 48 y48 v19 0)]) (0,v11) H fun _ g3 b3 e3 t3 ⟨v18,v19⟩ H=>qA (Z (G85 a2 v12 v0.2.2.2.1 (v0.2.2.2.1.length:Int) [p 27 (O 27),p 28 (I (v14.length:Int)),p 29 (I v18),p 30 (B (decide (v18 < (v14.length:Int))))]) [(27,A 210 (i64.pr i64) v14 0),(9,K 143 y143 v13),(53,A 48 y48 v19 0)])<|vQ<|cD H (fun H=>?_) (fun H=>?_)
  ·refine vK<|fQ<|vQ<|vB<|qD (fun v20=>Z [p 2 (J a2),p 7 (O 53),p 8 (I v12),p 9 (R 9),p 11 (R 11),p 19 (L y143 v0.2.2.2.1),p 20 (I (v0.2.2.2.1.length:Int)),p 21 (I v12),p 27 (O 27),p 28 (I (v14.length:Int)),p 29 (I v18)] [(11,bx 210 (a0i true (i64.pr i64) v20)),(27,A 210 (i64.pr i64) v14 0),(9,K 143 y143 v13),(53,A 48 y48 v19 0)]) H fun v20 H=>zD (fun(v21,v22)=>Z [p 2 (J a2),p 7 (AV.os 53 1),p 8 (I v12),p 9 (R 9),p 19 (L y143 v0.2.2.2.1),p 20 (I (v0.2.2.2.1.length:Int)),p 21 (I v12),p 27 (O 27),p 28 (I (v14.length:Int)),p 29 (I v18)] [(53,A 48 y48 v21 1),(52,A 48 y48 v22 0),(11,bx 210 (a0i true (i64.pr i64) v20)),(27,A 210 (i64.pr i64) v14 0),(9,K 143 y143 v13)]) H fun⟨v21,v22⟩ H =>
    fK<|fQ <|
    zB (Z [p 2 (J a2),p 7 (AV.os 53 1),p 8 (I v12),p 9 (R 9),p 19 (L y143 v0.2.2.2.1),p 20 (I (v0.2.2.2.1.length:Int)),p 21 (I v12),p 27 (O 27),p 28 (I (v14.length:Int)),p 29 (I (v18+1))] [(53,A 48 y48 v21 1),(52,A 48 y48 v22 0),(11,bx 210 (a0i true (i64.pr i64) v20)),(27,A 210 (i64.pr i64) v14 0),(9,K 143 y143 v13)]) H fun H =>
    b3 H
  exact vE<|fE<|e3<|fX rfl<|fK<|n2 H
 exact vE<|fE<|e1<|fX rfl<|n0 H
def B0l(a0:Y34)(v0:List c0q):List Y48×List Int×List (List Int)->Option (c0B)
 | (v97,v98,v99) =>
 some (a0,v0,v97,v98,v99,[])
def y0D(v71:Int)(g6:Int×List Int×List (List Int)×List Y48->Option (c0B)):List (List Int)×List Int×List Y48->Option (c0B)
 | (v94,v95,v96) =>
 gd (a0f (v71+1)/\True) <|
 g6 (v71+1,v95,v94,v96)
def y0C(v85:Int)(g8:Int×List Y48->Option (c0B)):List Y48->Option (c0B)
 | v93 =>
 gd (a0f (v85+1)/\True) <|
 g8 (v85+1,v93)
def i0o(v24:List Int)(v71:Int)(v23:List (List Int))(v85:Int)(g8:Int×List Y48->Option (c0B))(g10:Int×List Y48->Option (c0B)):Int×List Y48->Option (c0B)
 | (v89,v90) =>
 if(decide (v89<2))=true then
  gd (ix v71 v24.length/\v71.toNat<v24.length/\a0f ((2:Int)*v24.getD v71.toNat (0:Int))/\a0f ((2:Int)*v24.getD v71.toNat (0:Int)+v89)/\a0f ((2:Int)*List.getD (v23.getD v71.toNat []) v85.toNat (0:Int))/\a0f ((2:Int)*List.getD (v23.getD v71.toNat []) v85.toNat (0:Int)+v89)/\(v90.length+[((2:Int)*v24.getD v71.toNat (0:Int)+v89,(2:Int)*List.getD (v23.getD v71.toNat []) v85.toNat (0:Int)+v89,(2:Int),v85)].length<=9223372036854775807/\(v90.length+[((2:Int)*v24.getD v71.toNat (0:Int)+v89,(2:Int)*List.getD (v23.getD v71.toNat []) v85.toNat (0:Int)+v89,(2:Int),v85)].length)*32<=140737488355328)/\True)<|lt ((v90++[((2:Int)*v24.getD v71.toNat (0:Int)+v89,(2:Int)*List.getD (v23.getD v71.toNat []) v85.toNat (0:Int)+v89,(2:Int),v85)],[((2:Int)*v24.getD v71.toNat (0:Int)+v89,(2:Int)*List.getD (v23.getD v71.toNat []) v85.toNat (0:Int)+v89,(2:Int),v85)])) fun(v91,_v92) =>
  gd (a0f (v89+1)/\True) <|
  g10 (v89+1,v91)
 else
  y0C v85 g8 v90
def m0n(v24:List Int)(v71:Int)(v23:List (List Int))(v73:List (List Int))(v76:List Int)(v72:List Int)(v75:List Int)(g6:Int×List Int×List (List Int)×List Y48->Option (c0B))(g8:Int×List Y48->Option (c0B)):Int×List Y48->Option (c0B)
 | (v85,v86) =>
 if(decide (v85 < (↑(List.length (v23.getD v71.toNat [])):Int)))=true then
  gd (ix v85 (List.length (v23.getD v71.toNat []))/\True) <|
  lp (i0o v24 v71 v23 v85 g8) (0,v86)
 else
  y0D v71 g6 ((v73++[v76],v72++[v75.getD (Int.toNat (0:Int)) (0:Int)],v86))
def y0A(v24:List Int)(v23:List (List Int))(a0:Y34)(v0:List c0q)(g6:Int×List Int×List (List Int)×List Y48->Option (c0B)):Int×List Int×List (List Int)×List Y48->Option (c0B)
 | (v71,v72,v73,v74) =>
 if(decide (v71 < (a0.2.2.length:Int)))=true then
  gd ((r0a a0 v71).isSome=true/\ix (0:Int) (vl (r0a a0 v71)).length/\Int.toNat (0:Int) < (vl (r0a a0 v71)).length/\(v72.length+[(vl (r0a a0 v71)).getD (Int.toNat (0:Int)) (0:Int)].length<=9223372036854775807/\(v72.length+[(vl (r0a a0 v71)).getD (Int.toNat (0:Int)) (0:Int)].length)*8<=140737488355328)/\True)<|lt (vl (r0a a0 v71)) fun v75 =>
  gd ((x0p a0 v71).isSome=true/\(v73.length+[vl (x0p a0 v71)].length<=9223372036854775807/\(v73.length+[vl (x0p a0 v71)].length)*24<=140737488355328)/\True)<|lt (vl (x0p a0 v71)) fun v76 =>
  gd (ix v71 v23.length/\True) <|
  lp (m0n v24 v71 v23 v73 v76 v72 v75 g6) (0,v74)
 else
  B0l a0 v0 (v74,v72,v73)
def y0E(a0:Y34)(v0:List c0q)(v10:List Y48):List (List Int)×List Int->Option (c0B)
 | (v23,v24) =>
 lp (y0A v24 v23 a0 v0) (0,[],[],v10)
def t0J(v16:Int)(g3:Int×List (List Int)×List Int->Option (c0B)):List Int×List (List Int)->Option (c0B)
 | (v21,v22) =>
 gd (a0f (v16+1)/\True) <|
 g3 (v16+1,v22,v21)
def y0B(v0:List c0q)(a0:Y34)(v10:List Y48)(g3:Int×List (List Int)×List Int->Option (c0B)):Int×List (List Int)×List Int->Option (c0B)
 | (v16,v17,v18) =>
 if(decide (v16 < (v0.length:Int)))=true then
  gd (ix v16 v0.length/\v16.toNat<v0.length/\True)<|lt (v0.getD v16.toNat (a0a y105)) fun v19 =>
  if v19.2.2.2=true then
   gd (ix v19.2.2.1 v18.length/\v19.2.2.1.toNat<v18.length/\True) <|
   t0J v16 g3 (v18.set v19.2.2.1.toNat v16,v17)
  else
   gd (ix v19.2.2.1 v17.length/\v19.2.2.1.toNat<v17.length/\((v17.getD v19.2.2.1.toNat []).length+[v16].length<=9223372036854775807/\((v17.getD v19.2.2.1.toNat []).length+[v16].length)*8<=140737488355328)/\ix v19.2.2.1 v17.length/\(v19.2.2.1.toNat<v17.length/\v19.2.2.1.toNat=v19.2.2.1.toNat)/\True)<|lt (v17.set v19.2.2.1.toNat (v17.getD v19.2.2.1.toNat []++[v16])) fun v20 =>
   t0J v16 g3 (v18,v20)
 else
  y0E a0 v0 v10 (v17,v18)
def q0E(v0:List c0q)(a0:Y34):List Y48->Option (c0B)
 | v10 =>
 gd ((0<=(a0.2.2.length:Int)/\(a0.2.2.length:Int)=(a0.2.2.length:Int)/\(a0.2.2.length:Int).toNat*8<=281474976710656/\(a0.2.2.length:Int)<=9223372036854775807)/\True) <|
 gd ((0<=(a0.2.2.length:Int)/\(a0.2.2.length:Int)=(a0.2.2.length:Int)/\(a0.2.2.length:Int).toNat*24<=281474976710656/\(a0.2.2.length:Int)<=9223372036854775807)/\True) <|
 lp (y0B v0 a0 v10) ((0,List.replicate (a0.2.2.length:Int).toNat [],List.replicate (a0.2.2.length:Int).toNat 0))
def B0k(a0:Y34)(v0:List c0q)(g1:Int×Int×List Y48->Option (c0B)):Int×Int×List Y48->Option (c0B)
 | (v4,v5,v6) =>
 if(decide (v5 < (a0.2.1.1.length:Int)))=true then
  gd (ix v5 a0.2.1.1.length/\True)<|lt (a0.2.1.1.getD v5.toNat (a0a y165)) fun v7 =>
  gd ((x0s a0 v7 v4).isSome=true/\(v6.length+(vl (x0s a0 v7 v4)).length<=9223372036854775807/\(v6.length+(vl (x0s a0 v7 v4)).length)*32<=140737488355328)/\True)<|lt (vl (x0s a0 v7 v4)) fun v8 =>
  gd ((d0p v7.2.2).isSome=true/\a0f (v4+vl (d0p v7.2.2))/\True)<|lt (vl (d0p v7.2.2)) fun v9 =>
  gd (a0f (v5+1)/\True) <|
  g1 (v4+v9,v5+1,v6++v8)
 else
  q0E v0 a0 v6
def u66(a0:Y34):Option (c0B) :=
 gd ((u68 a0.2.1).isSome=true/\True)<|lt (vl (u68 a0.2.1)) fun v0 =>
 lp (B0k a0 v0) (0,0,[])
def k66:Ct:=lct 66 [.agg y34] (fun x=>u66 x.1) (fun r:c0B=>D y100.pt r) (fun _=>())
theorem o66:Ok prog k66:=by
 refine okL [.tmp 2] func66 ntmps66 results66 ?_;intro y ⟨a0,_⟩ r H Q hn hr;have:HT _ _:=⟨tc E0H (tc F0K (tc E0I (tc I0B (tc o68 tn))))⟩;refine qA (Z [p 1 (R 1)] [(1,K 34 y34 a0)])<|qD (fun v0=>Z (G76 []) ((20,bx 100 (Q12 a0))::W78 v0 a0)) H fun v0 H=>qA (Z (G76 [p 4 (I 0)]) ((20,bx 100 (Q12 a0))::W78 v0 a0))<|jN r (fun(v10:List Y48)=>Z (G76 []) ((20,bx 100 (Q4 a0))::W4 v0 a0 v10)) (q0E v0 a0) (fun v10 H=>?_) (fun _ n0 e0 t0=>?_)
 ·refine qB (Z (G9 []) ((50,A 2 i64 (List.replicate (a0.2.2.length:Int).toNat 0) 0)::(20,bx 100 (Q4 a0))::W4 v0 a0 v10)) H fun H=>qB (Z (G9 [p 8 (AV.og 54)]) ((54,Ob.grd 35 2 true i64 (List.replicate (a0.2.2.length:Int).toNat []) none)::(50,A 2 i64 (List.replicate (a0.2.2.length:Int).toNat 0) 0)::(20,bx 100 (Q4 a0))::W4 v0 a0 v10)) H fun H=>jN r (fun((v23,v24):List (List Int)×List Int)=>Z (G9 [p 8 (AV.og 54)]) ((54,Ob.grd 35 2 true i64 v23 none)::(50,A 2 i64 v24 0)::(20,bx 100 (Q4 a0))::W4 v0 a0 v10)) (y0E a0 v0 v10) (fun⟨v23,v24⟩ H=>?_) (fun _ n2 e2 t2=>?_)
  ·refine jN r (fun((v97,v98,v99):List Y48×List Int×List (List Int))=>Z [p 3 (R 20)] [(20,bx 100 (Q3 a0)),(18,A 105 y105 v0 0),(38,A 48 y48 v97 0),(102,A 2 i64 v98 0),(114,A 35 i64.sl v99 0)]) (B0l a0 v0) (fun⟨v97,v98,v99⟩ H=>?_) (fun _ n5 e5 t5=>?_)
   ·refine qA (Z [p 2 (R 20)] [(20,bx 100 (Q3 a0)),(18,A 105 y105 v0 0),(38,A 48 y48 v97 0),(102,A 2 i64 v98 0),(114,A 35 i64.sl v99 0)])<|vTT<|hr H
   refine qA (Z (G9 [p 8 (AV.og 54),p 87 (I (a0.2.2.length:Int)),p 88 (I 0)]) ((54,Ob.grd 35 2 true i64 v23 none)::(50,A 2 i64 v24 0)::(20,bx 100 (Q4 a0))::W4 v0 a0 v10))<|vB<|fZ 54 (Z (G9 [p 8 (M i64.sl v23),p 87 (I (a0.2.2.length:Int)),p 88 (I 0)]) ((50,A 2 i64 v24 0)::(20,bx 100 (Q4 a0))::W4 v0 a0 v10))<|lX (fun((v71,v72,v73,v74):Int×List Int×List (List Int)×List Y48)=>Z (G9 [p 8 (M i64.sl v23),p 87 (I (a0.2.2.length:Int)),p 88 (I v71)]) [(50,A 2 i64 v24 0),(20,bx 100 (Q3 a0)),(18,A 105 y105 v0 0),(1,K 34 y34 a0),(38,A 48 y48 v74 0),(102,A 2 i64 v72 0),(114,A 35 i64.sl v73 0)]) (0,[],[],v10) H fun _ g6 b6 e6 t6 ⟨v71,v72,v73,v74⟩ H=>qA (Z (G9 [p 8 (M i64.sl v23),p 87 (I (a0.2.2.length:Int)),p 88 (I v71),p 89 (B (decide (v71 < (a0.2.2.length:Int))))]) [(50,A 2 i64 v24 0),(20,bx 100 (Q3 a0)),(18,A 105 y105 v0 0),(1,K 34 y34 a0),(38,A 48 y48 v74 0),(102,A 2 i64 v72 0),(114,A 35 i64.sl v73 0)])<|vQ<|cD H (fun H=>?_) (fun H=>?_)
   ·refine vK<|fQ<|jN r (fun((v94,v95,v96):List (List Int)×List Int×List Y48)=>Z (G9 [p 8 (M i64.sl v23),p 87 (I (a0.2.2.length:Int)),p 88 (I v71)]) ((20,bx 100 (Q3 a0))::(114,A 35 i64.sl v94 0)::(102,A 2 i64 v95 0)::(50,A 2 i64 v24 0)::W4 v0 a0 v96)) (y0D v71 g6) (fun⟨v94,v95,v96⟩ H=>?_) (fun _ n7 e7 t7=>?_)
    ·refine zB (Z (G9 [p 8 (M i64.sl v23),p 87 (I (a0.2.2.length:Int)),p 88 (I (v71+1))]) ((20,bx 100 (Q3 a0))::(114,A 35 i64.sl v94 0)::(102,A 2 i64 v95 0)::(50,A 2 i64 v24 0)::W4 v0 a0 v96)) H fun H=>b6 H
    refine vB<|qA (Z (G9 [p 8 (M i64.sl v23),p 11 (I v71),p 87 (I (a0.2.2.length:Int)),p 88 (I v71)]) [(50,A 2 i64 v24 0),(20,bx 100 (Q3 a0)),(18,A 105 y105 v0 0),(1,K 34 y34 a0),(38,A 48 y48 v74 0),(102,A 2 i64 v72 0),(114,A 35 i64.sl v73 0)])<|qD (fun v75=>Z (G9 [p 8 (M i64.sl v23),p 11 (I v71),p 87 (I (a0.2.2.length:Int)),p 88 (I v71)]) [(20,bx 100 [L y163 a0.1,L y165 a0.2.1.1,L Ty.str a0.2.1.2.1,L y175 a0.2.1.2.2,L a0j a0.2.2,AV.os 18 0,AV.os 38 0,AV.os 102 1,AV.os 114 0,nil]),(102,A 2 i64 (v72++[v75.getD (Int.toNat (0:Int)) (0:Int)]) 1),(101,A 2 i64 [v75.getD (Int.toNat (0:Int)) (0:Int)] 0),(98,A 2 i64 v75 0),(50,A 2 i64 v24 0),(18,A 105 y105 v0 0),(1,K 34 y34 a0),(38,A 48 y48 v74 0),(114,A 35 i64.sl v73 0)]) H fun v75 H=>qD (fun v76=>Z (G9 [p 8 (M i64.sl v23),p 11 (I v71),p 87 (I (a0.2.2.length:Int)),p 88 (I v71)]) ((20,bx 100 [L y163 a0.1,L y165 a0.2.1.1,L Ty.str a0.2.1.2.1,L y175 a0.2.1.2.2,L a0j a0.2.2,AV.os 18 0,AV.os 38 0,AV.os 102 1,AV.os 114 1,nil])::(114,A 35 i64.sl (v73++[v76]) 1)::(113,A 35 i64.sl [v76] 0)::(102,A 2 i64 (v72++[v75.getD (Int.toNat (0:Int)) (0:Int)]) 1)::(101,A 2 i64 [v75.getD (Int.toNat (0:Int)) (0:Int)] 0)::(98,A 2 i64 v75 0)::(50,A 2 i64 v24 0)::W4 v0 a0 v74)) H fun v76 H=>qB (Z (G9 [p 8 (M i64.sl v23),p 11 (I v71),p 87 (I (a0.2.2.length:Int)),p 88 (I v71),p 120 (M i64 (v23.getD v71.toNat [])),p 121 (I (↑(List.length (v23.getD v71.toNat [])):Int)),p 122 (I (0:Int))]) ((20,bx 100 [L y163 a0.1,L y165 a0.2.1.1,L Ty.str a0.2.1.2.1,L y175 a0.2.1.2.2,L a0j a0.2.2,AV.os 18 0,AV.os 38 0,AV.os 102 1,AV.os 114 1,nil])::(114,A 35 i64.sl (v73++[v76]) 1)::(113,A 35 i64.sl [v76] 0)::(102,A 2 i64 (v72++[v75.getD (Int.toNat (0:Int)) (0:Int)]) 1)::(101,A 2 i64 [v75.getD (Int.toNat (0:Int)) (0:Int)] 0)::(98,A 2 i64 v75 0)::(50,A 2 i64 v24 0)::W4 v0 a0 v74)) H fun H=>vB<|lX (fun((v85,v86):Int×List Y48)=>Z (G9 [p 8 (M i64.sl v23),p 11 (I v71),p 87 (I (a0.2.2.length:Int)),p 88 (I v71),p 120 (M i64 (v23.getD v71.toNat [])),p 121 (I (↑(List.length (v23.getD v71.toNat [])):Int)),p 122 (I v85)]) ((20,bx 100 (Q3 a0))::(114,A 35 i64.sl (v73++[v76]) 0)::(102,A 2 i64 (v72++[v75.getD (Int.toNat (0:Int)) (0:Int)]) 0)::(50,A 2 i64 v24 0)::W4 v0 a0 v86)) (0,v74) H fun _ g8 b8 e8 t8 ⟨v85,v86⟩ H=>qA (Z (G9 [p 8 (M i64.sl v23),p 11 (I v71),p 87 (I (a0.2.2.length:Int)),p 88 (I v71),p 120 (M i64 (v23.getD v71.toNat [])),p 121 (I (↑(List.length (v23.getD v71.toNat [])):Int)),p 122 (I v85),p 123 (B (decide (v85 < (↑(List.length (v23.getD v71.toNat [])):Int))))]) ((20,bx 100 (Q3 a0))::(114,A 35 i64.sl (v73++[v76]) 0)::(102,A 2 i64 (v72++[v75.getD (Int.toNat (0:Int)) (0:Int)]) 0)::(50,A 2 i64 v24 0)::W4 v0 a0 v86))<|vQ<|cD H (fun H=>?_) (fun H=>?_)
    ·refine vK<|fQ<|jN r (fun(v93:List Y48)=>Z (G9 [p 8 (M i64.sl v23),p 11 (I v71),p 87 (I (a0.2.2.length:Int)),p 88 (I v71),p 120 (M i64 (v23.getD v71.toNat [])),p 121 (I (↑(List.length (v23.getD v71.toNat [])):Int)),p 122 (I v85)]) ((20,bx 100 (Q3 a0))::(114,A 35 i64.sl (v73++[v76]) 0)::(102,A 2 i64 (v72++[v75.getD (Int.toNat (0:Int)) (0:Int)]) 0)::(50,A 2 i64 v24 0)::W4 v0 a0 v93)) (y0C v85 g8) (fun v93 H=>?_) (fun _ n9 e9 t9=>?_)
     ·refine zB (Z (G9 [p 8 (M i64.sl v23),p 11 (I v71),p 87 (I (a0.2.2.length:Int)),p 88 (I v71),p 120 (M i64 (v23.getD v71.toNat [])),p 121 (I (↑(List.length (v23.getD v71.toNat [])):Int)),p 122 (I (v85+(1:Int)))]) ((20,bx 100 (Q3 a0))::(114,A 35 i64.sl (v73++[v76]) 0)::(102,A 2 i64 (v72++[v75.getD (Int.toNat (0:Int)) (0:Int)]) 0)::(50,A 2 i64 v24 0)::W4 v0 a0 v93)) H fun H=>b8 H
     refine vB<|qB (Z (G9 [p 8 (M i64.sl v23),p 11 (I v71),p 12 (I v85),p 13 (I (List.getD (v23.getD v71.toNat []) v85.toNat (0:Int))),p 87 (I (a0.2.2.length:Int)),p 88 (I v71),p 120 (M i64 (v23.getD v71.toNat [])),p 121 (I (↑(List.length (v23.getD v71.toNat [])):Int)),p 122 (I v85)]) ((20,bx 100 (Q3 a0))::(114,A 35 i64.sl (v73++[v76]) 0)::(102,A 2 i64 (v72++[v75.getD (Int.toNat (0:Int)) (0:Int)]) 0)::(50,A 2 i64 v24 0)::W4 v0 a0 v86)) H fun H=>qA (Z (G9 [p 8 (M i64.sl v23),p 11 (I v71),p 12 (I v85),p 13 (I (List.getD (v23.getD v71.toNat []) v85.toNat (0:Int))),p 87 (I (a0.2.2.length:Int)),p 88 (I v71),p 120 (M i64 (v23.getD v71.toNat [])),p 121 (I (↑(List.length (v23.getD v71.toNat [])):Int)),p 122 (I v85),p 127 (I (0:Int))]) ((20,bx 100 (Q3 a0))::(114,A 35 i64.sl (v73++[v76]) 0)::(102,A 2 i64 (v72++[v75.getD (Int.toNat (0:Int)) (0:Int)]) 0)::(50,A 2 i64 v24 0)::W4 v0 a0 v86))<|vB<|lX (fun((v89,v90):Int×List Y48)=>Z (G9 [p 8 (M i64.sl v23),p 11 (I v71),p 12 (I v85),p 13 (I (List.getD (v23.getD v71.toNat []) v85.toNat (0:Int))),p 87 (I (a0.2.2.length:Int)),p 88 (I v71),p 120 (M i64 (v23.getD v71.toNat [])),p 121 (I (↑(List.length (v23.getD v71.toNat [])):Int)),p 122 (I v85),p 127 (I v89)]) ((20,bx 100 (Q3 a0))::(114,A 35 i64.sl (v73++[v76]) 0)::(102,A 2 i64 (v72++[v75.getD (Int.toNat (0:Int)) (0:Int)]) 0)::(50,A 2 i64 v24 0)::W4 v0 a0 v90)) (0,v86) H fun _ g10 b10 e10 t10 ⟨v89,v90⟩ H=>qA (Z (G9 [p 8 (M i64.sl v23),p 11 (I v71),p 12 (I v85),p 13 (I (List.getD (v23.getD v71.toNat []) v85.toNat (0:Int))),p 87 (I (a0.2.2.length:Int)),p 88 (I v71),p 120 (M i64 (v23.getD v71.toNat [])),p 121 (I (↑(List.length (v23.getD v71.toNat [])):Int)),p 122 (I v85),p 127 (I v89),p 128 (B (decide (v89 < (2:Int))))]) ((20,bx 100 (Q3 a0))::(114,A 35 i64.sl (v73++[v76]) 0)::(102,A 2 i64 (v72++[v75.getD (Int.toNat (0:Int)) (0:Int)]) 0)::(50,A 2 i64 v24 0)::W4 v0 a0 v90))<|vQ<|cD H (fun H=>?_) (fun H=>?_)
     ·refine vK<|fQ<|vQ<|vB<|qA (Z (G9 [p 8 (M i64.sl v23),p 11 (I v71),p 12 (I v85),p 13 (I (List.getD (v23.getD v71.toNat []) v85.toNat (0:Int))),p 14 (I v89),p 87 (I (a0.2.2.length:Int)),p 88 (I v71),p 120 (M i64 (v23.getD v71.toNat [])),p 121 (I (↑(List.length (v23.getD v71.toNat [])):Int)),p 122 (I v85),p 127 (I v89)]) ((20,bx 100 (Q3 a0))::(114,A 35 i64.sl (v73++[v76]) 0)::(102,A 2 i64 (v72++[v75.getD (Int.toNat (0:Int)) (0:Int)]) 0)::(50,A 2 i64 v24 0)::W4 v0 a0 v90))<|zD (fun(v91,v92)=>Z (G9 [p 8 (M i64.sl v23),p 11 (I v71),p 12 (I v85),p 13 (I (List.getD (v23.getD v71.toNat []) v85.toNat (0:Int))),p 87 (I (a0.2.2.length:Int)),p 88 (I v71),p 120 (M i64 (v23.getD v71.toNat [])),p 121 (I (↑(List.length (v23.getD v71.toNat [])):Int)),p 122 (I v85),p 127 (I v89)]) ((20,bx 100 [L y163 a0.1,L y165 a0.2.1.1,L Ty.str a0.2.1.2.1,L y175 a0.2.1.2.2,L a0j a0.2.2,AV.os 18 0,AV.os 38 1,AV.os 102 0,AV.os 114 0,nil])::(38,A 48 y48 v91 1)::(148,A 48 y48 v92 0)::(114,A 35 i64.sl (v73++[v76]) 0)::(102,A 2 i64 (v72++[v75.getD (Int.toNat (0:Int)) (0:Int)]) 0)::(50,A 2 i64 v24 0)::W78 v0 a0)) H fun⟨v91,v92⟩ H =>
       fK<|fQ <|
       zB (Z (G9 [p 8 (M i64.sl v23),p 11 (I v71),p 12 (I v85),p 13 (I (List.getD (v23.getD v71.toNat []) v85.toNat (0:Int))),p 87 (I (a0.2.2.length:Int)),p 88 (I v71),p 120 (M i64 (v23.getD v71.toNat [])),p 121 (I (↑(List.length (v23.getD v71.toNat [])):Int)),p 122 (I v85),p 127 (I (v89+(1:Int)))]) ((20,bx 100 [L y163 a0.1,L y165 a0.2.1.1,L Ty.str a0.2.1.2.1,L y175 a0.2.1.2.2,L a0j a0.2.2,AV.os 18 0,AV.os 38 1,AV.os 102 0,AV.os 114 0,nil])::(38,A 48 y48 v91 1)::(148,A 48 y48 v92 0)::(114,A 35 i64.sl (v73++[v76]) 0)::(102,A 2 i64 (v72++[v75.getD (Int.toNat (0:Int)) (0:Int)]) 0)::(50,A 2 i64 v24 0)::W78 v0 a0)) H fun H =>
       b10 H
     exact vE<|fE<|e10<|fX rfl<|fK<|n9 H
    exact vE<|fE<|e8<|fX rfl<|fK<|n7 H
   exact vE<|fE<|e6<|fX rfl<|n5 H
  refine qA (Z (G9 [p 8 (AV.og 54),p 58 (O 18),p 59 (I (v0.length:Int)),p 60 (I 0)]) ((54,Ob.grd 35 2 true i64 (List.replicate (a0.2.2.length:Int).toNat []) none)::(50,A 2 i64 (List.replicate (a0.2.2.length:Int).toNat 0) 0)::(20,bx 100 (Q4 a0))::W4 v0 a0 v10))<|vB<|lX (fun((v16,v17,v18):Int×List (List Int)×List Int)=>Z (G9 [p 8 (AV.og 54),p 58 (O 18),p 59 (I (v0.length:Int)),p 60 (I v16)]) ((54,Ob.grd 35 2 true i64 v17 none)::(50,A 2 i64 v18 0)::(20,bx 100 (Q4 a0))::W4 v0 a0 v10)) ((0,List.replicate (a0.2.2.length:Int).toNat [],List.replicate (a0.2.2.length:Int).toNat 0)) H fun _ g3 b3 e3 t3 ⟨v16,v17,v18⟩ H=>qA (Z (G9 [p 8 (AV.og 54),p 58 (O 18),p 59 (I (v0.length:Int)),p 60 (I v16),p 61 (B (decide (v16 < (v0.length:Int))))]) ((54,Ob.grd 35 2 true i64 v17 none)::(50,A 2 i64 v18 0)::(20,bx 100 (Q4 a0))::W4 v0 a0 v10))<|vQ<|cD H (fun H=>?_) (fun H=>?_)
  ·refine vK<|fQ<|jN r (fun((v21,v22):List Int×List (List Int))=>Z (G9 [p 8 (AV.og 54),p 58 (O 18),p 59 (I (v0.length:Int)),p 60 (I v16)]) ((50,A 2 i64 v21 0)::(54,Ob.grd 35 2 true i64 v22 none)::(20,bx 100 (Q4 a0))::W4 v0 a0 v10)) (t0J v16 g3) (fun⟨v21,v22⟩ H=>?_) (fun _ n4 e4 t4=>?_)
   ·refine zB (Z (G9 [p 8 (AV.og 54),p 58 (O 18),p 59 (I (v0.length:Int)),p 60 (I (v16+1))]) ((50,A 2 i64 v21 0)::(54,Ob.grd 35 2 true i64 v22 none)::(20,bx 100 (Q4 a0))::W4 v0 a0 v10)) H fun H=>b3 H
   refine vB<|qD (fun v19=>Z (G9 [p 8 (AV.og 54),p 9 (I v16),p 10 (R 10),p 58 (O 18),p 59 (I (v0.length:Int)),p 60 (I v16)]) ((10,bx 105 (a0i true y105 v19))::(54,Ob.grd 35 2 true i64 v17 none)::(50,A 2 i64 v18 0)::(20,bx 100 (Q4 a0))::W4 v0 a0 v10)) H fun v19 H=>qA (Z (G9 [p 8 (AV.og 54),p 9 (I v16),p 10 (R 10),p 58 (O 18),p 59 (I (v0.length:Int)),p 60 (I v16),p 66 (B v19.2.2.2)]) ((10,bx 105 (a0i true y105 v19))::(54,Ob.grd 35 2 true i64 v17 none)::(50,A 2 i64 v18 0)::(20,bx 100 (Q4 a0))::W4 v0 a0 v10))<|cD H (fun H=>?_) (fun H=>?_)
   ·refine zB (Z (G9 [p 8 (AV.og 54),p 58 (O 18),p 59 (I (v0.length:Int)),p 60 (I v16)]) ((50,A 2 i64 (v18.set v19.2.2.1.toNat v16) 0)::(10,bx 105 (a0i true y105 v19))::(54,Ob.grd 35 2 true i64 v17 none)::(20,bx 100 (Q4 a0))::W4 v0 a0 v10)) H fun H=>fK<|n4 H
   refine zD (fun v20=>Z (G9 [p 8 (AV.og 54),p 58 (O 18),p 59 (I (v0.length:Int)),p 60 (I v16)]) ((54,Ob.grd 35 2 true i64 v20 none)::(79,A 2 i64 [] 2)::(81,A 2 i64 [v16] 0)::(10,bx 105 (a0i true y105 v19))::(50,A 2 i64 v18 0)::(20,bx 100 (Q4 a0))::W4 v0 a0 v10)) H fun v20 H=>fK<|n4 H
  exact vE<|fE<|e3<|fX rfl<|n2 H
 refine qA (Z (G76 [p 4 (I 0),p 23 (L y165 a0.2.1.1),p 24 (I (a0.2.1.1.length:Int)),p 25 (I 0)]) ((20,bx 100 (Q12 a0))::W78 v0 a0))<|vB<|lX (fun((v4,v5,v6):Int×Int×List Y48)=>Z (G76 [p 4 (I v4),p 23 (L y165 a0.2.1.1),p 24 (I (a0.2.1.1.length:Int)),p 25 (I v5)]) ((20,bx 100 (Q4 a0))::W4 v0 a0 v6)) (0,0,[]) H fun _ g1 b1 e1 t1 ⟨v4,v5,v6⟩ H=>qA (Z (G76 [p 4 (I v4),p 23 (L y165 a0.2.1.1),p 24 (I (a0.2.1.1.length:Int)),p 25 (I v5),p 26 (B (decide (v5 < (a0.2.1.1.length:Int))))]) ((20,bx 100 (Q4 a0))::W4 v0 a0 v6))<|vQ<|cD H (fun H=>?_) (fun H=>?_)
 ·refine vK<|fQ<|vQ<|vB<|qD (fun v7=>Z (G76 [p 4 (I v4),p 6 (R 6),p 23 (L y165 a0.2.1.1),p 24 (I (a0.2.1.1.length:Int)),p 25 (I v5)]) ((6,K 165 y165 v7)::(20,bx 100 (Q4 a0))::W4 v0 a0 v6)) H fun v7 H=>qD (fun v8=>Z (G76 [p 4 (I v4),p 6 (R 6),p 23 (L y165 a0.2.1.1),p 24 (I (a0.2.1.1.length:Int)),p 25 (I v5)]) ((20,bx 100 (Q11 a0))::(38,A 48 y48 (v6++v8) 1)::(37,A 48 y48 v8 0)::(6,K 165 y165 v7)::W78 v0 a0)) H fun v8 H=>zD (fun v9=>Z (G76 [p 4 (I (v4+v9)),p 23 (L y165 a0.2.1.1),p 24 (I (a0.2.1.1.length:Int)),p 25 (I v5)]) ((20,bx 100 (Q11 a0))::(38,A 48 y48 (v6++v8) 1)::(37,A 48 y48 v8 0)::(6,K 165 y165 v7)::W78 v0 a0)) H fun v9 H=>fK<|fQ<|zB (Z (G76 [p 4 (I (v4+v9)),p 23 (L y165 a0.2.1.1),p 24 (I (a0.2.1.1.length:Int)),p 25 (I (v5+1))]) ((20,bx 100 (Q11 a0))::(38,A 48 y48 (v6++v8) 1)::(37,A 48 y48 v8 0)::(6,K 165 y165 v7)::W78 v0 a0)) H fun H=>b1 H
 exact vE<|fE<|e1<|fX rfl<|n0 H
def w0J:Unit->Option (Bool)
 | _ =>
 some true
def w0I(a0:b0I)(g1:Int->Option (Bool)):Int->Option (Bool)
 | v0 =>
 if(decide (v0 < (a0.1.length:Int)))=true then
  gd (ix v0 a0.1.length/\True) <|
  gd (((a0.1.getD v0.toNat (0:Int) != (-1:Int))=false/\(v0==(0:Int))=true/\True->ix (0:Int) a0.2.1.length)/\(decide ((0:Int)<v0)=true/\(v0==(0:Int)&&(a0.1.getD v0.toNat (0:Int) != (-1:Int)||a0.2.1.getD (Int.toNat (0:Int)) (0:Int) != (0:Int)))=false/\True->a0f (v0-(1:Int)))/\(decide ((0:Int)<v0)=true/\(v0==(0:Int)&&(a0.1.getD v0.toNat (0:Int) != (-1:Int)||a0.2.1.getD (Int.toNat (0:Int)) (0:Int) != (0:Int)))=false/\True->(b0y (a0.1.getD v0.toNat (0:Int)) (0:Int) (v0-(1:Int))).isSome=true)/\True) <|
  if(v0==(0:Int)&&(a0.1.getD v0.toNat (0:Int) != (-1:Int)||a0.2.1.getD (Int.toNat (0:Int)) (0:Int) != (0:Int))||decide ((0:Int)<v0)&&!vl (b0y (a0.1.getD v0.toNat (0:Int)) (0:Int) (v0-(1:Int))))=true then
   some false
  else
   gd (a0f (v0+1)/\True) <|
   g1 (v0+1)
 else
  w0J ()
def t0q(a0:b0I):Option (Bool) :=
 lp (w0I a0) 0
def J0G:Ct:=lct 181 [.agg a0j] (fun x=>t0q x.1) (fun r:Bool=>B r) (fun _=>())
theorem I0j:Ok prog J0G:=by
 refine okL [.tmp 2] func181 ntmps181 results181 ?_;intro y ⟨a0,_⟩ r H Q hn hr;have:HT _ _:=⟨tc r0O tn⟩;refine qA (Z [p 1 (R 1)] [(1,K 110 a0j a0)])<|jN r (fun(_:Unit)=>Z [] []) (w0J) (fun _ H=>?_) (fun _ n0 e0 t0=>?_)
 ·refine qA (Z [p 2 (B true)] [])<|vTT<|hr H
 refine qA (Z [p 1 (R 1),p 6 (L i64 a0.1),p 7 (I (a0.1.length:Int)),p 8 (I 0)] [(1,K 110 a0j a0)])<|vB<|lX (fun(v0:Int)=>Z [p 1 (R 1),p 6 (L i64 a0.1),p 7 (I (a0.1.length:Int)),p 8 (I v0)] [(1,K 110 a0j a0)]) 0 H fun _ g1 b1 e1 t1 v0 H=>qA (Z [p 1 (R 1),p 6 (L i64 a0.1),p 7 (I (a0.1.length:Int)),p 8 (I v0),p 9 (B (decide (v0 < (a0.1.length:Int))))] [(1,K 110 a0j a0)])<|vQ<|cD H (fun H=>?_) (fun H=>?_)
 ·refine vK<|fQ<|vQ<|vB<|qB (Z (G14 v0 [p 4 (J (a0.1.getD v0.toNat 0)),p 6 (L i64 a0.1),p 7 (I (a0.1.length:Int)),p 8 (I v0)]) [(1,K 110 a0j a0)]) H fun H=>qB (Z [p 1 (R 1),p 6 (L i64 a0.1),p 7 (I (a0.1.length:Int)),p 8 (I v0),p 36 (B (v0==(0:Int)&&(a0.1.getD v0.toNat (0:Int) != (-1:Int)||a0.2.1.getD (Int.toNat (0:Int)) (0:Int) != (0:Int))||decide ((0:Int)<v0)&&!vl (b0y (a0.1.getD v0.toNat (0:Int)) (0:Int) (v0-(1:Int)))))] [(1,K 110 a0j a0)]) H fun H=>cD H (fun H=>?_) (fun H=>?_)
  ·refine qA (Z [p 2 (B false)] [(1,K 110 a0j a0)])<|vTT<|fDD<|fR<|t1<|fDD<|t0<|hr H
  refine vK<|fK<|fQ<|zB (Z [p 1 (R 1),p 6 (L i64 a0.1),p 7 (I (a0.1.length:Int)),p 8 (I (v0+1))] [(1,K 110 a0j a0)]) H fun H=>b1 H
 exact vE<|fE<|e1<|fX rfl<|n0 H
def A0r(a0:b0I)(a1:Int):Option (Bool) :=
 gd ((d0p a0.1).isSome=true/\True)<|lt (vl (d0p a0.1)) fun v0 =>
 gd ((b0y v0 1 8).isSome=true/\(vl (b0y v0 1 8)=true/\True->(d0p a0.2.1).isSome=true)/\((vl (b0y v0 1 8)&&vl (d0p a0.2.1)==v0)=true/\True->(d0p a0.2.2.1).isSome=true)/\((vl (b0y v0 1 8)&&vl (d0p a0.2.1)==v0&&vl (d0p a0.2.2.1)==v0)=true/\True->(t0q a0).isSome=true)/\((vl (b0y v0 1 8)&&vl (d0p a0.2.1)==v0&&vl (d0p a0.2.2.1)==v0&&vl (t0q a0))=true/\True->(e0U a0.2.1 0 1000).isSome=true)/\((vl (b0y v0 1 8)&&vl (d0p a0.2.1)==v0&&vl (d0p a0.2.2.1)==v0&&vl (t0q a0)&&vl (e0U a0.2.1 0 1000))=true/\True->(e0U a0.2.2.1 0 500).isSome=true)/\((vl (b0y v0 1 8)&&vl (d0p a0.2.1)==v0&&vl (d0p a0.2.2.1)==v0&&vl (t0q a0)&&vl (e0U a0.2.1 0 1000)&&vl (e0U a0.2.2.1 0 500))=true/\True->(d0p a0.2.2.2).isSome=true)/\((vl (b0y v0 1 8)&&vl (d0p a0.2.1)==v0&&vl (d0p a0.2.2.1)==v0&&vl (t0q a0)&&vl (e0U a0.2.1 0 1000)&&vl (e0U a0.2.2.1 0 500)&&vl (d0p a0.2.2.2)==a1)=true/\True->a0f (v0-1))/\((vl (b0y v0 1 8)&&vl (d0p a0.2.1)==v0&&vl (d0p a0.2.2.1)==v0&&vl (t0q a0)&&vl (e0U a0.2.1 0 1000)&&vl (e0U a0.2.2.1 0 500)&&vl (d0p a0.2.2.2)==a1)=true/\True->(e0U a0.2.2.2 0 (v0-1)).isSome=true)/\True)<|lt ((vl (d0p a0.2.1),vl (d0p a0.2.2.1),vl (d0p a0.2.2.2))) fun(v1,v2,v3) =>
 some (vl (b0y v0 1 8)&&v1==v0&&v2==v0&&vl (t0q a0)&&vl (e0U a0.2.1 0 1000)&&vl (e0U a0.2.2.1 0 500)&&v3==a1&&vl (e0U a0.2.2.2 0 (v0-1)))
def K0k:Ct:=lct 127 [.agg a0j,.dat i64] (fun x=>A0r x.1 x.2.1) (fun r:Bool=>B r) (fun _=>())
theorem I0C:Ok prog K0k:=by
 refine okL [.tmp 4] func127 ntmps127 results127 ?_;intro y ⟨a0,a1,_⟩ r H Q hn hr;have:HT _ _:=⟨tc D0P (tc E0I (tc I0j (tc r0O tn)))⟩;refine qA (Z (G52 a1 []) [(2,K 110 a0j a0)])<|qD (fun v0=>Z (G52 a1 [p 5 (I v0)]) [(2,K 110 a0j a0)]) H fun v0 H=>qD (fun(v1,v2,v3)=>Z [p 4 (B (vl (b0y v0 1 8)&&v1==v0&&v2==v0&&vl (t0q a0)&&vl (e0U a0.2.1 0 1000)&&vl (e0U a0.2.2.1 0 500)&&v3==a1&&vl (e0U a0.2.2.2 0 (v0-1))))] [(2,K 110 a0j a0)]) H fun⟨v1,v2,v3⟩ H =>
  vTT<|hr H
def D0x(a0:Int):Option (Bool) :=
 some (a0 != 1)
def J0H:Ct:=lct 180 [.dat i64] (fun x=>D0x x.1) (fun r:Bool=>B r) (fun _=>())
theorem E0E:Ok prog J0H:=by
 refine okL [.tmp 2] func180 ntmps180 results180 ?_;intro y ⟨a0,_⟩ r H Q hn hr;have:HT _ _:=⟨@tn prog⟩;refine qA (Z [p 0 (J a0)] [])<|qA (Z [p 2 (B (a0 != 1))] [])<|vTT<|hr H
def y0K(a0:List ByteArray):Option (Int) :=
 some (a0.length:Int)
def J0p:Ct:=lct 216 [.dat Ty.str.sl] (fun x=>y0K x.1) (fun r:Int=>I r) (fun _=>())
theorem H0X:Ok prog J0p:=by
 refine okL [.tmp 2] func216 ntmps216 results216 ?_;intro y ⟨a0,_⟩ r H Q hn hr;have:HT _ _:=⟨@tn prog⟩;refine qA (Z [p 0 (L Ty.str a0)] [])<|qA (Z [p 2 (I (a0.length:Int))] [])<|vTT<|hr H
def t0V(a0:Y31)(a1:Int):Option (Bool) :=
 gd ((y0K a0.2.1).isSome=true/\a0f (vl (y0K a0.2.1)-1)/\(b0y a1 0 (vl (y0K a0.2.1)-1)).isSome=true/\True) <|
 some (vl (b0y a1 0 (vl (y0K a0.2.1)-1)))
def J0I:Ct:=lct 178 [.agg y31,.dat i64] (fun x=>t0V x.1 x.2.1) (fun r:Bool=>B r) (fun _=>())
theorem F0G:Ok prog J0I:=by
 refine okL [.tmp 4] func178 ntmps178 results178 ?_;intro y ⟨a0,a1,_⟩ r H Q hn hr;have:HT _ _:=⟨tc r0O (tc H0X tn)⟩;refine qA (Z (G52 a1 []) [(2,K 31 y31 a0)])<|qB (Z [p 4 (B (vl (b0y a1 0 (vl (y0K a0.2.1)-1))))] [(2,K 31 y31 a0)]) H fun H=>vTT<|hr H
def t0S(a0:List a0y):Option (Int) :=
 some (a0.length:Int)
def J0r:Ct:=lct 214 [.dat y163.sl] (fun x=>t0S x.1) (fun r:Int=>I r) (fun _=>())
theorem H0Y:Ok prog J0r:=by
 refine okL [.tmp 2] func214 ntmps214 results214 ?_;intro y ⟨a0,_⟩ r H Q hn hr;have:HT _ _:=⟨@tn prog⟩;refine qA (Z [p 0 (L y163 a0)] [])<|qA (Z [p 2 (I (a0.length:Int))] [])<|vTT<|hr H
def A0h(a0:Int)(a1:Y31):Option (Bool) :=
 gd ((t0V a1 a0).isSome=true/\True) <|
 some (!vl (t0V a1 a0))
def J0q:Ct:=lct 215 [.dat i64,.dat (.pt y31)] (fun x=>A0h x.1 x.2.1) (fun r:Bool=>B r) (fun _=>())
theorem E0z:Ok prog J0q:=by
 refine okL [.tmp 3] func215 ntmps215 results215 ?_;intro y ⟨a0,a1,_⟩ r H Q hn hr;have:HT _ _:=⟨tc F0G tn⟩;refine qA (Z [p 0 (J a0),p 1 (D y31.pt a1)] [])<|qB (Z [p 3 (B !vl (t0V a1 a0))] []) H fun H=>vTT<|hr H
def i0v:Unit->Option (Int)
 | _ =>
 some (-1)
def p0l(a0:List Int)(a1:Y31)(g1:Int->Option (Int)):Int->Option (Int)
 | v0 =>
 if(decide (v0 < (a0.length:Int)))=true then
  gd (ix v0 a0.length/\(A0h (a0.getD v0.toNat 0) a1).isSome=true/\True) <|
  if(vl (A0h (a0.getD v0.toNat 0) a1))=true then
   some v0
  else
   gd (a0f (v0+1)/\True) <|
   g1 (v0+1)
 else
  i0v ()
def g0x(a0:List Int)(a1:Y31):Option (Int) :=
 lp (p0l a0 a1) 0
def v0k:Ct:=lct 241 [.dat i64.sl,.fn 215 y31.pt] (fun x=>g0x x.1 x.2.1) (fun r:Int=>I r) (fun _=>())
theorem u0M:Ok prog v0k:=by
 refine okL [.tmp 4] func241 ntmps241 results241 ?_;intro y ⟨a0,a1,_⟩ r H Q hn hr;have:HT _ _:=⟨tc E0z tn⟩;refine qA (Z [p 0 (L i64 a0),p 1 (AV.fn 215 [D y31.pt a1])] [])<|jN r (fun(_:Unit)=>Z [] []) (i0v) (fun _ H=>?_) (fun _ n0 e0 t0=>?_)
 ·refine qA (Z [p 4 (I (-1))] [])<|vTT<|hr H
 refine qA (Z [p 0 (L i64 a0),p 1 (AV.fn 215 [D y31.pt a1]),p 7 (I (a0.length:Int)),p 8 (I 0)] [])<|vB<|lX (fun(v0:Int)=>Z [p 0 (L i64 a0),p 1 (AV.fn 215 [D y31.pt a1]),p 7 (I (a0.length:Int)),p 8 (I v0)] []) 0 H fun _ g1 b1 e1 t1 v0 H=>qA (Z [p 0 (L i64 a0),p 1 (AV.fn 215 [D y31.pt a1]),p 7 (I (a0.length:Int)),p 8 (I v0),p 9 (B (decide (v0 < (a0.length:Int))))] [])<|vQ<|cD H (fun H=>?_) (fun H=>?_)
 ·refine vK<|fQ<|vQ<|vB<|qA (Z [p 0 (L i64 a0),p 1 (AV.fn 215 [D y31.pt a1]),p 5 (I v0),p 7 (I (a0.length:Int)),p 8 (I v0)] [])<|qB (Z [p 0 (L i64 a0),p 1 (AV.fn 215 [D y31.pt a1]),p 5 (I v0),p 7 (I (a0.length:Int)),p 8 (I v0),p 16 (B (vl (A0h (a0.getD v0.toNat 0) a1)))] []) H fun H=>cD H (fun H=>?_) (fun H=>?_)
  ·refine qA (Z [p 4 (I v0)] [])<|vTT<|fDD<|fR<|t1<|fDD<|t0<|hr H
  refine vK<|fK<|fQ<|zB (Z [p 0 (L i64 a0),p 1 (AV.fn 215 [D y31.pt a1]),p 7 (I (a0.length:Int)),p 8 (I (v0+1))] []) H fun H=>b1 H
 exact vE<|fE<|e1<|fX rfl<|n0 H
def e0R(a0:List Int)(a1:Y31):Option (Bool) :=
 gd ((g0x a0 a1).isSome=true/\True)<|lt (vl (g0x a0 a1)) fun v0 =>
 some (decide (0<=v0))
def v0n:Ct:=lct 210 [.dat i64.sl,.fn 215 (.pt y31)] (fun x=>e0R x.1 x.2.1) (fun r:Bool=>B r) (fun _=>())
theorem u0O:Ok prog v0n:=by
 refine okL [.tmp 4] func210 ntmps210 results210 ?_;intro y ⟨a0,a1,_⟩ r H Q hn hr;have:HT _ _:=⟨tc o0i (tc u0M (tc E0z tn))⟩;refine qA (Z [p 0 (L i64 a0),p 1 (AV.fn 215 [D y31.pt a1])] [])<|qD (fun v0=>Z [p 4 (B (decide (0<=v0)))] []) H fun v0 H=>vTT<|hr H
def A0l(a0:Y31)(a1:List a0y)(a2:a0H):Option (Bool) :=
 gd ((t0S a1).isSome=true/\a0f (vl (t0S a1)-1)/\(b0y a2.2.1 0 (vl (t0S a1)-1)).isSome=true/\(vl (b0y a2.2.1 0 (vl (t0S a1)-1))=true/\True->ix a2.2.1 a1.length)/\((vl (b0y a2.2.1 0 (vl (t0S a1)-1))&&(a2.2.2.length:Int)==(↑(a1.getD a2.2.1.toNat (a0a y163)).2.2.1.length:Int))=true/\True->(e0R a2.2.2 a0).isSome=true)/\True) <|
 some (vl (b0y a2.2.1 0 (vl (t0S a1)-1))&&(a2.2.2.length:Int)==(↑(a1.getD a2.2.1.toNat (a0a y163)).2.2.1.length:Int)&&!vl (e0R a2.2.2 a0))
def J0J:Ct:=lct 177 [.agg y31,.agg y163.sl,.agg y165] (fun x=>A0l x.1 x.2.1 x.2.2.1) (fun r:Bool=>B r) (fun _=>())
theorem I0k:Ok prog J0J:=by
 refine okL [.tmp 6] func177 ntmps177 results177 ?_;intro y ⟨a0,a1,a2,_⟩ r H Q hn hr;have:HT _ _:=⟨tc o0j (tc u0O (tc E0z (tc r0O (tc H0Y tn))))⟩;refine qA (Z [p 3 (R 3),p 4 (R 4),p 5 (R 5)] [(5,K 165 y165 a2),(4,bx 26 [L y163 a1]),(3,K 31 y31 a0)])<|qB (Z [p 6 (B (vl (b0y a2.2.1 0 (vl (t0S a1)-1))&&(a2.2.2.length:Int)==(↑(a1.getD a2.2.1.toNat (a0a y163)).2.2.1.length:Int)&&!vl (e0R a2.2.2 a0)))] [(5,K 165 y165 a2),(4,bx 26 [L y163 a1]),(3,K 31 y31 a0)]) H fun H=>vTT<|hr H
def w0i:Unit->Option (Int)
 | _ =>
 some (-1)
def B0E(a1:ByteArray)(a0:List ByteArray)(g1:Int->Option (Int)):Int->Option (Int)
 | v0 =>
 if(decide (v0 < (a0.length:Int)))=true then
  gd (ix v0 a0.length/\True) <|
  if(decide (a1=a0.getD v0.toNat (a0a Ty.str)))=true then
   some v0
  else
   gd (a0f (v0+1)/\True) <|
   g1 (v0+1)
 else
  w0i ()
def D0t(a0:List ByteArray)(a1:ByteArray):Option (Int) :=
 lp (B0E a1 a0) 0
def I0Y:Ct:=lct 264 [.dat Ty.str.sl,.dat Ty.str] (fun x=>D0t x.1 x.2.1) (fun r:Int=>I r) (fun _=>())
theorem H0J:Ok prog I0Y:=by
 refine okL [.tmp 4] func264 ntmps264 results264 ?_;intro y ⟨a0,a1,_⟩ r H Q hn hr;have:HT _ _:=⟨@tn prog⟩;refine qA (Z [p 0 (L Ty.str a0),p 1 (U a1)] [])<|jN r (fun(_:Unit)=>Z [] []) (w0i) (fun _ H=>?_) (fun _ n0 e0 t0=>?_)
 ·refine qA (Z [p 4 (I (-1))] [])<|vTT<|hr H
 refine qA (Z [p 0 (L Ty.str a0),p 1 (U a1),p 7 (I (a0.length:Int)),p 8 (I 0)] [])<|vB<|lX (fun(v0:Int)=>Z [p 0 (L Ty.str a0),p 1 (U a1),p 7 (I (a0.length:Int)),p 8 (I v0)] []) 0 H fun _ g1 b1 e1 t1 v0 H=>qA (Z [p 0 (L Ty.str a0),p 1 (U a1),p 7 (I (a0.length:Int)),p 8 (I v0),p 9 (B (decide (v0 < (a0.length:Int))))] [])<|vQ<|cD H (fun H=>?_) (fun H=>?_)
 ·refine vK<|fQ<|vQ<|vB<|qA (Z [p 0 (L Ty.str a0),p 1 (U a1),p 5 (I v0),p 7 (I (a0.length:Int)),p 8 (I v0)] [])<|qB (Z [p 0 (L Ty.str a0),p 1 (U a1),p 5 (I v0),p 7 (I (a0.length:Int)),p 8 (I v0),p 16 (B (decide (a1=a0.getD v0.toNat (a0a Ty.str))))] []) H fun H=>cD H (fun H=>?_) (fun H=>?_)
  ·refine qA (Z [p 4 (I v0)] [])<|vTT<|fDD<|fR<|t1<|fDD<|t0<|hr H
  refine vK<|fK<|fQ<|zB (Z [p 0 (L Ty.str a0),p 1 (U a1),p 7 (I (a0.length:Int)),p 8 (I (v0+1))] []) H fun H=>b1 H
 exact vE<|fE<|e1<|fX rfl<|n0 H
def B0F(a0:List ByteArray)(a1:ByteArray):Option (Bool) :=
 gd ((D0t a0 a1).isSome=true/\True)<|lt (vl (D0t a0 a1)) fun v0 =>
 some (decide (0<=v0))
def J0g:Ct:=lct 245 [.dat Ty.str.sl,.dat Ty.str] (fun x=>B0F x.1 x.2.1) (fun r:Bool=>B r) (fun _=>())
theorem H0O:Ok prog J0g:=by
 refine okL [.tmp 4] func245 ntmps245 results245 ?_;intro y ⟨a0,a1,_⟩ r H Q hn hr;have:HT _ _:=⟨tc H0J tn⟩;refine qA (Z [p 0 (L Ty.str a0),p 1 (U a1)] [])<|qD (fun v0=>Z [p 4 (B (decide (0<=v0)))] []) H fun v0 H=>vTT<|hr H
def m0b(a0:ByteArray):Option (Bool) :=
 gd ((b0y (a0.size:Int) (1:Int) (8:Int)).isSome=true/\(vl (b0y (a0.size:Int) (1:Int) (8:Int))=true/\True->(w0U a0 (ByteArray.mk #[(97:UInt8),(98:UInt8),(99:UInt8),(100:UInt8),(101:UInt8),(102:UInt8),(103:UInt8),(104:UInt8),(105:UInt8),(106:UInt8),(107:UInt8),(108:UInt8),(109:UInt8),(110:UInt8),(111:UInt8),(112:UInt8),(113:UInt8),(114:UInt8),(115:UInt8),(116:UInt8),(117:UInt8),(118:UInt8),(119:UInt8),(120:UInt8),(121:UInt8),(122:UInt8),(48:UInt8),(49:UInt8),(50:UInt8),(51:UInt8),(52:UInt8),(53:UInt8),(54:UInt8),(55:UInt8),(56:UInt8),(57:UInt8)])).isSome=true)/\((vl (b0y (a0.size:Int) (1:Int) (8:Int))&&decide (vl (w0U a0 (ByteArray.mk #[(97:UInt8),(98:UInt8),(99:UInt8),(100:UInt8),(101:UInt8),(102:UInt8),(103:UInt8),(104:UInt8),(105:UInt8),(106:UInt8),(107:UInt8),(108:UInt8),(109:UInt8),(110:UInt8),(111:UInt8),(112:UInt8),(113:UInt8),(114:UInt8),(115:UInt8),(116:UInt8),(117:UInt8),(118:UInt8),(119:UInt8),(120:UInt8),(121:UInt8),(122:UInt8),(48:UInt8),(49:UInt8),(50:UInt8),(51:UInt8),(52:UInt8),(53:UInt8),(54:UInt8),(55:UInt8),(56:UInt8),(57:UInt8)]))=ByteArray.mk #[]))=true/\True->ix (0:Int) a0.size)/\((vl (b0y (a0.size:Int) (1:Int) (8:Int))&&decide (vl (w0U a0 (ByteArray.mk #[(97:UInt8),(98:UInt8),(99:UInt8),(100:UInt8),(101:UInt8),(102:UInt8),(103:UInt8),(104:UInt8),(105:UInt8),(106:UInt8),(107:UInt8),(108:UInt8),(109:UInt8),(110:UInt8),(111:UInt8),(112:UInt8),(113:UInt8),(114:UInt8),(115:UInt8),(116:UInt8),(117:UInt8),(118:UInt8),(119:UInt8),(120:UInt8),(121:UInt8),(122:UInt8),(48:UInt8),(49:UInt8),(50:UInt8),(51:UInt8),(52:UInt8),(53:UInt8),(54:UInt8),(55:UInt8),(56:UInt8),(57:UInt8)]))=ByteArray.mk #[]))=true/\True->(D0A (ByteArray.mk #[(97:UInt8),(98:UInt8),(99:UInt8),(100:UInt8),(101:UInt8),(102:UInt8),(103:UInt8),(104:UInt8),(105:UInt8),(106:UInt8),(107:UInt8),(108:UInt8),(109:UInt8),(110:UInt8),(111:UInt8),(112:UInt8),(113:UInt8),(114:UInt8),(115:UInt8),(116:UInt8),(117:UInt8),(118:UInt8),(119:UInt8),(120:UInt8),(121:UInt8),(122:UInt8)]) (a0r a0 (Int.toNat (0:Int)))).isSome=true)/\True)<|lt ((vl (w0U a0 (ByteArray.mk #[97,98,99,100,101,102,103,104,105,106,107,108,109,110,111,112,113,114,115,116,117,118,119,120,121,122,48,49,50,51,52,53,54,55,56,57])),vl (D0A (ByteArray.mk #[(97:UInt8),(98:UInt8),(99:UInt8),(100:UInt8),(101:UInt8),(102:UInt8),(103:UInt8),(104:UInt8),(105:UInt8),(106:UInt8),(107:UInt8),(108:UInt8),(109:UInt8),(110:UInt8),(111:UInt8),(112:UInt8),(113:UInt8),(114:UInt8),(115:UInt8),(116:UInt8),(117:UInt8),(118:UInt8),(119:UInt8),(120:UInt8),(121:UInt8),(122:UInt8)]) (a0r a0 (Int.toNat (0:Int)))))) fun(v0,v1) =>
 some (vl (b0y (a0.size:Int) 1 8)&&decide (v0=ByteArray.mk #[])&&decide (0<=v1))
def K0x:Ct:=lct 109 [.dat Ty.str] (fun x=>m0b x.1) (fun r:Bool=>B r) (fun _=>())
theorem F0O:Ok prog K0x:=by
 refine okL [.tmp 2] func109 ntmps109 results109 ?_;intro y ⟨a0,_⟩ r H Q hn hr;have:HT _ _:=⟨tc I0p (tc I0q (tc r0O tn))⟩;refine qA (Z [p 0 (U a0)] [])<|qD (fun(v0,v1)=>Z [p 2 (B (vl (b0y (a0.size:Int) 1 8)&&decide (v0=ByteArray.mk #[])&&decide (0<=v1)))] []) H fun⟨v0,v1⟩ H =>
  vTT<|hr H
def w0v:Unit->Option (Bool)
 | _ =>
 some true
def w0u(a0:List ByteArray)(g1:Int->Option (Bool)):Int->Option (Bool)
 | v0 =>
 if(decide (v0 < (a0.length:Int)))=true then
  gd (ix v0 a0.length/\True) <|
  gd ((m0b (a0.getD v0.toNat (a0a Ty.str))).isSome=true/\((!vl (m0b (a0.getD v0.toNat (a0a Ty.str))))=false/\True->(0:Int)<=(0:Int)/\(0:Int)<=v0/\v0<=(a0.length:Int))/\((!vl (m0b (a0.getD v0.toNat (a0a Ty.str))))=false/\True->(B0F (List.take v0.toNat a0) (a0.getD v0.toNat (a0a Ty.str))).isSome=true)/\True) <|
  if(!vl (m0b (a0.getD v0.toNat (a0a Ty.str)))||vl (B0F (List.take v0.toNat a0) (a0.getD v0.toNat (a0a Ty.str))))=true then
   some false
  else
   gd (a0f (v0+1)/\True) <|
   g1 (v0+1)
 else
  w0v ()
def i0y(a0:List ByteArray):Option (Bool) :=
 lp (w0u a0) 0
def J0s:Ct:=lct 213 [.dat Ty.str.sl] (fun x=>i0y x.1) (fun r:Bool=>B r) (fun _=>())
theorem E0A:Ok prog J0s:=by
 refine okL [.tmp 2] func213 ntmps213 results213 ?_;intro y ⟨a0,_⟩ r H Q hn hr;have:HT _ _:=⟨tc H0O (tc F0O tn)⟩;refine qA (Z [p 0 (L Ty.str a0)] [])<|jN r (fun(_:Unit)=>Z [] []) (w0v) (fun _ H=>?_) (fun _ n0 e0 t0=>?_)
 ·refine qA (Z [p 2 (B true)] [])<|vTT<|hr H
 refine qA (Z [p 0 (L Ty.str a0),p 5 (L Ty.str a0),p 6 (I (a0.length:Int)),p 7 (I 0)] [])<|vB<|lX (fun(v0:Int)=>Z [p 0 (L Ty.str a0),p 5 (L Ty.str a0),p 6 (I (a0.length:Int)),p 7 (I v0)] []) 0 H fun _ g1 b1 e1 t1 v0 H=>qA (Z [p 0 (L Ty.str a0),p 5 (L Ty.str a0),p 6 (I (a0.length:Int)),p 7 (I v0),p 8 (B (decide (v0 < (a0.length:Int))))] [])<|vQ<|cD H (fun H=>?_) (fun H=>?_)
 ·refine vK<|fQ<|vQ<|vB<|qB (Z (G84 a0 v0 [p 4 (U (a0.getD v0.toNat (a0a Ty.str))),p 5 (L Ty.str a0),p 6 (I (a0.length:Int)),p 7 (I v0)]) []) H fun H=>qB (Z [p 0 (L Ty.str a0),p 5 (L Ty.str a0),p 6 (I (a0.length:Int)),p 7 (I v0),p 21 (B (!vl (m0b (a0.getD v0.toNat (a0a Ty.str)))||vl (B0F (List.take v0.toNat a0) (a0.getD v0.toNat (a0a Ty.str)))))] []) H fun H=>cD H (fun H=>?_) (fun H=>?_)
  ·refine qA (Z [p 2 (B false)] [])<|vTT<|fDD<|fR<|t1<|fDD<|t0<|hr H
  refine vK<|fK<|fQ<|zB (Z [p 0 (L Ty.str a0),p 5 (L Ty.str a0),p 6 (I (a0.length:Int)),p 7 (I (v0+1))] []) H fun H=>b1 H
 exact vE<|fE<|e1<|fX rfl<|n0 H
def k0x(v4:List ByteArray)(a0:Y31):List ByteArray->Option (Bool)
 | v9 =>
 gd (((decide ((v4.length:Int)<=14)&&decide ((a0.2.1.length:Int)<=30)&&decide ((v9.length:Int)<=8))=true/\True->(i0y v4).isSome=true)/\((decide ((v4.length:Int)<=14)&&decide ((a0.2.1.length:Int)<=30)&&decide ((v9.length:Int)<=8)&&vl (i0y v4))=true/\True->(i0y a0.2.1).isSome=true)/\((decide ((v4.length:Int)<=14)&&decide ((a0.2.1.length:Int)<=30)&&decide ((v9.length:Int)<=8)&&vl (i0y v4)&&vl (i0y a0.2.1))=true/\True->(i0y v9).isSome=true)/\True) <|
 some (decide ((v4.length:Int)<=14)&&decide ((a0.2.1.length:Int)<=30)&&decide ((v9.length:Int)<=8)&&vl (i0y v4)&&vl (i0y a0.2.1)&&vl (i0y v9))
def w0K(a0:Y31)(v4:List ByteArray)(g3:List ByteArray×Int->Option (Bool)):List ByteArray×Int->Option (Bool)
 | (v6,v7) =>
 if(decide (v7 < (a0.2.2.length:Int)))=true then
  gd (ix v7 a0.2.2.length/\True)<|lt (a0.2.2.getD v7.toNat (a0a y175)) fun v8 =>
  gd ((v6.length+[v8.1].length<=9223372036854775807/\(v6.length+[v8.1].length)*16<=140737488355328)/\True) <|
  gd (a0f (v7+1)/\True) <|
  g3 (v6++[v8.1],v7+1)
 else
  k0x v4 a0 v6
def k0y(a0:Y31):List ByteArray->Option (Bool)
 | v4 =>
 lp (w0K a0 v4) ([],0)
def w0L(a0:Y31)(g1:List ByteArray×Int->Option (Bool)):List ByteArray×Int->Option (Bool)
 | (v1,v2) =>
 if(decide (v2 < (a0.1.length:Int)))=true then
  gd (ix v2 a0.1.length/\True)<|lt (a0.1.getD v2.toNat (a0a y165)) fun v3 =>
  gd ((v1.length+[v3.1].length<=9223372036854775807/\(v1.length+[v3.1].length)*16<=140737488355328)/\True) <|
  gd (a0f (v2+1)/\True) <|
  g1 (v1++[v3.1],v2+1)
 else
  k0y a0 v1
def B0Q(a0:Y31):Option (Bool) :=
 lp (w0L a0) ([],0)
def J0K:Ct:=lct 176 [.agg y31] (fun x=>B0Q x.1) (fun r:Bool=>B r) (fun _=>())
theorem I0l:Ok prog J0K:=by
 refine okL [.tmp 2] func176 ntmps176 results176 ?_;intro y ⟨a0,_⟩ r H Q hn hr;have:HT _ _:=⟨tc E0A tn⟩;refine qA (Z [p 1 (R 1)] [(1,K 31 y31 a0)])<|qA (Z [p 1 (R 1),p 3 (nil),p 4 (nil)] [(1,K 31 y31 a0)])<|jN r (fun(v4:List ByteArray)=>Z (G51 [p 4 (nil)]) (W86 a0 v4)) (k0y a0) (fun v4 H=>?_) (fun _ n0 e0 t0=>?_)
 ·refine jN r (fun(v9:List ByteArray)=>Z (G51 [p 4 (O 33)]) (W88 a0 v4 v9)) (k0x v4 a0) (fun v9 H=>?_) (fun _ n2 e2 t2=>?_)
  ·refine qB (Z [p 2 (B (decide ((v4.length:Int)<=14)&&decide ((a0.2.1.length:Int)<=30)&&decide ((v9.length:Int)<=8)&&vl (i0y v4)&&vl (i0y a0.2.1)&&vl (i0y v9)))] (W88 a0 v4 v9)) H fun H=>vTT<|hr H
  refine qA (Z (G51 [p 4 (nil),p 23 (L y175 a0.2.2),p 24 (I (a0.2.2.length:Int)),p 25 (I 0)]) (W86 a0 v4))<|vB<|lX (fun((v6,v7):List ByteArray×Int)=>Z (G51 [p 4 (O 33),p 23 (L y175 a0.2.2),p 24 (I (a0.2.2.length:Int)),p 25 (I v7)]) (W88 a0 v4 v6)) ([],0) H fun _ g3 b3 e3 t3 ⟨v6,v7⟩ H=>qA (Z (G51 [p 4 (O 33),p 23 (L y175 a0.2.2),p 24 (I (a0.2.2.length:Int)),p 25 (I v7),p 26 (B (decide (v7 < (a0.2.2.length:Int))))]) (W88 a0 v4 v6))<|vQ<|cD H (fun H=>?_) (fun H=>?_)
  ·refine vK<|fQ<|vQ<|vB<|qD (fun v8=>Z (G51 [p 4 (O 33),p 8 (R 8),p 23 (L y175 a0.2.2),p 24 (I (a0.2.2.length:Int)),p 25 (I v7)]) ((8,K 175 y175 v8)::W88 a0 v4 v6)) H fun v8 H=>zB (Z (G51 [p 4 (AV.os 33 1),p 23 (L y175 a0.2.2),p 24 (I (a0.2.2.length:Int)),p 25 (I v7)]) ((33,A 9 Ty.str (v6++[v8.1]) 1)::(32,A 9 Ty.str [v8.1] 0)::(8,K 175 y175 v8)::W86 a0 v4)) H fun H=>fK<|fQ<|zB (Z (G51 [p 4 (AV.os 33 1),p 23 (L y175 a0.2.2),p 24 (I (a0.2.2.length:Int)),p 25 (I (v7+1))]) ((33,A 9 Ty.str (v6++[v8.1]) 1)::(32,A 9 Ty.str [v8.1] 0)::(8,K 175 y175 v8)::W86 a0 v4)) H fun H=>b3 H
  exact vE<|fE<|e3<|fX rfl<|n2 H
 refine qA (Z [p 1 (R 1),p 3 (nil),p 4 (nil),p 10 (L y165 a0.1),p 11 (I (a0.1.length:Int)),p 12 (I 0)] [(1,K 31 y31 a0)])<|vB<|lX (fun((v1,v2):List ByteArray×Int)=>Z (G51 [p 4 (nil),p 10 (L y165 a0.1),p 11 (I (a0.1.length:Int)),p 12 (I v2)]) (W86 a0 v1)) ([],0) H fun _ g1 b1 e1 t1 ⟨v1,v2⟩ H=>qA (Z (G51 [p 4 (nil),p 10 (L y165 a0.1),p 11 (I (a0.1.length:Int)),p 12 (I v2),p 13 (B (decide (v2 < (a0.1.length:Int))))]) (W86 a0 v1))<|vQ<|cD H (fun H=>?_) (fun H=>?_)
 ·refine vK<|fQ<|vQ<|vB<|qD (fun v3=>Z (G51 [p 4 (nil),p 6 (R 6),p 10 (L y165 a0.1),p 11 (I (a0.1.length:Int)),p 12 (I v2)]) ((6,K 165 y165 v3)::W86 a0 v1)) H fun v3 H=>zB (Z [p 1 (R 1),p 3 (AV.os 20 1),p 4 (nil),p 10 (L y165 a0.1),p 11 (I (a0.1.length:Int)),p 12 (I v2)] [(20,A 9 Ty.str (v1++[v3.1]) 1),(19,A 9 Ty.str [v3.1] 0),(6,K 165 y165 v3),(1,K 31 y31 a0)]) H fun H=>fK<|fQ<|zB (Z [p 1 (R 1),p 3 (AV.os 20 1),p 4 (nil),p 10 (L y165 a0.1),p 11 (I (a0.1.length:Int)),p 12 (I (v2+1))] [(20,A 9 Ty.str (v1++[v3.1]) 1),(19,A 9 Ty.str [v3.1] 0),(6,K 165 y165 v3),(1,K 31 y31 a0)]) H fun H=>b1 H
 exact vE<|fE<|e1<|fX rfl<|n0 H
def D0s(a0:c0f)(a1:Int):Option (Bool) :=
 some (a0.1==a1)
def I0R:Ct:=lct 276 [.agg y143,.dat (.pt i64)] (fun x=>D0s x.1 x.2.1) (fun r:Bool=>B r) (fun _=>())
theorem E0v:Ok prog I0R:=by
 refine okL [.tmp 3] func276 ntmps276 results276 ?_;intro y ⟨a0,a1,_⟩ r H Q hn hr;have:HT _ _:=⟨@tn prog⟩;refine qA (Z [p 1 (D i64.pt a1),p 2 (R 2)] [(2,K 143 y143 a0)])<|qA (Z [p 3 (B (a0.1==a1))] [(2,K 143 y143 a0)])<|vTT<|hr H
def i0r:Unit->Option (Int)
 | _ =>
 some (-1)
def p0j(a0:List c0f)(a1:Int)(g1:Int->Option (Int)):Int->Option (Int)
 | v0 =>
 if(decide (v0 < (a0.length:Int)))=true then
  gd (ix v0 a0.length/\(D0s (a0.getD v0.toNat (a0a y143)) a1).isSome=true/\True) <|
  if(vl (D0s (a0.getD v0.toNat (a0a y143)) a1))=true then
   some v0
  else
   gd (a0f (v0+1)/\True) <|
   g1 (v0+1)
 else
  i0r ()
def g0v(a0:List c0f)(a1:Int):Option (Int) :=
 lp (p0j a0 a1) 0
def v0g:Ct:=lct 275 [.dat y143.sl,.fn 276 i64.pt] (fun x=>g0v x.1 x.2.1) (fun r:Int=>I r) (fun _=>())
theorem o0g:Ok prog v0g:=by
 refine okL [.tmp 4] func275 ntmps275 results275 ?_;intro y ⟨a0,a1,_⟩ r H Q hn hr;have:HT _ _:=⟨tc E0v tn⟩;refine qA (Z [p 0 (L y143 a0),p 1 (AV.fn 276 [D i64.pt a1])] [])<|jN r (fun(_:Unit)=>Z [] []) (i0r) (fun _ H=>?_) (fun _ n0 e0 t0=>?_)
 ·refine qA (Z [p 4 (I (-1))] [])<|vTT<|hr H
 refine qA (Z [p 0 (L y143 a0),p 1 (AV.fn 276 [D i64.pt a1]),p 7 (I (a0.length:Int)),p 8 (I 0)] [])<|vB<|lX (fun(v0:Int)=>Z [p 0 (L y143 a0),p 1 (AV.fn 276 [D i64.pt a1]),p 7 (I (a0.length:Int)),p 8 (I v0)] []) 0 H fun _ g1 b1 e1 t1 v0 H=>qA (Z [p 0 (L y143 a0),p 1 (AV.fn 276 [D i64.pt a1]),p 7 (I (a0.length:Int)),p 8 (I v0),p 9 (B (decide (v0 < (a0.length:Int))))] [])<|vQ<|cD H (fun H=>?_) (fun H=>?_)
 ·refine vK<|fQ<|vQ<|vB<|qA (Z [p 0 (L y143 a0),p 1 (AV.fn 276 [D i64.pt a1]),p 5 (I v0),p 7 (I (a0.length:Int)),p 8 (I v0)] [])<|qB (Z [p 0 (L y143 a0),p 1 (AV.fn 276 [D i64.pt a1]),p 5 (I v0),p 7 (I (a0.length:Int)),p 8 (I v0),p 16 (B (vl (D0s (a0.getD v0.toNat (a0a y143)) a1)))] []) H fun H=>cD H (fun H=>?_) (fun H=>?_)
  ·refine qA (Z [p 4 (I v0)] [])<|vTT<|fDD<|fR<|t1<|fDD<|t0<|hr H
  refine vK<|fK<|fQ<|zB (Z [p 0 (L y143 a0),p 1 (AV.fn 276 [D i64.pt a1]),p 7 (I (a0.length:Int)),p 8 (I (v0+1))] []) H fun H=>b1 H
 exact vE<|fE<|e1<|fX rfl<|n0 H
def e0Q(a0:List c0f)(a1:Int):Option (Bool) :=
 gd ((g0v a0 a1).isSome=true/\True)<|lt (vl (g0v a0 a1)) fun v0 =>
 some (decide (0<=v0))
def v0i:Ct:=lct 260 [.dat y143.sl,.fn 276 (.pt i64)] (fun x=>e0Q x.1 x.2.1) (fun r:Bool=>B r) (fun _=>())
theorem o0h:Ok prog v0i:=by
 refine okL [.tmp 4] func260 ntmps260 results260 ?_;intro y ⟨a0,a1,_⟩ r H Q hn hr;have:HT _ _:=⟨tc o0g (tc E0v tn)⟩;refine qA (Z [p 0 (L y143 a0),p 1 (AV.fn 276 [D i64.pt a1])] [])<|qD (fun v0=>Z [p 4 (B (decide (0<=v0)))] []) H fun v0 H=>vTT<|hr H
def g0c(a0:a0y)(a1:Int):Option (Bool) :=
 gd ((e0Q a0.2.2.2.1 a1).isSome=true/\True) <|
 some (vl (e0Q a0.2.2.2.1 a1))
def I0Z:Ct:=lct 263 [.agg y163,.dat i64] (fun x=>g0c x.1 x.2.1) (fun r:Bool=>B r) (fun _=>())
theorem H0K:Ok prog I0Z:=by
 refine okL [.tmp 4] func263 ntmps263 results263 ?_;intro y ⟨a0,a1,_⟩ r H Q hn hr;have:HT _ _:=⟨tc o0h (tc E0v tn)⟩;refine qA (Z (G11 []) [(3,bx 2 [J a1]),(2,K 163 y163 a0)])<|qB (Z [p 4 (B (vl (e0Q a0.2.2.2.1 a1)))] [(3,bx 2 [J a1]),(2,K 163 y163 a0)]) H fun H=>vTT<|hr H
def q0M(a0:List f0v):Option (Int) :=
 some (a0.length:Int)
def J0d:Ct:=lct 258 [.dat y217.sl] (fun x=>q0M x.1) (fun r:Int=>I r) (fun _=>())
theorem F0E:Ok prog J0d:=by
 refine okL [.tmp 2] func258 ntmps258 results258 ?_;intro y ⟨a0,_⟩ r H Q hn hr;have:HT _ _:=⟨@tn prog⟩;refine qA (Z [p 0 (L y217 a0)] [])<|qA (Z [p 2 (I (a0.length:Int))] [])<|vTT<|hr H
def k0o(a0:a0y):Option (Int) :=
 gd ((q0M a0.2.2.1).isSome=true/\a0f (vl (q0M a0.2.2.1)-1)/\True)<|lt (vl (q0M a0.2.2.1)) fun v0 =>
 some (v0-1)
def J0a:Ct:=lct 262 [.agg y163] (fun x=>k0o x.1) (fun r:Int=>I r) (fun _=>())
theorem E0x:Ok prog J0a:=by
 refine okL [.tmp 2] func262 ntmps262 results262 ?_;intro y ⟨a0,_⟩ r H Q hn hr;have:HT _ _:=⟨tc F0E tn⟩;refine qA (Z [p 1 (R 1)] [(1,K 163 y163 a0)])<|qD (fun v0=>Z [p 2 (I (v0-1))] [(1,K 163 y163 a0)]) H fun v0 H=>vTT<|hr H
def i0u(a0:a0y):Int->Option (Bool)
 | v6 =>
 if(a0.2.1==1)=true then
  gd (((v6==(0:Int))=true/\True->(k0o a0).isSome=true)/\((v6==(0:Int))=true/\True->((0:Int)<=vl (k0o a0)/\vl (k0o a0)<=(62:Int))/\a0f ((1:Int)*(2:Int) ^ (vl (k0o a0)).toNat))/\((v6==(0:Int)&&(a0.2.2.2.2.1.length:Int)==(1:Int)*(2:den i64) ^ (vl (k0o a0)).toNat)=true/\True->(e0U a0.2.2.2.2.1 (0:Int) (1:Int)).isSome=true)/\True)<|lt (vl (k0o a0)) fun v7 =>
  some (v6==(0:Int)&&(a0.2.2.2.2.1.length:Int)==(1:Int)*(2:den i64) ^ v7.toNat&&vl (e0U a0.2.2.2.2.1 (0:Int) (1:Int)))
 else
  if(a0.2.1==2)=true then
   gd (((v6==1&&(a0.2.2.2.2.1.length:Int)==0)=true/\True->(g0c a0 1).isSome=true)/\((v6==1&&(a0.2.2.2.2.1.length:Int)==0&&!vl (g0c a0 1))=true/\True->(g0c a0 2).isSome=true)/\((v6==1&&(a0.2.2.2.2.1.length:Int)==0&&!vl (g0c a0 1))=true/\True->(g0c a0 3).isSome=true)/\True) <|
   some (v6==1&&(a0.2.2.2.2.1.length:Int)==0&&!vl (g0c a0 1)&&!vl (g0c a0 2)==vl (g0c a0 3))
  else
   if(a0.2.1==3)=true then
    gd (((v6==1&&(a0.2.2.2.2.1.length:Int)==0)=true/\True->(g0c a0 1).isSome=true)/\((v6==1&&(a0.2.2.2.2.1.length:Int)==0&&vl (g0c a0 1))=true/\True->(g0c a0 2).isSome=true)/\((v6==1&&(a0.2.2.2.2.1.length:Int)==0&&vl (g0c a0 1)&&vl (g0c a0 2))=true/\True->(g0c a0 3).isSome=true)/\True) <|
    some (v6==1&&(a0.2.2.2.2.1.length:Int)==0&&vl (g0c a0 1)&&vl (g0c a0 2)&&!vl (g0c a0 3))
   else
    some false
def n0r(v3:Int)(g1:Int×Int->Option (Bool)):Int->Option (Bool)
 | v5 =>
 gd (a0f (v3+1)/\True) <|
 g1 (v5,v3+1)
def w0l(a0:a0y)(g1:Int×Int->Option (Bool)):Int×Int->Option (Bool)
 | (v2,v3) =>
 if(decide (v3 < (a0.2.2.1.length:Int)))=true then
  gd (ix v3 a0.2.2.1.length/\True)<|lt (a0.2.2.1.getD v3.toNat (a0a y217)) fun v4 =>
  if v4.2.2.2=true then
   gd (a0f (v2+1)/\True) <|
   n0r v3 g1 (v2+1)
  else
   n0r v3 g1 v2
 else
  i0u a0 v2
def B0G(a0:a0y):Option (Bool) :=
 lp (w0l a0) (0,0)
def J0h:Ct:=lct 244 [.agg y163] (fun x=>B0G x.1) (fun r:Bool=>B r) (fun _=>())
theorem H0P:Ok prog J0h:=by
 refine okL [.tmp 2] func244 ntmps244 results244 ?_;intro y ⟨a0,_⟩ r H Q hn hr;have:HT _ _:=⟨tc H0K (tc D0P (tc E0x tn))⟩;refine qA (Z [p 1 (R 1)] [(1,K 163 y163 a0)])<|qA (Z [p 1 (R 1),p 3 (I 0)] [(1,K 163 y163 a0)])<|jN r (fun(v6:Int)=>Z (G14 v6 []) [(1,K 163 y163 a0)]) (i0u a0) (fun v6 H=>?_) (fun _ n0 e0 t0=>?_)
 ·refine vQ<|qA (Z (G14 v6 [p 19 (J a0.2.1)]) [(1,K 163 y163 a0)])<|vB<|qA (Z (G14 v6 [p 19 (J a0.2.1),p 20 (B (a0.2.1==1))]) [(1,K 163 y163 a0)])<|cD H (fun H=>?_) (fun H=>?_)
  ·refine qD (fun v7=>Z [p 2 (B (v6==(0:Int)&&(a0.2.2.2.2.1.length:Int)==(1:Int)*(2:den i64) ^ v7.toNat&&vl (e0U a0.2.2.2.2.1 (0:Int) (1:Int))))] [(1,K 163 y163 a0)]) H fun v7 H=>vTT<|fDD<|fR<|hr H
  refine qA (Z (G14 v6 [p 19 (J a0.2.1),p 38 (B (a0.2.1==2))]) [(1,K 163 y163 a0)])<|cD H (fun H=>?_) (fun H=>?_)
  ·refine qB (Z [p 2 (B (v6==1&&(a0.2.2.2.2.1.length:Int)==0&&!vl (g0c a0 1)&&!vl (g0c a0 2)==vl (g0c a0 3)))] [(1,K 163 y163 a0)]) H fun H=>vTT<|fDD<|fR<|hr H
  refine qA (Z (G14 v6 [p 60 (B (a0.2.1==3))]) [(1,K 163 y163 a0)])<|cD H (fun H=>?_) (fun H=>?_)
  ·refine qB (Z [p 2 (B (v6==1&&(a0.2.2.2.2.1.length:Int)==0&&vl (g0c a0 1)&&vl (g0c a0 2)&&!vl (g0c a0 3)))] [(1,K 163 y163 a0)]) H fun H=>vTT<|fDD<|fR<|hr H
  refine vK<|fK<|fQ<|qA (Z [p 2 (B false)] [(1,K 163 y163 a0)])<|vTT<|hr H
 refine qA (Z [p 1 (R 1),p 3 (I 0),p 7 (L y217 a0.2.2.1),p 8 (I (a0.2.2.1.length:Int)),p 9 (I 0)] [(1,K 163 y163 a0)])<|vB<|lX (fun((v2,v3):Int×Int)=>Z (G14 v2 [p 7 (L y217 a0.2.2.1),p 8 (I (a0.2.2.1.length:Int)),p 9 (I v3)]) [(1,K 163 y163 a0)]) (0,0) H fun _ g1 b1 e1 t1 ⟨v2,v3⟩ H=>qA (Z (G14 v2 [p 7 (L y217 a0.2.2.1),p 8 (I (a0.2.2.1.length:Int)),p 9 (I v3),p 10 (B (decide (v3 < (a0.2.2.1.length:Int))))]) [(1,K 163 y163 a0)])<|vQ<|cD H (fun H=>?_) (fun H=>?_)
 ·refine vK<|fQ<|jN r (fun(v5:Int)=>Z (G14 v5 [p 7 (L y217 a0.2.2.1),p 8 (I (a0.2.2.1.length:Int)),p 9 (I v3)]) [(1,K 163 y163 a0)]) (n0r v3 g1) (fun v5 H=>?_) (fun _ n2 e2 t2=>?_)
  ·refine zB (Z (G14 v5 [p 7 (L y217 a0.2.2.1),p 8 (I (a0.2.2.1.length:Int)),p 9 (I (v3+1))]) [(1,K 163 y163 a0)]) H fun H=>b1 H
  refine vB<|qD (fun v4=>Z (G14 v2 [p 5 (R 5),p 7 (L y217 a0.2.2.1),p 8 (I (a0.2.2.1.length:Int)),p 9 (I v3)]) [(5,K 217 y217 v4),(1,K 163 y163 a0)]) H fun v4 H=>qA (Z (G14 v2 [p 7 (L y217 a0.2.2.1),p 8 (I (a0.2.2.1.length:Int)),p 9 (I v3),p 14 (C v4.2.2.2)]) [(5,K 217 y217 v4),(1,K 163 y163 a0)])<|cD H (fun H=>?_) (fun H=>?_)
  ·refine zB (Z (G14 (v2+1) [p 7 (L y217 a0.2.2.1),p 8 (I (a0.2.2.1.length:Int)),p 9 (I v3)]) [(5,K 217 y217 v4),(1,K 163 y163 a0)]) H fun H=>fK<|n2 H
  exact vK<|fK<|n2 H
 exact vE<|fE<|e1<|fX rfl<|n0 H
def t0P(a0:a0y)(a1:Int):Option (Bool) :=
 gd ((k0o a0).isSome=true/\a0f (vl (k0o a0)-1)/\(b0y a1 0 (vl (k0o a0)-1)).isSome=true/\True) <|
 some (vl (b0y a1 0 (vl (k0o a0)-1)))
def I0S:Ct:=lct 274 [.agg y163,.dat i64] (fun x=>t0P x.1 x.2.1) (fun r:Bool=>B r) (fun _=>())
theorem H0D:Ok prog I0S:=by
 refine okL [.tmp 4] func274 ntmps274 results274 ?_;intro y ⟨a0,a1,_⟩ r H Q hn hr;have:HT _ _:=⟨tc r0O (tc E0x tn)⟩;refine qA (Z (G52 a1 []) [(2,K 163 y163 a0)])<|qB (Z [p 4 (B (vl (b0y a1 0 (vl (k0o a0)-1))))] [(2,K 163 y163 a0)]) H fun H=>vTT<|hr H
def v0Z:Int->Option (Int)
 | v3 =>
 some v3
def q0J(a0:List Int)(g2:Int×Int->Option (Int)):Int×Int->Option (Int)
 | (v1,v2) =>
 if(decide (v2 < (a0.length:Int)))=true then
  gd (ix v2 a0.length/\True) <|
  gd (a0f (v2+1)/\True) <|
  g2 ((min v1 (a0.getD v2.toNat 0),v2+1))
 else
  v0Z v1
def q0K(a0:List Int):Unit->Option (Int)
 | _ =>
 gd (ix 0 a0.length/\True) <|
 lp (q0J a0) ((a0.getD (Int.toNat (0:Int)) (0:Int),1))
def A0c(a0:List Int):Option (Int) :=
 if(decide ((a0.length:Int)<1))=true then
  none
 else
  q0K a0 ()
def I0M:Ct:=lct 282 [.dat i64.sl] (fun x=>A0c x.1) (fun r:Int=>I r) (fun _=>())
theorem H0z:Ok prog I0M:=by
 refine okL [.tmp 2] func282 ntmps282 results282 ?_;intro y ⟨a0,_⟩ r H Q hn hr;have:HT _ _:=⟨@tn prog⟩;refine qA (Z [p 0 (L i64 a0)] [])<|jN r (fun(_:Unit)=>Z [p 0 (L i64 a0)] []) (q0K a0) (fun _ H=>?_) (fun _ n0 e0 t0=>?_)
 ·refine qB (Z [p 0 (L i64 a0),p 3 (J (a0.getD (Int.toNat (0:Int)) (0:Int)))] []) H fun H=>jN r (fun(v3:Int)=>Z [p 3 (J v3)] []) (v0Z) (fun v3 H=>?_) (fun _ n1 e1 t1=>?_)
  ·refine qA (Z [p 2 (J v3)] [])<|vTT<|hr H
  refine qA (Z [p 0 (L i64 a0),p 3 (J (a0.getD (Int.toNat (0:Int)) (0:Int))),p 4 (I (1:Int))] [])<|vB<|lX (fun((v1,v2):Int×Int)=>Z [p 0 (L i64 a0),p 3 (J v1),p 4 (I v2)] []) ((a0.getD (Int.toNat (0:Int)) (0:Int),1)) H fun _ g2 b2 e2 t2 ⟨v1,v2⟩ H=>vQ<|qA (Z [p 0 (L i64 a0),p 3 (J v1),p 4 (I v2),p 15 (B (decide (v2 < (a0.length:Int))))] [])<|cD H (fun H=>?_) (fun H=>?_)
  ·refine vK<|fQ<|vQ<|vB<|zB (Z [p 0 (L i64 a0),p 3 (I (min v1 (a0.getD v2.toNat 0))),p 4 (I v2)] []) H fun H=>fK<|fQ<|zB (Z [p 0 (L i64 a0),p 3 (I (min v1 (a0.getD v2.toNat 0))),p 4 (I (v2+1))] []) H fun H=>b2 H
  exact vE<|fE<|e2<|fX rfl<|n1 H
 refine qA (Z [p 0 (L i64 a0),p 7 (B (decide ((a0.length:Int)<1)))] [])<|cD H (fun H=>?_) (fun H=>?_)
 ·exact L0c H
 exact vK<|n0 H
def n0p(a0:List Int):Option (Bool) :=
 gd ((d0p a0).isSome=true/\(b0y (vl (d0p a0)) 1 4).isSome=true/\(vl (b0y (vl (d0p a0)) 1 4)=true/\True->(e0U a0 0 100000).isSome=true)/\((vl (b0y (vl (d0p a0)) 1 4)&&vl (e0U a0 0 100000))=true/\True->(A0n a0).isSome=true)/\True) <|
 some (vl (b0y (vl (d0p a0)) 1 4)&&vl (e0U a0 0 100000)&&vl (A0n a0))
def I0J:Ct:=lct 287 [.dat i64.sl] (fun x=>n0p x.1) (fun r:Bool=>B r) (fun _=>())
theorem H0x:Ok prog I0J:=by
 refine okL [.tmp 2] func287 ntmps287 results287 ?_;intro y ⟨a0,_⟩ r H Q hn hr;have:HT _ _:=⟨tc I0n (tc D0P (tc r0O (tc E0I tn)))⟩;refine qA (Z [p 0 (L i64 a0)] [])<|qB (Z [p 2 (B (vl (b0y (vl (d0p a0)) 1 4)&&vl (e0U a0 0 100000)&&vl (A0n a0)))] []) H fun H=>vTT<|hr H
def y0I(a0:d0O):Option (Bool) :=
 gd ((n0p a0.1).isSome=true/\(vl (n0p a0.1)=true/\True->(n0p a0.2.1).isSome=true)/\((vl (n0p a0.1)&&vl (n0p a0.2.1))=true/\True->a0f ((a0.1.length:Int)*(a0.2.1.length:Int)))/\((vl (n0p a0.1)&&vl (n0p a0.2.1)&&(a0.2.2.length:Int)==(a0.1.length:Int)*(a0.2.1.length:Int))=true/\True->(e0U a0.2.2 (-1000000) 1000000).isSome=true)/\True) <|
 some (vl (n0p a0.1)&&vl (n0p a0.2.1)&&(a0.2.2.length:Int)==(a0.1.length:Int)*(a0.2.1.length:Int)&&vl (e0U a0.2.2 (-1000000) 1000000))
def I0N:Ct:=lct 281 [.agg y140] (fun x=>y0I x.1) (fun r:Bool=>B r) (fun _=>())
theorem H0A:Ok prog I0N:=by
 refine okL [.tmp 2] func281 ntmps281 results281 ?_;intro y ⟨a0,_⟩ r H Q hn hr;have:HT _ _:=⟨tc D0P (tc H0x tn)⟩;refine qA (Z [p 1 (R 1)] [(1,K 140 y140 a0)])<|qB (Z [p 2 (B (vl (n0p a0.1)&&vl (n0p a0.2.1)&&(a0.2.2.length:Int)==(a0.1.length:Int)*(a0.2.1.length:Int)&&vl (e0U a0.2.2 (-1000000) 1000000)))] [(1,K 140 y140 a0)]) H fun H=>vTT<|hr H
def A0d(a0:d0O)(a1:Bool):Option (Bool) :=
 gd ((y0I a0).isSome=true/\(a1=true/\(!vl (y0I a0))=false/\True->(A0c a0.2.2).isSome=true)/\True)<|lt (vl (A0c a0.2.2)) fun v0 =>
 some (!vl (y0I a0)||a1&&decide (v0<0))
def I0O:Ct:=lct 280 [.agg y140,.dat (.pt Ty.bool)] (fun x=>A0d x.1 x.2.1) (fun r:Bool=>B r) (fun _=>())
theorem E0u:Ok prog I0O:=by
 refine okL [.tmp 3] func280 ntmps280 results280 ?_;intro y ⟨a0,a1,_⟩ r H Q hn hr;have:HT _ _:=⟨tc H0z (tc H0A tn)⟩;refine qA (Z [p 1 (D Ty.bool.pt a1),p 2 (R 2)] [(2,K 140 y140 a0)])<|qD (fun v0=>Z [p 3 (B (!vl (y0I a0)||a1&&decide (v0<0)))] [(2,K 140 y140 a0)]) H fun v0 H=>vTT<|hr H
def i0p:Unit->Option (Int)
 | _ =>
 some (-1)
def p0h(a0:List d0O)(a1:Bool)(g1:Int->Option (Int)):Int->Option (Int)
 | v0 =>
 if(decide (v0 < (a0.length:Int)))=true then
  gd (ix v0 a0.length/\(A0d (a0.getD v0.toNat (a0a y140)) a1).isSome=true/\True) <|
  if(vl (A0d (a0.getD v0.toNat (a0a y140)) a1))=true then
   some v0
  else
   gd (a0f (v0+1)/\True) <|
   g1 (v0+1)
 else
  i0p ()
def g0t(a0:List d0O)(a1:Bool):Option (Int) :=
 lp (p0h a0 a1) 0
def v0d:Ct:=lct 286 [.dat y140.sl,.fn 280 Ty.bool.pt] (fun x=>g0t x.1 x.2.1) (fun r:Int=>I r) (fun _=>())
theorem u0H:Ok prog v0d:=by
 refine okL [.tmp 4] func286 ntmps286 results286 ?_;intro y ⟨a0,a1,_⟩ r H Q hn hr;have:HT _ _:=⟨tc E0u tn⟩;refine qA (Z [p 0 (L y140 a0),p 1 (AV.fn 280 [D Ty.bool.pt a1])] [])<|jN r (fun(_:Unit)=>Z [] []) (i0p) (fun _ H=>?_) (fun _ n0 e0 t0=>?_)
 ·refine qA (Z [p 4 (I (-1))] [])<|vTT<|hr H
 refine qA (Z [p 0 (L y140 a0),p 1 (AV.fn 280 [D Ty.bool.pt a1]),p 7 (I (a0.length:Int)),p 8 (I 0)] [])<|vB<|lX (fun(v0:Int)=>Z [p 0 (L y140 a0),p 1 (AV.fn 280 [D Ty.bool.pt a1]),p 7 (I (a0.length:Int)),p 8 (I v0)] []) 0 H fun _ g1 b1 e1 t1 v0 H=>qA (Z [p 0 (L y140 a0),p 1 (AV.fn 280 [D Ty.bool.pt a1]),p 7 (I (a0.length:Int)),p 8 (I v0),p 9 (B (decide (v0 < (a0.length:Int))))] [])<|vQ<|cD H (fun H=>?_) (fun H=>?_)
 ·refine vK<|fQ<|vQ<|vB<|qA (Z [p 0 (L y140 a0),p 1 (AV.fn 280 [D Ty.bool.pt a1]),p 5 (I v0),p 7 (I (a0.length:Int)),p 8 (I v0)] [])<|qB (Z [p 0 (L y140 a0),p 1 (AV.fn 280 [D Ty.bool.pt a1]),p 5 (I v0),p 7 (I (a0.length:Int)),p 8 (I v0),p 16 (B (vl (A0d (a0.getD v0.toNat (a0a y140)) a1)))] []) H fun H=>cD H (fun H=>?_) (fun H=>?_)
  ·refine qA (Z [p 4 (I v0)] [])<|vTT<|fDD<|fR<|t1<|fDD<|t0<|hr H
  refine vK<|fK<|fQ<|zB (Z [p 0 (L y140 a0),p 1 (AV.fn 280 [D Ty.bool.pt a1]),p 7 (I (a0.length:Int)),p 8 (I (v0+1))] []) H fun H=>b1 H
 exact vE<|fE<|e1<|fX rfl<|n0 H
def e0P(a0:List d0O)(a1:Bool):Option (Bool) :=
 gd ((g0t a0 a1).isSome=true/\True)<|lt (vl (g0t a0 a1)) fun v0 =>
 some (decide (0<=v0))
def v0f:Ct:=lct 279 [.dat y140.sl,.fn 280 (.pt Ty.bool)] (fun x=>e0P x.1 x.2.1) (fun r:Bool=>B r) (fun _=>())
theorem u0J:Ok prog v0f:=by
 refine okL [.tmp 4] func279 ntmps279 results279 ?_;intro y ⟨a0,a1,_⟩ r H Q hn hr;have:HT _ _:=⟨tc u0H (tc E0u tn)⟩;refine qA (Z [p 0 (L y140 a0),p 1 (AV.fn 280 [D Ty.bool.pt a1])] [])<|qD (fun v0=>Z [p 4 (B (decide (0<=v0)))] []) H fun v0 H=>vTT<|hr H
def j0n(a0:List d0O)(a1:Bool):Option (Bool) :=
 gd ((((a0.length:Int)==2)=true/\True->(e0P a0 a1).isSome=true)/\True) <|
 some ((a0.length:Int)==2&&!vl (e0P a0 a1))
def I0U:Ct:=lct 272 [.dat y140.sl,.dat Ty.bool] (fun x=>j0n x.1 x.2.1) (fun r:Bool=>B r) (fun _=>())
theorem H0F:Ok prog I0U:=by
 refine okL [.tmp 4] func272 ntmps272 results272 ?_;intro y ⟨a0,a1,_⟩ r H Q hn hr;have:HT _ _:=⟨tc u0J (tc E0u tn)⟩;refine qA (Z [p 0 (L y140 a0),p 3 (R 3)] [(3,bx 4 [C a1])])<|qB (Z [p 4 (B ((a0.length:Int)==2&&!vl (e0P a0 a1)))] [(3,bx 4 [C a1])]) H fun H=>vTT<|hr H
def D0r(a0:f0v):Option (Bool) :=
 some a0.2.2.2
def I0L:Ct:=lct 284 [.agg y217] (fun x=>D0r x.1) (fun r:Bool=>B r) (fun _=>())
theorem F0D:Ok prog I0L:=by
 refine okL [.tmp 2] func284 ntmps284 results284 ?_;intro y ⟨a0,_⟩ r H Q hn hr;have:HT _ _:=⟨@tn prog⟩;refine qA (Z [p 1 (R 1)] [(1,K 217 y217 a0)])<|qA (Z [p 2 (C a0.2.2.2)] [(1,K 217 y217 a0)])<|vTT<|hr H
def i0q:Unit->Option (Int)
 | _ =>
 some (-1)
def p0i(a0:List f0v)(g1:Int->Option (Int)):Int->Option (Int)
 | v0 =>
 if(decide (v0 < (a0.length:Int)))=true then
  gd (ix v0 a0.length/\(D0r (a0.getD v0.toNat (a0a y217))).isSome=true/\True) <|
  if(vl (D0r (a0.getD v0.toNat (a0a y217))))=true then
   some v0
  else
   gd (a0f (v0+1)/\True) <|
   g1 (v0+1)
 else
  i0q ()
def g0u(a0:List f0v):Option (Int) :=
 lp (p0i a0) 0
def v0e:Ct:=lct 283 [.dat y217.sl,.nof 284] (fun x=>g0u x.1) (fun r:Int=>I r) (fun _=>())
theorem u0I:Ok prog v0e:=by
 refine okL [.tmp 4] func283 ntmps283 results283 ?_;intro y ⟨a0,_,_⟩ r H Q hn hr;have:HT _ _:=⟨tc F0D tn⟩;refine qA (Z [p 0 (L y217 a0),p 1 (AV.fn 284 [])] [])<|jN r (fun(_:Unit)=>Z [] []) (i0q) (fun _ H=>?_) (fun _ n0 e0 t0=>?_)
 ·refine qA (Z [p 4 (I (-1))] [])<|vTT<|hr H
 refine qA (Z [p 0 (L y217 a0),p 1 (AV.fn 284 []),p 7 (I (a0.length:Int)),p 8 (I 0)] [])<|vB<|lX (fun(v0:Int)=>Z [p 0 (L y217 a0),p 1 (AV.fn 284 []),p 7 (I (a0.length:Int)),p 8 (I v0)] []) 0 H fun _ g1 b1 e1 t1 v0 H=>qA (Z [p 0 (L y217 a0),p 1 (AV.fn 284 []),p 7 (I (a0.length:Int)),p 8 (I v0),p 9 (B (decide (v0 < (a0.length:Int))))] [])<|vQ<|cD H (fun H=>?_) (fun H=>?_)
 ·refine vK<|fQ<|vQ<|vB<|qA (Z [p 0 (L y217 a0),p 1 (AV.fn 284 []),p 5 (I v0),p 7 (I (a0.length:Int)),p 8 (I v0)] [])<|qB (Z [p 0 (L y217 a0),p 1 (AV.fn 284 []),p 5 (I v0),p 7 (I (a0.length:Int)),p 8 (I v0),p 16 (B (vl (D0r (a0.getD v0.toNat (a0a y217)))))] []) H fun H=>cD H (fun H=>?_) (fun H=>?_)
  ·refine qA (Z [p 4 (I v0)] [])<|vTT<|fDD<|fR<|t1<|fDD<|t0<|hr H
  refine vK<|fK<|fQ<|zB (Z [p 0 (L y217 a0),p 1 (AV.fn 284 []),p 7 (I (a0.length:Int)),p 8 (I (v0+1))] []) H fun H=>b1 H
 exact vE<|fE<|e1<|fX rfl<|n0 H
def A0f(a0:a0y):Option (Int) :=
 gd ((g0u a0.2.2.1).isSome=true/\True)<|lt (vl (g0u a0.2.2.1)) fun v0 =>
 some v0
def I0T:Ct:=lct 273 [.agg y163] (fun x=>A0f x.1) (fun r:Int=>I r) (fun _=>())
theorem H0E:Ok prog I0T:=by
 refine okL [.tmp 2] func273 ntmps273 results273 ?_;intro y ⟨a0,_⟩ r H Q hn hr;have:HT _ _:=⟨tc F0D (tc u0I tn)⟩;refine qA (Z [p 1 (R 1)] [(1,K 163 y163 a0)])<|qD (fun v0=>Z [p 2 (I v0)] [(1,K 163 y163 a0)]) H fun v0 H=>vTT<|hr H
def B0C(a0:Int):Option (Bool) :=
 some (a0==4||a0==5)
def I0V:Ct:=lct 271 [.dat i64] (fun x=>B0C x.1) (fun r:Bool=>B r) (fun _=>())
theorem H0G:Ok prog I0V:=by
 refine okL [.tmp 2] func271 ntmps271 results271 ?_;intro y ⟨a0,_⟩ r H Q hn hr;have:HT _ _:=⟨@tn prog⟩;refine qA (Z [p 0 (J a0)] [])<|qA (Z [p 2 (B (a0==4||a0==5))] [])<|vTT<|hr H
def k0p(a0:a0y)(a1:c0f):Bool->Option (Bool)
 | v2 =>
 if v2=true then
  gd (ix a1.2.1 a0.2.2.1.length/\True) <|
  some ((a0.2.2.1.getD a1.2.1.toNat (a0a y217)).2.2.2&&a1.2.2.2.1==0)
 else
  some false
def w0j(a0:a0y)(a1:c0f):Option (Bool) :=
 gd ((B0C a1.1).isSome=true/\True) <|
 if(vl (B0C a1.1))=true then
  gd (((a1.2.2.2.1==0&&(a1.2.2.2.2.2.length:Int)==0)=true/\True->(j0n a1.2.2.2.2.1 false).isSome=true)/\((a1.2.2.2.1==0&&(a1.2.2.2.2.2.length:Int)==0&&vl (j0n a1.2.2.2.2.1 false))=true/\True->(A0f a0).isSome=true)/\((a1.2.2.2.1==0&&(a1.2.2.2.2.2.length:Int)==0&&vl (j0n a1.2.2.2.2.1 false)&&a1.2.1==vl (A0f a0)&&decide (0<=a1.2.1))=true/\True->(t0P a0 a1.2.2.1).isSome=true)/\True)<|lt (vl (A0f a0)) fun v0 =>
  some (a1.2.2.2.1==0&&(a1.2.2.2.2.2.length:Int)==0&&vl (j0n a1.2.2.2.2.1 false)&&a1.2.1==v0&&decide (0<=a1.2.1)&&vl (t0P a0 a1.2.2.1)&&a1.2.2.1 != a1.2.1)
 else
  gd ((j0n a1.2.2.2.2.1 true).isSome=true/\((!vl (j0n a1.2.2.2.2.1 true))=false/\True->(j0n a1.2.2.2.2.2 true).isSome=true)/\((!vl (j0n a1.2.2.2.2.1 true)||!vl (j0n a1.2.2.2.2.2 true))=false/\True->(k0o a0).isSome=true)/\((!vl (j0n a1.2.2.2.2.1 true)||!vl (j0n a1.2.2.2.2.2 true)||a1.2.2.1 != vl (k0o a0))=false/\True->(t0P a0 a1.2.1).isSome=true)/\True)<|lt (vl (k0o a0)) fun v1 =>
  if(!vl (j0n a1.2.2.2.2.1 true)||!vl (j0n a1.2.2.2.2.2 true)||a1.2.2.1 != v1||!vl (t0P a0 a1.2.1))=true then
   some false
  else
   if(a1.1==1)=true then
    gd (ix a1.2.1 a0.2.2.1.length/\((!(a0.2.2.1.getD a1.2.1.toNat (a0a y217)).2.2.2)=true/\True->(b0y a1.2.2.2.1 1 3).isSome=true)/\True) <|
    some (!(a0.2.2.1.getD a1.2.1.toNat (a0a y217)).2.2.2&&vl (b0y a1.2.2.2.1 1 3))
   else
    if(a1.1==2)=true then
     k0p a0 a1 (a1.1==2)
    else
     k0p a0 a1 (a1.1==3)
def J0c:Ct:=lct 259 [.agg y163,.agg y143] (fun x=>w0j x.1 x.2.1) (fun r:Bool=>B r) (fun _=>())
theorem H0L:Ok prog J0c:=by
 refine okL [.tmp 4] func259 ntmps259 results259 ?_;intro y ⟨a0,a1,_⟩ r H Q hn hr;have:HT _ _:=⟨tc r0O (tc H0D (tc E0x (tc H0F (tc H0E (tc H0G tn)))))⟩;refine qA (Z (G11 []) (W13 a1 a0))<|vQ<|qB (Z (G11 [p 7 (B (vl (B0C a1.1)))]) (W13 a1 a0)) H fun H=>cD H (fun H=>?_) (fun H=>?_)
 ·refine qD (fun v0=>Z [p 4 (B (a1.2.2.2.1==0&&(a1.2.2.2.2.2.length:Int)==0&&vl (j0n a1.2.2.2.2.1 false)&&a1.2.1==v0&&decide (0<=a1.2.1)&&vl (t0P a0 a1.2.2.1)&&a1.2.2.1 != a1.2.1))] (W13 a1 a0)) H fun v0 H=>vTT<|fR<|hr H
 refine vK<|fQ<|vQ<|qD (fun v1=>Z (G11 [p 70 (B (!vl (j0n a1.2.2.2.2.1 true)||!vl (j0n a1.2.2.2.2.2 true)||a1.2.2.1 != v1||!vl (t0P a0 a1.2.1)))]) (W13 a1 a0)) H fun v1 H=>cD H (fun H=>?_) (fun H=>?_)
 ·refine qA (Z [p 4 (B false)] (W13 a1 a0))<|vTT<|fR<|hr H
 refine vK<|fQ<|vQ<|qA (Z (G11 [p 72 (J a1.1)]) (W13 a1 a0))<|vB<|qA (Z (G11 [p 72 (J a1.1),p 73 (B (a1.1==1))]) (W13 a1 a0))<|cD H (fun H=>?_) (fun H=>?_)
 ·refine qB (Z [p 4 (B (!(a0.2.2.1.getD a1.2.1.toNat (a0a y217)).2.2.2&&vl (b0y a1.2.2.2.1 1 3)))] (W13 a1 a0)) H fun H=>vTT<|fDD<|fR<|hr H
 refine jN r (fun(v2:Bool)=>Z (G11 [p 88 (B v2)]) (W13 a1 a0)) (k0p a0 a1) (fun v2 H=>?_) (fun _ n0 e0 t0=>?_)
 ·refine cD H (fun H=>?_) (fun H=>?_)
  ·refine qB (Z [p 4 (B ((a0.2.2.1.getD a1.2.1.toNat (a0a y217)).2.2.2&&a1.2.2.2.1==0))] (W13 a1 a0)) H fun H=>vTT<|fDD<|fR<|hr H
  refine vK<|fK<|fQ<|qA (Z [p 4 (B false)] (W13 a1 a0))<|vTT<|hr H
 refine qA (Z (G11 [p 72 (J a1.1),p 88 (B (a1.1==2))]) (W13 a1 a0))<|cD H (fun H=>?_) (fun H=>?_)
 ·exact vK<|n0 H
 refine zA (Z (G11 [p 88 (B (a1.1==3))]) (W13 a1 a0))<|n0 H
def D0u(a0:c0f)(a1:c0f):Option (Bool) :=
 some (a0.1==a1.1&&a0.2.1==a1.2.1&&a0.2.2.1==a1.2.2.1)
def J0b:Ct:=lct 261 [.agg y143,.dat (.pt y143)] (fun x=>D0u x.1 x.2.1) (fun r:Bool=>B r) (fun _=>())
theorem E0y:Ok prog J0b:=by
 refine okL [.tmp 3] func261 ntmps261 results261 ?_;intro y ⟨a0,a1,_⟩ r H Q hn hr;have:HT _ _:=⟨@tn prog⟩;refine qA (Z [p 1 (D y143.pt a1),p 2 (R 2)] [(2,K 143 y143 a0)])<|qA (Z [p 3 (B (a0.1==a1.1&&a0.2.1==a1.2.1&&a0.2.2.1==a1.2.2.1))] [(2,K 143 y143 a0)])<|vTT<|hr H
def i0s:Unit->Option (Int)
 | _ =>
 some (-1)
def p0k(a0:List c0f)(a1:c0f)(g1:Int->Option (Int)):Int->Option (Int)
 | v0 =>
 if(decide (v0 < (a0.length:Int)))=true then
  gd (ix v0 a0.length/\(D0u (a0.getD v0.toNat (a0a y143)) a1).isSome=true/\True) <|
  if(vl (D0u (a0.getD v0.toNat (a0a y143)) a1))=true then
   some v0
  else
   gd (a0f (v0+1)/\True) <|
   g1 (v0+1)
 else
  i0s ()
def g0w(a0:List c0f)(a1:c0f):Option (Int) :=
 lp (p0k a0 a1) 0
def v0h:Ct:=lct 275 [.dat y143.sl,.fn 261 y143.pt] (fun x=>g0w x.1 x.2.1) (fun r:Int=>I r) (fun _=>())
theorem u0K:Ok prog v0h:=by
 refine okL [.tmp 4] func275 ntmps275 results275 ?_;intro y ⟨a0,a1,_⟩ r H Q hn hr;have:HT _ _:=⟨tc E0y tn⟩;refine qA (Z [p 0 (L y143 a0),p 1 (AV.fn 261 [D y143.pt a1])] [])<|jN r (fun(_:Unit)=>Z [] []) (i0s) (fun _ H=>?_) (fun _ n0 e0 t0=>?_)
 ·refine qA (Z [p 4 (I (-1))] [])<|vTT<|hr H
 refine qA (Z [p 0 (L y143 a0),p 1 (AV.fn 261 [D y143.pt a1]),p 7 (I (a0.length:Int)),p 8 (I 0)] [])<|vB<|lX (fun(v0:Int)=>Z [p 0 (L y143 a0),p 1 (AV.fn 261 [D y143.pt a1]),p 7 (I (a0.length:Int)),p 8 (I v0)] []) 0 H fun _ g1 b1 e1 t1 v0 H=>qA (Z [p 0 (L y143 a0),p 1 (AV.fn 261 [D y143.pt a1]),p 7 (I (a0.length:Int)),p 8 (I v0),p 9 (B (decide (v0 < (a0.length:Int))))] [])<|vQ<|cD H (fun H=>?_) (fun H=>?_)
 ·refine vK<|fQ<|vQ<|vB<|qA (Z [p 0 (L y143 a0),p 1 (AV.fn 261 [D y143.pt a1]),p 5 (I v0),p 7 (I (a0.length:Int)),p 8 (I v0)] [])<|qB (Z [p 0 (L y143 a0),p 1 (AV.fn 261 [D y143.pt a1]),p 5 (I v0),p 7 (I (a0.length:Int)),p 8 (I v0),p 16 (B (vl (D0u (a0.getD v0.toNat (a0a y143)) a1)))] []) H fun H=>cD H (fun H=>?_) (fun H=>?_)
  ·refine qA (Z [p 4 (I v0)] [])<|vTT<|fDD<|fR<|t1<|fDD<|t0<|hr H
  refine vK<|fK<|fQ<|zB (Z [p 0 (L y143 a0),p 1 (AV.fn 261 [D y143.pt a1]),p 7 (I (a0.length:Int)),p 8 (I (v0+1))] []) H fun H=>b1 H
 exact vE<|fE<|e1<|fX rfl<|n0 H
def d0P(a0:List c0f)(a1:c0f):Option (Bool) :=
 gd ((g0w a0 a1).isSome=true/\True)<|lt (vl (g0w a0 a1)) fun v0 =>
 some (decide (0<=v0))
def v0j:Ct:=lct 260 [.dat y143.sl,.fn 261 (.pt y143)] (fun x=>d0P x.1 x.2.1) (fun r:Bool=>B r) (fun _=>())
theorem u0L:Ok prog v0j:=by
 refine okL [.tmp 4] func260 ntmps260 results260 ?_;intro y ⟨a0,a1,_⟩ r H Q hn hr;have:HT _ _:=⟨tc o0g (tc u0K (tc E0y tn))⟩;refine qA (Z [p 0 (L y143 a0),p 1 (AV.fn 261 [D y143.pt a1])] [])<|qD (fun v0=>Z [p 4 (B (decide (0<=v0)))] []) H fun v0 H=>vTT<|hr H
def n0s(a0:a0y):Unit->Option (Bool)
 | _ =>
 some (decide ((a0.2.2.2.1.length:Int)<=8))
def w0m(a0:a0y)(g1:Int->Option (Bool)):Int->Option (Bool)
 | v1 =>
 if(decide (v1 < (a0.2.2.2.1.length:Int)))=true then
  gd (ix v1 a0.2.2.2.1.length/\True)<|lt (a0.2.2.2.1.getD v1.toNat (a0a y143)) fun v2 =>
  gd ((w0j a0 v2).isSome=true/\((!vl (w0j a0 v2))=false/\True->(0:Int)<=(0:Int)/\(0:Int)<=v1/\v1<=(a0.2.2.2.1.length:Int))/\((!vl (w0j a0 v2))=false/\True->(d0P (List.take v1.toNat a0.2.2.2.1) v2).isSome=true)/\True) <|
  if(!vl (w0j a0 v2)||vl (d0P (List.take v1.toNat a0.2.2.2.1) v2))=true then
   some false
  else
   gd (a0f (v1+1)/\True) <|
   g1 (v1+1)
 else
  n0s a0 ()
def w0n(a0:a0y):Option (Bool) :=
 lp (w0m a0) 0
def J0i:Ct:=lct 243 [.agg y163] (fun x=>w0n x.1) (fun r:Bool=>B r) (fun _=>())
theorem H0Q:Ok prog J0i:=by
 refine okL [.tmp 2] func243 ntmps243 results243 ?_;intro y ⟨a0,_⟩ r H Q hn hr;have:HT _ _:=⟨tc o0h (tc u0L (tc E0y (tc H0L tn)))⟩;refine qA (Z [p 1 (R 1)] [(1,K 163 y163 a0)])<|jN r (fun(_:Unit)=>Z [p 1 (R 1)] [(1,K 163 y163 a0)]) (n0s a0) (fun _ H=>?_) (fun _ n0 e0 t0=>?_)
 ·refine qA (Z [p 2 (B (decide ((a0.2.2.2.1.length:Int)<=8)))] [(1,K 163 y163 a0)])<|vTT<|hr H
 refine qA (Z [p 1 (R 1),p 6 (L y143 a0.2.2.2.1),p 7 (I (a0.2.2.2.1.length:Int)),p 8 (I 0)] [(1,K 163 y163 a0)])<|vB<|lX (fun(v1:Int)=>Z [p 1 (R 1),p 6 (L y143 a0.2.2.2.1),p 7 (I (a0.2.2.2.1.length:Int)),p 8 (I v1)] [(1,K 163 y163 a0)]) 0 H fun _ g1 b1 e1 t1 v1 H=>qA (Z [p 1 (R 1),p 6 (L y143 a0.2.2.2.1),p 7 (I (a0.2.2.2.1.length:Int)),p 8 (I v1),p 9 (B (decide (v1 < (a0.2.2.2.1.length:Int))))] [(1,K 163 y163 a0)])<|vQ<|cD H (fun H=>?_) (fun H=>?_)
 ·refine vK<|fQ<|vQ<|vB<|qD (fun v2=>Z (G14 v1 [p 4 (R 4),p 6 (L y143 a0.2.2.2.1),p 7 (I (a0.2.2.2.1.length:Int)),p 8 (I v1)]) [(4,K 143 y143 v2),(1,K 163 y163 a0)]) H fun v2 H=>qB (Z [p 1 (R 1),p 6 (L y143 a0.2.2.2.1),p 7 (I (a0.2.2.2.1.length:Int)),p 8 (I v1),p 24 (B (!vl (w0j a0 v2)||vl (d0P (List.take v1.toNat a0.2.2.2.1) v2)))] [(4,K 143 y143 v2),(1,K 163 y163 a0)]) H fun H=>cD H (fun H=>?_) (fun H=>?_)
  ·refine qA (Z [p 2 (B false)] [(4,K 143 y143 v2),(1,K 163 y163 a0)])<|vTT<|fDD<|fR<|t1<|fDD<|t0<|hr H
  refine vK<|fK<|fQ<|zB (Z [p 1 (R 1),p 6 (L y143 a0.2.2.2.1),p 7 (I (a0.2.2.2.1.length:Int)),p 8 (I (v1+1))] [(4,K 143 y143 v2),(1,K 163 y163 a0)]) H fun H=>b1 H
 exact vE<|fE<|e1<|fX rfl<|n0 H
def k0q(a0:List f0v):List ByteArray->Option (Bool)
 | v6 =>
 gd ((q0M a0).isSome=true/\(b0y (vl (q0M a0)) 2 5).isSome=true/\(vl (b0y (vl (q0M a0)) 2 5)=true/\True->(i0y v6).isSome=true)/\True) <|
 some (vl (b0y (vl (q0M a0)) 2 5)&&vl (i0y v6))
def n0t(v3:Int)(g1:List ByteArray×Int->Option (Bool)):List ByteArray->Option (Bool)
 | v5 =>
 gd (a0f (v3+1)/\True) <|
 g1 (v5,v3+1)
def w0o(a0:List f0v)(g1:List ByteArray×Int->Option (Bool)):List ByteArray×Int->Option (Bool)
 | (v2,v3) =>
 if(decide (v3 < (a0.length:Int)))=true then
  gd (ix v3 a0.length/\True)<|lt (a0.getD v3.toNat (a0a y217)) fun v4 =>
  gd ((v2.length+[v4.1].length<=9223372036854775807/\(v2.length+[v4.1].length)*16<=140737488355328)/\True) <|
  gd (a0f ((a0.length:Int)-1)/\True) <|
  if(v3==(a0.length:Int)-1)=true then
   if(v4.2.1 != 2||v4.2.2.1 != 0||v4.2.2.2)=true then
    some false
   else
    n0t v3 g1 (v2++[v4.1])
  else
   gd (((v4.2.1 != 1)=false/\True->(b0y v4.2.2.1 0 500).isSome=true)/\True) <|
   if(v4.2.1 != 1||!vl (b0y v4.2.2.1 0 500))=true then
    some false
   else
    n0t v3 g1 (v2++[v4.1])
 else
  k0q a0 v2
def t0R(a0:List f0v):Option (Bool) :=
 lp (w0o a0) ([],0)
def J0j:Ct:=lct 242 [.dat y217.sl] (fun x=>t0R x.1) (fun r:Bool=>B r) (fun _=>())
theorem H0R:Ok prog J0j:=by
 refine okL [.tmp 2] func242 ntmps242 results242 ?_;intro y ⟨a0,_⟩ r H Q hn hr;have:HT _ _:=⟨tc E0A (tc r0O (tc F0E tn))⟩;refine qA (Z [p 0 (L y217 a0)] [])<|qA (Z [p 0 (L y217 a0),p 3 (nil)] [])<|jN r (fun(v6:List ByteArray)=>Z [p 0 (L y217 a0),p 3 (O 17)] [(17,A 9 Ty.str v6 0)]) (k0q a0) (fun v6 H=>?_) (fun _ n0 e0 t0=>?_)
 ·refine qB (Z [p 2 (B (vl (b0y (vl (q0M a0)) 2 5)&&vl (i0y v6)))] [(17,A 9 Ty.str v6 0)]) H fun H=>vTT<|hr H
 refine qA (Z [p 0 (L y217 a0),p 3 (nil),p 6 (L y217 a0),p 7 (I (a0.length:Int)),p 8 (I 0)] [])<|vB<|lX (fun((v2,v3):List ByteArray×Int)=>Z [p 0 (L y217 a0),p 3 (O 17),p 6 (L y217 a0),p 7 (I (a0.length:Int)),p 8 (I v3)] [(17,A 9 Ty.str v2 0)]) ([],0) H fun _ g1 b1 e1 t1 ⟨v2,v3⟩ H=>qA (Z [p 0 (L y217 a0),p 3 (O 17),p 6 (L y217 a0),p 7 (I (a0.length:Int)),p 8 (I v3),p 9 (B (decide (v3 < (a0.length:Int))))] [(17,A 9 Ty.str v2 0)])<|vQ<|cD H (fun H=>?_) (fun H=>?_)
 ·refine vK<|fQ<|jN r (fun(v5:List ByteArray)=>Z [p 0 (L y217 a0),p 3 (O 17),p 6 (L y217 a0),p 7 (I (a0.length:Int)),p 8 (I v3)] [(17,A 9 Ty.str v5 0)]) (n0t v3 g1) (fun v5 H=>?_) (fun _ n2 e2 t2=>?_)
  ·refine zB (Z [p 0 (L y217 a0),p 3 (O 17),p 6 (L y217 a0),p 7 (I (a0.length:Int)),p 8 (I (v3+1))] [(17,A 9 Ty.str v5 0)]) H fun H=>b1 H
  refine vB<|qD (fun v4=>Z [p 0 (L y217 a0),p 3 (O 17),p 4 (I v3),p 5 (R 5),p 6 (L y217 a0),p 7 (I (a0.length:Int)),p 8 (I v3)] [(5,K 217 y217 v4),(17,A 9 Ty.str v2 0)]) H fun v4 H=>qB (Z [p 0 (L y217 a0),p 3 (AV.os 17 1),p 4 (I v3),p 5 (R 5),p 6 (L y217 a0),p 7 (I (a0.length:Int)),p 8 (I v3)] (W63 (v2++[v4.1]) [v4.1] v4)) H fun H=>qB (Z [p 0 (L y217 a0),p 3 (AV.os 17 1),p 5 (R 5),p 6 (L y217 a0),p 7 (I (a0.length:Int)),p 8 (I v3),p 22 (B (v3==(a0.length:Int)-1))] (W63 (v2++[v4.1]) [v4.1] v4)) H fun H=>cD H (fun H=>?_) (fun H=>?_)
  ·refine qA (Z [p 0 (L y217 a0),p 3 (AV.os 17 1),p 6 (L y217 a0),p 7 (I (a0.length:Int)),p 8 (I v3),p 34 (B (v4.2.1 != 2||v4.2.2.1 != 0||v4.2.2.2))] (W63 (v2++[v4.1]) [v4.1] v4))<|cD H (fun H=>?_) (fun H=>?_)
   ·refine qA (Z [p 2 (B false)] (W63 (v2++[v4.1]) [v4.1] v4))<|vTT<|fDD<|t2<|t1<|fDD<|t0<|hr H
   exact vK<|fK<|n2 H
  refine qB (Z [p 0 (L y217 a0),p 3 (AV.os 17 1),p 6 (L y217 a0),p 7 (I (a0.length:Int)),p 8 (I v3),p 43 (B (v4.2.1 != 1||!vl (b0y v4.2.2.1 0 500)))] (W63 (v2++[v4.1]) [v4.1] v4)) H fun H=>cD H (fun H=>?_) (fun H=>?_)
  ·refine qA (Z [p 2 (B false)] (W63 (v2++[v4.1]) [v4.1] v4))<|vTT<|fDD<|t2<|t1<|fDD<|t0<|hr H
  exact vK<|fK<|n2 H
 exact vE<|fE<|e1<|fX rfl<|n0 H
def A0i(a0:a0y):Option (Bool) :=
 gd ((m0b a0.1).isSome=true/\(vl (m0b a0.1)=true/\True->(t0R a0.2.2.1).isSome=true)/\((vl (m0b a0.1)&&vl (t0R a0.2.2.1))=true/\True->(w0n a0).isSome=true)/\((vl (m0b a0.1)&&vl (t0R a0.2.2.1)&&vl (w0n a0))=true/\True->(b0y a0.2.2.2.2.2.1 0 100000).isSome=true)/\((vl (m0b a0.1)&&vl (t0R a0.2.2.1)&&vl (w0n a0)&&vl (b0y a0.2.2.2.2.2.1 0 100000))=true/\True->(b0y a0.2.2.2.2.2.2 0 100000).isSome=true)/\((vl (m0b a0.1)&&vl (t0R a0.2.2.1)&&vl (w0n a0)&&vl (b0y a0.2.2.2.2.2.1 0 100000)&&vl (b0y a0.2.2.2.2.2.2 0 100000))=true/\True->(B0G a0).isSome=true)/\True) <|
 some (vl (m0b a0.1)&&vl (t0R a0.2.2.1)&&vl (w0n a0)&&vl (b0y a0.2.2.2.2.2.1 0 100000)&&vl (b0y a0.2.2.2.2.2.2 0 100000)&&vl (B0G a0))
def J0t:Ct:=lct 212 [.agg y163] (fun x=>A0i x.1) (fun r:Bool=>B r) (fun _=>())
theorem H0Z:Ok prog J0t:=by
 refine okL [.tmp 2] func212 ntmps212 results212 ?_;intro y ⟨a0,_⟩ r H Q hn hr;have:HT _ _:=⟨tc H0P (tc r0O (tc H0Q (tc H0R (tc F0O tn))))⟩;refine qA (Z [p 1 (R 1)] [(1,K 163 y163 a0)])<|qB (Z [p 2 (B (vl (m0b a0.1)&&vl (t0R a0.2.2.1)&&vl (w0n a0)&&vl (b0y a0.2.2.2.2.2.1 0 100000)&&vl (b0y a0.2.2.2.2.2.2 0 100000)&&vl (B0G a0)))] [(1,K 163 y163 a0)]) H fun H=>vTT<|hr H
def k0z(a0:List a0y):List ByteArray->Option (Bool)
 | v4 =>
 gd ((decide ((a0.length:Int)<=8)=true/\True->(i0y v4).isSome=true)/\True) <|
 some (decide ((a0.length:Int)<=8)&&vl (i0y v4))
def w0M(a0:List a0y)(g1:List ByteArray×Int->Option (Bool)):List ByteArray×Int->Option (Bool)
 | (v1,v2) =>
 if(decide (v2 < (a0.length:Int)))=true then
  gd (ix v2 a0.length/\True)<|lt (a0.getD v2.toNat (a0a y163)) fun v3 =>
  gd ((A0i v3).isSome=true/\True) <|
  if(!vl (A0i v3))=true then
   some false
  else
   gd ((v1.length+[v3.1].length<=9223372036854775807/\(v1.length+[v3.1].length)*16<=140737488355328)/\True) <|
   gd (a0f (v2+1)/\True) <|
   g1 (v1++[v3.1],v2+1)
 else
  k0z a0 v1
def A0m(a0:List a0y):Option (Bool) :=
 lp (w0M a0) ([],0)
def J0L:Ct:=lct 175 [.agg y163.sl] (fun x=>A0m x.1) (fun r:Bool=>B r) (fun _=>())
theorem I0m:Ok prog J0L:=by
 refine okL [.tmp 2] func175 ntmps175 results175 ?_;intro y ⟨a0,_⟩ r H Q hn hr;have:HT _ _:=⟨tc E0A (tc H0Z tn)⟩;refine qA (Z [p 1 (R 1)] [(1,bx 26 [L y163 a0])])<|qA (Z [p 1 (R 1),p 3 (nil)] [(1,bx 26 [L y163 a0])])<|jN r (fun(v4:List ByteArray)=>Z (G51 []) (W62 a0 v4)) (k0z a0) (fun v4 H=>?_) (fun _ n0 e0 t0=>?_)
 ·refine qB (Z [p 2 (B (decide ((a0.length:Int)<=8)&&vl (i0y v4)))] (W62 a0 v4)) H fun H=>vTT<|hr H
 refine qA (Z [p 1 (R 1),p 3 (nil),p 7 (L y163 a0),p 8 (I (a0.length:Int)),p 9 (I 0)] [(1,bx 26 [L y163 a0])])<|vB<|lX (fun((v1,v2):List ByteArray×Int)=>Z (G51 [p 7 (L y163 a0),p 8 (I (a0.length:Int)),p 9 (I v2)]) (W62 a0 v1)) ([],0) H fun _ g1 b1 e1 t1 ⟨v1,v2⟩ H=>qA (Z (G51 [p 7 (L y163 a0),p 8 (I (a0.length:Int)),p 9 (I v2),p 10 (B (decide (v2 < (a0.length:Int))))]) (W62 a0 v1))<|vQ<|cD H (fun H=>?_) (fun H=>?_)
 ·refine vK<|fQ<|vQ<|vB<|qD (fun v3=>Z (G51 [p 5 (R 5),p 7 (L y163 a0),p 8 (I (a0.length:Int)),p 9 (I v2)]) ((5,K 163 y163 v3)::W62 a0 v1)) H fun v3 H=>vQ<|qB (Z (G51 [p 5 (R 5),p 7 (L y163 a0),p 8 (I (a0.length:Int)),p 9 (I v2),p 15 (B !vl (A0i v3))]) ((5,K 163 y163 v3)::W62 a0 v1)) H fun H=>cD H (fun H=>?_) (fun H=>?_)
  ·refine qA (Z [p 2 (B false)] ((5,K 163 y163 v3)::W62 a0 v1))<|vTT<|fR<|fDD<|fR<|t1<|fDD<|t0<|hr H
  refine vK<|fQ<|zB (Z [p 1 (R 1),p 3 (AV.os 20 1),p 7 (L y163 a0),p 8 (I (a0.length:Int)),p 9 (I v2)] [(20,A 9 Ty.str (v1++[v3.1]) 1),(19,A 9 Ty.str [v3.1] 0),(5,K 163 y163 v3),(1,bx 26 [L y163 a0])]) H fun H=>fK<|fQ<|zB (Z [p 1 (R 1),p 3 (AV.os 20 1),p 7 (L y163 a0),p 8 (I (a0.length:Int)),p 9 (I (v2+1))] [(20,A 9 Ty.str (v1++[v3.1]) 1),(19,A 9 Ty.str [v3.1] 0),(5,K 163 y163 v3),(1,bx 26 [L y163 a0])]) H fun H=>b1 H
 exact vE<|fE<|e1<|fX rfl<|n0 H
def i0x:Unit->Option (Int)
 | _ =>
 some (-1)
def p0n(a0:List Int)(g1:Int->Option (Int)):Int->Option (Int)
 | v0 =>
 if(decide (v0 < (a0.length:Int)))=true then
  gd (ix v0 a0.length/\(D0x (a0.getD v0.toNat 0)).isSome=true/\True) <|
  if(vl (D0x (a0.getD v0.toNat 0)))=true then
   some v0
  else
   gd (a0f (v0+1)/\True) <|
   g1 (v0+1)
 else
  i0x ()
def g0A(a0:List Int):Option (Int) :=
 lp (p0n a0) 0
def v0m:Ct:=lct 217 [.dat i64.sl,.nof 180] (fun x=>g0A x.1) (fun r:Int=>I r) (fun _=>())
theorem u0N:Ok prog v0m:=by
 refine okL [.tmp 4] func217 ntmps217 results217 ?_;intro y ⟨a0,_,_⟩ r H Q hn hr;have:HT _ _:=⟨tc E0E tn⟩;refine qA (Z [p 0 (L i64 a0),p 1 (AV.fn 180 [])] [])<|jN r (fun(_:Unit)=>Z [] []) (i0x) (fun _ H=>?_) (fun _ n0 e0 t0=>?_)
 ·refine qA (Z [p 4 (I (-1))] [])<|vTT<|hr H
 refine qA (Z [p 0 (L i64 a0),p 1 (AV.fn 180 []),p 7 (I (a0.length:Int)),p 8 (I 0)] [])<|vB<|lX (fun(v0:Int)=>Z [p 0 (L i64 a0),p 1 (AV.fn 180 []),p 7 (I (a0.length:Int)),p 8 (I v0)] []) 0 H fun _ g1 b1 e1 t1 v0 H=>qA (Z [p 0 (L i64 a0),p 1 (AV.fn 180 []),p 7 (I (a0.length:Int)),p 8 (I v0),p 9 (B (decide (v0 < (a0.length:Int))))] [])<|vQ<|cD H (fun H=>?_) (fun H=>?_)
 ·refine vK<|fQ<|vQ<|vB<|qA (Z [p 0 (L i64 a0),p 1 (AV.fn 180 []),p 5 (I v0),p 7 (I (a0.length:Int)),p 8 (I v0)] [])<|qB (Z [p 0 (L i64 a0),p 1 (AV.fn 180 []),p 5 (I v0),p 7 (I (a0.length:Int)),p 8 (I v0),p 16 (B (vl (D0x (a0.getD v0.toNat 0))))] []) H fun H=>cD H (fun H=>?_) (fun H=>?_)
  ·refine qA (Z [p 4 (I v0)] [])<|vTT<|fDD<|fR<|t1<|fDD<|t0<|hr H
  refine vK<|fK<|fQ<|zB (Z [p 0 (L i64 a0),p 1 (AV.fn 180 []),p 7 (I (a0.length:Int)),p 8 (I (v0+1))] []) H fun H=>b1 H
 exact vE<|fE<|e1<|fX rfl<|n0 H
def e0T(a0:List Int):Option (Bool) :=
 gd ((g0A a0).isSome=true/\True)<|lt (vl (g0A a0)) fun v0 =>
 some (decide (0<=v0))
def v0p:Ct:=lct 179 [.dat i64.sl,.nof 180] (fun x=>e0T x.1) (fun r:Bool=>B r) (fun _=>())
theorem u0P:Ok prog v0p:=by
 refine okL [.tmp 4] func179 ntmps179 results179 ?_;intro y ⟨a0,_,_⟩ r H Q hn hr;have:HT _ _:=⟨tc u0N (tc E0E tn)⟩;refine qA (Z [p 0 (L i64 a0),p 1 (AV.fn 180 [])] [])<|qD (fun v0=>Z [p 4 (B (decide (0<=v0)))] []) H fun v0 H=>vTT<|hr H
end Go.Proofs.YtphnknndgfgepaaGreatDoor
end
