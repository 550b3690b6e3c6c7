/- Functions of this program as plain functions of data, and that they are so: printed by program. -/
import Derived.Test.YtphnknndgfgepaaGreatDoorXE6
import Derived.Test.YtphnknndgfgepaaGreatDoorXF6
import Derived.Test.YtphnknndgfgepaaGreatDoorTY6
import Derived.Test.YtphnknndgfgepaaGreatDoorLB6
section
namespace Go.Proofs.YtphnknndgfgepaaGreatDoor
open Go Go.Proofs Go.Proofs.Sv Go.Proofs.Xv Go.Proofs.Xl Go.RowKit
open Tryz
instance:HG Tryz.prog Γ:=⟨tok⟩
abbrev bx(T:TypeId)(c:List AV):Ob:=.box T c
abbrev b8:Ty:=.int .u8
abbrev Q0(x:den (.sl y163)×(den (.sl y165)×den (.sl Ty.str)×den (.sl y175))×den (.sl l6)):List AV:=[L y163 x.1,M y165 x.2.1.1,M Ty.str x.2.1.2.1,M y175 x.2.1.2.2,M l6 x.2.2]
abbrev Q1{α1:Type}{α2:Type}(x:ByteArray×Int×α1×α2×den (.sl i64)×Int×Int):List AV:=[S x.1,I x.2.1,AV.os 21 0,AV.os 1021 0,L i64 x.2.2.2.2.1,I x.2.2.2.2.2.1,I x.2.2.2.2.2.2]
abbrev Q2{α1:Type}{α2:Type}(x:ByteArray×Int×α1×α2×den (.sl i64)×Int×Int):List AV:=[S x.1,I x.2.1,AV.os 18 0,AV.os 1018 0,L i64 x.2.2.2.2.1,I x.2.2.2.2.2.1,I x.2.2.2.2.2.2]
abbrev Q3{α1:Type}{α2:Type}(x:ByteArray×Int×α1×α2×den (.sl i64)×Int×Int):List AV:=[S x.1,I x.2.1,AV.os 24 0,AV.os 1024 0,L i64 x.2.2.2.2.1,I x.2.2.2.2.2.1,I x.2.2.2.2.2.2]
abbrev Q4(x:den (.sl y163)×(den (.sl y165)×den (.sl Ty.str)×den (.sl y175))×den (.sl l6)):List AV:=[L y163 x.1,L y165 x.2.1.1,L Ty.str x.2.1.2.1,L y175 x.2.1.2.2,L l6 x.2.2,AV.os 18 0,AV.os 38 0,AV.os 102 0,AV.os 114 0,nil]
abbrev Q5(x:den (.sl y163)×(den (.sl y165)×den (.sl Ty.str)×den (.sl y175))×den (.sl l6)):List AV:=[L y163 x.1,L y165 x.2.1.1,L Ty.str x.2.1.2.1,L y175 x.2.1.2.2,L l6 x.2.2,AV.os 18 0,AV.os 38 0,nil,nil,nil]
abbrev Q6{α1:Type}{α2:Type}(x:ByteArray×Int×α1×α2×den (.sl i64)×Int×Int):List AV:=[S x.1,I x.2.1,AV.os 15 0,AV.os 1015 0,L i64 x.2.2.2.2.1,I x.2.2.2.2.2.1,I x.2.2.2.2.2.2]
abbrev Q7(x:ByteArray×Int×den (.sl y217)×den (.sl y143)×den (.sl i64)×Int×Int):List AV:=[S x.1,I x.2.1,M y217 x.2.2.1,M y143 x.2.2.2.1,L i64 x.2.2.2.2.1,I x.2.2.2.2.2.1,I x.2.2.2.2.2.2]
abbrev Q8{α1:Type}{α2:Type}(x:ByteArray×Int×α1×α2×den (.sl i64)×Int×Int):List AV:=[S x.1,I x.2.1,AV.os 27 0,AV.os 1027 0,L i64 x.2.2.2.2.1,I x.2.2.2.2.2.1,I x.2.2.2.2.2.2]
abbrev Q9(x:den (.sl y165)×den (.sl Ty.str)×den (.sl y175)):List AV:=[AV.os 9 0,M y165 x.1,M Ty.str x.2.1,M y175 x.2.2,AV.os 1009 0]
abbrev Q10(x:ByteArray×Int×den (.sl y217)×den (.sl y143)×Int×Int):List AV:=[S x.1,I x.2.1,M y217 x.2.2.1,M y143 x.2.2.2.1,nil,I x.2.2.2.2.1,I x.2.2.2.2.2]
abbrev Q11(x:den (.sl y163)×(den (.sl y165)×den (.sl Ty.str)×den (.sl y175))×den (.sl l6)):List AV:=[L y163 x.1,L y165 x.2.1.1,L Ty.str x.2.1.2.1,L y175 x.2.1.2.2,L l6 x.2.2,AV.os 18 0,AV.os 38 1,nil,nil,nil]
abbrev Q12(x:den (.sl y163)×(den (.sl y165)×den (.sl Ty.str)×den (.sl y175))×den (.sl l6)):List AV:=[L y163 x.1,L y165 x.2.1.1,L Ty.str x.2.1.2.1,L y175 x.2.1.2.2,L l6 x.2.2,AV.os 18 0,nil,nil,nil,nil]
abbrev Q13{α1:Type}{α2:Type}(x:ByteArray×Int×α1×α2×Int×Int):List AV:=[S x.1,I x.2.1,AV.os 29 0,AV.os 1029 0,nil,I x.2.2.2.2.1,I x.2.2.2.2.2]
abbrev Q14(x:den i64.pt×den i64.pt):List AV:=[D i64.pt x.1,D i64.pt x.2]
abbrev Q60(x1:den (.sl y165)):List AV:=[M y165 x1,AV.os 18 0,AV.os 23 0]
abbrev Q61(x1:den (.sl y165))(x2:den (.sl Ty.str))(x3:den (.sl y175)):List AV:=[M y165 x1,M Ty.str x2,M y175 x3]
abbrev Q62(x1:ByteArray)(x2:Int)(x3:Int)(x4:Int):List AV:=[S x1,I x2,nil,nil,nil,I x3,I x4]
abbrev Q63(x1:den (.sl b8))(x2:Int)(x3:Int):List AV:=[L b8 x1,J x2,J x3]
abbrev Q64(x1:den (.sl y165))(x2:den (.sl Ty.str))(x3:den (.sl y175)):List AV:=[AV.os 9 0,M y165 x1,M Ty.str x2,M y175 x3,AV.os 1009 0]
abbrev Q65(x1:den y100.pt):List AV:=[D y100.pt x1,AV.os 15 0]
abbrev Q66(x1:den (.sl i64))(x2:den (.sl i64))(x3:den (.sl i64)):List AV:=[M i64 x1,M i64 x2,M i64 x3,AV.os 3012 0]
abbrev W0(y0:den (.sl y165))(y1:List (den y175))(y2:List (den Ty.str))(y3:den (.sl y165))(y4:den (.sl Ty.str))(y5:den (.sl y175)):List (Nat×Ob):=[(7,bx 31 (Q60 y0)),(23,A 175 y175 y1 0),(18,A 9 Ty.str y2 0),(6,bx 31 (Q61 y3 y4 y5))]
abbrev W1(y0:den y143):List (Nat×Ob):=[(10,A 210 (i64.pr i64) [((0:Int),(1:Int)),((1:Int),(0:Int))] 0),(7,A 210 (i64.pr i64) [((0:Int),(0:Int)),((1:Int),(1:Int))] 0),(1,K 143 y143 y0)]
abbrev G2(y0:Bool)(y1:Int)(t:List (Nat×Sl)):List (Nat×Sl):=p 0 (R 500000) :: p 2 (C y0) :: p 6 (R 6) :: p 7 (R 7) :: p 8 (O 25) :: p 9 (O 26) :: p 10 (O 27) :: p 11 (I y1) :: t
abbrev W3(y0:List (den l6))(y1:List (den y163)):List (Nat×Ob):=[(1009,A 110 l6 y0 0),(9,Ob.arr 163 false y163 y1 0),(2,bx 34 [nil,nil,nil,nil,nil])]
abbrev W4(y0:List (den i64))(y1:List (den y48))(y2:List (den i64.sl))(y3:den (.sl y163)×(den (.sl y165)×den (.sl Ty.str)×den (.sl y175))×den (.sl l6)):List (Nat×Ob):=[(55,A 2 i64 y0 0),(52,A 48 y48 y1 0),(29,A 35 i64.sl y2 0),(3,bx 34 (Q0 y3))]
abbrev W5(y0:List (den y105))(y1:den y34)(y2:List (den y48)):List (Nat×Ob):=[(18,A 105 y105 y0 0),(1,K 34 y34 y1),(38,A 48 y48 y2 0)]
abbrev G6(y0:den y127.pt)(y1:Int)(t:List (Nat×Sl)):List (Nat×Sl):=p 0 (D y127.pt y0) :: p 3 (I y1) :: p 4 (O 28) :: p 6 (O 31) :: p 7 (O 87) :: t
abbrev W7(y0:den y31)(y1:List (den y163)):List (Nat×Ob):=[(3,K 31 y31 y0),(2,bx 26 [L y163 y1])]
abbrev G8(y0:List (den i64))(y1:Int)(t:List (Nat×Sl)):List (Nat×Sl):=p 3 (R 3) :: p 4 (M i64 y0) :: p 5 (O 29) :: p 9 (O 52) :: p 11 (O 55) :: p 12 (I y1) :: t
abbrev G9(y0:Int)(y1:List (den y48))(y2:List (den Ty.bool))(y3:Int)(t:List (Nat×Sl)):List (Nat×Sl):=p 0 (J y0) :: p 1 (L y48 y1) :: p 2 (L Ty.bool y2) :: p 7 (O 14) :: p 8 (O 16) :: p 9 (I y3) :: t
abbrev G10(y0:Int)(y1:Int)(y2:Int)(y3:Int)(t:List (Nat×Sl)):List (Nat×Sl):=p 0 (O 500000) :: p 2 (J y0) :: p 3 (J y1) :: p 4 (J y2) :: p 6 (R 6) :: p 11 (I y3) :: t
abbrev G11(t:List (Nat×Sl)):List (Nat×Sl):=p 1 (R 1) :: p 3 (R 20) :: p 7 (O 50) :: t
abbrev W12(y0:List (den Ty.bool))(y1:List (den Ty.bool.sl))(y2:List (den i64.sl))(y3:List (den i64)):List (Nat×Ob):=[(31,A 4 Ty.bool y0 0),(28,A 94 Ty.bool.sl y1 0),(87,A 35 i64.sl y2 0),(63,A 2 i64 y3 0)]
abbrev G13(t:List (Nat×Sl)):List (Nat×Sl):=p 2 (R 2) :: p 3 (R 3) :: t
abbrev G14(y0:Int)(t:List (Nat×Sl)):List (Nat×Sl):=p 0 (R 500000) :: p 1 (J y0) :: t
abbrev W15(y0:den y143)(y1:den y163):List (Nat×Ob):=[(3,K 143 y143 y0),(2,K 163 y163 y1)]
abbrev G16(y0:Int)(t:List (Nat×Sl)):List (Nat×Sl):=p 1 (R 1) :: p 3 (I y0) :: t
abbrev W17(y0:den (.sl b8))(y1:Int)(y2:Int):List (Nat×Ob):=[(500000,bx 152 (Q63 y0 y1 y2)),(6,bx 163 (Q62 (ByteArray.mk #[]) 0 0 0))]
abbrev W18(y0:List (den y163)):List (Nat×Ob):=[(7,bx 26 [AV.os 12 0]),(12,Ob.arr 163 false y163 y0 0),(6,bx 34 [nil,nil,nil,nil,nil])]
abbrev G19(y0:List (den y48))(y1:List (den Ty.bool))(y2:Bool)(t:List (Nat×Sl)):List (Nat×Sl):=p 1 (L y48 y0) :: p 2 (L Ty.bool y1) :: p 4 (C y2) :: p 11 (O 17) :: t
abbrev W20(y0:List (den i64)):List (Nat×Ob):=[(12,A 2 i64 y0 0),(4,bx 140 [nil,nil,nil])]
abbrev W21(y0:List (den i64)):List (Nat×Ob):=[(3012,A 2 i64 y0 0),(4,bx 110 [nil,nil,nil,nil])]
abbrev W22(y0:List (den Ty.bool))(y1:List (den Ty.bool.sl))(y2:List (den i64.sl)):List (Nat×Ob):=[(31,A 4 Ty.bool y0 0),(28,A 94 Ty.bool.sl y1 0),(87,A 35 i64.sl y2 0)]
abbrev W23(y0:den y143)(y1:List (den y48)):List (Nat×Ob):=[(6,K 143 y143 y0),(500000,A 48 y48 y1 0)]
abbrev G24(t:List (Nat×Sl)):List (Nat×Sl):=p 0 (R 500000) :: p 2 (R 2) :: t
abbrev G25(t:List (Nat×Sl)):List (Nat×Sl):=p 0 (R 500000) :: p 4 (R 4) :: p 5 (R 5) :: t
abbrev G26(y0:den y127.pt)(y1:List (den i64))(t:List (Nat×Sl)):List (Nat×Sl):=p 0 (D y127.pt y0) :: p 1 (L i64 y1) :: t
abbrev W27(y0:List (den Ty.bool))(y1:List (den i64.sl)):List (Nat×Ob):=[(16,A 4 Ty.bool y0 0),(14,A 35 i64.sl y1 0)]
abbrev G28(t:List (Nat×Sl)):List (Nat×Sl):=p 0 (R 500000) :: p 6 (R 6) :: t
abbrev W29(y0:List (den i64))(y1:den y127.pt):List (Nat×Ob):=[(5,bx 35 [AV.os 13 0]),(13,A 2 i64 y0 0),(2,bx 86 [D y127.pt y1])]
abbrev G30(y0:Bool)(t:List (Nat×Sl)):List (Nat×Sl):=p 0 (R 500000) :: p 2 (C y0) :: p 6 (R 6) :: p 7 (R 7) :: p 9 (O 26) :: p 10 (O 27) :: t
abbrev W31(y0:den y100.pt)(y1:List (den Ty.bool)):List (Nat×Ob):=[(17,bx 127 (Q65 y0)),(15,A 4 Ty.bool y1 0)]
abbrev G32(y0:den y127.pt)(t:List (Nat×Sl)):List (Nat×Sl):=p 0 (D y127.pt y0) :: p 5 (O 16) :: p 7 (O 30) :: t
abbrev G33(y0:Int)(t:List (Nat×Sl)):List (Nat×Sl):=p 1 (J y0) :: p 2 (R 2) :: t
abbrev G34(y0:Int)(y1:Int)(y2:Int)(t:List (Nat×Sl)):List (Nat×Sl):=p 1 (R 1) :: p 4 (I y0) :: p 5 (I y1) :: p 6 (I y2) :: t
abbrev G35(y0:Int)(t:List (Nat×Sl)):List (Nat×Sl):=p 0 (R 500000) :: p 5 (O 9) :: p 6 (I y0) :: t
abbrev W36(y0:den y217)(y1:den y163):List (Nat×Ob):=[(7,K 217 y217 y0),(1,K 163 y163 y1)]
abbrev W37(y0:List (den Ty.str)):List (Nat×Ob):=[(15,A 9 Ty.str y0 0),(6,bx 163 (Q62 (ByteArray.mk #[]) 0 0 0))]
abbrev W38(y0:List (den y143))(y1:List (den y217)):List (Nat×Ob):=[(1015,A 143 y143 y0 0),(15,A 217 y217 y1 0),(3,bx 26 [nil]),(2,bx 26 [nil])]
abbrev W39(y0:List (den Ty.str))(y1:den y31):List (Nat×Ob):=[(41,A 9 Ty.str y0 0),(3,K 31 y31 y1)]
abbrev G40(y0:Int)(t:List (Nat×Sl)):List (Nat×Sl):=p 1 (R 1) :: p 3 (O 12) :: p 4 (R 4) :: p 5 (I y0) :: t
abbrev W41(y0:den y100.pt)(y1:List (den Ty.bool))(y2:den y34):List (Nat×Ob):=[(1015,bx 127 (Q65 y0)),(15,A 4 Ty.bool y1 0),(3,K 34 y34 y2)]
abbrev W42(y0:List (den y175))(y1:List (den Ty.str))(y2:den l7):List (Nat×Ob):=[(7,bx 31 [nil,AV.os 18 0,AV.os 23 0]),(23,A 175 y175 y0 0),(18,A 9 Ty.str y1 0),(6,bx 31 [nil,nil,nil]),(500000,K 152 l7 y2)]
abbrev G43(y0:List (den i64.sl))(t:List (Nat×Sl)):List (Nat×Sl):=p 7 (M i64.sl y0) :: p 12 (O 63) :: t
abbrev G44(y0:List (den i64))(t:List (Nat×Sl)):List (Nat×Sl):=p 0 (R 500000) :: p 2 (L i64 y0) :: p 6 (R 6) :: p 7 (O 15) :: p 8 (R 8) :: t
abbrev W45(y0:den l7):List (Nat×Ob):=[(500000,K 152 l7 y0),(2,bx 34 [nil,nil,nil,nil,nil])]
abbrev W46(y0:List (den i64))(y1:den y31):List (Nat×Ob):=[(92,A 2 i64 y0 0),(3,K 31 y31 y1)]
abbrev W47(y0:den y31)(y1:List (den y48))(y2:den y34):List (Nat×Ob):=[(4,K 31 y31 y0),(12,A 48 y48 y1 0),(1,K 34 y34 y2)]
abbrev W48(y0:List (den x8))(y1:den y31):List (Nat×Ob):=[(8,A 179 x8 y0 0),(1,K 31 y31 y1)]
abbrev W49(y0:List (den i64.sl))(y1:den (.sl y163)×(den (.sl y165)×den (.sl Ty.str)×den (.sl y175))×den (.sl l6)):List (Nat×Ob):=[(29,A 35 i64.sl y0 0),(3,bx 34 (Q0 y1))]
abbrev W50(y0:den y140):List (Nat×Ob):=[(2,bx 75 [I 0,I 0]),(1,K 140 y140 y0)]
abbrev W51(y0:den y31)(y1:List (den y105)):List (Nat×Ob):=[(1,K 31 y31 y0),(38,A 105 y105 y1 0)]
abbrev W52(y0:ByteArray)(y1:Int)(y2:Int)(y3:Int)(y4:List (den y217)):List (Nat×Ob):=[(9,bx 163 [U y0,J y1,AV.os 27 0,nil,nil,I y2,I y3]),(27,A 217 y217 y4 0),(8,bx 163 (Q62 (ByteArray.mk #[]) 0 0 0))]
abbrev G53(t:List (Nat×Sl)):List (Nat×Sl):=p 1 (R 1) :: p 3 (O 20) :: t
abbrev W54(y0:den y31)(y1:List (den y48)):List (Nat×Ob):=[(4,K 31 y31 y0),(12,A 48 y48 y1 0)]
abbrev G55(y0:List (den i64))(t:List (Nat×Sl)):List (Nat×Sl):=p 3 (R 3) :: p 4 (M i64 y0) :: p 5 (O 29) :: t
abbrev G56(t:List (Nat×Sl)):List (Nat×Sl):=p 3 (R 3) :: p 9 (O 92) :: t
abbrev G57(y0:Int)(t:List (Nat×Sl)):List (Nat×Sl):=p 2 (R 2) :: p 5 (R 5) :: p 6 (O 18) :: p 7 (O 21) :: p 25 (O 25) :: p 26 (I y0) :: t
abbrev G58(y0:den y127.pt.pt)(y1:den i64.sl.pt)(y2:Int)(t:List (Nat×Sl)):List (Nat×Sl):=p 1 (D y127.pt.pt y0) :: p 2 (D i64.sl.pt y1) :: p 6 (I y2) :: t
abbrev G59(y0:List (den i64))(y1:Int)(t:List (Nat×Sl)):List (Nat×Sl):=p 0 (L i64 y0) :: p 1 (J y1) :: t
abbrev W60(y0:List (den i64))(y1:List (den i64)):List (Nat×Ob):=[(30,A 2 i64 y0 0),(16,A 2 i64 y1 0)]
abbrev G61(y0:den y127.pt)(y1:Int)(t:List (Nat×Sl)):List (Nat×Sl):=p 0 (D y127.pt y0) :: p 1 (J y1) :: p 5 (O 16) :: t
abbrev W62(y0:List (den i64))(y1:den y31):List (Nat×Ob):=[(21,A 3 i64 y0 0),(3,K 31 y31 y1)]
abbrev W63(y0:den y143)(y1:den y163):List (Nat×Ob):=[(6,K 143 y143 y0),(1,K 163 y163 y1)]
abbrev G64(t:List (Nat×Sl)):List (Nat×Sl):=p 1 (R 1) :: p 3 (O 8) :: t
abbrev G65(y0:den y127.pt)(y1:Int)(t:List (Nat×Sl)):List (Nat×Sl):=p 0 (D y127.pt y0) :: p 3 (I y1) :: t
abbrev W66(y0:List (den y163))(y1:List (den Ty.str)):List (Nat×Ob):=[(1,bx 26 [L y163 y0]),(20,A 9 Ty.str y1 0)]
abbrev W67(y0:List (den i64))(y1:den y127.pt)(y2:List (den i64)):List (Nat×Ob):=[(5,bx 35 [AV.os 13 0]),(13,A 2 i64 y0 0),(2,bx 86 [D y127.pt y1]),(27,A 2 i64 y2 0)]
abbrev W68(y0:List (den Ty.str))(y1:List (den Ty.str))(y2:den y217):List (Nat×Ob):=[(17,A 9 Ty.str y0 1),(16,A 9 Ty.str y1 0),(5,K 217 y217 y2)]
abbrev W69(y0:List (den i64))(y1:List (den Ty.bool)):List (Nat×Ob):=[(65,A 2 i64 y0 0),(63,A 4 Ty.bool y1 0)]
abbrev G70(y0:Int)(t:List (Nat×Sl)):List (Nat×Sl):=p 3 (O 12) :: p 4 (R 4) :: p 8 (I y0) :: t
abbrev G71(t:List (Nat×Sl)):List (Nat×Sl):=p 3 (R 3) :: p 5 (O 41) :: t
abbrev G72(y0:Int)(t:List (Nat×Sl)):List (Nat×Sl):=p 1 (R 1) :: p 3 (O 27) :: p 30 (O 30) :: p 31 (I y0) :: t
abbrev W73(y0:den y48)(y1:List (List (den i64))):List (Nat×Ob):=[(9,K 48 y48 y0),(20,Ob.grd 35 2 true i64 y1 none)]
abbrev W74(y0:den y34)(y1:den l7):List (Nat×Ob):=[(9,A 2 i64 [] 0),(3,K 34 y34 y0),(500000,K 152 l7 y1)]
abbrev W75(y0:List (den i64))(y1:den y163):List (Nat×Ob):=[(94,A 2 i64 y0 0),(1,K 163 y163 y1)]
abbrev W76(y0:den l6)(y1:den y34):List (Nat×Ob):=[(5,K 110 l6 y0),(2,K 34 y34 y1)]
abbrev G77(y0:Bool)(y1:Bool)(y2:Int)(y3:Int)(t:List (Nat×Sl)):List (Nat×Sl):=p 2 (R 2) :: p 5 (B y0) :: p 6 (B y1) :: p 7 (I y2) :: p 8 (I y3) :: t
abbrev W78(y0:den y100.pt)(y1:List (den Ty.bool))(y2:den y34):List (Nat×Ob):=[(1013,bx 127 [D y100.pt y0,AV.os 13 0]),(13,A 4 Ty.bool y1 0),(3,K 34 y34 y2)]
abbrev G79(y0:List (den y175))(y1:Int)(t:List (Nat×Sl)):List (Nat×Sl):=p 3 (R 3) :: p 5 (O 21) :: p 49 (L y175 y0) :: p 50 (I y1) :: t
abbrev W80(y0:den y100.pt)(y1:List (den Ty.bool))(y2:den y34):List (Nat×Ob):=[(1011,bx 127 [D y100.pt y0,AV.os 11 0]),(11,A 4 Ty.bool y1 0),(2,K 34 y34 y2)]
abbrev G81(t:List (Nat×Sl)):List (Nat×Sl):=p 1 (R 1) :: p 2 (R 2) :: p 4 (R 4) :: t
abbrev G82(y0:Int)(y1:List (den y165))(y2:Int)(t:List (Nat×Sl)):List (Nat×Sl):=p 1 (R 1) :: p 3 (O 38) :: p 4 (I y0) :: p 5 (R 5) :: p 11 (L y165 y1) :: p 12 (I y2) :: p 13 (I y0) :: t
abbrev W83(y0:den y34):List (Nat×Ob):=[(9,A 2 i64 [] 0),(3,K 34 y34 y0)]
abbrev W84(y0:den y48)(y1:List (den i64)):List (Nat×Ob):=[(7,K 48 y48 y0),(36,A 2 i64 y1 0)]
abbrev G85(t:List (Nat×Sl)):List (Nat×Sl):=p 1 (R 1) :: p 3 (R 20) :: t
abbrev G86(y0:Bool)(y1:Int)(t:List (Nat×Sl)):List (Nat×Sl):=p 0 (R 500000) :: p 2 (C y0) :: p 6 (R 6) :: p 7 (R 7) :: p 8 (O 25) :: p 9 (O 26) :: p 10 (AV.os 27 1) :: p 11 (I y1) :: t
abbrev W87(y0:List (den y105))(y1:den y34):List (Nat×Ob):=[(18,A 105 y105 y0 0),(1,K 34 y34 y1)]
abbrev W88(y0:List (den i64))(y1:den y34):List (Nat×Ob):=[(27,A 2 i64 y0 0),(1,K 34 y34 y1)]
abbrev G89(t:List (Nat×Sl)):List (Nat×Sl):=p 5 (R 5) :: p 6 (O 16) :: p 7 (O 19) :: t
abbrev G90(y0:Int)(t:List (Nat×Sl)):List (Nat×Sl):=p 1 (J y0) :: p 5 (O 8) :: t
abbrev G91(y0:Int)(t:List (Nat×Sl)):List (Nat×Sl):=p 2 (R 2) :: p 5 (I y0) :: t
abbrev W92(y0:Int)(y1:den y140):List (Nat×Ob):=[(4,bx 75 [J y0,J y0]),(2,bx 75 [I (0:Int),I (0:Int)]),(1,K 140 y140 y1)]
abbrev G93(y0:List (den Ty.str))(y1:Int)(t:List (Nat×Sl)):List (Nat×Sl):=p 0 (L Ty.str y0) :: p 3 (I y1) :: t
abbrev G94(y0:Int)(y1:Int)(y2:List (den y143))(y3:Int)(t:List (Nat×Sl)):List (Nat×Sl):=p 2 (J y0) :: p 7 (O 53) :: p 8 (I y1) :: p 9 (R 9) :: p 19 (L y143 y2) :: p 20 (I y3) :: p 21 (I y1) :: t
abbrev W95(y0:den y31)(y1:List (den Ty.str)):List (Nat×Ob):=[(1,K 31 y31 y0),(20,A 9 Ty.str y1 0)]
abbrev W96(y0:ByteArray)(y1:List (den i64))(y2:Int)(y3:Int)(y4:List (den y217)):List (Nat×Ob):=[(8,bx 163 [U y0,I 1,AV.os 23 0,nil,L i64 y1,I y2,I y3]),(23,A 217 y217 y4 0),(6,bx 163 (Q62 (ByteArray.mk #[]) 0 0 0))]
abbrev W97(y0:List (den y163))(y1:den y31):List (Nat×Ob):=[(4,bx 26 [L y163 y0]),(3,K 31 y31 y1)]
abbrev W98(y0:den y31)(y1:List (den Ty.str))(y2:List (den Ty.str)):List (Nat×Ob):=[(1,K 31 y31 y0),(20,A 9 Ty.str y1 0),(33,A 9 Ty.str y2 0)]
def u12(a0:List Int):Option (Bool) :=
 some (decide (4096 < (a0.length:Int)))
def k12:Ct:=lct 12 [.dat (b8.sl)] (fun x=>u12 x.1) (fun r:Bool=>B r) (fun _=>())
theorem o12:Ok prog k12:=by
 refine okL [.tmp 2] func12 ntmps12 results12 ?_;intro y ⟨a0,_⟩ r H Q hn hr;have:HT _ _:=⟨@tn prog⟩;refine qA (Z [p 0 (L b8 a0)] [])<|qA (Z [p 2 (B (decide (4096 < (a0.length:Int))))] [])<|vTT<|hr H
def D0x(a0:Y48)(a1:Int):Option (Bool) :=
 some (a0.1==a1)
def K0s:Ct:=lct 136 [.agg y48,.dat (.pt i64)] (fun x=>D0x x.1 x.2.1) (fun r:Bool=>B r) (fun _=>())
theorem F0M:Ok prog K0s:=by
 refine okL [.tmp 3] func136 ntmps136 results136 ?_;intro y ⟨a0,a1,_⟩ r H Q hn hr;have:HT _ _:=⟨@tn prog⟩;refine qA (Z [p 1 (D i64.pt a1),p 2 (R 2)] [(2,K 48 y48 a0)])<|qA (Z [p 3 (B (a0.1==a1))] [(2,K 48 y48 a0)])<|vTT<|hr H
def i0D:List Int->Option (List Int)
 | v6 =>
 some v6
def f0B(v3:Int)(g1:List Int×Int->Option (List Int)):List Int->Option (List Int)
 | v5 =>
 gd (l3 (v3+1)/\True) <|
 g1 (v5,v3+1)
def i0C(a0:H2)(a1:Int)(g1:List Int×Int->Option (List Int)):List Int×Int->Option (List Int)
 | (v2,v3) =>
 if(decide (v3 < (a0.1.2.2.1.length:Int)))=true then
  gd (ix v3 a0.1.2.2.1.length/\True)<|lt (a0.1.2.2.1.getD v3.toNat (d6 y48)) fun v4 =>
  gd (ix v3 a0.2.length/\(a0.2.getD v3.toNat false=true/\True->(D0x v4 a1).isSome=true)/\True) <|
  if(a0.2.getD v3.toNat false&&vl (D0x v4 a1))=true then
   gd ((v2.length+[v3].length<=9223372036854775807/\(v2.length+[v3].length)*8<=140737488355328)/\True) <|
   f0B v3 g1 (v2++[v3])
  else
   f0B v3 g1 v2
 else
  i0D v2
def g0A(a0:H2)(a1:Int):Option (List Int) :=
 lp (i0C a0 a1) ([],0)
def v0e:Ct:=lct 116 [.dat y127.pt,.fn 136 (.pt i64)] (fun x=>g0A x.1 x.2.1) (fun r:List Int=>AV.ow 2 true i64 r) (fun _=>())
theorem j0C:Ok prog v0e:=by
 refine okL [.tmp 4] func116 ntmps116 results116 ?_;intro y ⟨a0,a1,_⟩ r H Q hn hr;have:HT _ _:=⟨tc F0M tn⟩;refine qA (Z [p 0 (D y127.pt a0),p 1 (AV.fn 136 [D i64.pt a1])] [])<|qA (Z [p 0 (D y127.pt a0),p 1 (AV.fn 136 [D i64.pt a1]),p 5 (nil)] [])<|jN r (fun(v6:List Int)=>Z [p 5 (O 36)] [(36,A 2 i64 v6 0)]) (i0D) (fun v6 H=>?_) (fun _ n0 e0 t0=>?_)
 ·refine qA (Z [p 4 (O 36)] [(36,A 2 i64 v6 0)])<|vTT<|hr H
 refine qA (Z [p 0 (D y127.pt a0),p 1 (AV.fn 136 [D i64.pt a1]),p 5 (nil),p 14 (L y48 a0.1.2.2.1),p 15 (I (a0.1.2.2.1.length:Int)),p 16 (I 0)] [])<|vB<|lX (fun((v2,v3):List Int×Int)=>Z [p 0 (D y127.pt a0),p 1 (AV.fn 136 [D i64.pt a1]),p 5 (O 36),p 14 (L y48 a0.1.2.2.1),p 15 (I (a0.1.2.2.1.length:Int)),p 16 (I v3)] [(36,A 2 i64 v2 0)]) ([],0) H fun _ g1 b1 e1 t1 ⟨v2,v3⟩ H=>qA (Z [p 0 (D y127.pt a0),p 1 (AV.fn 136 [D i64.pt a1]),p 5 (O 36),p 14 (L y48 a0.1.2.2.1),p 15 (I (a0.1.2.2.1.length:Int)),p 16 (I v3),p 17 (B (decide (v3 < (a0.1.2.2.1.length:Int))))] [(36,A 2 i64 v2 0)])<|vQ<|cD H (fun H=>?_) (fun H=>?_)
 ·refine vK<|fQ<|jN r (fun(v5:List Int)=>Z [p 0 (D y127.pt a0),p 1 (AV.fn 136 [D i64.pt a1]),p 5 (O 36),p 14 (L y48 a0.1.2.2.1),p 15 (I (a0.1.2.2.1.length:Int)),p 16 (I v3)] [(36,A 2 i64 v5 0)]) (f0B v3 g1) (fun v5 H=>?_) (fun _ n2 e2 t2=>?_)
  ·refine zB (Z [p 0 (D y127.pt a0),p 1 (AV.fn 136 [D i64.pt a1]),p 5 (O 36),p 14 (L y48 a0.1.2.2.1),p 15 (I (a0.1.2.2.1.length:Int)),p 16 (I (v3+1))] [(36,A 2 i64 v5 0)]) H fun H=>b1 H
  refine vB<|qD (fun v4=>Z [p 0 (D y127.pt a0),p 1 (AV.fn 136 [D i64.pt a1]),p 5 (O 36),p 6 (I v3),p 7 (R 7),p 14 (L y48 a0.1.2.2.1),p 15 (I (a0.1.2.2.1.length:Int)),p 16 (I v3)] (W84 v4 v2)) H fun v4 H=>qB (Z [p 0 (D y127.pt a0),p 1 (AV.fn 136 [D i64.pt a1]),p 5 (O 36),p 6 (I v3),p 14 (L y48 a0.1.2.2.1),p 15 (I (a0.1.2.2.1.length:Int)),p 16 (I v3),p 32 (B (a0.2.getD v3.toNat false&&vl (D0x v4 a1)))] (W84 v4 v2)) H fun H=>cD H (fun H=>?_) (fun H=>?_)
  ·refine zB (Z [p 0 (D y127.pt a0),p 1 (AV.fn 136 [D i64.pt a1]),p 5 (AV.os 36 1),p 14 (L y48 a0.1.2.2.1),p 15 (I (a0.1.2.2.1.length:Int)),p 16 (I v3)] [(36,A 2 i64 (v2++[v3]) 1),(35,A 2 i64 [v3] 0),(7,K 48 y48 v4)]) H fun H=>fK<|n2 H
  exact vK<|fK<|n2 H
 exact vE<|fE<|e1<|fX rfl<|n0 H
def u73(a0:H2)(a1:Int):Option (List Int) :=
 gd ((g0A a0 a1).isSome=true/\True)<|lt (vl (g0A a0 a1)) fun v0 =>
 some v0
def k73:Ct:=lct 73 [.dat y127.pt,.dat i64] (fun x=>u73 x.1 x.2.1) (fun r:List Int=>AV.ow 2 true i64 r) (fun _=>())
theorem o73:Ok prog k73:=by
 refine okL [.tmp 4] func73 ntmps73 results73 ?_;intro y ⟨a0,a1,_⟩ r H Q hn hr;have:HT _ _:=⟨tc j0C (tc F0M tn)⟩;refine qA (Z [p 0 (D y127.pt a0),p 3 (R 3)] [(3,bx 2 [J a1])])<|qD (fun v0=>Z [p 4 (O 7)] [(7,A 2 i64 v0 0),(3,bx 2 [J a1])]) H fun v0 H=>vTT<|hr H
def D0y(_a0:Y48):Option (Bool) :=
 some true
def K0K:Ct:=lct 117 [.agg y48] (fun x=>D0y x.1) (fun r:Bool=>B r) (fun _=>())
theorem I0R:Ok prog K0K:=by
 refine okL [.tmp 2] func117 ntmps117 results117 ?_;intro y ⟨a0,_⟩ r H Q hn hr;have:HT _ _:=⟨@tn prog⟩;refine qA (Z [] [(1,K 48 y48 a0)])<|qA (Z [p 2 (B true)] [(1,K 48 y48 a0)])<|vTT<|hr H
def u67(a0:List B2):Option (Int) :=
 some (a0.length:Int)
def k67:Ct:=lct 67 [.dat y105.sl] (fun x=>u67 x.1) (fun r:Int=>I r) (fun _=>())
theorem o67:Ok prog k67:=by
 refine okL [.tmp 2] func67 ntmps67 results67 ?_;intro y ⟨a0,_⟩ r H Q hn hr;have:HT _ _:=⟨@tn prog⟩;refine qA (Z [p 0 (L y105 a0)] [])<|qA (Z [p 2 (I (a0.length:Int))] [])<|vTT<|hr H
def B1(a0:y9):Option (Int) :=
 gd ((u67 a0.2.1).isSome=true/\l3 (2*vl (u67 a0.2.1))/\True)<|lt (vl (u67 a0.2.1)) fun v0 =>
 some (2*v0)
def K0L:Ct:=lct 115 [.dat y100.pt] (fun x=>B1 x.1) (fun r:Int=>I r) (fun _=>())
theorem C0l:Ok prog K0L:=by
 refine okL [.tmp 2] func115 ntmps115 results115 ?_;intro y ⟨a0,_⟩ r H Q hn hr;have:HT _ _:=⟨tc o67 tn⟩;refine qA (Z [p 0 (D y100.pt a0)] [])<|qD (fun v0=>Z [p 2 (I (2*v0))] []) H fun v0 H=>vTT<|hr H
def i0E:List Int->Option (List Int)
 | v6 =>
 some v6
def f0C(v3:Int)(g1:List Int×Int->Option (List Int)):List Int->Option (List Int)
 | v5 =>
 gd (l3 (v3+1)/\True) <|
 g1 (v5,v3+1)
def p0h(a0:H2)(g1:List Int×Int->Option (List Int)):List Int×Int->Option (List Int)
 | (v2,v3) =>
 if(decide (v3 < (a0.1.2.2.1.length:Int)))=true then
  gd (ix v3 a0.1.2.2.1.length/\True)<|lt (a0.1.2.2.1.getD v3.toNat (d6 y48)) fun v4 =>
  gd (ix v3 a0.2.length/\(a0.2.getD v3.toNat false=true/\True->(D0y v4).isSome=true)/\True) <|
  if(a0.2.getD v3.toNat false&&vl (D0y v4))=true then
   gd ((v2.length+[v3].length<=9223372036854775807/\(v2.length+[v3].length)*8<=140737488355328)/\True) <|
   f0C v3 g1 (v2++[v3])
  else
   f0C v3 g1 v2
 else
  i0E v2
def t0N(a0:H2):Option (List Int) :=
 lp (p0h a0) ([],0)
def v0f:Ct:=lct 116 [.dat y127.pt,.nof 117] (fun x=>t0N x.1) (fun r:List Int=>AV.ow 2 true i64 r) (fun _=>())
theorem o0a:Ok prog v0f:=by
 refine okL [.tmp 4] func116 ntmps116 results116 ?_;intro y ⟨a0,_,_⟩ r H Q hn hr;have:HT _ _:=⟨tc I0R tn⟩;refine qA (Z [p 0 (D y127.pt a0),p 1 (AV.fn 117 [])] [])<|qA (Z [p 0 (D y127.pt a0),p 1 (AV.fn 117 []),p 5 (nil)] [])<|jN r (fun(v6:List Int)=>Z [p 5 (O 36)] [(36,A 2 i64 v6 0)]) (i0E) (fun v6 H=>?_) (fun _ n0 e0 t0=>?_)
 ·refine qA (Z [p 4 (O 36)] [(36,A 2 i64 v6 0)])<|vTT<|hr H
 refine qA (Z [p 0 (D y127.pt a0),p 1 (AV.fn 117 []),p 5 (nil),p 14 (L y48 a0.1.2.2.1),p 15 (I (a0.1.2.2.1.length:Int)),p 16 (I 0)] [])<|vB<|lX (fun((v2,v3):List Int×Int)=>Z [p 0 (D y127.pt a0),p 1 (AV.fn 117 []),p 5 (O 36),p 14 (L y48 a0.1.2.2.1),p 15 (I (a0.1.2.2.1.length:Int)),p 16 (I v3)] [(36,A 2 i64 v2 0)]) ([],0) H fun _ g1 b1 e1 t1 ⟨v2,v3⟩ H=>qA (Z [p 0 (D y127.pt a0),p 1 (AV.fn 117 []),p 5 (O 36),p 14 (L y48 a0.1.2.2.1),p 15 (I (a0.1.2.2.1.length:Int)),p 16 (I v3),p 17 (B (decide (v3 < (a0.1.2.2.1.length:Int))))] [(36,A 2 i64 v2 0)])<|vQ<|cD H (fun H=>?_) (fun H=>?_)
 ·refine vK<|fQ<|jN r (fun(v5:List Int)=>Z [p 0 (D y127.pt a0),p 1 (AV.fn 117 []),p 5 (O 36),p 14 (L y48 a0.1.2.2.1),p 15 (I (a0.1.2.2.1.length:Int)),p 16 (I v3)] [(36,A 2 i64 v5 0)]) (f0C v3 g1) (fun v5 H=>?_) (fun _ n2 e2 t2=>?_)
  ·refine zB (Z [p 0 (D y127.pt a0),p 1 (AV.fn 117 []),p 5 (O 36),p 14 (L y48 a0.1.2.2.1),p 15 (I (a0.1.2.2.1.length:Int)),p 16 (I (v3+1))] [(36,A 2 i64 v5 0)]) H fun H=>b1 H
  refine vB<|qD (fun v4=>Z [p 0 (D y127.pt a0),p 1 (AV.fn 117 []),p 5 (O 36),p 6 (I v3),p 7 (R 7),p 14 (L y48 a0.1.2.2.1),p 15 (I (a0.1.2.2.1.length:Int)),p 16 (I v3)] (W84 v4 v2)) H fun v4 H=>qB (Z [p 0 (D y127.pt a0),p 1 (AV.fn 117 []),p 5 (O 36),p 6 (I v3),p 14 (L y48 a0.1.2.2.1),p 15 (I (a0.1.2.2.1.length:Int)),p 16 (I v3),p 32 (B (a0.2.getD v3.toNat false&&vl (D0y v4)))] (W84 v4 v2)) H fun H=>cD H (fun H=>?_) (fun H=>?_)
  ·refine zB (Z [p 0 (D y127.pt a0),p 1 (AV.fn 117 []),p 5 (AV.os 36 1),p 14 (L y48 a0.1.2.2.1),p 15 (I (a0.1.2.2.1.length:Int)),p 16 (I v3)] [(36,A 2 i64 (v2++[v3]) 1),(35,A 2 i64 [v3] 0),(7,K 48 y48 v4)]) H fun H=>fK<|n2 H
  exact vK<|fK<|n2 H
 exact vE<|fE<|e1<|fX rfl<|n0 H
def x0B(a0:y9):List Bool->Option (y9×List Bool)
 | v8 =>
 some (a0,v8)
def x0z(a1:List Int)(a0:y9)(g3:Int×List Bool->Option (y9×List Bool)):Int×List Bool->Option (y9×List Bool)
 | (v6,v7) =>
 if(decide (v6 < (a1.length:Int)))=true then
  gd (ix v6 a1.length/\True) <|
  gd (ix (a1.getD v6.toNat 0) v7.length/\Int.toNat (a1.getD v6.toNat 0)<v7.length/\True) <|
  gd (l3 (v6+1)/\True) <|
  g3 ((v6+1,v7.set (Int.toNat (a1.getD v6.toNat 0)) false))
 else
  x0B a0 v7
def k0v(a1:List Int)(a0:y9):List Bool->Option (y9×List Bool)
 | v4 =>
 lp (x0z a1 a0) (0,v4)
def x0A(a1:List Int)(a0:y9)(v0:Int)(g1:Int×List Bool->Option (y9×List Bool)):Int×List Bool->Option (y9×List Bool)
 | (v2,v3) =>
 if(decide (v2<v0))=true then
  gd (ix v2 v3.length/\v2.toNat<v3.length/\True) <|
  gd (l3 (v2+1)/\True) <|
  g1 (v2+1,v3.set v2.toNat true)
 else
  k0v a1 a0 v3
def B0R(a0:y9)(a1:List Int):Option (y9×List Bool) :=
 gd ((0<=(a0.2.2.1.length:Int)/\(a0.2.2.1.length:Int)=(a0.2.2.1.length:Int)/\(a0.2.2.1.length:Int).toNat*1<=281474976710656/\(a0.2.2.1.length:Int)<=9223372036854775807)/\True) <|
 lt ((↑(List.replicate (a0.2.2.1.length:Int).toNat false).length:Int)) fun v0 =>
 lp (x0A a1 a0 v0) ((0,List.replicate (a0.2.2.1.length:Int).toNat false))
def K0M:Ct:=lct 114 [.dat y100.pt,.dat i64.sl] (fun x=>B0R x.1 x.2.1) (fun r:y9×List Bool=>AV.ob 127 [D y100.pt r.1,AV.ow 4 true Ty.bool r.2]) (fun _=>())
theorem I0S:Ok prog K0M:=by
 refine okL [.tmp 4] func114 ntmps114 results114 ?_;intro y ⟨a0,a1,_⟩ r H Q hn hr;have:HT _ _:=⟨@tn prog⟩;refine qA (Z [p 0 (D y100.pt a0),p 1 (L i64 a1)] [])<|qB (Z [p 1 (L i64 a1),p 5 (R 17)] (W31 a0 (List.replicate (a0.2.2.1.length:Int).toNat false))) H fun H=>jN r (fun(v4:List Bool)=>Z [p 1 (L i64 a1),p 5 (R 17)] (W31 a0 v4)) (k0v a1 a0) (fun v4 H=>?_) (fun _ n0 e0 t0=>?_)
 ·refine jN r (fun(v8:List Bool)=>Z [p 5 (R 17)] (W31 a0 v8)) (x0B a0) (fun v8 H=>?_) (fun _ n2 e2 t2=>?_)
  ·refine qA (Z [p 4 (R 17)] (W31 a0 v8))<|vTT<|hr H
  refine qA (Z [p 5 (R 17),p 33 (L i64 a1),p 34 (I (a1.length:Int)),p 35 (I 0)] (W31 a0 v4))<|vB<|lX (fun((v6,v7):Int×List Bool)=>Z [p 5 (R 17),p 33 (L i64 a1),p 34 (I (a1.length:Int)),p 35 (I v6)] (W31 a0 v7)) (0,v4) H fun _ g3 b3 e3 t3 ⟨v6,v7⟩ H=>qA (Z [p 5 (R 17),p 33 (L i64 a1),p 34 (I (a1.length:Int)),p 35 (I v6),p 36 (B (decide (v6 < (a1.length:Int))))] (W31 a0 v7))<|vQ<|cD H (fun H=>?_) (fun H=>?_)
  ·refine vK<|fQ<|vQ<|vB<|qB (Z [p 5 (R 17),p 8 (J (a1.getD v6.toNat 0)),p 33 (L i64 a1),p 34 (I (a1.length:Int)),p 35 (I v6)] (W31 a0 v7)) H fun H=>zB (Z [p 5 (R 17),p 33 (L i64 a1),p 34 (I (a1.length:Int)),p 35 (I v6)] [(15,A 4 Ty.bool (v7.set (Int.toNat (a1.getD v6.toNat 0)) false) 0),(17,bx 127 (Q65 a0))]) H fun H=>fK<|fQ<|zB (Z [p 5 (R 17),p 33 (L i64 a1),p 34 (I (a1.length:Int)),p 35 (I (v6+1))] [(15,A 4 Ty.bool (v7.set (Int.toNat (a1.getD v6.toNat 0)) false) 0),(17,bx 127 (Q65 a0))]) H fun H=>b3 H
  exact vE<|fE<|e3<|fX rfl<|n2 H
 refine qC (fun v0=>Z [p 1 (L i64 a1),p 5 (R 17),p 22 (I v0),p 23 (I 0)] (W31 a0 (List.replicate (a0.2.2.1.length:Int).toNat false))) H fun v0 H=>vB<|lX (fun((v2,v3):Int×List Bool)=>Z [p 1 (L i64 a1),p 5 (R 17),p 22 (I v0),p 23 (I v2)] (W31 a0 v3)) ((0,List.replicate (a0.2.2.1.length:Int).toNat false)) H fun _ g1 b1 e1 t1 ⟨v2,v3⟩ H=>qA (Z [p 1 (L i64 a1),p 5 (R 17),p 22 (I v0),p 23 (I v2),p 24 (B (decide (v2<v0)))] (W31 a0 v3))<|vQ<|cD H (fun H=>?_) (fun H=>?_)
 ·refine vK<|fQ<|vQ<|vB<|qA (Z [p 1 (L i64 a1),p 5 (R 17),p 6 (I v2),p 22 (I v0),p 23 (I v2)] (W31 a0 v3))<|zB (Z [p 1 (L i64 a1),p 5 (R 17),p 22 (I v0),p 23 (I v2)] [(15,A 4 Ty.bool (v3.set v2.toNat true) 0),(17,bx 127 (Q65 a0))]) H fun H=>fK<|fQ<|zB (Z [p 1 (L i64 a1),p 5 (R 17),p 22 (I v0),p 23 (I (v2+1))] [(15,A 4 Ty.bool (v3.set v2.toNat true) 0),(17,bx 127 (Q65 a0))]) H fun H=>b1 H
 exact vE<|fE<|e1<|fX rfl<|n0 H
def w0C:Unit->Option (Bool)
 | _ =>
 some true
def w0B(a0:List Int)(g1:Int->Option (Bool)):Int->Option (Bool)
 | v0 =>
 if(decide (v0 < (a0.length:Int)))=true then
  gd (l3 (v0-1)/\ix (v0-1) a0.length/\ix v0 a0.length/\True) <|
  if(decide (a0.getD v0.toNat 0<=a0.getD (v0-1).toNat 0))=true then
   some false
  else
   gd (l3 (v0+1)/\True) <|
   g1 (v0+1)
 else
  w0C ()
def p0W(a0:List Int):Option (Bool) :=
 lp (w0B a0) 1
def K0c:Ct:=lct 174 [.dat i64.sl] (fun x=>p0W x.1) (fun r:Bool=>B r) (fun _=>())
theorem F0J:Ok prog K0c:=by
 refine okL [.tmp 2] func174 ntmps174 results174 ?_;intro y ⟨a0,_⟩ r H Q hn hr;have:HT _ _:=⟨@tn prog⟩;refine qA (Z [p 0 (L i64 a0)] [])<|jN r (fun(_:Unit)=>Z [] []) (w0C) (fun _ H=>?_) (fun _ n0 e0 t0=>?_)
 ·refine qA (Z [p 2 (B true)] [])<|vTT<|hr H
 refine qA (Z [p 0 (L i64 a0),p 3 (I 1)] [])<|vB<|lX (fun(v0:Int)=>Z [p 0 (L i64 a0),p 3 (I v0)] []) 1 H fun _ g1 b1 e1 t1 v0 H=>vQ<|qA (Z [p 0 (L i64 a0),p 3 (I v0),p 7 (B (decide (v0 < (a0.length:Int))))] [])<|cD H (fun H=>?_) (fun H=>?_)
 ·refine vK<|fQ<|vQ<|vB<|qB (Z [p 0 (L i64 a0),p 3 (I v0),p 19 (B (decide (a0.getD v0.toNat 0<=a0.getD (v0-1).toNat 0)))] []) H fun H=>cD H (fun H=>?_) (fun H=>?_)
  ·refine qA (Z [p 2 (B false)] [])<|vTT<|fDD<|fR<|t1<|fDD<|t0<|hr H
  refine vK<|fK<|fQ<|zB (Z [p 0 (L i64 a0),p 3 (I (v0+1))] []) H fun H=>b1 H
 exact vE<|fE<|e1<|fX rfl<|n0 H
def w8(a0:Int)(a1:Int)(a2:Int):Option (Bool) :=
 some (decide (a1<=a0)&&decide (a0<=a2))
def K0k:Ct:=lct 150 [.dat i64,.dat i64,.dat i64] (fun x=>w8 x.1 x.2.1 x.2.2.1) (fun r:Bool=>B r) (fun _=>())
theorem p0Y:Ok prog K0k:=by
 refine okL [.tmp 6] func150 ntmps150 results150 ?_;intro y ⟨a0,a1,a2,_⟩ r H Q hn hr;have:HT _ _:=⟨@tn prog⟩;refine qA (Z [p 0 (J a0),p 1 (J a1),p 2 (J a2)] [])<|qA (Z [p 6 (B (decide (a1<=a0)&&decide (a0<=a2)))] [])<|vTT<|hr H
def A0i(a0:Int)(a1:Int)(a2:Int):Option (Bool) :=
 gd ((w8 a0 a1 a2).isSome=true/\True) <|
 some (!vl (w8 a0 a1 a2))
def J0L:Ct:=lct 211 [.dat i64,.dat (.pt i64),.dat (.pt i64)] (fun x=>A0i x.1 x.2.1 x.2.2.1) (fun r:Bool=>B r) (fun _=>())
theorem E0D:Ok prog J0L:=by
 refine okL [.tmp 4] func211 ntmps211 results211 ?_;intro y ⟨a0,a1,a2,_⟩ r H Q hn hr;have:HT _ _:=⟨tc p0Y tn⟩;refine qA (Z [p 0 (J a0),p 1 (D i64.pt a1),p 2 (D i64.pt a2)] [])<|qB (Z [p 4 (B !vl (w8 a0 a1 a2))] []) H fun H=>vTT<|hr H
def i0t:Unit->Option (Int)
 | _ =>
 some (-1)
def p0e(a0:List Int)(a1:Int×Int)(g1:Int->Option (Int)):Int->Option (Int)
 | v0 =>
 if(decide (v0 < (a0.length:Int)))=true then
  gd (ix v0 a0.length/\(A0i (a0.getD v0.toNat 0) a1.1 a1.2).isSome=true/\True) <|
  if(vl (A0i (a0.getD v0.toNat 0) a1.1 a1.2))=true then
   some v0
  else
   gd (l3 (v0+1)/\True) <|
   g1 (v0+1)
 else
  i0t ()
def g0v(a0:List Int)(a1:Int×Int):Option (Int) :=
 lp (p0e a0 a1) 0
def u0X:Ct:=lct 241 [.dat i64.sl,.fn 211 (.pr i64.pt i64.pt)] (fun x=>g0v x.1 x.2.1) (fun r:Int=>I r) (fun _=>())
theorem n0X:Ok prog u0X:=by
 refine okL [.tmp 4] func241 ntmps241 results241 ?_;intro y ⟨a0,a1,_⟩ r H Q hn hr;have:HT _ _:=⟨tc E0D tn⟩;refine qA (Z [p 0 (L i64 a0),p 1 (AV.fn 211 (Q14 a1))] [])<|jN r (fun(_:Unit)=>Z [] []) (i0t) (fun _ H=>?_) (fun _ n0 e0 t0=>?_)
 ·refine qA (Z [p 4 (I (-1))] [])<|vTT<|hr H
 refine qA (Z [p 0 (L i64 a0),p 1 (AV.fn 211 (Q14 a1)),p 7 (I (a0.length:Int)),p 8 (I 0)] [])<|vB<|lX (fun(v0:Int)=>Z [p 0 (L i64 a0),p 1 (AV.fn 211 (Q14 a1)),p 7 (I (a0.length:Int)),p 8 (I v0)] []) 0 H fun _ g1 b1 e1 t1 v0 H=>qA (Z [p 0 (L i64 a0),p 1 (AV.fn 211 (Q14 a1)),p 7 (I (a0.length:Int)),p 8 (I v0),p 9 (B (decide (v0 < (a0.length:Int))))] [])<|vQ<|cD H (fun H=>?_) (fun H=>?_)
 ·refine vK<|fQ<|vQ<|vB<|qA (Z [p 0 (L i64 a0),p 1 (AV.fn 211 (Q14 a1)),p 5 (I v0),p 7 (I (a0.length:Int)),p 8 (I v0)] [])<|qB (Z [p 0 (L i64 a0),p 1 (AV.fn 211 (Q14 a1)),p 5 (I v0),p 7 (I (a0.length:Int)),p 8 (I v0),p 16 (B (vl (A0i (a0.getD v0.toNat 0) a1.1 a1.2)))] []) H fun H=>cD H (fun H=>?_) (fun H=>?_)
  ·refine qA (Z [p 4 (I v0)] [])<|vTT<|fDD<|fR<|t1<|fDD<|t0<|hr H
  refine vK<|fK<|fQ<|zB (Z [p 0 (L i64 a0),p 1 (AV.fn 211 (Q14 a1)),p 7 (I (a0.length:Int)),p 8 (I (v0+1))] []) H fun H=>b1 H
 exact vE<|fE<|e1<|fX rfl<|n0 H
def e0Y(a0:List Int)(a1:Int×Int):Option (Bool) :=
 gd ((g0v a0 a1).isSome=true/\True)<|lt (vl (g0v a0 a1)) fun v0 =>
 some (decide (0<=v0))
def v0a:Ct:=lct 210 [.dat i64.sl,.fn 211 (.pr (.pt i64) (.pt i64))] (fun x=>e0Y x.1 x.2.1) (fun r:Bool=>B r) (fun _=>())
theorem n0Y:Ok prog v0a:=by
 refine okL [.tmp 4] func210 ntmps210 results210 ?_;intro y ⟨a0,a1,_⟩ r H Q hn hr;have:HT _ _:=⟨tc n0X (tc E0D tn)⟩;refine qA (Z [p 0 (L i64 a0),p 1 (AV.fn 211 (Q14 a1))] [])<|qD (fun v0=>Z [p 4 (B (decide (0<=v0)))] []) H fun v0 H=>vTT<|hr H
def D6(a0:List Int)(a1:Int)(a2:Int):Option (Bool) :=
 gd ((e0Y a0 (a1,a2)).isSome=true/\True) <|
 some (!vl (e0Y a0 (a1,a2)))
def K0d:Ct:=lct 173 [.dat i64.sl,.dat i64,.dat i64] (fun x=>D6 x.1 x.2.1 x.2.2.1) (fun r:Bool=>B r) (fun _=>())
theorem C0k:Ok prog K0d:=by
 refine okL [.tmp 6] func173 ntmps173 results173 ?_;intro y ⟨a0,a1,a2,_⟩ r H Q hn hr;have:HT _ _:=⟨tc n0Y (tc E0D tn)⟩;refine qA (Z [p 0 (L i64 a0),p 4 (R 4),p 5 (R 5)] [(5,bx 2 [J a2]),(4,bx 2 [J a1])])<|qB (Z [p 6 (B !vl (e0Y a0 (a1,a2)))] [(5,bx 2 [J a2]),(4,bx 2 [J a1])]) H fun H=>vTT<|hr H
def w0J(a0:List Y48):Option (Int) :=
 some (a0.length:Int)
def K0i:Ct:=lct 159 [.dat y48.sl] (fun x=>w0J x.1) (fun r:Int=>I r) (fun _=>())
theorem I0y:Ok prog K0i:=by
 refine okL [.tmp 2] func159 ntmps159 results159 ?_;intro y ⟨a0,_⟩ r H Q hn hr;have:HT _ _:=⟨@tn prog⟩;refine qA (Z [p 0 (L y48 a0)] [])<|qA (Z [p 2 (I (a0.length:Int))] [])<|vTT<|hr H
def A0r(a0:y9)(a1:List Int):Option (Bool) :=
 gd ((w0J a0.2.2.1).isSome=true/\l3 (vl (w0J a0.2.2.1)-1)/\(D6 a1 0 (vl (w0J a0.2.2.1)-1)).isSome=true/\(vl (D6 a1 0 (vl (w0J a0.2.2.1)-1))=true/\True->(p0W a1).isSome=true)/\True) <|
 some (vl (D6 a1 0 (vl (w0J a0.2.2.1)-1))&&vl (p0W a1))
def K0N:Ct:=lct 113 [.dat y100.pt,.dat i64.sl] (fun x=>A0r x.1 x.2.1) (fun r:Bool=>B r) (fun _=>())
theorem I0T:Ok prog K0N:=by
 refine okL [.tmp 4] func113 ntmps113 results113 ?_;intro y ⟨a0,a1,_⟩ r H Q hn hr;have:HT _ _:=⟨tc F0J (tc C0k (tc I0y tn))⟩;refine qA (Z [p 0 (D y100.pt a0),p 1 (L i64 a1)] [])<|qB (Z [p 4 (B (vl (D6 a1 0 (vl (w0J a0.2.2.1)-1))&&vl (p0W a1)))] []) H fun H=>vTT<|hr H
def y0E(a0:Y31)(a1:List m4)(a2:B2):Option (Int) :=
 if(decide (a2.1<0))=true then
  some 0
 else
  gd (ix a2.1 a0.1.length/\ix (a0.1.getD a2.1.toNat (d6 y165)).2.1 a1.length/\ix a2.2.1 (a1.getD (a0.1.getD a2.1.toNat (d6 y165)).2.1.toNat (d6 y163)).2.2.1.length/\True)<|lt ((a1.getD (a0.1.getD a2.1.toNat (d6 y165)).2.1.toNat (d6 y163)).2.2.1.getD a2.2.1.toNat (d6 y217)) fun v0 =>
  some v0.2.2.1
def J0T:Ct:=lct 184 [.agg y31,.agg y163.sl,.agg y105] (fun x=>y0E x.1 x.2.1 x.2.2.1) (fun r:Int=>I r) (fun _=>())
theorem I0o:Ok prog J0T:=by
 refine okL [.tmp 6] func184 ntmps184 results184 ?_;intro y ⟨a0,a1,a2,_⟩ r H Q hn hr;have:HT _ _:=⟨@tn prog⟩;refine qA (Z [p 3 (R 3),p 4 (R 4),p 5 (R 5)] ((5,K 105 y105 a2)::W97 a1 a0))<|vQ<|qA (Z [p 3 (R 3),p 4 (R 4),p 5 (R 5),p 9 (B (decide (a2.1<0)))] ((5,K 105 y105 a2)::W97 a1 a0))<|cD H (fun H=>?_) (fun H=>?_)
 ·refine qA (Z [p 6 (I 0)] ((5,K 105 y105 a2)::W97 a1 a0))<|vTT<|fR<|hr H
 refine vK<|fQ<|qD (fun v0=>Z [p 6 (J v0.2.2.1)] ((5,K 105 y105 a2)::W97 a1 a0)) H fun v0 H=>vTT<|hr H
def B0e:List B2->Option (List B2)
 | v24 =>
 some v24
def B0b(a0:Y31)(g5:Int×List B2->Option (List B2)):Int×List B2->Option (List B2)
 | (v21,v22) =>
 if(decide (v21 < (a0.2.2.length:Int)))=true then
  gd (ix v21 a0.2.2.length/\True)<|lt (a0.2.2.getD v21.toNat (d6 y175)) fun v23 =>
  gd ((v22.length+[(-1,v21,v23.2.2,v23.2.1==1)].length<=9223372036854775807/\(v22.length+[(-1,v21,v23.2.2,v23.2.1==1)].length)*32<=140737488355328)/\True) <|
  gd (l3 (v21+1)/\True) <|
  g5 ((v21+1,v22++[(-1,v21,v23.2.2,v23.2.1==1)]))
 else
  B0e v22
def q0s(a0:Y31):List B2->Option (List B2)
 | v17 =>
 lp (B0b a0) (0,v17)
def y0r(v8:Int)(g1:List B2×Int->Option (List B2)):List B2->Option (List B2)
 | v16 =>
 gd (l3 (v8+1)/\True) <|
 g1 (v16,v8+1)
def B0c(v8:Int)(v9:m7)(g1:List B2×Int->Option (List B2))(g3:Int×List B2->Option (List B2)):Int×List B2->Option (List B2)
 | (v12,v13) =>
 if(decide (v12 < (v9.2.2.length:Int)))=true then
  gd (ix v12 v9.2.2.length/\True) <|
  gd (l3 ((v9.2.2.length:Int)-1)/\(v13.length+[(v8,v12,v9.2.2.getD v12.toNat 0,v12==(v9.2.2.length:Int)-1)].length<=9223372036854775807/\(v13.length+[(v8,v12,v9.2.2.getD v12.toNat 0,v12==(v9.2.2.length:Int)-1)].length)*32<=140737488355328)/\True)<|lt ((v13++[(v8,v12,v9.2.2.getD v12.toNat 0,v12==(v9.2.2.length:Int)-1)],[(v8,v12,v9.2.2.getD v12.toNat 0,v12==(v9.2.2.length:Int)-1)])) fun(v14,_v15) =>
  gd (l3 (v12+1)/\True) <|
  g3 (v12+1,v14)
 else
  y0r v8 g1 v13
def B0d(a0:Y31)(g1:List B2×Int->Option (List B2)):List B2×Int->Option (List B2)
 | (v7,v8) =>
 if(decide (v8 < (a0.1.length:Int)))=true then
  gd (ix v8 a0.1.length/\True)<|lt (a0.1.getD v8.toNat (d6 y165)) fun v9 =>
  lp (B0c v8 v9 g1) (0,v7)
 else
  q0s a0 v7
def u68(a0:Y31):Option (List B2) :=
 lp (B0d a0) ([],0)
def k68:Ct:=lct 68 [.agg y31] (fun x=>u68 x.1) (fun r:List B2=>AV.ow 105 true y105 r) (fun _=>())
theorem o68:Ok prog k68:=by
 refine okL [.tmp 2] func68 ntmps68 results68 ?_;intro y ⟨a0,_⟩ r H Q hn hr;have:HT _ _:=⟨@tn prog⟩;refine qA (Z [p 1 (R 1)] [(1,K 31 y31 a0)])<|qA (Z [p 1 (R 1),p 3 (nil)] [(1,K 31 y31 a0)])<|jN r (fun(v17:List B2)=>Z [p 1 (R 1),p 3 (O 38)] (W51 a0 v17)) (q0s a0) (fun v17 H=>?_) (fun _ n0 e0 t0=>?_)
 ·refine jN r (fun(v24:List B2)=>Z [p 3 (O 38)] [(38,A 105 y105 v24 0)]) (B0e) (fun v24 H=>?_) (fun _ n4 e4 t4=>?_)
  ·refine qA (Z [p 2 (O 38)] [(38,A 105 y105 v24 0)])<|vTT<|hr H
  refine qA (Z [p 3 (O 38),p 42 (L y175 a0.2.2),p 43 (I (a0.2.2.length:Int)),p 44 (I 0)] (W51 a0 v17))<|vB<|lX (fun((v21,v22):Int×List B2)=>Z [p 3 (O 38),p 42 (L y175 a0.2.2),p 43 (I (a0.2.2.length:Int)),p 44 (I v21)] [(38,A 105 y105 v22 0)]) (0,v17) H fun _ g5 b5 e5 t5 ⟨v21,v22⟩ H=>qA (Z [p 3 (O 38),p 42 (L y175 a0.2.2),p 43 (I (a0.2.2.length:Int)),p 44 (I v21),p 45 (B (decide (v21 < (a0.2.2.length:Int))))] [(38,A 105 y105 v22 0)])<|vQ<|cD H (fun H=>?_) (fun H=>?_)
  ·refine vK<|fQ<|vQ<|vB<|qD (fun v23=>Z [p 3 (O 38),p 8 (I v21),p 9 (R 9),p 42 (L y175 a0.2.2),p 43 (I (a0.2.2.length:Int)),p 44 (I v21)] [(9,K 175 y175 v23),(38,A 105 y105 v22 0)]) H fun v23 H=>zB (Z [p 3 (AV.os 38 1),p 42 (L y175 a0.2.2),p 43 (I (a0.2.2.length:Int)),p 44 (I v21)] [(38,A 105 y105 (v22++[(-1,v21,v23.2.2,v23.2.1==1)]) 1),(57,A 105 y105 [(-1,v21,v23.2.2,v23.2.1==1)] 0),(9,K 175 y175 v23)]) H fun H=>fK<|fQ<|zB (Z [p 3 (AV.os 38 1),p 42 (L y175 a0.2.2),p 43 (I (a0.2.2.length:Int)),p 44 (I (v21+1))] [(38,A 105 y105 (v22++[(-1,v21,v23.2.2,v23.2.1==1)]) 1),(57,A 105 y105 [(-1,v21,v23.2.2,v23.2.1==1)] 0),(9,K 175 y175 v23)]) H fun H=>b5 H
  exact vE<|fE<|e5<|fX rfl<|n4 H
 refine qA (Z [p 1 (R 1),p 3 (nil),p 11 (L y165 a0.1),p 12 (I (a0.1.length:Int)),p 13 (I 0)] [(1,K 31 y31 a0)])<|vB<|lX (fun((v7,v8):List B2×Int)=>Z [p 1 (R 1),p 3 (O 38),p 11 (L y165 a0.1),p 12 (I (a0.1.length:Int)),p 13 (I v8)] (W51 a0 v7)) ([],0) H fun _ g1 b1 e1 t1 ⟨v7,v8⟩ H=>qA (Z [p 1 (R 1),p 3 (O 38),p 11 (L y165 a0.1),p 12 (I (a0.1.length:Int)),p 13 (I v8),p 14 (B (decide (v8 < (a0.1.length:Int))))] (W51 a0 v7))<|vQ<|cD H (fun H=>?_) (fun H=>?_)
 ·refine vK<|fQ<|jN r (fun(v16:List B2)=>Z [p 1 (R 1),p 3 (O 38),p 11 (L y165 a0.1),p 12 (I (a0.1.length:Int)),p 13 (I v8)] (W51 a0 v16)) (y0r v8 g1) (fun v16 H=>?_) (fun _ n2 e2 t2=>?_)
  ·refine zB (Z [p 1 (R 1),p 3 (O 38),p 11 (L y165 a0.1),p 12 (I (a0.1.length:Int)),p 13 (I (v8+1))] (W51 a0 v16)) H fun H=>b1 H
  refine vB<|qD (fun v9=>Z (G82 v8 a0.1 (a0.1.length:Int) []) ((5,K 165 y165 v9)::W51 a0 v7)) H fun v9 H=>qA (Z (G82 v8 a0.1 (a0.1.length:Int) [p 19 (L i64 v9.2.2),p 20 (I (v9.2.2.length:Int)),p 21 (I 0)]) ((5,K 165 y165 v9)::W51 a0 v7))<|vB<|lX (fun((v12,v13):Int×List B2)=>Z (G82 v8 a0.1 (a0.1.length:Int) [p 19 (L i64 v9.2.2),p 20 (I (v9.2.2.length:Int)),p 21 (I v12)]) ((5,K 165 y165 v9)::W51 a0 v13)) (0,v7) H fun _ g3 b3 e3 t3 ⟨v12,v13⟩ H=>qA (Z (G82 v8 a0.1 (a0.1.length:Int) [p 19 (L i64 v9.2.2),p 20 (I (v9.2.2.length:Int)),p 21 (I v12),p 22 (B (decide (v12 < (v9.2.2.length:Int))))]) ((5,K 165 y165 v9)::W51 a0 v13))<|vQ<|cD H (fun H=>?_) (fun H=>?_)
  ·refine vK<|fQ<|vQ<|vB<|qB (Z [p 1 (R 1),p 3 (O 38),p 4 (I v8),p 5 (R 5),p 6 (I v12),p 7 (J (v9.2.2.getD v12.toNat 0)),p 11 (L y165 a0.1),p 12 (I (a0.1.length:Int)),p 13 (I v8),p 19 (L i64 v9.2.2),p 20 (I (v9.2.2.length:Int)),p 21 (I v12)] ((5,K 165 y165 v9)::W51 a0 v13)) H fun H=>zD (fun(v14,v15)=>Z [p 1 (R 1),p 3 (AV.os 38 1),p 4 (I v8),p 5 (R 5),p 11 (L y165 a0.1),p 12 (I (a0.1.length:Int)),p 13 (I v8),p 19 (L i64 v9.2.2),p 20 (I (v9.2.2.length:Int)),p 21 (I v12)] [(38,A 105 y105 v14 1),(37,A 105 y105 v15 0),(5,K 165 y165 v9),(1,K 31 y31 a0)]) H fun⟨v14,v15⟩ H =>
    fK<|fQ <|
    zB (Z [p 1 (R 1),p 3 (AV.os 38 1),p 4 (I v8),p 5 (R 5),p 11 (L y165 a0.1),p 12 (I (a0.1.length:Int)),p 13 (I v8),p 19 (L i64 v9.2.2),p 20 (I (v9.2.2.length:Int)),p 21 (I (v12+1))] [(38,A 105 y105 v14 1),(37,A 105 y105 v15 0),(5,K 165 y165 v9),(1,K 31 y31 a0)]) H fun H =>
    b3 H
  exact vE<|fE<|e3<|fX rfl<|fK<|n2 H
 exact vE<|fE<|e1<|fX rfl<|n0 H
def w0v:List Int->Option (List Int)
 | v7 =>
 some v7
def n0l(v4:Int)(g1:List Int×Int->Option (List Int)):List Int->Option (List Int)
 | v6 =>
 gd (l3 (v4+1)/\True) <|
 g1 (v6,v4+1)
def w0u(a1:Int)(v0:List B2)(g1:List Int×Int->Option (List Int)):List Int×Int->Option (List Int)
 | (v3,v4) =>
 if(decide (v4 < (v0.length:Int)))=true then
  gd (ix v4 v0.length/\v4.toNat<v0.length/\True)<|lt (v0.getD v4.toNat (d6 y105)) fun v5 =>
  if(v5.2.2.1==a1&&!v5.2.2.2)=true then
   gd ((v3.length+[v4].length<=9223372036854775807/\(v3.length+[v4].length)*8<=140737488355328)/\True) <|
   n0l v4 g1 (v3++[v4])
  else
   n0l v4 g1 v3
 else
  w0v v3
def B0I(a0:Y31)(a1:Int):Option (List Int) :=
 gd ((u68 a0).isSome=true/\True)<|lt (vl (u68 a0)) fun v0 =>
 lp (w0u a1 v0) ([],0)
def J0U:Ct:=lct 183 [.agg y31,.dat i64] (fun x=>B0I x.1 x.2.1) (fun r:List Int=>AV.ow 2 true i64 r) (fun _=>())
theorem I0p:Ok prog J0U:=by
 refine okL [.tmp 4] func183 ntmps183 results183 ?_;intro y ⟨a0,a1,_⟩ r H Q hn hr;have:HT _ _:=⟨tc o68 tn⟩;refine qA (Z (G33 a1 []) [(2,K 31 y31 a0)])<|qA (Z (G33 a1 [p 5 (nil)]) [(2,K 31 y31 a0)])<|jN r (fun(v7:List Int)=>Z [p 5 (O 28)] [(28,A 2 i64 v7 0)]) (w0v) (fun v7 H=>?_) (fun _ n0 e0 t0=>?_)
 ·refine qA (Z [p 4 (O 28)] [(28,A 2 i64 v7 0)])<|vTT<|hr H
 refine qD (fun v0=>Z [p 1 (J a1),p 5 (nil),p 9 (O 9),p 10 (I (v0.length:Int)),p 11 (I 0)] [(9,A 105 y105 v0 0),(2,K 31 y31 a0)]) H fun v0 H=>vB<|lX (fun((v3,v4):List Int×Int)=>Z [p 1 (J a1),p 5 (O 28),p 9 (O 9),p 10 (I (v0.length:Int)),p 11 (I v4)] [(9,A 105 y105 v0 0),(28,A 2 i64 v3 0)]) ([],0) H fun _ g1 b1 e1 t1 ⟨v3,v4⟩ H=>qA (Z [p 1 (J a1),p 5 (O 28),p 9 (O 9),p 10 (I (v0.length:Int)),p 11 (I v4),p 12 (B (decide (v4 < (v0.length:Int))))] [(9,A 105 y105 v0 0),(28,A 2 i64 v3 0)])<|vQ<|cD H (fun H=>?_) (fun H=>?_)
 ·refine vK<|fQ<|jN r (fun(v6:List Int)=>Z [p 1 (J a1),p 5 (O 28),p 9 (O 9),p 10 (I (v0.length:Int)),p 11 (I v4)] [(28,A 2 i64 v6 0),(9,A 105 y105 v0 0)]) (n0l v4 g1) (fun v6 H=>?_) (fun _ n2 e2 t2=>?_)
  ·refine zB (Z [p 1 (J a1),p 5 (O 28),p 9 (O 9),p 10 (I (v0.length:Int)),p 11 (I (v4+1))] [(28,A 2 i64 v6 0),(9,A 105 y105 v0 0)]) H fun H=>b1 H
  refine vB<|qD (fun v5=>Z [p 1 (J a1),p 5 (O 28),p 6 (I v4),p 7 (R 7),p 9 (O 9),p 10 (I (v0.length:Int)),p 11 (I v4)] [(7,bx 105 (u1 true y105 v5)),(9,A 105 y105 v0 0),(28,A 2 i64 v3 0)]) H fun v5 H=>qA (Z [p 1 (J a1),p 5 (O 28),p 6 (I v4),p 9 (O 9),p 10 (I (v0.length:Int)),p 11 (I v4),p 24 (B (v5.2.2.1==a1&&!v5.2.2.2))] [(7,bx 105 (u1 true y105 v5)),(9,A 105 y105 v0 0),(28,A 2 i64 v3 0)])<|cD H (fun H=>?_) (fun H=>?_)
  ·refine zB (Z [p 1 (J a1),p 5 (AV.os 28 1),p 9 (O 9),p 10 (I (v0.length:Int)),p 11 (I v4)] [(28,A 2 i64 (v3++[v4]) 1),(27,A 2 i64 [v4] 0),(7,bx 105 (u1 true y105 v5)),(9,A 105 y105 v0 0)]) H fun H=>fK<|n2 H
  exact vK<|fK<|n2 H
 exact vE<|fE<|e1<|fX rfl<|n0 H
def q0S:List Int->Option (List Int)
 | v15 =>
 some v15
def i0w(v0:x9)(g3:Int×List Int->Option (List Int)):Int×List Int->Option (List Int)
 | (v12,v13) =>
 if(decide (0<v12))=true then
  gd (ix v12 v0.1.length/\ix (v0.1.getD v12.toNat 0) v13.length/\Int.toNat (v0.1.getD v12.toNat 0)<v13.length/\ix v12 v13.length/\v12.toNat<v13.length/\l3 (v13.getD (Int.toNat (v0.1.getD v12.toNat 0)) 0+v13.getD v12.toNat 0)/\ix (v0.1.getD v12.toNat 0) v13.length/\Int.toNat (v0.1.getD v12.toNat 0)<v13.length/\True)<|lt (v13.set (Int.toNat (v0.1.getD v12.toNat 0)) (v13.getD (Int.toNat (v0.1.getD v12.toNat 0)) 0+v13.getD v12.toNat 0)) fun v14 =>
  gd (l3 (v12-1)/\True) <|
  g3 (v12-1,v14)
 else
  q0S v13
def n0t(v0:x9):List Int->Option (List Int)
 | v10 =>
 gd (l3 ((v10.length:Int)-1)/\True) <|
 lp (i0w v0) (((v10.length:Int)-1,v10))
def x0j(a0:Y34)(v2:List B2)(v3:List Int)(v0:x9)(g1:Int×List Int->Option (List Int)):Int×List Int->Option (List Int)
 | (v6,v7) =>
 if(decide (v6 < (v3.length:Int)))=true then
  gd (ix v6 v3.length/\v6.toNat<v3.length/\True) <|
  gd (ix v6 v0.2.2.2.length/\ix (v0.2.2.2.getD v6.toNat 0) v7.length/\Int.toNat (v0.2.2.2.getD v6.toNat 0)<v7.length/\ix (v3.getD v6.toNat 0) v2.length/\Int.toNat (v3.getD v6.toNat 0)<v2.length/\(y0E a0.2.1 a0.1 (v2.getD (Int.toNat (v3.getD v6.toNat 0)) (d6 y105))).isSome=true/\l3 (v7.getD (Int.toNat (v0.2.2.2.getD v6.toNat 0)) 0+vl (y0E a0.2.1 a0.1 (v2.getD (Int.toNat (v3.getD v6.toNat 0)) (d6 y105))))/\ix (v0.2.2.2.getD v6.toNat 0) v7.length/\Int.toNat (v0.2.2.2.getD v6.toNat 0)<v7.length/\True)<|lt ((vl (y0E a0.2.1 a0.1 (v2.getD (Int.toNat (v3.getD v6.toNat 0)) (d6 y105))),v7.set (Int.toNat (v0.2.2.2.getD v6.toNat 0)) (v7.getD (Int.toNat (v0.2.2.2.getD v6.toNat 0)) 0+vl (y0E a0.2.1 a0.1 (v2.getD (Int.toNat (v3.getD v6.toNat 0)) (d6 y105)))))) fun(_v8,v9) =>
  gd (l3 (v6+1)/\True) <|
  g1 (v6+1,v9)
 else
  n0t v0 v7
def q0T(a0:Y34)(a1:Int):Option (List Int) :=
 gd (ix a1 a0.2.2.length/\True)<|lt (a0.2.2.getD a1.toNat (d6 l6)) fun v0 =>
 gd ((w0T v0.2.2.1).isSome=true/\True)<|lt (vl (w0T v0.2.2.1)) fun v1 =>
 gd ((u68 a0.2.1).isSome=true/\True)<|lt (vl (u68 a0.2.1)) fun v2 =>
 gd ((B0I a0.2.1 a1).isSome=true/\True)<|lt (vl (B0I a0.2.1 a1)) fun v3 =>
 lp (x0j a0 v2 v3 v0) (0,v1)
def K0y:Ct:=lct 130 [.agg y34,.dat i64] (fun x=>q0T x.1 x.2.1) (fun r:List Int=>AV.ow 2 true i64 r) (fun _=>())
theorem F0N:Ok prog K0y:=by
 refine okL [.tmp 4] func130 ntmps130 results130 ?_;intro y ⟨a0,a1,_⟩ r H Q hn hr;have:HT _ _:=⟨tc I0o (tc I0p (tc o68 (tc E0I tn)))⟩;refine qA (Z (G33 a1 []) [(2,K 34 y34 a0)])<|qD (fun v0=>Z (G33 a1 [p 5 (R 5)]) (W76 v0 a0)) H fun v0 H=>qD (fun v1=>Z (G33 a1 [p 5 (R 5),p 6 (O 18)]) ((18,A 2 i64 v1 0)::W76 v0 a0)) H fun v1 H=>qD (fun v2=>Z (G33 a1 [p 5 (R 5),p 6 (O 18),p 7 (O 21)]) ((21,A 105 y105 v2 0)::(18,A 2 i64 v1 0)::W76 v0 a0)) H fun v2 H=>jN r (fun(v10:List Int)=>Z [p 5 (R 5),p 6 (O 18)] [(18,A 2 i64 v10 0),(5,K 110 l6 v0)]) (n0t v0) (fun v10 H=>?_) (fun _ n0 e0 t0=>?_)
 ·refine jN r (fun(v15:List Int)=>Z [p 6 (O 18)] [(18,A 2 i64 v15 0)]) (q0S) (fun v15 H=>?_) (fun _ n2 e2 t2=>?_)
  ·refine qA (Z [p 4 (O 18)] [(18,A 2 i64 v15 0)])<|vTT<|hr H
  refine qB (Z [p 5 (R 5),p 6 (O 18),p 10 (I ((v10.length:Int)-1))] [(18,A 2 i64 v10 0),(5,K 110 l6 v0)]) H fun H=>vB<|lX (fun((v12,v13):Int×List Int)=>Z [p 5 (R 5),p 6 (O 18),p 10 (I v12)] [(18,A 2 i64 v13 0),(5,K 110 l6 v0)]) (((v10.length:Int)-1,v10)) H fun _ g3 b3 e3 t3 ⟨v12,v13⟩ H=>vQ<|qA (Z [p 5 (R 5),p 6 (O 18),p 10 (I v12),p 56 (B (decide (0<v12)))] [(18,A 2 i64 v13 0),(5,K 110 l6 v0)])<|cD H (fun H=>?_) (fun H=>?_)
  ·refine vK<|fQ<|vQ<|vB<|zD (fun v14=>Z [p 5 (R 5),p 6 (O 18),p 10 (I v12)] [(18,A 2 i64 v14 0),(5,K 110 l6 v0)]) H fun v14 H=>fK<|fQ<|zB (Z [p 5 (R 5),p 6 (O 18),p 10 (I (v12-1))] [(18,A 2 i64 v14 0),(5,K 110 l6 v0)]) H fun H=>b3 H
  exact vE<|fE<|e3<|fX rfl<|n2 H
 refine qD (fun v3=>Z (G57 (v3.length:Int) [p 27 (I 0)]) ((25,A 2 i64 v3 0)::(21,A 105 y105 v2 0)::(18,A 2 i64 v1 0)::W76 v0 a0)) H fun v3 H=>vB<|lX (fun((v6,v7):Int×List Int)=>Z (G57 (v3.length:Int) [p 27 (I v6)]) ((25,A 2 i64 v3 0)::(21,A 105 y105 v2 0)::(18,A 2 i64 v7 0)::W76 v0 a0)) (0,v1) H fun _ g1 b1 e1 t1 ⟨v6,v7⟩ H=>qA (Z (G57 (v3.length:Int) [p 27 (I v6),p 28 (B (decide (v6 < (v3.length:Int))))]) ((25,A 2 i64 v3 0)::(21,A 105 y105 v2 0)::(18,A 2 i64 v7 0)::W76 v0 a0))<|vQ<|cD H (fun H=>?_) (fun H=>?_)
 ·refine vK<|fQ<|vQ<|vB<|qB (Z [p 2 (R 2),p 5 (R 5),p 6 (O 18),p 7 (O 21),p 8 (I v6),p 9 (I (v3.getD v6.toNat 0)),p 25 (O 25),p 26 (I (v3.length:Int)),p 27 (I v6)] ((25,A 2 i64 v3 0)::(21,A 105 y105 v2 0)::(18,A 2 i64 v7 0)::W76 v0 a0)) H fun H=>zD (fun(v8,v9)=>Z (G57 (v3.length:Int) [p 27 (I v6)]) ((18,A 2 i64 v9 0)::(25,A 2 i64 v3 0)::(21,A 105 y105 v2 0)::W76 v0 a0)) H fun⟨v8,v9⟩ H =>
   fK<|fQ <|
   zB (Z (G57 (v3.length:Int) [p 27 (I (v6+1))]) ((18,A 2 i64 v9 0)::(25,A 2 i64 v3 0)::(21,A 105 y105 v2 0)::W76 v0 a0)) H fun H =>
   b1 H
 exact vE<|fE<|e1<|fX rfl<|n0 H
def w0t:List Int->Option (List Int)
 | v6 =>
 some v6
def k0n(v1:x9)(v0:List Int)(g1:Int×List Int->Option (List Int)):Int×List Int->Option (List Int)
 | (v3,v4) =>
 if(decide (v3 < (v4.length:Int)))=true then
  gd (ix v3 v1.1.length/\ix (v1.1.getD v3.toNat 0) v4.length/\Int.toNat (v1.1.getD v3.toNat 0)<v4.length/\ix v3 v1.2.1.length/\ix v3 v0.length/\v3.toNat<v0.length/\l3 (v1.2.1.getD v3.toNat 0*v0.getD v3.toNat 0)/\l3 (v4.getD (Int.toNat (v1.1.getD v3.toNat 0)) 0+v1.2.1.getD v3.toNat 0*v0.getD v3.toNat 0)/\ix v3 v4.length/\v3.toNat<v4.length/\True)<|lt (v4.set v3.toNat (v4.getD (Int.toNat (v1.1.getD v3.toNat 0)) 0+v1.2.1.getD v3.toNat 0*v0.getD v3.toNat 0)) fun v5 =>
  gd (l3 (v3+1)/\True) <|
  g1 (v3+1,v5)
 else
  w0t v4
def B0H(a0:Y34)(a1:Int):Option (List Int) :=
 gd (ix a1 a0.2.2.length/\(q0T a0 a1).isSome=true/\True)<|lt ((vl (q0T a0 a1),a0.2.2.getD a1.toNat (d6 l6))) fun(v0,v1) =>
 gd ((0<=(v0.length:Int)/\(v0.length:Int)=(v0.length:Int)/\(v0.length:Int).toNat*8<=281474976710656/\(v0.length:Int)<=9223372036854775807)/\True) <|
 lp (k0n v1 v0) ((1,List.replicate (v0.length:Int).toNat 0))
def J0S:Ct:=lct 185 [.agg y34,.dat i64] (fun x=>B0H x.1 x.2.1) (fun r:List Int=>AV.ow 2 true i64 r) (fun _=>())
theorem I0n:Ok prog J0S:=by
 refine okL [.tmp 4] func185 ntmps185 results185 ?_;intro y ⟨a0,a1,_⟩ r H Q hn hr;have:HT _ _:=⟨tc F0N tn⟩;refine qA (Z (G33 a1 []) [(2,K 34 y34 a0)])<|qD (fun(v0,v1)=>Z [p 5 (R 5),p 6 (O 16)] [(5,K 110 l6 v1),(16,A 2 i64 v0 0),(2,K 34 y34 a0)]) H fun w H=>?_
 obtain⟨v0,v1⟩:=w;refine qB (Z (G89 []) [(19,A 2 i64 (List.replicate (v0.length:Int).toNat 0) 0),(5,K 110 l6 v1),(16,A 2 i64 v0 0),(2,K 34 y34 a0)]) H fun H=>jN r (fun(v6:List Int)=>Z [p 7 (O 19)] [(19,A 2 i64 v6 0)]) (w0t) (fun v6 H=>?_) (fun _ n0 e0 t0=>?_)
 ·refine qA (Z [p 4 (O 19)] [(19,A 2 i64 v6 0)])<|vTT<|hr H
 refine qA (Z (G89 [p 8 (I 1)]) [(19,A 2 i64 (List.replicate (v0.length:Int).toNat 0) 0),(5,K 110 l6 v1),(16,A 2 i64 v0 0),(2,K 34 y34 a0)])<|vB<|lX (fun((v3,v4):Int×List Int)=>Z (G89 [p 8 (I v3)]) [(19,A 2 i64 v4 0),(5,K 110 l6 v1),(16,A 2 i64 v0 0)]) ((1,List.replicate (v0.length:Int).toNat 0)) H fun _ g1 b1 e1 t1 ⟨v3,v4⟩ H=>vQ<|qA (Z (G89 [p 8 (I v3),p 23 (B (decide (v3 < (v4.length:Int))))]) [(19,A 2 i64 v4 0),(5,K 110 l6 v1),(16,A 2 i64 v0 0)])<|cD H (fun H=>?_) (fun H=>?_)
 ·refine vK<|fQ<|vQ<|vB<|zD (fun v5=>Z (G89 [p 8 (I v3)]) [(19,A 2 i64 v5 0),(5,K 110 l6 v1),(16,A 2 i64 v0 0)]) H fun v5 H=>fK<|fQ<|zB (Z (G89 [p 8 (I (v3+1))]) [(19,A 2 i64 v5 0),(5,K 110 l6 v1),(16,A 2 i64 v0 0)]) H fun H=>b1 H
 exact vE<|fE<|e1<|fX rfl<|n0 H
def x0h:List Int->Option (List Int)
 | v6 =>
 some v6
def x0g(v0:List Int)(v1:x9)(g1:List Int×Int->Option (List Int)):List Int×Int->Option (List Int)
 | (v3,v4) =>
 if(decide (v4 < (v1.2.2.2.length:Int)))=true then
  gd (ix v4 v1.2.2.2.length/\True) <|
  gd (ix (v1.2.2.2.getD v4.toNat 0) v0.length/\Int.toNat (v1.2.2.2.getD v4.toNat 0)<v0.length/\(v3.length+[v0.getD (Int.toNat (v1.2.2.2.getD v4.toNat 0)) 0].length<=9223372036854775807/\(v3.length+[v0.getD (Int.toNat (v1.2.2.2.getD v4.toNat 0)) 0].length)*8<=140737488355328)/\True)<|lt (v3++[v0.getD (Int.toNat (v1.2.2.2.getD v4.toNat 0)) 0]) fun v5 =>
  gd (l3 (v4+1)/\True) <|
  g1 (v5,v4+1)
 else
  x0h v3
def x0i(a0:Y34)(a1:Int):Option (List Int) :=
 gd ((B0H a0 a1).isSome=true/\True)<|lt (vl (B0H a0 a1)) fun v0 =>
 gd (ix a1 a0.2.2.length/\True)<|lt (a0.2.2.getD a1.toNat (d6 l6)) fun v1 =>
 lp (x0g v0 v1) ([],0)
def K0x:Ct:=lct 131 [.agg y34,.dat i64] (fun x=>x0i x.1 x.2.1) (fun r:List Int=>AV.ow 2 true i64 r) (fun _=>())
theorem I0I:Ok prog K0x:=by
 refine okL [.tmp 4] func131 ntmps131 results131 ?_;intro y ⟨a0,a1,_⟩ r H Q hn hr;have:HT _ _:=⟨tc I0n tn⟩;refine qA (Z (G33 a1 []) [(2,K 34 y34 a0)])<|qD (fun v0=>Z (G33 a1 [p 5 (O 11)]) [(11,A 2 i64 v0 0),(2,K 34 y34 a0)]) H fun v0 H=>qA (Z (G33 a1 [p 5 (O 11),p 6 (nil)]) [(11,A 2 i64 v0 0),(2,K 34 y34 a0)])<|jN r (fun(v6:List Int)=>Z [p 6 (O 29)] [(29,A 2 i64 v6 0)]) (x0h) (fun v6 H=>?_) (fun _ n0 e0 t0=>?_)
 ·refine qA (Z [p 4 (O 29)] [(29,A 2 i64 v6 0)])<|vTT<|hr H
 refine qD (fun v1=>Z [p 5 (O 11),p 6 (nil),p 17 (L i64 v1.2.2.2),p 18 (I (v1.2.2.2.length:Int)),p 19 (I 0)] [(11,A 2 i64 v0 0),(2,K 34 y34 a0)]) H fun v1 H=>vB<|lX (fun((v3,v4):List Int×Int)=>Z [p 5 (O 11),p 6 (O 29),p 17 (L i64 v1.2.2.2),p 18 (I (v1.2.2.2.length:Int)),p 19 (I v4)] [(11,A 2 i64 v0 0),(29,A 2 i64 v3 0)]) ([],0) H fun _ g1 b1 e1 t1 ⟨v3,v4⟩ H=>qA (Z [p 5 (O 11),p 6 (O 29),p 17 (L i64 v1.2.2.2),p 18 (I (v1.2.2.2.length:Int)),p 19 (I v4),p 20 (B (decide (v4 < (v1.2.2.2.length:Int))))] [(11,A 2 i64 v0 0),(29,A 2 i64 v3 0)])<|vQ<|cD H (fun H=>?_) (fun H=>?_)
 ·refine vK<|fQ<|vQ<|vB<|qB (Z [p 5 (O 11),p 6 (O 29),p 8 (J (v1.2.2.2.getD v4.toNat 0)),p 17 (L i64 v1.2.2.2),p 18 (I (v1.2.2.2.length:Int)),p 19 (I v4)] [(11,A 2 i64 v0 0),(29,A 2 i64 v3 0)]) H fun H=>zD (fun v5=>Z [p 5 (O 11),p 6 (AV.os 29 1),p 17 (L i64 v1.2.2.2),p 18 (I (v1.2.2.2.length:Int)),p 19 (I v4)] [(29,A 2 i64 v5 1),(28,A 2 i64 [v0.getD (Int.toNat (v1.2.2.2.getD v4.toNat 0)) 0] 0),(11,A 2 i64 v0 0)]) H fun v5 H=>fK<|fQ<|zB (Z [p 5 (O 11),p 6 (AV.os 29 1),p 17 (L i64 v1.2.2.2),p 18 (I (v1.2.2.2.length:Int)),p 19 (I (v4+1))] [(29,A 2 i64 v5 1),(28,A 2 i64 [v0.getD (Int.toNat (v1.2.2.2.getD v4.toNat 0)) 0] 0),(11,A 2 i64 v0 0)]) H fun H=>b1 H
 exact vE<|fE<|e1<|fX rfl<|n0 H
def E0V:Ct:=lct 131 [.agg y34,.dat i64] (fun x=>x0i x.1 x.2.1) (fun r=>frz ((fun r:List Int=>AV.ow 2 true i64 r) r)) (fun _=>())
theorem E0J:Ok prog E0V:=k0S I0I
def C5(a0:List Int):Option (Int) :=
 some (a0.length:Int)
def K0z:Ct:=lct 129 [.dat i64.sl] (fun x=>C5 x.1) (fun r:Int=>I r) (fun _=>())
theorem E0K:Ok prog K0z:=by
 refine okL [.tmp 2] func129 ntmps129 results129 ?_;intro y ⟨a0,_⟩ r H Q hn hr;have:HT _ _:=⟨@tn prog⟩;refine qA (Z [p 0 (L i64 a0)] [])<|qA (Z [p 2 (I (a0.length:Int))] [])<|vTT<|hr H
def B0J(a0:A5):Option (List (Int×Int)) :=
 if(a0.1==2)=true then
  some ([((0:Int),(0:Int)),((0:Int),(1:Int))])
 else
  if(a0.1==3)=true then
   some ([((1:Int),(0:Int)),((1:Int),(1:Int))])
  else
   if(a0.1 != 1)=true then
    some []
   else
    if(a0.2.2.2.1==1)=true then
     some ([((0:Int),(0:Int)),((1:Int),(1:Int))])
    else
     if(a0.2.2.2.1==2)=true then
      some ([((0:Int),(1:Int)),((1:Int),(0:Int))])
     else
      lt ([((0:Int),(0:Int)),((0:Int),(1:Int)),((1:Int),(0:Int)),((1:Int),(1:Int))]) fun v0 =>
      some v0
def J0V:Ct:=lct 182 [.agg y143] (fun x=>B0J x.1) (fun r:List (Int×Int)=>AV.ow 210 true (i64.pr i64) r) (fun _=>())
theorem I0q:Ok prog J0V:=by
 refine okL [.tmp 2] func182 ntmps182 results182 ?_;intro y ⟨a0,_⟩ r H Q hn hr;have:HT _ _:=⟨@tn prog⟩;refine qA (Z [p 1 (R 1)] [(1,K 143 y143 a0)])<|qA (Z [p 1 (R 1),p 3 (O 7)] [(7,A 210 (i64.pr i64) [((0:Int),(0:Int)),((1:Int),(1:Int))] 0),(1,K 143 y143 a0)])<|qA (Z [p 1 (R 1),p 3 (O 7),p 4 (O 10)] (W1 a0))<|vQ<|vB<|qA (Z [p 1 (R 1),p 3 (O 7),p 4 (O 10),p 11 (B (a0.1==(2:Int)))] (W1 a0))<|cD H (fun H=>?_) (fun H=>?_)
 ·refine qA (Z [p 2 (O 17)] ((17,A 210 (i64.pr i64) [((0:Int),(0:Int)),((0:Int),(1:Int))] 0)::W1 a0))<|vTT<|fDD<|fR<|hr H
 refine qA (Z [p 1 (R 1),p 3 (O 7),p 4 (O 10),p 18 (B (a0.1==(3:Int)))] (W1 a0))<|cD H (fun H=>?_) (fun H=>?_)
 ·refine qA (Z [p 2 (O 24)] ((24,A 210 (i64.pr i64) [((1:Int),(0:Int)),((1:Int),(1:Int))] 0)::W1 a0))<|vTT<|fDD<|fR<|hr H
 refine qA (Z [p 1 (R 1),p 3 (O 7),p 4 (O 10),p 25 (B (a0.1 != (1:Int)))] (W1 a0))<|cD H (fun H=>?_) (fun H=>?_)
 ·refine qA (Z [p 2 (nil)] (W1 a0))<|vTT<|fDD<|fR<|hr H
 refine qA (Z [p 1 (R 1),p 3 (O 7),p 4 (O 10),p 29 (B (a0.2.2.2.1==(1:Int)))] (W1 a0))<|cD H (fun H=>?_) (fun H=>?_)
 ·refine qA (Z [p 2 (O 7)] (W1 a0))<|vTT<|fDD<|fR<|hr H
 refine qA (Z [p 4 (O 10),p 34 (B (a0.2.2.2.1==(2:Int)))] (W1 a0))<|cD H (fun H=>?_) (fun H=>?_)
 ·refine qA (Z [p 2 (O 10)] (W1 a0))<|vTT<|fDD<|fR<|hr H
 refine vK<|fK<|fQ<|qC (fun v0=>Z [p 2 (O 43)] ((43,A 210 (i64.pr i64) v0 0)::W1 a0)) H fun v0 H=>vTT<|hr H
def x0k:List Y48->Option (List Y48)
 | v24 =>
 some v24
def q0W(v12:Int)(g1:List Y48×Int->Option (List Y48)):List Y48->Option (List Y48)
 | v23 =>
 gd (l3 (v12+1)/\True) <|
 g1 (v23,v12+1)
def q0U(a2:Int)(v13:A5)(v12:Int)(v14:List (Int×Int))(g1:List Y48×Int->Option (List Y48))(g3:Int×List Y48->Option (List Y48)):Int×List Y48->Option (List Y48)
 | (v18,v19) =>
 if(decide (v18 < (v14.length:Int)))=true then
  gd (ix v18 v14.length/\v18.toNat<v14.length/\True)<|lt (v14.getD v18.toNat (d6 (i64.pr i64))) fun v20 =>
  gd (l3 (a2+v13.2.1)/\l3 ((2:Int)*(a2+v13.2.1))/\ix (0:Int) 2/\l3 ((2:Int)*(a2+v13.2.1)+v20.1)/\l3 (a2+v13.2.2.1)/\l3 ((2:Int)*(a2+v13.2.2.1))/\ix (1:Int) 2/\l3 ((2:Int)*(a2+v13.2.2.1)+v20.2)/\(v19.length+[((2:Int)*(a2+v13.2.1)+v20.1,(2:Int)*(a2+v13.2.2.1)+v20.2,(1:Int),v12)].length<=9223372036854775807/\(v19.length+[((2:Int)*(a2+v13.2.1)+v20.1,(2:Int)*(a2+v13.2.2.1)+v20.2,(1:Int),v12)].length)*32<=140737488355328)/\True)<|lt ((v19++[((2:Int)*(a2+v13.2.1)+v20.1,(2:Int)*(a2+v13.2.2.1)+v20.2,(1:Int),v12)],[((2:Int)*(a2+v13.2.1)+v20.1,(2:Int)*(a2+v13.2.2.1)+v20.2,(1:Int),v12)])) fun(v21,_v22) =>
  gd (l3 (v18+1)/\True) <|
  g3 (v18+1,v21)
 else
  q0W v12 g1 v19
def q0V(a2:Int)(v0:m4)(g1:List Y48×Int->Option (List Y48)):List Y48×Int->Option (List Y48)
 | (v11,v12) =>
 if(decide (v12 < (v0.2.2.2.1.length:Int)))=true then
  gd (ix v12 v0.2.2.2.1.length/\True)<|lt (v0.2.2.2.1.getD v12.toNat (d6 y143)) fun v13 =>
  gd ((B0J v13).isSome=true/\True)<|lt (vl (B0J v13)) fun v14 =>
  lp (q0U a2 v13 v12 v14 g1) (0,v11)
 else
  x0k v11
def x0l(a0:Y34)(a1:m7)(a2:Int):Option (List Y48) :=
 gd (ix a1.2.1 a0.1.length/\True)<|lt (a0.1.getD a1.2.1.toNat (d6 y163)) fun v0 =>
 lp (q0V a2 v0) ([],0)
def K0A:Ct:=lct 128 [.agg y34,.agg y165,.dat i64] (fun x=>x0l x.1 x.2.1 x.2.2.1) (fun r:List Y48=>AV.ow 48 true y48 r) (fun _=>())
theorem I0J:Ok prog K0A:=by
 refine okL [.tmp 6] func128 ntmps128 results128 ?_;intro y ⟨a0,a1,a2,_⟩ r H Q hn hr;have:HT _ _:=⟨tc I0q tn⟩;refine qA (Z [p 2 (J a2),p 3 (R 3),p 4 (R 4)] [(4,K 165 y165 a1),(3,K 34 y34 a0)])<|qA (Z [p 2 (J a2),p 3 (R 3),p 4 (R 4),p 7 (nil)] [(4,K 165 y165 a1),(3,K 34 y34 a0)])<|jN r (fun(v24:List Y48)=>Z [p 7 (O 53)] [(53,A 48 y48 v24 0)]) (x0k) (fun v24 H=>?_) (fun _ n0 e0 t0=>?_)
 ·refine qA (Z [p 6 (O 53)] [(53,A 48 y48 v24 0)])<|vTT<|hr H
 refine qD (fun v0=>Z [p 2 (J a2),p 7 (nil),p 19 (L y143 v0.2.2.2.1),p 20 (I (v0.2.2.2.1.length:Int)),p 21 (I 0)] [(4,K 165 y165 a1),(3,K 34 y34 a0)]) H fun v0 H=>vB<|lX (fun((v11,v12):List Y48×Int)=>Z [p 2 (J a2),p 7 (O 53),p 19 (L y143 v0.2.2.2.1),p 20 (I (v0.2.2.2.1.length:Int)),p 21 (I v12)] [(53,A 48 y48 v11 0)]) ([],0) H fun _ g1 b1 e1 t1 ⟨v11,v12⟩ H=>qA (Z [p 2 (J a2),p 7 (O 53),p 19 (L y143 v0.2.2.2.1),p 20 (I (v0.2.2.2.1.length:Int)),p 21 (I v12),p 22 (B (decide (v12 < (v0.2.2.2.1.length:Int))))] [(53,A 48 y48 v11 0)])<|vQ<|cD H (fun H=>?_) (fun H=>?_)
 ·refine vK<|fQ<|jN r (fun(v23:List Y48)=>Z [p 2 (J a2),p 7 (O 53),p 19 (L y143 v0.2.2.2.1),p 20 (I (v0.2.2.2.1.length:Int)),p 21 (I v12)] [(53,A 48 y48 v23 0)]) (q0W v12 g1) (fun v23 H=>?_) (fun _ n2 e2 t2=>?_)
  ·refine zB (Z [p 2 (J a2),p 7 (O 53),p 19 (L y143 v0.2.2.2.1),p 20 (I (v0.2.2.2.1.length:Int)),p 21 (I (v12+1))] [(53,A 48 y48 v23 0)]) H fun H=>b1 H
  refine vB<|qD (fun v13=>Z (G94 a2 v12 v0.2.2.2.1 (v0.2.2.2.1.length:Int) []) [(9,K 143 y143 v13),(53,A 48 y48 v11 0)]) H fun v13 H=>qD (fun v14=>Z (G94 a2 v12 v0.2.2.2.1 (v0.2.2.2.1.length:Int) [p 27 (O 27),p 28 (I (v14.length:Int)),p 29 (I 0)]) [(27,A 210 (i64.pr i64) v14 0),(9,K 143 y143 v13),(53,A 48 y48 v11 0)]) H fun v14 H=>vB<|lX (fun((v18,v19):Int×List Y48)=>Z (G94 a2 v12 v0.2.2.2.1 (v0.2.2.2.1.length:Int) [p 27 (O 27),p 28 (I (v14.length:Int)),p 29 (I v18)]) [(27,A 210 (i64.pr i64) v14 0),(9,K 143 y143 v13),(53,A 48 y48 v19 0)]) (0,v11) H fun _ g3 b3 e3 t3 ⟨v18,v19⟩ H=>qA (Z (G94 a2 v12 v0.2.2.2.1 (v0.2.2.2.1.length:Int) [p 27 (O 27),p 28 (I (v14.length:Int)),p 29 (I v18),p 30 (B (decide (v18 < (v14.length:Int))))]) [(27,A 210 (i64.pr i64) v14 0),(9,K 143 y143 v13),(53,A 48 y48 v19 0)])<|vQ<|cD H (fun H=>?_) (fun H=>?_)
  ·refine vK<|fQ<|vQ<|vB<|qD (fun v20=>Z [p 2 (J a2),p 7 (O 53),p 8 (I v12),p 9 (R 9),p 11 (R 11),p 19 (L y143 v0.2.2.2.1),p 20 (I (v0.2.2.2.1.length:Int)),p 21 (I v12),p 27 (O 27),p 28 (I (v14.length:Int)),p 29 (I v18)] [(11,bx 210 (u1 true (i64.pr i64) v20)),(27,A 210 (i64.pr i64) v14 0),(9,K 143 y143 v13),(53,A 48 y48 v19 0)]) H fun v20 H=>zD (fun(v21,v22)=>Z [p 2 (J a2),p 7 (AV.os 53 1),p 8 (I v12),p 9 (R 9),p 19 (L y143 v0.2.2.2.1),p 20 (I (v0.2.2.2.1.length:Int)),p 21 (I v12),p 27 (O 27),p 28 (I (v14.length:Int)),p 29 (I v18)] [(53,A 48 y48 v21 1),(52,A 48 y48 v22 0),(11,bx 210 (u1 true (i64.pr i64) v20)),(27,A 210 (i64.pr i64) v14 0),(9,K 143 y143 v13)]) H fun⟨v21,v22⟩ H =>
    fK<|fQ <|
    zB (Z [p 2 (J a2),p 7 (AV.os 53 1),p 8 (I v12),p 9 (R 9),p 19 (L y143 v0.2.2.2.1),p 20 (I (v0.2.2.2.1.length:Int)),p 21 (I v12),p 27 (O 27),p 28 (I (v14.length:Int)),p 29 (I (v18+1))] [(53,A 48 y48 v21 1),(52,A 48 y48 v22 0),(11,bx 210 (u1 true (i64.pr i64) v20)),(27,A 210 (i64.pr i64) v14 0),(9,K 143 y143 v13)]) H fun H =>
    b3 H
  exact vE<|fE<|e3<|fX rfl<|fK<|n2 H
 exact vE<|fE<|e1<|fX rfl<|n0 H
def B0g(a0:Y34)(v0:List B2):List Y48×List Int×List (List Int)->Option (y9)
 | (v97,v98,v99) =>
 some (a0,v0,v97,v98,v99,[])
def y0v(v71:Int)(g6:Int×List Int×List (List Int)×List Y48->Option (y9)):List (List Int)×List Int×List Y48->Option (y9)
 | (v94,v95,v96) =>
 gd (l3 (v71+1)/\True) <|
 g6 (v71+1,v95,v94,v96)
def y0u(v85:Int)(g8:Int×List Y48->Option (y9)):List Y48->Option (y9)
 | v93 =>
 gd (l3 (v85+1)/\True) <|
 g8 (v85+1,v93)
def i0l(v24:List Int)(v71:Int)(v23:List (List Int))(v85:Int)(g8:Int×List Y48->Option (y9))(g10:Int×List Y48->Option (y9)):Int×List Y48->Option (y9)
 | (v89,v90) =>
 if(decide (v89<2))=true then
  gd (ix v71 v24.length/\v71.toNat<v24.length/\l3 ((2:Int)*v24.getD v71.toNat (0:Int))/\l3 ((2:Int)*v24.getD v71.toNat (0:Int)+v89)/\l3 ((2:Int)*List.getD (v23.getD v71.toNat []) v85.toNat (0:Int))/\l3 ((2:Int)*List.getD (v23.getD v71.toNat []) v85.toNat (0:Int)+v89)/\(v90.length+[((2:Int)*v24.getD v71.toNat (0:Int)+v89,(2:Int)*List.getD (v23.getD v71.toNat []) v85.toNat (0:Int)+v89,(2:Int),v85)].length<=9223372036854775807/\(v90.length+[((2:Int)*v24.getD v71.toNat (0:Int)+v89,(2:Int)*List.getD (v23.getD v71.toNat []) v85.toNat (0:Int)+v89,(2:Int),v85)].length)*32<=140737488355328)/\True)<|lt ((v90++[((2:Int)*v24.getD v71.toNat (0:Int)+v89,(2:Int)*List.getD (v23.getD v71.toNat []) v85.toNat (0:Int)+v89,(2:Int),v85)],[((2:Int)*v24.getD v71.toNat (0:Int)+v89,(2:Int)*List.getD (v23.getD v71.toNat []) v85.toNat (0:Int)+v89,(2:Int),v85)])) fun(v91,_v92) =>
  gd (l3 (v89+1)/\True) <|
  g10 (v89+1,v91)
 else
  y0u v85 g8 v90
def l0X(v24:List Int)(v71:Int)(v23:List (List Int))(v73:List (List Int))(v76:List Int)(v72:List Int)(v75:List Int)(g6:Int×List Int×List (List Int)×List Y48->Option (y9))(g8:Int×List Y48->Option (y9)):Int×List Y48->Option (y9)
 | (v85,v86) =>
 if(decide (v85 < (↑(List.length (v23.getD v71.toNat [])):Int)))=true then
  gd (ix v85 (List.length (v23.getD v71.toNat []))/\True) <|
  lp (i0l v24 v71 v23 v85 g8) (0,v86)
 else
  y0v v71 g6 ((v73++[v76],v72++[v75.getD (Int.toNat (0:Int)) (0:Int)],v86))
def y0s(v24:List Int)(v23:List (List Int))(a0:Y34)(v0:List B2)(g6:Int×List Int×List (List Int)×List Y48->Option (y9)):Int×List Int×List (List Int)×List Y48->Option (y9)
 | (v71,v72,v73,v74) =>
 if(decide (v71 < (a0.2.2.length:Int)))=true then
  gd ((q0T a0 v71).isSome=true/\ix (0:Int) (vl (q0T a0 v71)).length/\Int.toNat (0:Int) < (vl (q0T a0 v71)).length/\(v72.length+[(vl (q0T a0 v71)).getD (Int.toNat (0:Int)) (0:Int)].length<=9223372036854775807/\(v72.length+[(vl (q0T a0 v71)).getD (Int.toNat (0:Int)) (0:Int)].length)*8<=140737488355328)/\True)<|lt (vl (q0T a0 v71)) fun v75 =>
  gd ((x0i a0 v71).isSome=true/\(v73.length+[vl (x0i a0 v71)].length<=9223372036854775807/\(v73.length+[vl (x0i a0 v71)].length)*24<=140737488355328)/\True)<|lt (vl (x0i a0 v71)) fun v76 =>
  gd (ix v71 v23.length/\True) <|
  lp (l0X v24 v71 v23 v73 v76 v72 v75 g6) (0,v74)
 else
  B0g a0 v0 (v74,v72,v73)
def y0w(a0:Y34)(v0:List B2)(v10:List Y48):List (List Int)×List Int->Option (y9)
 | (v23,v24) =>
 lp (y0s v24 v23 a0 v0) (0,[],[],v10)
def t0A(v16:Int)(g3:Int×List (List Int)×List Int->Option (y9)):List Int×List (List Int)->Option (y9)
 | (v21,v22) =>
 gd (l3 (v16+1)/\True) <|
 g3 (v16+1,v22,v21)
def y0t(v0:List B2)(a0:Y34)(v10:List Y48)(g3:Int×List (List Int)×List Int->Option (y9)):Int×List (List Int)×List Int->Option (y9)
 | (v16,v17,v18) =>
 if(decide (v16 < (v0.length:Int)))=true then
  gd (ix v16 v0.length/\v16.toNat<v0.length/\True)<|lt (v0.getD v16.toNat (d6 y105)) fun v19 =>
  if v19.2.2.2=true then
   gd (ix v19.2.2.1 v18.length/\v19.2.2.1.toNat<v18.length/\True) <|
   t0A v16 g3 (v18.set v19.2.2.1.toNat v16,v17)
  else
   gd (ix v19.2.2.1 v17.length/\v19.2.2.1.toNat<v17.length/\((v17.getD v19.2.2.1.toNat []).length+[v16].length<=9223372036854775807/\((v17.getD v19.2.2.1.toNat []).length+[v16].length)*8<=140737488355328)/\ix v19.2.2.1 v17.length/\(v19.2.2.1.toNat<v17.length/\v19.2.2.1.toNat=v19.2.2.1.toNat)/\True)<|lt (v17.set v19.2.2.1.toNat (v17.getD v19.2.2.1.toNat []++[v16])) fun v20 =>
   t0A v16 g3 (v18,v20)
 else
  y0w a0 v0 v10 (v17,v18)
def q0t(v0:List B2)(a0:Y34):List Y48->Option (y9)
 | v10 =>
 gd ((0<=(a0.2.2.length:Int)/\(a0.2.2.length:Int)=(a0.2.2.length:Int)/\(a0.2.2.length:Int).toNat*8<=281474976710656/\(a0.2.2.length:Int)<=9223372036854775807)/\True) <|
 gd ((0<=(a0.2.2.length:Int)/\(a0.2.2.length:Int)=(a0.2.2.length:Int)/\(a0.2.2.length:Int).toNat*24<=281474976710656/\(a0.2.2.length:Int)<=9223372036854775807)/\True) <|
 lp (y0t v0 a0 v10) ((0,List.replicate (a0.2.2.length:Int).toNat [],List.replicate (a0.2.2.length:Int).toNat 0))
def B0f(a0:Y34)(v0:List B2)(g1:Int×Int×List Y48->Option (y9)):Int×Int×List Y48->Option (y9)
 | (v4,v5,v6) =>
 if(decide (v5 < (a0.2.1.1.length:Int)))=true then
  gd (ix v5 a0.2.1.1.length/\True)<|lt (a0.2.1.1.getD v5.toNat (d6 y165)) fun v7 =>
  gd ((x0l a0 v7 v4).isSome=true/\(v6.length+(vl (x0l a0 v7 v4)).length<=9223372036854775807/\(v6.length+(vl (x0l a0 v7 v4)).length)*32<=140737488355328)/\True)<|lt (vl (x0l a0 v7 v4)) fun v8 =>
  gd ((C5 v7.2.2).isSome=true/\l3 (v4+vl (C5 v7.2.2))/\True)<|lt (vl (C5 v7.2.2)) fun v9 =>
  gd (l3 (v5+1)/\True) <|
  g1 (v4+v9,v5+1,v6++v8)
 else
  q0t v0 a0 v6
def u66(a0:Y34):Option (y9) :=
 gd ((u68 a0.2.1).isSome=true/\True)<|lt (vl (u68 a0.2.1)) fun v0 =>
 lp (B0f a0 v0) (0,0,[])
def k66:Ct:=lct 66 [.agg y34] (fun x=>u66 x.1) (fun r:y9=>D y100.pt r) (fun _=>())
theorem o66:Ok prog k66:=by
 refine okL [.tmp 2] func66 ntmps66 results66 ?_;intro y ⟨a0,_⟩ r H Q hn hr;have:HT _ _:=⟨tc E0J (tc F0N (tc E0K (tc I0J (tc o68 tn))))⟩;refine qA (Z [p 1 (R 1)] [(1,K 34 y34 a0)])<|qD (fun v0=>Z (G85 []) ((20,bx 100 (Q12 a0))::W87 v0 a0)) H fun v0 H=>qA (Z (G85 [p 4 (I 0)]) ((20,bx 100 (Q12 a0))::W87 v0 a0))<|jN r (fun(v10:List Y48)=>Z (G85 []) ((20,bx 100 (Q5 a0))::W5 v0 a0 v10)) (q0t v0 a0) (fun v10 H=>?_) (fun _ n0 e0 t0=>?_)
 ·refine qB (Z (G11 []) ((50,A 2 i64 (List.replicate (a0.2.2.length:Int).toNat 0) 0)::(20,bx 100 (Q5 a0))::W5 v0 a0 v10)) H fun H=>qB (Z (G11 [p 8 (AV.og 54)]) ((54,Ob.grd 35 2 true i64 (List.replicate (a0.2.2.length:Int).toNat []) none)::(50,A 2 i64 (List.replicate (a0.2.2.length:Int).toNat 0) 0)::(20,bx 100 (Q5 a0))::W5 v0 a0 v10)) H fun H=>jN r (fun((v23,v24):List (List Int)×List Int)=>Z (G11 [p 8 (AV.og 54)]) ((54,Ob.grd 35 2 true i64 v23 none)::(50,A 2 i64 v24 0)::(20,bx 100 (Q5 a0))::W5 v0 a0 v10)) (y0w a0 v0 v10) (fun⟨v23,v24⟩ H=>?_) (fun _ n2 e2 t2=>?_)
  ·refine jN r (fun((v97,v98,v99):List Y48×List Int×List (List Int))=>Z [p 3 (R 20)] [(20,bx 100 (Q4 a0)),(18,A 105 y105 v0 0),(38,A 48 y48 v97 0),(102,A 2 i64 v98 0),(114,A 35 i64.sl v99 0)]) (B0g a0 v0) (fun⟨v97,v98,v99⟩ H=>?_) (fun _ n5 e5 t5=>?_)
   ·refine qA (Z [p 2 (R 20)] [(20,bx 100 (Q4 a0)),(18,A 105 y105 v0 0),(38,A 48 y48 v97 0),(102,A 2 i64 v98 0),(114,A 35 i64.sl v99 0)])<|vTT<|hr H
   refine qA (Z (G11 [p 8 (AV.og 54),p 87 (I (a0.2.2.length:Int)),p 88 (I 0)]) ((54,Ob.grd 35 2 true i64 v23 none)::(50,A 2 i64 v24 0)::(20,bx 100 (Q5 a0))::W5 v0 a0 v10))<|vB<|fZ 54 (Z (G11 [p 8 (M i64.sl v23),p 87 (I (a0.2.2.length:Int)),p 88 (I 0)]) ((50,A 2 i64 v24 0)::(20,bx 100 (Q5 a0))::W5 v0 a0 v10))<|lX (fun((v71,v72,v73,v74):Int×List Int×List (List Int)×List Y48)=>Z (G11 [p 8 (M i64.sl v23),p 87 (I (a0.2.2.length:Int)),p 88 (I v71)]) [(50,A 2 i64 v24 0),(20,bx 100 (Q4 a0)),(18,A 105 y105 v0 0),(1,K 34 y34 a0),(38,A 48 y48 v74 0),(102,A 2 i64 v72 0),(114,A 35 i64.sl v73 0)]) (0,[],[],v10) H fun _ g6 b6 e6 t6 ⟨v71,v72,v73,v74⟩ H=>qA (Z (G11 [p 8 (M i64.sl v23),p 87 (I (a0.2.2.length:Int)),p 88 (I v71),p 89 (B (decide (v71 < (a0.2.2.length:Int))))]) [(50,A 2 i64 v24 0),(20,bx 100 (Q4 a0)),(18,A 105 y105 v0 0),(1,K 34 y34 a0),(38,A 48 y48 v74 0),(102,A 2 i64 v72 0),(114,A 35 i64.sl v73 0)])<|vQ<|cD H (fun H=>?_) (fun H=>?_)
   ·refine vK<|fQ<|jN r (fun((v94,v95,v96):List (List Int)×List Int×List Y48)=>Z (G11 [p 8 (M i64.sl v23),p 87 (I (a0.2.2.length:Int)),p 88 (I v71)]) ((20,bx 100 (Q4 a0))::(114,A 35 i64.sl v94 0)::(102,A 2 i64 v95 0)::(50,A 2 i64 v24 0)::W5 v0 a0 v96)) (y0v v71 g6) (fun⟨v94,v95,v96⟩ H=>?_) (fun _ n7 e7 t7=>?_)
    ·refine zB (Z (G11 [p 8 (M i64.sl v23),p 87 (I (a0.2.2.length:Int)),p 88 (I (v71+1))]) ((20,bx 100 (Q4 a0))::(114,A 35 i64.sl v94 0)::(102,A 2 i64 v95 0)::(50,A 2 i64 v24 0)::W5 v0 a0 v96)) H fun H=>b6 H
    refine vB<|qA (Z (G11 [p 8 (M i64.sl v23),p 11 (I v71),p 87 (I (a0.2.2.length:Int)),p 88 (I v71)]) [(50,A 2 i64 v24 0),(20,bx 100 (Q4 a0)),(18,A 105 y105 v0 0),(1,K 34 y34 a0),(38,A 48 y48 v74 0),(102,A 2 i64 v72 0),(114,A 35 i64.sl v73 0)])<|qD (fun v75=>Z (G11 [p 8 (M i64.sl v23),p 11 (I v71),p 87 (I (a0.2.2.length:Int)),p 88 (I v71)]) [(20,bx 100 [L y163 a0.1,L y165 a0.2.1.1,L Ty.str a0.2.1.2.1,L y175 a0.2.1.2.2,L l6 a0.2.2,AV.os 18 0,AV.os 38 0,AV.os 102 1,AV.os 114 0,nil]),(102,A 2 i64 (v72++[v75.getD (Int.toNat (0:Int)) (0:Int)]) 1),(101,A 2 i64 [v75.getD (Int.toNat (0:Int)) (0:Int)] 0),(98,A 2 i64 v75 0),(50,A 2 i64 v24 0),(18,A 105 y105 v0 0),(1,K 34 y34 a0),(38,A 48 y48 v74 0),(114,A 35 i64.sl v73 0)]) H fun v75 H=>qD (fun v76=>Z (G11 [p 8 (M i64.sl v23),p 11 (I v71),p 87 (I (a0.2.2.length:Int)),p 88 (I v71)]) ((20,bx 100 [L y163 a0.1,L y165 a0.2.1.1,L Ty.str a0.2.1.2.1,L y175 a0.2.1.2.2,L l6 a0.2.2,AV.os 18 0,AV.os 38 0,AV.os 102 1,AV.os 114 1,nil])::(114,A 35 i64.sl (v73++[v76]) 1)::(113,A 35 i64.sl [v76] 0)::(102,A 2 i64 (v72++[v75.getD (Int.toNat (0:Int)) (0:Int)]) 1)::(101,A 2 i64 [v75.getD (Int.toNat (0:Int)) (0:Int)] 0)::(98,A 2 i64 v75 0)::(50,A 2 i64 v24 0)::W5 v0 a0 v74)) H fun v76 H=>qB (Z (G11 [p 8 (M i64.sl v23),p 11 (I v71),p 87 (I (a0.2.2.length:Int)),p 88 (I v71),p 120 (M i64 (v23.getD v71.toNat [])),p 121 (I (↑(List.length (v23.getD v71.toNat [])):Int)),p 122 (I (0:Int))]) ((20,bx 100 [L y163 a0.1,L y165 a0.2.1.1,L Ty.str a0.2.1.2.1,L y175 a0.2.1.2.2,L l6 a0.2.2,AV.os 18 0,AV.os 38 0,AV.os 102 1,AV.os 114 1,nil])::(114,A 35 i64.sl (v73++[v76]) 1)::(113,A 35 i64.sl [v76] 0)::(102,A 2 i64 (v72++[v75.getD (Int.toNat (0:Int)) (0:Int)]) 1)::(101,A 2 i64 [v75.getD (Int.toNat (0:Int)) (0:Int)] 0)::(98,A 2 i64 v75 0)::(50,A 2 i64 v24 0)::W5 v0 a0 v74)) H fun H=>vB<|lX (fun((v85,v86):Int×List Y48)=>Z (G11 [p 8 (M i64.sl v23),p 11 (I v71),p 87 (I (a0.2.2.length:Int)),p 88 (I v71),p 120 (M i64 (v23.getD v71.toNat [])),p 121 (I (↑(List.length (v23.getD v71.toNat [])):Int)),p 122 (I v85)]) ((20,bx 100 (Q4 a0))::(114,A 35 i64.sl (v73++[v76]) 0)::(102,A 2 i64 (v72++[v75.getD (Int.toNat (0:Int)) (0:Int)]) 0)::(50,A 2 i64 v24 0)::W5 v0 a0 v86)) (0,v74) H fun _ g8 b8 e8 t8 ⟨v85,v86⟩ H=>qA (Z (G11 [p 8 (M i64.sl v23),p 11 (I v71),p 87 (I (a0.2.2.length:Int)),p 88 (I v71),p 120 (M i64 (v23.getD v71.toNat [])),p 121 (I (↑(List.length (v23.getD v71.toNat [])):Int)),p 122 (I v85),p 123 (B (decide (v85 < (↑(List.length (v23.getD v71.toNat [])):Int))))]) ((20,bx 100 (Q4 a0))::(114,A 35 i64.sl (v73++[v76]) 0)::(102,A 2 i64 (v72++[v75.getD (Int.toNat (0:Int)) (0:Int)]) 0)::(50,A 2 i64 v24 0)::W5 v0 a0 v86))<|vQ<|cD H (fun H=>?_) (fun H=>?_)
    ·refine vK<|fQ<|jN r (fun(v93:List Y48)=>Z (G11 [p 8 (M i64.sl v23),p 11 (I v71),p 87 (I (a0.2.2.length:Int)),p 88 (I v71),p 120 (M i64 (v23.getD v71.toNat [])),p 121 (I (↑(List.length (v23.getD v71.toNat [])):Int)),p 122 (I v85)]) ((20,bx 100 (Q4 a0))::(114,A 35 i64.sl (v73++[v76]) 0)::(102,A 2 i64 (v72++[v75.getD (Int.toNat (0:Int)) (0:Int)]) 0)::(50,A 2 i64 v24 0)::W5 v0 a0 v93)) (y0u v85 g8) (fun v93 H=>?_) (fun _ n9 e9 t9=>?_)
     ·refine zB (Z (G11 [p 8 (M i64.sl v23),p 11 (I v71),p 87 (I (a0.2.2.length:Int)),p 88 (I v71),p 120 (M i64 (v23.getD v71.toNat [])),p 121 (I (↑(List.length (v23.getD v71.toNat [])):Int)),p 122 (I (v85+(1:Int)))]) ((20,bx 100 (Q4 a0))::(114,A 35 i64.sl (v73++[v76]) 0)::(102,A 2 i64 (v72++[v75.getD (Int.toNat (0:Int)) (0:Int)]) 0)::(50,A 2 i64 v24 0)::W5 v0 a0 v93)) H fun H=>b8 H
     refine vB<|qB (Z (G11 [p 8 (M i64.sl v23),p 11 (I v71),p 12 (I v85),p 13 (I (List.getD (v23.getD v71.toNat []) v85.toNat (0:Int))),p 87 (I (a0.2.2.length:Int)),p 88 (I v71),p 120 (M i64 (v23.getD v71.toNat [])),p 121 (I (↑(List.length (v23.getD v71.toNat [])):Int)),p 122 (I v85)]) ((20,bx 100 (Q4 a0))::(114,A 35 i64.sl (v73++[v76]) 0)::(102,A 2 i64 (v72++[v75.getD (Int.toNat (0:Int)) (0:Int)]) 0)::(50,A 2 i64 v24 0)::W5 v0 a0 v86)) H fun H=>qA (Z (G11 [p 8 (M i64.sl v23),p 11 (I v71),p 12 (I v85),p 13 (I (List.getD (v23.getD v71.toNat []) v85.toNat (0:Int))),p 87 (I (a0.2.2.length:Int)),p 88 (I v71),p 120 (M i64 (v23.getD v71.toNat [])),p 121 (I (↑(List.length (v23.getD v71.toNat [])):Int)),p 122 (I v85),p 127 (I (0:Int))]) ((20,bx 100 (Q4 a0))::(114,A 35 i64.sl (v73++[v76]) 0)::(102,A 2 i64 (v72++[v75.getD (Int.toNat (0:Int)) (0:Int)]) 0)::(50,A 2 i64 v24 0)::W5 v0 a0 v86))<|vB<|lX (fun((v89,v90):Int×List Y48)=>Z (G11 [p 8 (M i64.sl v23),p 11 (I v71),p 12 (I v85),p 13 (I (List.getD (v23.getD v71.toNat []) v85.toNat (0:Int))),p 87 (I (a0.2.2.length:Int)),p 88 (I v71),p 120 (M i64 (v23.getD v71.toNat [])),p 121 (I (↑(List.length (v23.getD v71.toNat [])):Int)),p 122 (I v85),p 127 (I v89)]) ((20,bx 100 (Q4 a0))::(114,A 35 i64.sl (v73++[v76]) 0)::(102,A 2 i64 (v72++[v75.getD (Int.toNat (0:Int)) (0:Int)]) 0)::(50,A 2 i64 v24 0)::W5 v0 a0 v90)) (0,v86) H fun _ g10 b10 e10 t10 ⟨v89,v90⟩ H=>qA (Z (G11 [p 8 (M i64.sl v23),p 11 (I v71),p 12 (I v85),p 13 (I (List.getD (v23.getD v71.toNat []) v85.toNat (0:Int))),p 87 (I (a0.2.2.length:Int)),p 88 (I v71),p 120 (M i64 (v23.getD v71.toNat [])),p 121 (I (↑(List.length (v23.getD v71.toNat [])):Int)),p 122 (I v85),p 127 (I v89),p 128 (B (decide (v89 < (2:Int))))]) ((20,bx 100 (Q4 a0))::(114,A 35 i64.sl (v73++[v76]) 0)::(102,A 2 i64 (v72++[v75.getD (Int.toNat (0:Int)) (0:Int)]) 0)::(50,A 2 i64 v24 0)::W5 v0 a0 v90))<|vQ<|cD H (fun H=>?_) (fun H=>?_)
     ·refine vK<|fQ<|vQ<|vB<|qA (Z (G11 [p 8 (M i64.sl v23),p 11 (I v71),p 12 (I v85),p 13 (I (List.getD (v23.getD v71.toNat []) v85.toNat (0:Int))),p 14 (I v89),p 87 (I (a0.2.2.length:Int)),p 88 (I v71),p 120 (M i64 (v23.getD v71.toNat [])),p 121 (I (↑(List.length (v23.getD v71.toNat [])):Int)),p 122 (I v85),p 127 (I v89)]) ((20,bx 100 (Q4 a0))::(114,A 35 i64.sl (v73++[v76]) 0)::(102,A 2 i64 (v72++[v75.getD (Int.toNat (0:Int)) (0:Int)]) 0)::(50,A 2 i64 v24 0)::W5 v0 a0 v90))<|zD (fun(v91,v92)=>Z (G11 [p 8 (M i64.sl v23),p 11 (I v71),p 12 (I v85),p 13 (I (List.getD (v23.getD v71.toNat []) v85.toNat (0:Int))),p 87 (I (a0.2.2.length:Int)),p 88 (I v71),p 120 (M i64 (v23.getD v71.toNat [])),p 121 (I (↑(List.length (v23.getD v71.toNat [])):Int)),p 122 (I v85),p 127 (I v89)]) ((20,bx 100 [L y163 a0.1,L y165 a0.2.1.1,L Ty.str a0.2.1.2.1,L y175 a0.2.1.2.2,L l6 a0.2.2,AV.os 18 0,AV.os 38 1,AV.os 102 0,AV.os 114 0,nil])::(38,A 48 y48 v91 1)::(148,A 48 y48 v92 0)::(114,A 35 i64.sl (v73++[v76]) 0)::(102,A 2 i64 (v72++[v75.getD (Int.toNat (0:Int)) (0:Int)]) 0)::(50,A 2 i64 v24 0)::W87 v0 a0)) H fun⟨v91,v92⟩ H =>
       fK<|fQ <|
       zB (Z (G11 [p 8 (M i64.sl v23),p 11 (I v71),p 12 (I v85),p 13 (I (List.getD (v23.getD v71.toNat []) v85.toNat (0:Int))),p 87 (I (a0.2.2.length:Int)),p 88 (I v71),p 120 (M i64 (v23.getD v71.toNat [])),p 121 (I (↑(List.length (v23.getD v71.toNat [])):Int)),p 122 (I v85),p 127 (I (v89+(1:Int)))]) ((20,bx 100 [L y163 a0.1,L y165 a0.2.1.1,L Ty.str a0.2.1.2.1,L y175 a0.2.1.2.2,L l6 a0.2.2,AV.os 18 0,AV.os 38 1,AV.os 102 0,AV.os 114 0,nil])::(38,A 48 y48 v91 1)::(148,A 48 y48 v92 0)::(114,A 35 i64.sl (v73++[v76]) 0)::(102,A 2 i64 (v72++[v75.getD (Int.toNat (0:Int)) (0:Int)]) 0)::(50,A 2 i64 v24 0)::W87 v0 a0)) H fun H =>
       b10 H
     exact vE<|fE<|e10<|fX rfl<|fK<|n9 H
    exact vE<|fE<|e8<|fX rfl<|fK<|n7 H
   exact vE<|fE<|e6<|fX rfl<|n5 H
  refine qA (Z (G11 [p 8 (AV.og 54),p 58 (O 18),p 59 (I (v0.length:Int)),p 60 (I 0)]) ((54,Ob.grd 35 2 true i64 (List.replicate (a0.2.2.length:Int).toNat []) none)::(50,A 2 i64 (List.replicate (a0.2.2.length:Int).toNat 0) 0)::(20,bx 100 (Q5 a0))::W5 v0 a0 v10))<|vB<|lX (fun((v16,v17,v18):Int×List (List Int)×List Int)=>Z (G11 [p 8 (AV.og 54),p 58 (O 18),p 59 (I (v0.length:Int)),p 60 (I v16)]) ((54,Ob.grd 35 2 true i64 v17 none)::(50,A 2 i64 v18 0)::(20,bx 100 (Q5 a0))::W5 v0 a0 v10)) ((0,List.replicate (a0.2.2.length:Int).toNat [],List.replicate (a0.2.2.length:Int).toNat 0)) H fun _ g3 b3 e3 t3 ⟨v16,v17,v18⟩ H=>qA (Z (G11 [p 8 (AV.og 54),p 58 (O 18),p 59 (I (v0.length:Int)),p 60 (I v16),p 61 (B (decide (v16 < (v0.length:Int))))]) ((54,Ob.grd 35 2 true i64 v17 none)::(50,A 2 i64 v18 0)::(20,bx 100 (Q5 a0))::W5 v0 a0 v10))<|vQ<|cD H (fun H=>?_) (fun H=>?_)
  ·refine vK<|fQ<|jN r (fun((v21,v22):List Int×List (List Int))=>Z (G11 [p 8 (AV.og 54),p 58 (O 18),p 59 (I (v0.length:Int)),p 60 (I v16)]) ((50,A 2 i64 v21 0)::(54,Ob.grd 35 2 true i64 v22 none)::(20,bx 100 (Q5 a0))::W5 v0 a0 v10)) (t0A v16 g3) (fun⟨v21,v22⟩ H=>?_) (fun _ n4 e4 t4=>?_)
   ·refine zB (Z (G11 [p 8 (AV.og 54),p 58 (O 18),p 59 (I (v0.length:Int)),p 60 (I (v16+1))]) ((50,A 2 i64 v21 0)::(54,Ob.grd 35 2 true i64 v22 none)::(20,bx 100 (Q5 a0))::W5 v0 a0 v10)) H fun H=>b3 H
   refine vB<|qD (fun v19=>Z (G11 [p 8 (AV.og 54),p 9 (I v16),p 10 (R 10),p 58 (O 18),p 59 (I (v0.length:Int)),p 60 (I v16)]) ((10,bx 105 (u1 true y105 v19))::(54,Ob.grd 35 2 true i64 v17 none)::(50,A 2 i64 v18 0)::(20,bx 100 (Q5 a0))::W5 v0 a0 v10)) H fun v19 H=>qA (Z (G11 [p 8 (AV.og 54),p 9 (I v16),p 10 (R 10),p 58 (O 18),p 59 (I (v0.length:Int)),p 60 (I v16),p 66 (B v19.2.2.2)]) ((10,bx 105 (u1 true y105 v19))::(54,Ob.grd 35 2 true i64 v17 none)::(50,A 2 i64 v18 0)::(20,bx 100 (Q5 a0))::W5 v0 a0 v10))<|cD H (fun H=>?_) (fun H=>?_)
   ·refine zB (Z (G11 [p 8 (AV.og 54),p 58 (O 18),p 59 (I (v0.length:Int)),p 60 (I v16)]) ((50,A 2 i64 (v18.set v19.2.2.1.toNat v16) 0)::(10,bx 105 (u1 true y105 v19))::(54,Ob.grd 35 2 true i64 v17 none)::(20,bx 100 (Q5 a0))::W5 v0 a0 v10)) H fun H=>fK<|n4 H
   refine zD (fun v20=>Z (G11 [p 8 (AV.og 54),p 58 (O 18),p 59 (I (v0.length:Int)),p 60 (I v16)]) ((54,Ob.grd 35 2 true i64 v20 none)::(79,A 2 i64 [] 2)::(81,A 2 i64 [v16] 0)::(10,bx 105 (u1 true y105 v19))::(50,A 2 i64 v18 0)::(20,bx 100 (Q5 a0))::W5 v0 a0 v10)) H fun v20 H=>fK<|n4 H
  exact vE<|fE<|e3<|fX rfl<|n2 H
 refine qA (Z (G85 [p 4 (I 0),p 23 (L y165 a0.2.1.1),p 24 (I (a0.2.1.1.length:Int)),p 25 (I 0)]) ((20,bx 100 (Q12 a0))::W87 v0 a0))<|vB<|lX (fun((v4,v5,v6):Int×Int×List Y48)=>Z (G85 [p 4 (I v4),p 23 (L y165 a0.2.1.1),p 24 (I (a0.2.1.1.length:Int)),p 25 (I v5)]) ((20,bx 100 (Q5 a0))::W5 v0 a0 v6)) (0,0,[]) H fun _ g1 b1 e1 t1 ⟨v4,v5,v6⟩ H=>qA (Z (G85 [p 4 (I v4),p 23 (L y165 a0.2.1.1),p 24 (I (a0.2.1.1.length:Int)),p 25 (I v5),p 26 (B (decide (v5 < (a0.2.1.1.length:Int))))]) ((20,bx 100 (Q5 a0))::W5 v0 a0 v6))<|vQ<|cD H (fun H=>?_) (fun H=>?_)
 ·refine vK<|fQ<|vQ<|vB<|qD (fun v7=>Z (G85 [p 4 (I v4),p 6 (R 6),p 23 (L y165 a0.2.1.1),p 24 (I (a0.2.1.1.length:Int)),p 25 (I v5)]) ((6,K 165 y165 v7)::(20,bx 100 (Q5 a0))::W5 v0 a0 v6)) H fun v7 H=>qD (fun v8=>Z (G85 [p 4 (I v4),p 6 (R 6),p 23 (L y165 a0.2.1.1),p 24 (I (a0.2.1.1.length:Int)),p 25 (I v5)]) ((20,bx 100 (Q11 a0))::(38,A 48 y48 (v6++v8) 1)::(37,A 48 y48 v8 0)::(6,K 165 y165 v7)::W87 v0 a0)) H fun v8 H=>zD (fun v9=>Z (G85 [p 4 (I (v4+v9)),p 23 (L y165 a0.2.1.1),p 24 (I (a0.2.1.1.length:Int)),p 25 (I v5)]) ((20,bx 100 (Q11 a0))::(38,A 48 y48 (v6++v8) 1)::(37,A 48 y48 v8 0)::(6,K 165 y165 v7)::W87 v0 a0)) H fun v9 H=>fK<|fQ<|zB (Z (G85 [p 4 (I (v4+v9)),p 23 (L y165 a0.2.1.1),p 24 (I (a0.2.1.1.length:Int)),p 25 (I (v5+1))]) ((20,bx 100 (Q11 a0))::(38,A 48 y48 (v6++v8) 1)::(37,A 48 y48 v8 0)::(6,K 165 y165 v7)::W87 v0 a0)) H fun H=>b1 H
 exact vE<|fE<|e1<|fX rfl<|n0 H
def w0x:Unit->Option (Bool)
 | _ =>
 some true
def w0w(a0:x9)(g1:Int->Option (Bool)):Int->Option (Bool)
 | v0 =>
 if(decide (v0 < (a0.1.length:Int)))=true then
  gd (ix v0 a0.1.length/\True) <|
  gd (((a0.1.getD v0.toNat (0:Int) != (-1:Int))=false/\(v0==(0:Int))=true/\True->ix (0:Int) a0.2.1.length)/\(decide ((0:Int)<v0)=true/\(v0==(0:Int)&&(a0.1.getD v0.toNat (0:Int) != (-1:Int)||a0.2.1.getD (Int.toNat (0:Int)) (0:Int) != (0:Int)))=false/\True->l3 (v0-(1:Int)))/\(decide ((0:Int)<v0)=true/\(v0==(0:Int)&&(a0.1.getD v0.toNat (0:Int) != (-1:Int)||a0.2.1.getD (Int.toNat (0:Int)) (0:Int) != (0:Int)))=false/\True->(w8 (a0.1.getD v0.toNat (0:Int)) (0:Int) (v0-(1:Int))).isSome=true)/\True) <|
  if(v0==(0:Int)&&(a0.1.getD v0.toNat (0:Int) != (-1:Int)||a0.2.1.getD (Int.toNat (0:Int)) (0:Int) != (0:Int))||decide ((0:Int)<v0)&&!vl (w8 (a0.1.getD v0.toNat (0:Int)) (0:Int) (v0-(1:Int))))=true then
   some false
  else
   gd (l3 (v0+1)/\True) <|
   g1 (v0+1)
 else
  w0x ()
def t0k(a0:x9):Option (Bool) :=
 lp (w0w a0) 0
def J0W:Ct:=lct 181 [.agg l6] (fun x=>t0k x.1) (fun r:Bool=>B r) (fun _=>())
theorem I0r:Ok prog J0W:=by
 refine okL [.tmp 2] func181 ntmps181 results181 ?_;intro y ⟨a0,_⟩ r H Q hn hr;have:HT _ _:=⟨tc p0Y tn⟩;refine qA (Z [p 1 (R 1)] [(1,K 110 l6 a0)])<|jN r (fun(_:Unit)=>Z [] []) (w0x) (fun _ H=>?_) (fun _ n0 e0 t0=>?_)
 ·refine qA (Z [p 2 (B true)] [])<|vTT<|hr H
 refine qA (Z [p 1 (R 1),p 6 (L i64 a0.1),p 7 (I (a0.1.length:Int)),p 8 (I 0)] [(1,K 110 l6 a0)])<|vB<|lX (fun(v0:Int)=>Z [p 1 (R 1),p 6 (L i64 a0.1),p 7 (I (a0.1.length:Int)),p 8 (I v0)] [(1,K 110 l6 a0)]) 0 H fun _ g1 b1 e1 t1 v0 H=>qA (Z [p 1 (R 1),p 6 (L i64 a0.1),p 7 (I (a0.1.length:Int)),p 8 (I v0),p 9 (B (decide (v0 < (a0.1.length:Int))))] [(1,K 110 l6 a0)])<|vQ<|cD H (fun H=>?_) (fun H=>?_)
 ·refine vK<|fQ<|vQ<|vB<|qB (Z (G16 v0 [p 4 (J (a0.1.getD v0.toNat 0)),p 6 (L i64 a0.1),p 7 (I (a0.1.length:Int)),p 8 (I v0)]) [(1,K 110 l6 a0)]) H fun H=>qB (Z [p 1 (R 1),p 6 (L i64 a0.1),p 7 (I (a0.1.length:Int)),p 8 (I v0),p 36 (B (v0==(0:Int)&&(a0.1.getD v0.toNat (0:Int) != (-1:Int)||a0.2.1.getD (Int.toNat (0:Int)) (0:Int) != (0:Int))||decide ((0:Int)<v0)&&!vl (w8 (a0.1.getD v0.toNat (0:Int)) (0:Int) (v0-(1:Int)))))] [(1,K 110 l6 a0)]) H fun H=>cD H (fun H=>?_) (fun H=>?_)
  ·refine qA (Z [p 2 (B false)] [(1,K 110 l6 a0)])<|vTT<|fDD<|fR<|t1<|fDD<|t0<|hr H
  refine vK<|fK<|fQ<|zB (Z [p 1 (R 1),p 6 (L i64 a0.1),p 7 (I (a0.1.length:Int)),p 8 (I (v0+1))] [(1,K 110 l6 a0)]) H fun H=>b1 H
 exact vE<|fE<|e1<|fX rfl<|n0 H
def A0p(a0:x9)(a1:Int):Option (Bool) :=
 gd ((C5 a0.1).isSome=true/\True)<|lt (vl (C5 a0.1)) fun v0 =>
 gd ((w8 v0 1 8).isSome=true/\(vl (w8 v0 1 8)=true/\True->(C5 a0.2.1).isSome=true)/\((vl (w8 v0 1 8)&&vl (C5 a0.2.1)==v0)=true/\True->(C5 a0.2.2.1).isSome=true)/\((vl (w8 v0 1 8)&&vl (C5 a0.2.1)==v0&&vl (C5 a0.2.2.1)==v0)=true/\True->(t0k a0).isSome=true)/\((vl (w8 v0 1 8)&&vl (C5 a0.2.1)==v0&&vl (C5 a0.2.2.1)==v0&&vl (t0k a0))=true/\True->(D6 a0.2.1 0 1000).isSome=true)/\((vl (w8 v0 1 8)&&vl (C5 a0.2.1)==v0&&vl (C5 a0.2.2.1)==v0&&vl (t0k a0)&&vl (D6 a0.2.1 0 1000))=true/\True->(D6 a0.2.2.1 0 500).isSome=true)/\((vl (w8 v0 1 8)&&vl (C5 a0.2.1)==v0&&vl (C5 a0.2.2.1)==v0&&vl (t0k a0)&&vl (D6 a0.2.1 0 1000)&&vl (D6 a0.2.2.1 0 500))=true/\True->(C5 a0.2.2.2).isSome=true)/\((vl (w8 v0 1 8)&&vl (C5 a0.2.1)==v0&&vl (C5 a0.2.2.1)==v0&&vl (t0k a0)&&vl (D6 a0.2.1 0 1000)&&vl (D6 a0.2.2.1 0 500)&&vl (C5 a0.2.2.2)==a1)=true/\True->l3 (v0-1))/\((vl (w8 v0 1 8)&&vl (C5 a0.2.1)==v0&&vl (C5 a0.2.2.1)==v0&&vl (t0k a0)&&vl (D6 a0.2.1 0 1000)&&vl (D6 a0.2.2.1 0 500)&&vl (C5 a0.2.2.2)==a1)=true/\True->(D6 a0.2.2.2 0 (v0-1)).isSome=true)/\True)<|lt ((vl (C5 a0.2.1),vl (C5 a0.2.2.1),vl (C5 a0.2.2.2))) fun(v1,v2,v3) =>
 some (vl (w8 v0 1 8)&&v1==v0&&v2==v0&&vl (t0k a0)&&vl (D6 a0.2.1 0 1000)&&vl (D6 a0.2.2.1 0 500)&&v3==a1&&vl (D6 a0.2.2.2 0 (v0-1)))
def K0B:Ct:=lct 127 [.agg l6,.dat i64] (fun x=>A0p x.1 x.2.1) (fun r:Bool=>B r) (fun _=>())
theorem I0K:Ok prog K0B:=by
 refine okL [.tmp 4] func127 ntmps127 results127 ?_;intro y ⟨a0,a1,_⟩ r H Q hn hr;have:HT _ _:=⟨tc C0k (tc E0K (tc I0r (tc p0Y tn)))⟩;refine qA (Z (G33 a1 []) [(2,K 110 l6 a0)])<|qD (fun v0=>Z (G33 a1 [p 5 (I v0)]) [(2,K 110 l6 a0)]) H fun v0 H=>qD (fun(v1,v2,v3)=>Z [p 4 (B (vl (w8 v0 1 8)&&v1==v0&&v2==v0&&vl (t0k a0)&&vl (D6 a0.2.1 0 1000)&&vl (D6 a0.2.2.1 0 500)&&v3==a1&&vl (D6 a0.2.2.2 0 (v0-1))))] [(2,K 110 l6 a0)]) H fun⟨v1,v2,v3⟩ H =>
  vTT<|hr H
def D0s(a0:Int):Option (Bool) :=
 some (a0 != 1)
def J0X:Ct:=lct 180 [.dat i64] (fun x=>D0s x.1) (fun r:Bool=>B r) (fun _=>())
theorem E0G:Ok prog J0X:=by
 refine okL [.tmp 2] func180 ntmps180 results180 ?_;intro y ⟨a0,_⟩ r H Q hn hr;have:HT _ _:=⟨@tn prog⟩;refine qA (Z [p 0 (J a0)] [])<|qA (Z [p 2 (B (a0 != 1))] [])<|vTT<|hr H
def y0D(a0:List ByteArray):Option (Int) :=
 some (a0.length:Int)
def J0G:Ct:=lct 216 [.dat Ty.str.sl] (fun x=>y0D x.1) (fun r:Int=>I r) (fun _=>())
theorem I0g:Ok prog J0G:=by
 refine okL [.tmp 2] func216 ntmps216 results216 ?_;intro y ⟨a0,_⟩ r H Q hn hr;have:HT _ _:=⟨@tn prog⟩;refine qA (Z [p 0 (L Ty.str a0)] [])<|qA (Z [p 2 (I (a0.length:Int))] [])<|vTT<|hr H
def t0M(a0:Y31)(a1:Int):Option (Bool) :=
 gd ((y0D a0.2.1).isSome=true/\l3 (vl (y0D a0.2.1)-1)/\(w8 a1 0 (vl (y0D a0.2.1)-1)).isSome=true/\True) <|
 some (vl (w8 a1 0 (vl (y0D a0.2.1)-1)))
def J0Y:Ct:=lct 178 [.agg y31,.dat i64] (fun x=>t0M x.1 x.2.1) (fun r:Bool=>B r) (fun _=>())
theorem F0I:Ok prog J0Y:=by
 refine okL [.tmp 4] func178 ntmps178 results178 ?_;intro y ⟨a0,a1,_⟩ r H Q hn hr;have:HT _ _:=⟨tc p0Y (tc I0g tn)⟩;refine qA (Z (G33 a1 []) [(2,K 31 y31 a0)])<|qB (Z [p 4 (B (vl (w8 a1 0 (vl (y0D a0.2.1)-1))))] [(2,K 31 y31 a0)]) H fun H=>vTT<|hr H
def t0J(a0:List m4):Option (Int) :=
 some (a0.length:Int)
def J0I:Ct:=lct 214 [.dat y163.sl] (fun x=>t0J x.1) (fun r:Int=>I r) (fun _=>())
theorem I0h:Ok prog J0I:=by
 refine okL [.tmp 2] func214 ntmps214 results214 ?_;intro y ⟨a0,_⟩ r H Q hn hr;have:HT _ _:=⟨@tn prog⟩;refine qA (Z [p 0 (L y163 a0)] [])<|qA (Z [p 2 (I (a0.length:Int))] [])<|vTT<|hr H
def A0g(a0:Int)(a1:Y31):Option (Bool) :=
 gd ((t0M a1 a0).isSome=true/\True) <|
 some (!vl (t0M a1 a0))
def J0H:Ct:=lct 215 [.dat i64,.dat (.pt y31)] (fun x=>A0g x.1 x.2.1) (fun r:Bool=>B r) (fun _=>())
theorem E0B:Ok prog J0H:=by
 refine okL [.tmp 3] func215 ntmps215 results215 ?_;intro y ⟨a0,a1,_⟩ r H Q hn hr;have:HT _ _:=⟨tc F0I tn⟩;refine qA (Z [p 0 (J a0),p 1 (D y31.pt a1)] [])<|qB (Z [p 3 (B !vl (t0M a1 a0))] []) H fun H=>vTT<|hr H
def i0s:Unit->Option (Int)
 | _ =>
 some (-1)
def p0d(a0:List Int)(a1:Y31)(g1:Int->Option (Int)):Int->Option (Int)
 | v0 =>
 if(decide (v0 < (a0.length:Int)))=true then
  gd (ix v0 a0.length/\(A0g (a0.getD v0.toNat 0) a1).isSome=true/\True) <|
  if(vl (A0g (a0.getD v0.toNat 0) a1))=true then
   some v0
  else
   gd (l3 (v0+1)/\True) <|
   g1 (v0+1)
 else
  i0s ()
def g0u(a0:List Int)(a1:Y31):Option (Int) :=
 lp (p0d a0 a1) 0
def u0W:Ct:=lct 241 [.dat i64.sl,.fn 215 y31.pt] (fun x=>g0u x.1 x.2.1) (fun r:Int=>I r) (fun _=>())
theorem u0A:Ok prog u0W:=by
 refine okL [.tmp 4] func241 ntmps241 results241 ?_;intro y ⟨a0,a1,_⟩ r H Q hn hr;have:HT _ _:=⟨tc E0B tn⟩;refine qA (Z [p 0 (L i64 a0),p 1 (AV.fn 215 [D y31.pt a1])] [])<|jN r (fun(_:Unit)=>Z [] []) (i0s) (fun _ H=>?_) (fun _ n0 e0 t0=>?_)
 ·refine qA (Z [p 4 (I (-1))] [])<|vTT<|hr H
 refine qA (Z [p 0 (L i64 a0),p 1 (AV.fn 215 [D y31.pt a1]),p 7 (I (a0.length:Int)),p 8 (I 0)] [])<|vB<|lX (fun(v0:Int)=>Z [p 0 (L i64 a0),p 1 (AV.fn 215 [D y31.pt a1]),p 7 (I (a0.length:Int)),p 8 (I v0)] []) 0 H fun _ g1 b1 e1 t1 v0 H=>qA (Z [p 0 (L i64 a0),p 1 (AV.fn 215 [D y31.pt a1]),p 7 (I (a0.length:Int)),p 8 (I v0),p 9 (B (decide (v0 < (a0.length:Int))))] [])<|vQ<|cD H (fun H=>?_) (fun H=>?_)
 ·refine vK<|fQ<|vQ<|vB<|qA (Z [p 0 (L i64 a0),p 1 (AV.fn 215 [D y31.pt a1]),p 5 (I v0),p 7 (I (a0.length:Int)),p 8 (I v0)] [])<|qB (Z [p 0 (L i64 a0),p 1 (AV.fn 215 [D y31.pt a1]),p 5 (I v0),p 7 (I (a0.length:Int)),p 8 (I v0),p 16 (B (vl (A0g (a0.getD v0.toNat 0) a1)))] []) H fun H=>cD H (fun H=>?_) (fun H=>?_)
  ·refine qA (Z [p 4 (I v0)] [])<|vTT<|fDD<|fR<|t1<|fDD<|t0<|hr H
  refine vK<|fK<|fQ<|zB (Z [p 0 (L i64 a0),p 1 (AV.fn 215 [D y31.pt a1]),p 7 (I (a0.length:Int)),p 8 (I (v0+1))] []) H fun H=>b1 H
 exact vE<|fE<|e1<|fX rfl<|n0 H
def e0X(a0:List Int)(a1:Y31):Option (Bool) :=
 gd ((g0u a0 a1).isSome=true/\True)<|lt (vl (g0u a0 a1)) fun v0 =>
 some (decide (0<=v0))
def u0Z:Ct:=lct 210 [.dat i64.sl,.fn 215 (.pt y31)] (fun x=>e0X x.1 x.2.1) (fun r:Bool=>B r) (fun _=>())
theorem u0C:Ok prog u0Z:=by
 refine okL [.tmp 4] func210 ntmps210 results210 ?_;intro y ⟨a0,a1,_⟩ r H Q hn hr;have:HT _ _:=⟨tc n0X (tc u0A (tc E0B tn))⟩;refine qA (Z [p 0 (L i64 a0),p 1 (AV.fn 215 [D y31.pt a1])] [])<|qD (fun v0=>Z [p 4 (B (decide (0<=v0)))] []) H fun v0 H=>vTT<|hr H
def A0k(a0:Y31)(a1:List m4)(a2:m7):Option (Bool) :=
 gd ((t0J a1).isSome=true/\l3 (vl (t0J a1)-1)/\(w8 a2.2.1 0 (vl (t0J a1)-1)).isSome=true/\(vl (w8 a2.2.1 0 (vl (t0J a1)-1))=true/\True->ix a2.2.1 a1.length)/\((vl (w8 a2.2.1 0 (vl (t0J a1)-1))&&(a2.2.2.length:Int)==(↑(a1.getD a2.2.1.toNat (d6 y163)).2.2.1.length:Int))=true/\True->(e0X a2.2.2 a0).isSome=true)/\True) <|
 some (vl (w8 a2.2.1 0 (vl (t0J a1)-1))&&(a2.2.2.length:Int)==(↑(a1.getD a2.2.1.toNat (d6 y163)).2.2.1.length:Int)&&!vl (e0X a2.2.2 a0))
def J0Z:Ct:=lct 177 [.agg y31,.agg y163.sl,.agg y165] (fun x=>A0k x.1 x.2.1 x.2.2.1) (fun r:Bool=>B r) (fun _=>())
theorem I0s:Ok prog J0Z:=by
 refine okL [.tmp 6] func177 ntmps177 results177 ?_;intro y ⟨a0,a1,a2,_⟩ r H Q hn hr;have:HT _ _:=⟨tc n0Y (tc u0C (tc E0B (tc p0Y (tc I0h tn))))⟩;refine qA (Z [p 3 (R 3),p 4 (R 4),p 5 (R 5)] ((5,K 165 y165 a2)::W97 a1 a0))<|qB (Z [p 6 (B (vl (w8 a2.2.1 0 (vl (t0J a1)-1))&&(a2.2.2.length:Int)==(↑(a1.getD a2.2.1.toNat (d6 y163)).2.2.1.length:Int)&&!vl (e0X a2.2.2 a0)))] ((5,K 165 y165 a2)::W97 a1 a0)) H fun H=>vTT<|hr H
def v0Y:Unit->Option (Int)
 | _ =>
 some (-1)
def B0w(a1:ByteArray)(a0:List ByteArray)(g1:Int->Option (Int)):Int->Option (Int)
 | v0 =>
 if(decide (v0 < (a0.length:Int)))=true then
  gd (ix v0 a0.length/\True) <|
  if(decide (a1=a0.getD v0.toNat (d6 Ty.str)))=true then
   some v0
  else
   gd (l3 (v0+1)/\True) <|
   g1 (v0+1)
 else
  v0Y ()
def D0p(a0:List ByteArray)(a1:ByteArray):Option (Int) :=
 lp (B0w a1 a0) 0
def J0p:Ct:=lct 264 [.dat Ty.str.sl,.dat Ty.str] (fun x=>D0p x.1 x.2.1) (fun r:Int=>I r) (fun _=>())
theorem H0S:Ok prog J0p:=by
 refine okL [.tmp 4] func264 ntmps264 results264 ?_;intro y ⟨a0,a1,_⟩ r H Q hn hr;have:HT _ _:=⟨@tn prog⟩;refine qA (Z [p 0 (L Ty.str a0),p 1 (U a1)] [])<|jN r (fun(_:Unit)=>Z [] []) (v0Y) (fun _ H=>?_) (fun _ n0 e0 t0=>?_)
 ·refine qA (Z [p 4 (I (-1))] [])<|vTT<|hr H
 refine qA (Z [p 0 (L Ty.str a0),p 1 (U a1),p 7 (I (a0.length:Int)),p 8 (I 0)] [])<|vB<|lX (fun(v0:Int)=>Z [p 0 (L Ty.str a0),p 1 (U a1),p 7 (I (a0.length:Int)),p 8 (I v0)] []) 0 H fun _ g1 b1 e1 t1 v0 H=>qA (Z [p 0 (L Ty.str a0),p 1 (U a1),p 7 (I (a0.length:Int)),p 8 (I v0),p 9 (B (decide (v0 < (a0.length:Int))))] [])<|vQ<|cD H (fun H=>?_) (fun H=>?_)
 ·refine vK<|fQ<|vQ<|vB<|qA (Z [p 0 (L Ty.str a0),p 1 (U a1),p 5 (I v0),p 7 (I (a0.length:Int)),p 8 (I v0)] [])<|qB (Z [p 0 (L Ty.str a0),p 1 (U a1),p 5 (I v0),p 7 (I (a0.length:Int)),p 8 (I v0),p 16 (B (decide (a1=a0.getD v0.toNat (d6 Ty.str))))] []) H fun H=>cD H (fun H=>?_) (fun H=>?_)
  ·refine qA (Z [p 4 (I v0)] [])<|vTT<|fDD<|fR<|t1<|fDD<|t0<|hr H
  refine vK<|fK<|fQ<|zB (Z [p 0 (L Ty.str a0),p 1 (U a1),p 7 (I (a0.length:Int)),p 8 (I (v0+1))] []) H fun H=>b1 H
 exact vE<|fE<|e1<|fX rfl<|n0 H
def B0x(a0:List ByteArray)(a1:ByteArray):Option (Bool) :=
 gd ((D0p a0 a1).isSome=true/\True)<|lt (vl (D0p a0 a1)) fun v0 =>
 some (decide (0<=v0))
def J0x:Ct:=lct 245 [.dat Ty.str.sl,.dat Ty.str] (fun x=>B0x x.1 x.2.1) (fun r:Bool=>B r) (fun _=>())
theorem H0X:Ok prog J0x:=by
 refine okL [.tmp 4] func245 ntmps245 results245 ?_;intro y ⟨a0,a1,_⟩ r H Q hn hr;have:HT _ _:=⟨tc H0S tn⟩;refine qA (Z [p 0 (L Ty.str a0),p 1 (U a1)] [])<|qD (fun v0=>Z [p 4 (B (decide (0<=v0)))] []) H fun v0 H=>vTT<|hr H
def R2(a0:ByteArray):Option (Bool) :=
 gd ((w8 (a0.size:Int) (1:Int) (8:Int)).isSome=true/\(vl (w8 (a0.size:Int) (1:Int) (8:Int))=true/\True->(w0I a0 (ByteArray.mk #[(97:UInt8),(98:UInt8),(99:UInt8),(100:UInt8),(101:UInt8),(102:UInt8),(103:UInt8),(104:UInt8),(105:UInt8),(106:UInt8),(107:UInt8),(108:UInt8),(109:UInt8),(110:UInt8),(111:UInt8),(112:UInt8),(113:UInt8),(114:UInt8),(115:UInt8),(116:UInt8),(117:UInt8),(118:UInt8),(119:UInt8),(120:UInt8),(121:UInt8),(122:UInt8),(48:UInt8),(49:UInt8),(50:UInt8),(51:UInt8),(52:UInt8),(53:UInt8),(54:UInt8),(55:UInt8),(56:UInt8),(57:UInt8)])).isSome=true)/\((vl (w8 (a0.size:Int) (1:Int) (8:Int))&&decide (vl (w0I a0 (ByteArray.mk #[(97:UInt8),(98:UInt8),(99:UInt8),(100:UInt8),(101:UInt8),(102:UInt8),(103:UInt8),(104:UInt8),(105:UInt8),(106:UInt8),(107:UInt8),(108:UInt8),(109:UInt8),(110:UInt8),(111:UInt8),(112:UInt8),(113:UInt8),(114:UInt8),(115:UInt8),(116:UInt8),(117:UInt8),(118:UInt8),(119:UInt8),(120:UInt8),(121:UInt8),(122:UInt8),(48:UInt8),(49:UInt8),(50:UInt8),(51:UInt8),(52:UInt8),(53:UInt8),(54:UInt8),(55:UInt8),(56:UInt8),(57:UInt8)]))=ByteArray.mk #[]))=true/\True->ix (0:Int) a0.size)/\((vl (w8 (a0.size:Int) (1:Int) (8:Int))&&decide (vl (w0I a0 (ByteArray.mk #[(97:UInt8),(98:UInt8),(99:UInt8),(100:UInt8),(101:UInt8),(102:UInt8),(103:UInt8),(104:UInt8),(105:UInt8),(106:UInt8),(107:UInt8),(108:UInt8),(109:UInt8),(110:UInt8),(111:UInt8),(112:UInt8),(113:UInt8),(114:UInt8),(115:UInt8),(116:UInt8),(117:UInt8),(118:UInt8),(119:UInt8),(120:UInt8),(121:UInt8),(122:UInt8),(48:UInt8),(49:UInt8),(50:UInt8),(51:UInt8),(52:UInt8),(53:UInt8),(54:UInt8),(55:UInt8),(56:UInt8),(57:UInt8)]))=ByteArray.mk #[]))=true/\True->(D0v (ByteArray.mk #[(97:UInt8),(98:UInt8),(99:UInt8),(100:UInt8),(101:UInt8),(102:UInt8),(103:UInt8),(104:UInt8),(105:UInt8),(106:UInt8),(107:UInt8),(108:UInt8),(109:UInt8),(110:UInt8),(111:UInt8),(112:UInt8),(113:UInt8),(114:UInt8),(115:UInt8),(116:UInt8),(117:UInt8),(118:UInt8),(119:UInt8),(120:UInt8),(121:UInt8),(122:UInt8)]) (B8 a0 (Int.toNat (0:Int)))).isSome=true)/\True)<|lt ((vl (w0I a0 (ByteArray.mk #[97,98,99,100,101,102,103,104,105,106,107,108,109,110,111,112,113,114,115,116,117,118,119,120,121,122,48,49,50,51,52,53,54,55,56,57])),vl (D0v (ByteArray.mk #[(97:UInt8),(98:UInt8),(99:UInt8),(100:UInt8),(101:UInt8),(102:UInt8),(103:UInt8),(104:UInt8),(105:UInt8),(106:UInt8),(107:UInt8),(108:UInt8),(109:UInt8),(110:UInt8),(111:UInt8),(112:UInt8),(113:UInt8),(114:UInt8),(115:UInt8),(116:UInt8),(117:UInt8),(118:UInt8),(119:UInt8),(120:UInt8),(121:UInt8),(122:UInt8)]) (B8 a0 (Int.toNat (0:Int)))))) fun(v0,v1) =>
 some (vl (w8 (a0.size:Int) 1 8)&&decide (v0=ByteArray.mk #[])&&decide (0<=v1))
def K0P:Ct:=lct 109 [.dat Ty.str] (fun x=>R2 x.1) (fun r:Bool=>B r) (fun _=>())
theorem F0P:Ok prog K0P:=by
 refine okL [.tmp 2] func109 ntmps109 results109 ?_;intro y ⟨a0,_⟩ r H Q hn hr;have:HT _ _:=⟨tc I0w (tc I0x (tc p0Y tn))⟩;refine qA (Z [p 0 (U a0)] [])<|qD (fun(v0,v1)=>Z [p 2 (B (vl (w8 (a0.size:Int) 1 8)&&decide (v0=ByteArray.mk #[])&&decide (0<=v1)))] []) H fun⟨v0,v1⟩ H =>
  vTT<|hr H
def w0l:Unit->Option (Bool)
 | _ =>
 some true
def w0k(a0:List ByteArray)(g1:Int->Option (Bool)):Int->Option (Bool)
 | v0 =>
 if(decide (v0 < (a0.length:Int)))=true then
  gd (ix v0 a0.length/\True) <|
  gd ((R2 (a0.getD v0.toNat (d6 Ty.str))).isSome=true/\((!vl (R2 (a0.getD v0.toNat (d6 Ty.str))))=false/\True->(0:Int)<=(0:Int)/\(0:Int)<=v0/\v0<=(a0.length:Int))/\((!vl (R2 (a0.getD v0.toNat (d6 Ty.str))))=false/\True->(B0x (List.take v0.toNat a0) (a0.getD v0.toNat (d6 Ty.str))).isSome=true)/\True) <|
  if(!vl (R2 (a0.getD v0.toNat (d6 Ty.str)))||vl (B0x (List.take v0.toNat a0) (a0.getD v0.toNat (d6 Ty.str))))=true then
   some false
  else
   gd (l3 (v0+1)/\True) <|
   g1 (v0+1)
 else
  w0l ()
def M6(a0:List ByteArray):Option (Bool) :=
 lp (w0k a0) 0
def J0J:Ct:=lct 213 [.dat Ty.str.sl] (fun x=>M6 x.1) (fun r:Bool=>B r) (fun _=>())
theorem E0C:Ok prog J0J:=by
 refine okL [.tmp 2] func213 ntmps213 results213 ?_;intro y ⟨a0,_⟩ r H Q hn hr;have:HT _ _:=⟨tc H0X (tc F0P tn)⟩;refine qA (Z [p 0 (L Ty.str a0)] [])<|jN r (fun(_:Unit)=>Z [] []) (w0l) (fun _ H=>?_) (fun _ n0 e0 t0=>?_)
 ·refine qA (Z [p 2 (B true)] [])<|vTT<|hr H
 refine qA (Z [p 0 (L Ty.str a0),p 5 (L Ty.str a0),p 6 (I (a0.length:Int)),p 7 (I 0)] [])<|vB<|lX (fun(v0:Int)=>Z [p 0 (L Ty.str a0),p 5 (L Ty.str a0),p 6 (I (a0.length:Int)),p 7 (I v0)] []) 0 H fun _ g1 b1 e1 t1 v0 H=>qA (Z [p 0 (L Ty.str a0),p 5 (L Ty.str a0),p 6 (I (a0.length:Int)),p 7 (I v0),p 8 (B (decide (v0 < (a0.length:Int))))] [])<|vQ<|cD H (fun H=>?_) (fun H=>?_)
 ·refine vK<|fQ<|vQ<|vB<|qB (Z (G93 a0 v0 [p 4 (U (a0.getD v0.toNat (d6 Ty.str))),p 5 (L Ty.str a0),p 6 (I (a0.length:Int)),p 7 (I v0)]) []) H fun H=>qB (Z [p 0 (L Ty.str a0),p 5 (L Ty.str a0),p 6 (I (a0.length:Int)),p 7 (I v0),p 21 (B (!vl (R2 (a0.getD v0.toNat (d6 Ty.str)))||vl (B0x (List.take v0.toNat a0) (a0.getD v0.toNat (d6 Ty.str)))))] []) H fun H=>cD H (fun H=>?_) (fun H=>?_)
  ·refine qA (Z [p 2 (B false)] [])<|vTT<|fDD<|fR<|t1<|fDD<|t0<|hr H
  refine vK<|fK<|fQ<|zB (Z [p 0 (L Ty.str a0),p 5 (L Ty.str a0),p 6 (I (a0.length:Int)),p 7 (I (v0+1))] []) H fun H=>b1 H
 exact vE<|fE<|e1<|fX rfl<|n0 H
def k0o(v4:List ByteArray)(a0:Y31):List ByteArray->Option (Bool)
 | v9 =>
 gd (((decide ((v4.length:Int)<=14)&&decide ((a0.2.1.length:Int)<=30)&&decide ((v9.length:Int)<=8))=true/\True->(M6 v4).isSome=true)/\((decide ((v4.length:Int)<=14)&&decide ((a0.2.1.length:Int)<=30)&&decide ((v9.length:Int)<=8)&&vl (M6 v4))=true/\True->(M6 a0.2.1).isSome=true)/\((decide ((v4.length:Int)<=14)&&decide ((a0.2.1.length:Int)<=30)&&decide ((v9.length:Int)<=8)&&vl (M6 v4)&&vl (M6 a0.2.1))=true/\True->(M6 v9).isSome=true)/\True) <|
 some (decide ((v4.length:Int)<=14)&&decide ((a0.2.1.length:Int)<=30)&&decide ((v9.length:Int)<=8)&&vl (M6 v4)&&vl (M6 a0.2.1)&&vl (M6 v9))
def w0y(a0:Y31)(v4:List ByteArray)(g3:List ByteArray×Int->Option (Bool)):List ByteArray×Int->Option (Bool)
 | (v6,v7) =>
 if(decide (v7 < (a0.2.2.length:Int)))=true then
  gd (ix v7 a0.2.2.length/\True)<|lt (a0.2.2.getD v7.toNat (d6 y175)) fun v8 =>
  gd ((v6.length+[v8.1].length<=9223372036854775807/\(v6.length+[v8.1].length)*16<=140737488355328)/\True) <|
  gd (l3 (v7+1)/\True) <|
  g3 (v6++[v8.1],v7+1)
 else
  k0o v4 a0 v6
def k0p(a0:Y31):List ByteArray->Option (Bool)
 | v4 =>
 lp (w0y a0 v4) ([],0)
def w0z(a0:Y31)(g1:List ByteArray×Int->Option (Bool)):List ByteArray×Int->Option (Bool)
 | (v1,v2) =>
 if(decide (v2 < (a0.1.length:Int)))=true then
  gd (ix v2 a0.1.length/\True)<|lt (a0.1.getD v2.toNat (d6 y165)) fun v3 =>
  gd ((v1.length+[v3.1].length<=9223372036854775807/\(v1.length+[v3.1].length)*16<=140737488355328)/\True) <|
  gd (l3 (v2+1)/\True) <|
  g1 (v1++[v3.1],v2+1)
 else
  k0p a0 v1
def B0K(a0:Y31):Option (Bool) :=
 lp (w0z a0) ([],0)
def K0a:Ct:=lct 176 [.agg y31] (fun x=>B0K x.1) (fun r:Bool=>B r) (fun _=>())
theorem I0t:Ok prog K0a:=by
 refine okL [.tmp 2] func176 ntmps176 results176 ?_;intro y ⟨a0,_⟩ r H Q hn hr;have:HT _ _:=⟨tc E0C tn⟩;refine qA (Z [p 1 (R 1)] [(1,K 31 y31 a0)])<|qA (Z [p 1 (R 1),p 3 (nil),p 4 (nil)] [(1,K 31 y31 a0)])<|jN r (fun(v4:List ByteArray)=>Z (G53 [p 4 (nil)]) (W95 a0 v4)) (k0p a0) (fun v4 H=>?_) (fun _ n0 e0 t0=>?_)
 ·refine jN r (fun(v9:List ByteArray)=>Z (G53 [p 4 (O 33)]) (W98 a0 v4 v9)) (k0o v4 a0) (fun v9 H=>?_) (fun _ n2 e2 t2=>?_)
  ·refine qB (Z [p 2 (B (decide ((v4.length:Int)<=14)&&decide ((a0.2.1.length:Int)<=30)&&decide ((v9.length:Int)<=8)&&vl (M6 v4)&&vl (M6 a0.2.1)&&vl (M6 v9)))] (W98 a0 v4 v9)) H fun H=>vTT<|hr H
  refine qA (Z (G53 [p 4 (nil),p 23 (L y175 a0.2.2),p 24 (I (a0.2.2.length:Int)),p 25 (I 0)]) (W95 a0 v4))<|vB<|lX (fun((v6,v7):List ByteArray×Int)=>Z (G53 [p 4 (O 33),p 23 (L y175 a0.2.2),p 24 (I (a0.2.2.length:Int)),p 25 (I v7)]) (W98 a0 v4 v6)) ([],0) H fun _ g3 b3 e3 t3 ⟨v6,v7⟩ H=>qA (Z (G53 [p 4 (O 33),p 23 (L y175 a0.2.2),p 24 (I (a0.2.2.length:Int)),p 25 (I v7),p 26 (B (decide (v7 < (a0.2.2.length:Int))))]) (W98 a0 v4 v6))<|vQ<|cD H (fun H=>?_) (fun H=>?_)
  ·refine vK<|fQ<|vQ<|vB<|qD (fun v8=>Z (G53 [p 4 (O 33),p 8 (R 8),p 23 (L y175 a0.2.2),p 24 (I (a0.2.2.length:Int)),p 25 (I v7)]) ((8,K 175 y175 v8)::W98 a0 v4 v6)) H fun v8 H=>zB (Z (G53 [p 4 (AV.os 33 1),p 23 (L y175 a0.2.2),p 24 (I (a0.2.2.length:Int)),p 25 (I v7)]) ((33,A 9 Ty.str (v6++[v8.1]) 1)::(32,A 9 Ty.str [v8.1] 0)::(8,K 175 y175 v8)::W95 a0 v4)) H fun H=>fK<|fQ<|zB (Z (G53 [p 4 (AV.os 33 1),p 23 (L y175 a0.2.2),p 24 (I (a0.2.2.length:Int)),p 25 (I (v7+1))]) ((33,A 9 Ty.str (v6++[v8.1]) 1)::(32,A 9 Ty.str [v8.1] 0)::(8,K 175 y175 v8)::W95 a0 v4)) H fun H=>b3 H
  exact vE<|fE<|e3<|fX rfl<|n2 H
 refine qA (Z [p 1 (R 1),p 3 (nil),p 4 (nil),p 10 (L y165 a0.1),p 11 (I (a0.1.length:Int)),p 12 (I 0)] [(1,K 31 y31 a0)])<|vB<|lX (fun((v1,v2):List ByteArray×Int)=>Z (G53 [p 4 (nil),p 10 (L y165 a0.1),p 11 (I (a0.1.length:Int)),p 12 (I v2)]) (W95 a0 v1)) ([],0) H fun _ g1 b1 e1 t1 ⟨v1,v2⟩ H=>qA (Z (G53 [p 4 (nil),p 10 (L y165 a0.1),p 11 (I (a0.1.length:Int)),p 12 (I v2),p 13 (B (decide (v2 < (a0.1.length:Int))))]) (W95 a0 v1))<|vQ<|cD H (fun H=>?_) (fun H=>?_)
 ·refine vK<|fQ<|vQ<|vB<|qD (fun v3=>Z (G53 [p 4 (nil),p 6 (R 6),p 10 (L y165 a0.1),p 11 (I (a0.1.length:Int)),p 12 (I v2)]) ((6,K 165 y165 v3)::W95 a0 v1)) H fun v3 H=>zB (Z [p 1 (R 1),p 3 (AV.os 20 1),p 4 (nil),p 10 (L y165 a0.1),p 11 (I (a0.1.length:Int)),p 12 (I v2)] [(20,A 9 Ty.str (v1++[v3.1]) 1),(19,A 9 Ty.str [v3.1] 0),(6,K 165 y165 v3),(1,K 31 y31 a0)]) H fun H=>fK<|fQ<|zB (Z [p 1 (R 1),p 3 (AV.os 20 1),p 4 (nil),p 10 (L y165 a0.1),p 11 (I (a0.1.length:Int)),p 12 (I (v2+1))] [(20,A 9 Ty.str (v1++[v3.1]) 1),(19,A 9 Ty.str [v3.1] 0),(6,K 165 y165 v3),(1,K 31 y31 a0)]) H fun H=>b1 H
 exact vE<|fE<|e1<|fX rfl<|n0 H
def D0o(a0:A5)(a1:Int):Option (Bool) :=
 some (a0.1==a1)
def J0i:Ct:=lct 276 [.agg y143,.dat (.pt i64)] (fun x=>D0o x.1 x.2.1) (fun r:Bool=>B r) (fun _=>())
theorem E0x:Ok prog J0i:=by
 refine okL [.tmp 3] func276 ntmps276 results276 ?_;intro y ⟨a0,a1,_⟩ r H Q hn hr;have:HT _ _:=⟨@tn prog⟩;refine qA (Z [p 1 (D i64.pt a1),p 2 (R 2)] [(2,K 143 y143 a0)])<|qA (Z [p 3 (B (a0.1==a1))] [(2,K 143 y143 a0)])<|vTT<|hr H
def i0o:Unit->Option (Int)
 | _ =>
 some (-1)
def p0b(a0:List A5)(a1:Int)(g1:Int->Option (Int)):Int->Option (Int)
 | v0 =>
 if(decide (v0 < (a0.length:Int)))=true then
  gd (ix v0 a0.length/\(D0o (a0.getD v0.toNat (d6 y143)) a1).isSome=true/\True) <|
  if(vl (D0o (a0.getD v0.toNat (d6 y143)) a1))=true then
   some v0
  else
   gd (l3 (v0+1)/\True) <|
   g1 (v0+1)
 else
  i0o ()
def g0s(a0:List A5)(a1:Int):Option (Int) :=
 lp (p0b a0 a1) 0
def u0S:Ct:=lct 275 [.dat y143.sl,.fn 276 i64.pt] (fun x=>g0s x.1 x.2.1) (fun r:Int=>I r) (fun _=>())
theorem n0V:Ok prog u0S:=by
 refine okL [.tmp 4] func275 ntmps275 results275 ?_;intro y ⟨a0,a1,_⟩ r H Q hn hr;have:HT _ _:=⟨tc E0x tn⟩;refine qA (Z [p 0 (L y143 a0),p 1 (AV.fn 276 [D i64.pt a1])] [])<|jN r (fun(_:Unit)=>Z [] []) (i0o) (fun _ H=>?_) (fun _ n0 e0 t0=>?_)
 ·refine qA (Z [p 4 (I (-1))] [])<|vTT<|hr H
 refine qA (Z [p 0 (L y143 a0),p 1 (AV.fn 276 [D i64.pt a1]),p 7 (I (a0.length:Int)),p 8 (I 0)] [])<|vB<|lX (fun(v0:Int)=>Z [p 0 (L y143 a0),p 1 (AV.fn 276 [D i64.pt a1]),p 7 (I (a0.length:Int)),p 8 (I v0)] []) 0 H fun _ g1 b1 e1 t1 v0 H=>qA (Z [p 0 (L y143 a0),p 1 (AV.fn 276 [D i64.pt a1]),p 7 (I (a0.length:Int)),p 8 (I v0),p 9 (B (decide (v0 < (a0.length:Int))))] [])<|vQ<|cD H (fun H=>?_) (fun H=>?_)
 ·refine vK<|fQ<|vQ<|vB<|qA (Z [p 0 (L y143 a0),p 1 (AV.fn 276 [D i64.pt a1]),p 5 (I v0),p 7 (I (a0.length:Int)),p 8 (I v0)] [])<|qB (Z [p 0 (L y143 a0),p 1 (AV.fn 276 [D i64.pt a1]),p 5 (I v0),p 7 (I (a0.length:Int)),p 8 (I v0),p 16 (B (vl (D0o (a0.getD v0.toNat (d6 y143)) a1)))] []) H fun H=>cD H (fun H=>?_) (fun H=>?_)
  ·refine qA (Z [p 4 (I v0)] [])<|vTT<|fDD<|fR<|t1<|fDD<|t0<|hr H
  refine vK<|fK<|fQ<|zB (Z [p 0 (L y143 a0),p 1 (AV.fn 276 [D i64.pt a1]),p 7 (I (a0.length:Int)),p 8 (I (v0+1))] []) H fun H=>b1 H
 exact vE<|fE<|e1<|fX rfl<|n0 H
def e0W(a0:List A5)(a1:Int):Option (Bool) :=
 gd ((g0s a0 a1).isSome=true/\True)<|lt (vl (g0s a0 a1)) fun v0 =>
 some (decide (0<=v0))
def u0U:Ct:=lct 260 [.dat y143.sl,.fn 276 (.pt i64)] (fun x=>e0W x.1 x.2.1) (fun r:Bool=>B r) (fun _=>())
theorem n0W:Ok prog u0U:=by
 refine okL [.tmp 4] func260 ntmps260 results260 ?_;intro y ⟨a0,a1,_⟩ r H Q hn hr;have:HT _ _:=⟨tc n0V (tc E0x tn)⟩;refine qA (Z [p 0 (L y143 a0),p 1 (AV.fn 276 [D i64.pt a1])] [])<|qD (fun v0=>Z [p 4 (B (decide (0<=v0)))] []) H fun v0 H=>vTT<|hr H
def I8(a0:m4)(a1:Int):Option (Bool) :=
 gd ((e0W a0.2.2.2.1 a1).isSome=true/\True) <|
 some (vl (e0W a0.2.2.2.1 a1))
def J0q:Ct:=lct 263 [.agg y163,.dat i64] (fun x=>I8 x.1 x.2.1) (fun r:Bool=>B r) (fun _=>())
theorem H0T:Ok prog J0q:=by
 refine okL [.tmp 4] func263 ntmps263 results263 ?_;intro y ⟨a0,a1,_⟩ r H Q hn hr;have:HT _ _:=⟨tc n0W (tc E0x tn)⟩;refine qA (Z (G13 []) [(3,bx 2 [J a1]),(2,K 163 y163 a0)])<|qB (Z [p 4 (B (vl (e0W a0.2.2.2.1 a1)))] [(3,bx 2 [J a1]),(2,K 163 y163 a0)]) H fun H=>vTT<|hr H
def q0A(a0:List I2):Option (Int) :=
 some (a0.length:Int)
def J0u:Ct:=lct 258 [.dat y217.sl] (fun x=>q0A x.1) (fun r:Int=>I r) (fun _=>())
theorem F0G:Ok prog J0u:=by
 refine okL [.tmp 2] func258 ntmps258 results258 ?_;intro y ⟨a0,_⟩ r H Q hn hr;have:HT _ _:=⟨@tn prog⟩;refine qA (Z [p 0 (L y217 a0)] [])<|qA (Z [p 2 (I (a0.length:Int))] [])<|vTT<|hr H
def P0(a0:m4):Option (Int) :=
 gd ((q0A a0.2.2.1).isSome=true/\l3 (vl (q0A a0.2.2.1)-1)/\True)<|lt (vl (q0A a0.2.2.1)) fun v0 =>
 some (v0-1)
def J0r:Ct:=lct 262 [.agg y163] (fun x=>P0 x.1) (fun r:Int=>I r) (fun _=>())
theorem E0z:Ok prog J0r:=by
 refine okL [.tmp 2] func262 ntmps262 results262 ?_;intro y ⟨a0,_⟩ r H Q hn hr;have:HT _ _:=⟨tc F0G tn⟩;refine qA (Z [p 1 (R 1)] [(1,K 163 y163 a0)])<|qD (fun v0=>Z [p 2 (I (v0-1))] [(1,K 163 y163 a0)]) H fun v0 H=>vTT<|hr H
def i0r(a0:m4):Int->Option (Bool)
 | v6 =>
 if(a0.2.1==1)=true then
  gd (((v6==(0:Int))=true/\True->(P0 a0).isSome=true)/\((v6==(0:Int))=true/\True->((0:Int)<=vl (P0 a0)/\vl (P0 a0)<=(62:Int))/\l3 ((1:Int)*(2:Int) ^ (vl (P0 a0)).toNat))/\((v6==(0:Int)&&(a0.2.2.2.2.1.length:Int)==(1:Int)*(2:den i64) ^ (vl (P0 a0)).toNat)=true/\True->(D6 a0.2.2.2.2.1 (0:Int) (1:Int)).isSome=true)/\True)<|lt (vl (P0 a0)) fun v7 =>
  some (v6==(0:Int)&&(a0.2.2.2.2.1.length:Int)==(1:Int)*(2:den i64) ^ v7.toNat&&vl (D6 a0.2.2.2.2.1 (0:Int) (1:Int)))
 else
  if(a0.2.1==2)=true then
   gd (((v6==1&&(a0.2.2.2.2.1.length:Int)==0)=true/\True->(I8 a0 1).isSome=true)/\((v6==1&&(a0.2.2.2.2.1.length:Int)==0&&!vl (I8 a0 1))=true/\True->(I8 a0 2).isSome=true)/\((v6==1&&(a0.2.2.2.2.1.length:Int)==0&&!vl (I8 a0 1))=true/\True->(I8 a0 3).isSome=true)/\True) <|
   some (v6==1&&(a0.2.2.2.2.1.length:Int)==0&&!vl (I8 a0 1)&&!vl (I8 a0 2)==vl (I8 a0 3))
  else
   if(a0.2.1==3)=true then
    gd (((v6==1&&(a0.2.2.2.2.1.length:Int)==0)=true/\True->(I8 a0 1).isSome=true)/\((v6==1&&(a0.2.2.2.2.1.length:Int)==0&&vl (I8 a0 1))=true/\True->(I8 a0 2).isSome=true)/\((v6==1&&(a0.2.2.2.2.1.length:Int)==0&&vl (I8 a0 1)&&vl (I8 a0 2))=true/\True->(I8 a0 3).isSome=true)/\True) <|
    some (v6==1&&(a0.2.2.2.2.1.length:Int)==0&&vl (I8 a0 1)&&vl (I8 a0 2)&&!vl (I8 a0 3))
   else
    some false
def n0e(v3:Int)(g1:Int×Int->Option (Bool)):Int->Option (Bool)
 | v5 =>
 gd (l3 (v3+1)/\True) <|
 g1 (v5,v3+1)
def w0b(a0:m4)(g1:Int×Int->Option (Bool)):Int×Int->Option (Bool)
 | (v2,v3) =>
 if(decide (v3 < (a0.2.2.1.length:Int)))=true then
  gd (ix v3 a0.2.2.1.length/\True)<|lt (a0.2.2.1.getD v3.toNat (d6 y217)) fun v4 =>
  if v4.2.2.2=true then
   gd (l3 (v2+1)/\True) <|
   n0e v3 g1 (v2+1)
  else
   n0e v3 g1 v2
 else
  i0r a0 v2
def B0y(a0:m4):Option (Bool) :=
 lp (w0b a0) (0,0)
def J0y:Ct:=lct 244 [.agg y163] (fun x=>B0y x.1) (fun r:Bool=>B r) (fun _=>())
theorem H0Y:Ok prog J0y:=by
 refine okL [.tmp 2] func244 ntmps244 results244 ?_;intro y ⟨a0,_⟩ r H Q hn hr;have:HT _ _:=⟨tc H0T (tc C0k (tc E0z tn))⟩;refine qA (Z [p 1 (R 1)] [(1,K 163 y163 a0)])<|qA (Z [p 1 (R 1),p 3 (I 0)] [(1,K 163 y163 a0)])<|jN r (fun(v6:Int)=>Z (G16 v6 []) [(1,K 163 y163 a0)]) (i0r a0) (fun v6 H=>?_) (fun _ n0 e0 t0=>?_)
 ·refine vQ<|qA (Z (G16 v6 [p 19 (J a0.2.1)]) [(1,K 163 y163 a0)])<|vB<|qA (Z (G16 v6 [p 19 (J a0.2.1),p 20 (B (a0.2.1==1))]) [(1,K 163 y163 a0)])<|cD H (fun H=>?_) (fun H=>?_)
  ·refine qD (fun v7=>Z [p 2 (B (v6==(0:Int)&&(a0.2.2.2.2.1.length:Int)==(1:Int)*(2:den i64) ^ v7.toNat&&vl (D6 a0.2.2.2.2.1 (0:Int) (1:Int))))] [(1,K 163 y163 a0)]) H fun v7 H=>vTT<|fDD<|fR<|hr H
  refine qA (Z (G16 v6 [p 19 (J a0.2.1),p 38 (B (a0.2.1==2))]) [(1,K 163 y163 a0)])<|cD H (fun H=>?_) (fun H=>?_)
  ·refine qB (Z [p 2 (B (v6==1&&(a0.2.2.2.2.1.length:Int)==0&&!vl (I8 a0 1)&&!vl (I8 a0 2)==vl (I8 a0 3)))] [(1,K 163 y163 a0)]) H fun H=>vTT<|fDD<|fR<|hr H
  refine qA (Z (G16 v6 [p 60 (B (a0.2.1==3))]) [(1,K 163 y163 a0)])<|cD H (fun H=>?_) (fun H=>?_)
  ·refine qB (Z [p 2 (B (v6==1&&(a0.2.2.2.2.1.length:Int)==0&&vl (I8 a0 1)&&vl (I8 a0 2)&&!vl (I8 a0 3)))] [(1,K 163 y163 a0)]) H fun H=>vTT<|fDD<|fR<|hr H
  refine vK<|fK<|fQ<|qA (Z [p 2 (B false)] [(1,K 163 y163 a0)])<|vTT<|hr H
 refine qA (Z [p 1 (R 1),p 3 (I 0),p 7 (L y217 a0.2.2.1),p 8 (I (a0.2.2.1.length:Int)),p 9 (I 0)] [(1,K 163 y163 a0)])<|vB<|lX (fun((v2,v3):Int×Int)=>Z (G16 v2 [p 7 (L y217 a0.2.2.1),p 8 (I (a0.2.2.1.length:Int)),p 9 (I v3)]) [(1,K 163 y163 a0)]) (0,0) H fun _ g1 b1 e1 t1 ⟨v2,v3⟩ H=>qA (Z (G16 v2 [p 7 (L y217 a0.2.2.1),p 8 (I (a0.2.2.1.length:Int)),p 9 (I v3),p 10 (B (decide (v3 < (a0.2.2.1.length:Int))))]) [(1,K 163 y163 a0)])<|vQ<|cD H (fun H=>?_) (fun H=>?_)
 ·refine vK<|fQ<|jN r (fun(v5:Int)=>Z (G16 v5 [p 7 (L y217 a0.2.2.1),p 8 (I (a0.2.2.1.length:Int)),p 9 (I v3)]) [(1,K 163 y163 a0)]) (n0e v3 g1) (fun v5 H=>?_) (fun _ n2 e2 t2=>?_)
  ·refine zB (Z (G16 v5 [p 7 (L y217 a0.2.2.1),p 8 (I (a0.2.2.1.length:Int)),p 9 (I (v3+1))]) [(1,K 163 y163 a0)]) H fun H=>b1 H
  refine vB<|qD (fun v4=>Z (G16 v2 [p 5 (R 5),p 7 (L y217 a0.2.2.1),p 8 (I (a0.2.2.1.length:Int)),p 9 (I v3)]) [(5,K 217 y217 v4),(1,K 163 y163 a0)]) H fun v4 H=>qA (Z (G16 v2 [p 7 (L y217 a0.2.2.1),p 8 (I (a0.2.2.1.length:Int)),p 9 (I v3),p 14 (C v4.2.2.2)]) [(5,K 217 y217 v4),(1,K 163 y163 a0)])<|cD H (fun H=>?_) (fun H=>?_)
  ·refine zB (Z (G16 (v2+1) [p 7 (L y217 a0.2.2.1),p 8 (I (a0.2.2.1.length:Int)),p 9 (I v3)]) [(5,K 217 y217 v4),(1,K 163 y163 a0)]) H fun H=>fK<|n2 H
  exact vK<|fK<|n2 H
 exact vE<|fE<|e1<|fX rfl<|n0 H
def t0G(a0:m4)(a1:Int):Option (Bool) :=
 gd ((P0 a0).isSome=true/\l3 (vl (P0 a0)-1)/\(w8 a1 0 (vl (P0 a0)-1)).isSome=true/\True) <|
 some (vl (w8 a1 0 (vl (P0 a0)-1)))
def J0j:Ct:=lct 274 [.agg y163,.dat i64] (fun x=>t0G x.1 x.2.1) (fun r:Bool=>B r) (fun _=>())
theorem H0M:Ok prog J0j:=by
 refine okL [.tmp 4] func274 ntmps274 results274 ?_;intro y ⟨a0,a1,_⟩ r H Q hn hr;have:HT _ _:=⟨tc p0Y (tc E0z tn)⟩;refine qA (Z (G33 a1 []) [(2,K 163 y163 a0)])<|qB (Z [p 4 (B (vl (w8 a1 0 (vl (P0 a0)-1))))] [(2,K 163 y163 a0)]) H fun H=>vTT<|hr H
def v0P:Int->Option (Int)
 | v3 =>
 some v3
def q0x(a0:List Int)(g2:Int×Int->Option (Int)):Int×Int->Option (Int)
 | (v1,v2) =>
 if(decide (v2 < (a0.length:Int)))=true then
  gd (ix v2 a0.length/\True) <|
  gd (l3 (v2+1)/\True) <|
  g2 ((min v1 (a0.getD v2.toNat 0),v2+1))
 else
  v0P v1
def q0y(a0:List Int):Unit->Option (Int)
 | _ =>
 gd (ix 0 a0.length/\True) <|
 lp (q0x a0) ((a0.getD (Int.toNat (0:Int)) (0:Int),1))
def A0b(a0:List Int):Option (Int) :=
 if(decide ((a0.length:Int)<1))=true then
  none
 else
  q0y a0 ()
def J0d:Ct:=lct 282 [.dat i64.sl] (fun x=>A0b x.1) (fun r:Int=>I r) (fun _=>())
theorem H0I:Ok prog J0d:=by
 refine okL [.tmp 2] func282 ntmps282 results282 ?_;intro y ⟨a0,_⟩ r H Q hn hr;have:HT _ _:=⟨@tn prog⟩;refine qA (Z [p 0 (L i64 a0)] [])<|jN r (fun(_:Unit)=>Z [p 0 (L i64 a0)] []) (q0y a0) (fun _ H=>?_) (fun _ n0 e0 t0=>?_)
 ·refine qB (Z [p 0 (L i64 a0),p 3 (J (a0.getD (Int.toNat (0:Int)) (0:Int)))] []) H fun H=>jN r (fun(v3:Int)=>Z [p 3 (J v3)] []) (v0P) (fun v3 H=>?_) (fun _ n1 e1 t1=>?_)
  ·refine qA (Z [p 2 (J v3)] [])<|vTT<|hr H
  refine qA (Z [p 0 (L i64 a0),p 3 (J (a0.getD (Int.toNat (0:Int)) (0:Int))),p 4 (I (1:Int))] [])<|vB<|lX (fun((v1,v2):Int×Int)=>Z [p 0 (L i64 a0),p 3 (J v1),p 4 (I v2)] []) ((a0.getD (Int.toNat (0:Int)) (0:Int),1)) H fun _ g2 b2 e2 t2 ⟨v1,v2⟩ H=>vQ<|qA (Z [p 0 (L i64 a0),p 3 (J v1),p 4 (I v2),p 15 (B (decide (v2 < (a0.length:Int))))] [])<|cD H (fun H=>?_) (fun H=>?_)
  ·refine vK<|fQ<|vQ<|vB<|zB (Z [p 0 (L i64 a0),p 3 (I (min v1 (a0.getD v2.toNat 0))),p 4 (I v2)] []) H fun H=>fK<|fQ<|zB (Z [p 0 (L i64 a0),p 3 (I (min v1 (a0.getD v2.toNat 0))),p 4 (I (v2+1))] []) H fun H=>b2 H
  exact vE<|fE<|e2<|fX rfl<|n1 H
 refine qA (Z [p 0 (L i64 a0),p 7 (B (decide ((a0.length:Int)<1)))] [])<|cD H (fun H=>?_) (fun H=>?_)
 ·exact D0R H
 exact vK<|n0 H
def V4(a0:List Int):Option (Bool) :=
 gd ((C5 a0).isSome=true/\(w8 (vl (C5 a0)) 1 4).isSome=true/\(vl (w8 (vl (C5 a0)) 1 4)=true/\True->(D6 a0 0 100000).isSome=true)/\((vl (w8 (vl (C5 a0)) 1 4)&&vl (D6 a0 0 100000))=true/\True->(p0W a0).isSome=true)/\True) <|
 some (vl (w8 (vl (C5 a0)) 1 4)&&vl (D6 a0 0 100000)&&vl (p0W a0))
def J0a:Ct:=lct 287 [.dat i64.sl] (fun x=>V4 x.1) (fun r:Bool=>B r) (fun _=>())
theorem H0G:Ok prog J0a:=by
 refine okL [.tmp 2] func287 ntmps287 results287 ?_;intro y ⟨a0,_⟩ r H Q hn hr;have:HT _ _:=⟨tc F0J (tc C0k (tc p0Y (tc E0K tn)))⟩;refine qA (Z [p 0 (L i64 a0)] [])<|qB (Z [p 2 (B (vl (w8 (vl (C5 a0)) 1 4)&&vl (D6 a0 0 100000)&&vl (p0W a0)))] []) H fun H=>vTT<|hr H
def y0B(a0:D2):Option (Bool) :=
 gd ((V4 a0.1).isSome=true/\(vl (V4 a0.1)=true/\True->(V4 a0.2.1).isSome=true)/\((vl (V4 a0.1)&&vl (V4 a0.2.1))=true/\True->l3 ((a0.1.length:Int)*(a0.2.1.length:Int)))/\((vl (V4 a0.1)&&vl (V4 a0.2.1)&&(a0.2.2.length:Int)==(a0.1.length:Int)*(a0.2.1.length:Int))=true/\True->(D6 a0.2.2 (-1000000) 1000000).isSome=true)/\True) <|
 some (vl (V4 a0.1)&&vl (V4 a0.2.1)&&(a0.2.2.length:Int)==(a0.1.length:Int)*(a0.2.1.length:Int)&&vl (D6 a0.2.2 (-1000000) 1000000))
def J0e:Ct:=lct 281 [.agg y140] (fun x=>y0B x.1) (fun r:Bool=>B r) (fun _=>())
theorem H0J:Ok prog J0e:=by
 refine okL [.tmp 2] func281 ntmps281 results281 ?_;intro y ⟨a0,_⟩ r H Q hn hr;have:HT _ _:=⟨tc C0k (tc H0G tn)⟩;refine qA (Z [p 1 (R 1)] [(1,K 140 y140 a0)])<|qB (Z [p 2 (B (vl (V4 a0.1)&&vl (V4 a0.2.1)&&(a0.2.2.length:Int)==(a0.1.length:Int)*(a0.2.1.length:Int)&&vl (D6 a0.2.2 (-1000000) 1000000)))] [(1,K 140 y140 a0)]) H fun H=>vTT<|hr H
def A0c(a0:D2)(a1:Bool):Option (Bool) :=
 gd ((y0B a0).isSome=true/\(a1=true/\(!vl (y0B a0))=false/\True->(A0b a0.2.2).isSome=true)/\True)<|lt (vl (A0b a0.2.2)) fun v0 =>
 some (!vl (y0B a0)||a1&&decide (v0<0))
def J0f:Ct:=lct 280 [.agg y140,.dat (.pt Ty.bool)] (fun x=>A0c x.1 x.2.1) (fun r:Bool=>B r) (fun _=>())
theorem E0w:Ok prog J0f:=by
 refine okL [.tmp 3] func280 ntmps280 results280 ?_;intro y ⟨a0,a1,_⟩ r H Q hn hr;have:HT _ _:=⟨tc H0I (tc H0J tn)⟩;refine qA (Z [p 1 (D Ty.bool.pt a1),p 2 (R 2)] [(2,K 140 y140 a0)])<|qD (fun v0=>Z [p 3 (B (!vl (y0B a0)||a1&&decide (v0<0)))] [(2,K 140 y140 a0)]) H fun v0 H=>vTT<|hr H
def i0m:Unit->Option (Int)
 | _ =>
 some (-1)
def o0Z(a0:List D2)(a1:Bool)(g1:Int->Option (Int)):Int->Option (Int)
 | v0 =>
 if(decide (v0 < (a0.length:Int)))=true then
  gd (ix v0 a0.length/\(A0c (a0.getD v0.toNat (d6 y140)) a1).isSome=true/\True) <|
  if(vl (A0c (a0.getD v0.toNat (d6 y140)) a1))=true then
   some v0
  else
   gd (l3 (v0+1)/\True) <|
   g1 (v0+1)
 else
  i0m ()
def g0q(a0:List D2)(a1:Bool):Option (Int) :=
 lp (o0Z a0 a1) 0
def u0P:Ct:=lct 286 [.dat y140.sl,.fn 280 Ty.bool.pt] (fun x=>g0q x.1 x.2.1) (fun r:Int=>I r) (fun _=>())
theorem u0v:Ok prog u0P:=by
 refine okL [.tmp 4] func286 ntmps286 results286 ?_;intro y ⟨a0,a1,_⟩ r H Q hn hr;have:HT _ _:=⟨tc E0w tn⟩;refine qA (Z [p 0 (L y140 a0),p 1 (AV.fn 280 [D Ty.bool.pt a1])] [])<|jN r (fun(_:Unit)=>Z [] []) (i0m) (fun _ H=>?_) (fun _ n0 e0 t0=>?_)
 ·refine qA (Z [p 4 (I (-1))] [])<|vTT<|hr H
 refine qA (Z [p 0 (L y140 a0),p 1 (AV.fn 280 [D Ty.bool.pt a1]),p 7 (I (a0.length:Int)),p 8 (I 0)] [])<|vB<|lX (fun(v0:Int)=>Z [p 0 (L y140 a0),p 1 (AV.fn 280 [D Ty.bool.pt a1]),p 7 (I (a0.length:Int)),p 8 (I v0)] []) 0 H fun _ g1 b1 e1 t1 v0 H=>qA (Z [p 0 (L y140 a0),p 1 (AV.fn 280 [D Ty.bool.pt a1]),p 7 (I (a0.length:Int)),p 8 (I v0),p 9 (B (decide (v0 < (a0.length:Int))))] [])<|vQ<|cD H (fun H=>?_) (fun H=>?_)
 ·refine vK<|fQ<|vQ<|vB<|qA (Z [p 0 (L y140 a0),p 1 (AV.fn 280 [D Ty.bool.pt a1]),p 5 (I v0),p 7 (I (a0.length:Int)),p 8 (I v0)] [])<|qB (Z [p 0 (L y140 a0),p 1 (AV.fn 280 [D Ty.bool.pt a1]),p 5 (I v0),p 7 (I (a0.length:Int)),p 8 (I v0),p 16 (B (vl (A0c (a0.getD v0.toNat (d6 y140)) a1)))] []) H fun H=>cD H (fun H=>?_) (fun H=>?_)
  ·refine qA (Z [p 4 (I v0)] [])<|vTT<|fDD<|fR<|t1<|fDD<|t0<|hr H
  refine vK<|fK<|fQ<|zB (Z [p 0 (L y140 a0),p 1 (AV.fn 280 [D Ty.bool.pt a1]),p 7 (I (a0.length:Int)),p 8 (I (v0+1))] []) H fun H=>b1 H
 exact vE<|fE<|e1<|fX rfl<|n0 H
def e0V(a0:List D2)(a1:Bool):Option (Bool) :=
 gd ((g0q a0 a1).isSome=true/\True)<|lt (vl (g0q a0 a1)) fun v0 =>
 some (decide (0<=v0))
def u0R:Ct:=lct 279 [.dat y140.sl,.fn 280 (.pt Ty.bool)] (fun x=>e0V x.1 x.2.1) (fun r:Bool=>B r) (fun _=>())
theorem u0x:Ok prog u0R:=by
 refine okL [.tmp 4] func279 ntmps279 results279 ?_;intro y ⟨a0,a1,_⟩ r H Q hn hr;have:HT _ _:=⟨tc u0v (tc E0w tn)⟩;refine qA (Z [p 0 (L y140 a0),p 1 (AV.fn 280 [D Ty.bool.pt a1])] [])<|qD (fun v0=>Z [p 4 (B (decide (0<=v0)))] []) H fun v0 H=>vTT<|hr H
def N6(a0:List D2)(a1:Bool):Option (Bool) :=
 gd ((((a0.length:Int)==2)=true/\True->(e0V a0 a1).isSome=true)/\True) <|
 some ((a0.length:Int)==2&&!vl (e0V a0 a1))
def J0l:Ct:=lct 272 [.dat y140.sl,.dat Ty.bool] (fun x=>N6 x.1 x.2.1) (fun r:Bool=>B r) (fun _=>())
theorem H0O:Ok prog J0l:=by
 refine okL [.tmp 4] func272 ntmps272 results272 ?_;intro y ⟨a0,a1,_⟩ r H Q hn hr;have:HT _ _:=⟨tc u0x (tc E0w tn)⟩;refine qA (Z [p 0 (L y140 a0),p 3 (R 3)] [(3,bx 4 [C a1])])<|qB (Z [p 4 (B ((a0.length:Int)==2&&!vl (e0V a0 a1)))] [(3,bx 4 [C a1])]) H fun H=>vTT<|hr H
def D0n(a0:I2):Option (Bool) :=
 some a0.2.2.2
def J0c:Ct:=lct 284 [.agg y217] (fun x=>D0n x.1) (fun r:Bool=>B r) (fun _=>())
theorem F0F:Ok prog J0c:=by
 refine okL [.tmp 2] func284 ntmps284 results284 ?_;intro y ⟨a0,_⟩ r H Q hn hr;have:HT _ _:=⟨@tn prog⟩;refine qA (Z [p 1 (R 1)] [(1,K 217 y217 a0)])<|qA (Z [p 2 (C a0.2.2.2)] [(1,K 217 y217 a0)])<|vTT<|hr H
def i0n:Unit->Option (Int)
 | _ =>
 some (-1)
def p0a(a0:List I2)(g1:Int->Option (Int)):Int->Option (Int)
 | v0 =>
 if(decide (v0 < (a0.length:Int)))=true then
  gd (ix v0 a0.length/\(D0n (a0.getD v0.toNat (d6 y217))).isSome=true/\True) <|
  if(vl (D0n (a0.getD v0.toNat (d6 y217))))=true then
   some v0
  else
   gd (l3 (v0+1)/\True) <|
   g1 (v0+1)
 else
  i0n ()
def g0r(a0:List I2):Option (Int) :=
 lp (p0a a0) 0
def u0Q:Ct:=lct 283 [.dat y217.sl,.nof 284] (fun x=>g0r x.1) (fun r:Int=>I r) (fun _=>())
theorem u0w:Ok prog u0Q:=by
 refine okL [.tmp 4] func283 ntmps283 results283 ?_;intro y ⟨a0,_,_⟩ r H Q hn hr;have:HT _ _:=⟨tc F0F tn⟩;refine qA (Z [p 0 (L y217 a0),p 1 (AV.fn 284 [])] [])<|jN r (fun(_:Unit)=>Z [] []) (i0n) (fun _ H=>?_) (fun _ n0 e0 t0=>?_)
 ·refine qA (Z [p 4 (I (-1))] [])<|vTT<|hr H
 refine qA (Z [p 0 (L y217 a0),p 1 (AV.fn 284 []),p 7 (I (a0.length:Int)),p 8 (I 0)] [])<|vB<|lX (fun(v0:Int)=>Z [p 0 (L y217 a0),p 1 (AV.fn 284 []),p 7 (I (a0.length:Int)),p 8 (I v0)] []) 0 H fun _ g1 b1 e1 t1 v0 H=>qA (Z [p 0 (L y217 a0),p 1 (AV.fn 284 []),p 7 (I (a0.length:Int)),p 8 (I v0),p 9 (B (decide (v0 < (a0.length:Int))))] [])<|vQ<|cD H (fun H=>?_) (fun H=>?_)
 ·refine vK<|fQ<|vQ<|vB<|qA (Z [p 0 (L y217 a0),p 1 (AV.fn 284 []),p 5 (I v0),p 7 (I (a0.length:Int)),p 8 (I v0)] [])<|qB (Z [p 0 (L y217 a0),p 1 (AV.fn 284 []),p 5 (I v0),p 7 (I (a0.length:Int)),p 8 (I v0),p 16 (B (vl (D0n (a0.getD v0.toNat (d6 y217)))))] []) H fun H=>cD H (fun H=>?_) (fun H=>?_)
  ·refine qA (Z [p 4 (I v0)] [])<|vTT<|fDD<|fR<|t1<|fDD<|t0<|hr H
  refine vK<|fK<|fQ<|zB (Z [p 0 (L y217 a0),p 1 (AV.fn 284 []),p 7 (I (a0.length:Int)),p 8 (I (v0+1))] []) H fun H=>b1 H
 exact vE<|fE<|e1<|fX rfl<|n0 H
def A0e(a0:m4):Option (Int) :=
 gd ((g0r a0.2.2.1).isSome=true/\True)<|lt (vl (g0r a0.2.2.1)) fun v0 =>
 some v0
def J0k:Ct:=lct 273 [.agg y163] (fun x=>A0e x.1) (fun r:Int=>I r) (fun _=>())
theorem H0N:Ok prog J0k:=by
 refine okL [.tmp 2] func273 ntmps273 results273 ?_;intro y ⟨a0,_⟩ r H Q hn hr;have:HT _ _:=⟨tc F0F (tc u0w tn)⟩;refine qA (Z [p 1 (R 1)] [(1,K 163 y163 a0)])<|qD (fun v0=>Z [p 2 (I v0)] [(1,K 163 y163 a0)]) H fun v0 H=>vTT<|hr H
def B0u(a0:Int):Option (Bool) :=
 some (a0==4||a0==5)
def J0m:Ct:=lct 271 [.dat i64] (fun x=>B0u x.1) (fun r:Bool=>B r) (fun _=>())
theorem H0P:Ok prog J0m:=by
 refine okL [.tmp 2] func271 ntmps271 results271 ?_;intro y ⟨a0,_⟩ r H Q hn hr;have:HT _ _:=⟨@tn prog⟩;refine qA (Z [p 0 (J a0)] [])<|qA (Z [p 2 (B (a0==4||a0==5))] [])<|vTT<|hr H
def k0g(a0:m4)(a1:A5):Bool->Option (Bool)
 | v2 =>
 if v2=true then
  gd (ix a1.2.1 a0.2.2.1.length/\True) <|
  some ((a0.2.2.1.getD a1.2.1.toNat (d6 y217)).2.2.2&&a1.2.2.2.1==0)
 else
  some false
def v0Z(a0:m4)(a1:A5):Option (Bool) :=
 gd ((B0u a1.1).isSome=true/\True) <|
 if(vl (B0u a1.1))=true then
  gd (((a1.2.2.2.1==0&&(a1.2.2.2.2.2.length:Int)==0)=true/\True->(N6 a1.2.2.2.2.1 false).isSome=true)/\((a1.2.2.2.1==0&&(a1.2.2.2.2.2.length:Int)==0&&vl (N6 a1.2.2.2.2.1 false))=true/\True->(A0e a0).isSome=true)/\((a1.2.2.2.1==0&&(a1.2.2.2.2.2.length:Int)==0&&vl (N6 a1.2.2.2.2.1 false)&&a1.2.1==vl (A0e a0)&&decide (0<=a1.2.1))=true/\True->(t0G a0 a1.2.2.1).isSome=true)/\True)<|lt (vl (A0e a0)) fun v0 =>
  some (a1.2.2.2.1==0&&(a1.2.2.2.2.2.length:Int)==0&&vl (N6 a1.2.2.2.2.1 false)&&a1.2.1==v0&&decide (0<=a1.2.1)&&vl (t0G a0 a1.2.2.1)&&a1.2.2.1 != a1.2.1)
 else
  gd ((N6 a1.2.2.2.2.1 true).isSome=true/\((!vl (N6 a1.2.2.2.2.1 true))=false/\True->(N6 a1.2.2.2.2.2 true).isSome=true)/\((!vl (N6 a1.2.2.2.2.1 true)||!vl (N6 a1.2.2.2.2.2 true))=false/\True->(P0 a0).isSome=true)/\((!vl (N6 a1.2.2.2.2.1 true)||!vl (N6 a1.2.2.2.2.2 true)||a1.2.2.1 != vl (P0 a0))=false/\True->(t0G a0 a1.2.1).isSome=true)/\True)<|lt (vl (P0 a0)) fun v1 =>
  if(!vl (N6 a1.2.2.2.2.1 true)||!vl (N6 a1.2.2.2.2.2 true)||a1.2.2.1 != v1||!vl (t0G a0 a1.2.1))=true then
   some false
  else
   if(a1.1==1)=true then
    gd (ix a1.2.1 a0.2.2.1.length/\((!(a0.2.2.1.getD a1.2.1.toNat (d6 y217)).2.2.2)=true/\True->(w8 a1.2.2.2.1 1 3).isSome=true)/\True) <|
    some (!(a0.2.2.1.getD a1.2.1.toNat (d6 y217)).2.2.2&&vl (w8 a1.2.2.2.1 1 3))
   else
    if(a1.1==2)=true then
     k0g a0 a1 (a1.1==2)
    else
     k0g a0 a1 (a1.1==3)
def J0t:Ct:=lct 259 [.agg y163,.agg y143] (fun x=>v0Z x.1 x.2.1) (fun r:Bool=>B r) (fun _=>())
theorem H0U:Ok prog J0t:=by
 refine okL [.tmp 4] func259 ntmps259 results259 ?_;intro y ⟨a0,a1,_⟩ r H Q hn hr;have:HT _ _:=⟨tc p0Y (tc H0M (tc E0z (tc H0O (tc H0N (tc H0P tn)))))⟩;refine qA (Z (G13 []) (W15 a1 a0))<|vQ<|qB (Z (G13 [p 7 (B (vl (B0u a1.1)))]) (W15 a1 a0)) H fun H=>cD H (fun H=>?_) (fun H=>?_)
 ·refine qD (fun v0=>Z [p 4 (B (a1.2.2.2.1==0&&(a1.2.2.2.2.2.length:Int)==0&&vl (N6 a1.2.2.2.2.1 false)&&a1.2.1==v0&&decide (0<=a1.2.1)&&vl (t0G a0 a1.2.2.1)&&a1.2.2.1 != a1.2.1))] (W15 a1 a0)) H fun v0 H=>vTT<|fR<|hr H
 refine vK<|fQ<|vQ<|qD (fun v1=>Z (G13 [p 70 (B (!vl (N6 a1.2.2.2.2.1 true)||!vl (N6 a1.2.2.2.2.2 true)||a1.2.2.1 != v1||!vl (t0G a0 a1.2.1)))]) (W15 a1 a0)) H fun v1 H=>cD H (fun H=>?_) (fun H=>?_)
 ·refine qA (Z [p 4 (B false)] (W15 a1 a0))<|vTT<|fR<|hr H
 refine vK<|fQ<|vQ<|qA (Z (G13 [p 72 (J a1.1)]) (W15 a1 a0))<|vB<|qA (Z (G13 [p 72 (J a1.1),p 73 (B (a1.1==1))]) (W15 a1 a0))<|cD H (fun H=>?_) (fun H=>?_)
 ·refine qB (Z [p 4 (B (!(a0.2.2.1.getD a1.2.1.toNat (d6 y217)).2.2.2&&vl (w8 a1.2.2.2.1 1 3)))] (W15 a1 a0)) H fun H=>vTT<|fDD<|fR<|hr H
 refine jN r (fun(v2:Bool)=>Z (G13 [p 88 (B v2)]) (W15 a1 a0)) (k0g a0 a1) (fun v2 H=>?_) (fun _ n0 e0 t0=>?_)
 ·refine cD H (fun H=>?_) (fun H=>?_)
  ·refine qB (Z [p 4 (B ((a0.2.2.1.getD a1.2.1.toNat (d6 y217)).2.2.2&&a1.2.2.2.1==0))] (W15 a1 a0)) H fun H=>vTT<|fDD<|fR<|hr H
  refine vK<|fK<|fQ<|qA (Z [p 4 (B false)] (W15 a1 a0))<|vTT<|hr H
 refine qA (Z (G13 [p 72 (J a1.1),p 88 (B (a1.1==2))]) (W15 a1 a0))<|cD H (fun H=>?_) (fun H=>?_)
 ·exact vK<|n0 H
 refine zA (Z (G13 [p 88 (B (a1.1==3))]) (W15 a1 a0))<|n0 H
def D0q(a0:A5)(a1:A5):Option (Bool) :=
 some (a0.1==a1.1&&a0.2.1==a1.2.1&&a0.2.2.1==a1.2.2.1)
def J0s:Ct:=lct 261 [.agg y143,.dat (.pt y143)] (fun x=>D0q x.1 x.2.1) (fun r:Bool=>B r) (fun _=>())
theorem E0A:Ok prog J0s:=by
 refine okL [.tmp 3] func261 ntmps261 results261 ?_;intro y ⟨a0,a1,_⟩ r H Q hn hr;have:HT _ _:=⟨@tn prog⟩;refine qA (Z [p 1 (D y143.pt a1),p 2 (R 2)] [(2,K 143 y143 a0)])<|qA (Z [p 3 (B (a0.1==a1.1&&a0.2.1==a1.2.1&&a0.2.2.1==a1.2.2.1))] [(2,K 143 y143 a0)])<|vTT<|hr H
def i0p:Unit->Option (Int)
 | _ =>
 some (-1)
def p0c(a0:List A5)(a1:A5)(g1:Int->Option (Int)):Int->Option (Int)
 | v0 =>
 if(decide (v0 < (a0.length:Int)))=true then
  gd (ix v0 a0.length/\(D0q (a0.getD v0.toNat (d6 y143)) a1).isSome=true/\True) <|
  if(vl (D0q (a0.getD v0.toNat (d6 y143)) a1))=true then
   some v0
  else
   gd (l3 (v0+1)/\True) <|
   g1 (v0+1)
 else
  i0p ()
def g0t(a0:List A5)(a1:A5):Option (Int) :=
 lp (p0c a0 a1) 0
def u0T:Ct:=lct 275 [.dat y143.sl,.fn 261 y143.pt] (fun x=>g0t x.1 x.2.1) (fun r:Int=>I r) (fun _=>())
theorem u0y:Ok prog u0T:=by
 refine okL [.tmp 4] func275 ntmps275 results275 ?_;intro y ⟨a0,a1,_⟩ r H Q hn hr;have:HT _ _:=⟨tc E0A tn⟩;refine qA (Z [p 0 (L y143 a0),p 1 (AV.fn 261 [D y143.pt a1])] [])<|jN r (fun(_:Unit)=>Z [] []) (i0p) (fun _ H=>?_) (fun _ n0 e0 t0=>?_)
 ·refine qA (Z [p 4 (I (-1))] [])<|vTT<|hr H
 refine qA (Z [p 0 (L y143 a0),p 1 (AV.fn 261 [D y143.pt a1]),p 7 (I (a0.length:Int)),p 8 (I 0)] [])<|vB<|lX (fun(v0:Int)=>Z [p 0 (L y143 a0),p 1 (AV.fn 261 [D y143.pt a1]),p 7 (I (a0.length:Int)),p 8 (I v0)] []) 0 H fun _ g1 b1 e1 t1 v0 H=>qA (Z [p 0 (L y143 a0),p 1 (AV.fn 261 [D y143.pt a1]),p 7 (I (a0.length:Int)),p 8 (I v0),p 9 (B (decide (v0 < (a0.length:Int))))] [])<|vQ<|cD H (fun H=>?_) (fun H=>?_)
 ·refine vK<|fQ<|vQ<|vB<|qA (Z [p 0 (L y143 a0),p 1 (AV.fn 261 [D y143.pt a1]),p 5 (I v0),p 7 (I (a0.length:Int)),p 8 (I v0)] [])<|qB (Z [p 0 (L y143 a0),p 1 (AV.fn 261 [D y143.pt a1]),p 5 (I v0),p 7 (I (a0.length:Int)),p 8 (I v0),p 16 (B (vl (D0q (a0.getD v0.toNat (d6 y143)) a1)))] []) H fun H=>cD H (fun H=>?_) (fun H=>?_)
  ·refine qA (Z [p 4 (I v0)] [])<|vTT<|fDD<|fR<|t1<|fDD<|t0<|hr H
  refine vK<|fK<|fQ<|zB (Z [p 0 (L y143 a0),p 1 (AV.fn 261 [D y143.pt a1]),p 7 (I (a0.length:Int)),p 8 (I (v0+1))] []) H fun H=>b1 H
 exact vE<|fE<|e1<|fX rfl<|n0 H
def d0W(a0:List A5)(a1:A5):Option (Bool) :=
 gd ((g0t a0 a1).isSome=true/\True)<|lt (vl (g0t a0 a1)) fun v0 =>
 some (decide (0<=v0))
def u0V:Ct:=lct 260 [.dat y143.sl,.fn 261 (.pt y143)] (fun x=>d0W x.1 x.2.1) (fun r:Bool=>B r) (fun _=>())
theorem u0z:Ok prog u0V:=by
 refine okL [.tmp 4] func260 ntmps260 results260 ?_;intro y ⟨a0,a1,_⟩ r H Q hn hr;have:HT _ _:=⟨tc n0V (tc u0y (tc E0A tn))⟩;refine qA (Z [p 0 (L y143 a0),p 1 (AV.fn 261 [D y143.pt a1])] [])<|qD (fun v0=>Z [p 4 (B (decide (0<=v0)))] []) H fun v0 H=>vTT<|hr H
def n0f(a0:m4):Unit->Option (Bool)
 | _ =>
 some (decide ((a0.2.2.2.1.length:Int)<=8))
def w0c(a0:m4)(g1:Int->Option (Bool)):Int->Option (Bool)
 | v1 =>
 if(decide (v1 < (a0.2.2.2.1.length:Int)))=true then
  gd (ix v1 a0.2.2.2.1.length/\True)<|lt (a0.2.2.2.1.getD v1.toNat (d6 y143)) fun v2 =>
  gd ((v0Z a0 v2).isSome=true/\((!vl (v0Z a0 v2))=false/\True->(0:Int)<=(0:Int)/\(0:Int)<=v1/\v1<=(a0.2.2.2.1.length:Int))/\((!vl (v0Z a0 v2))=false/\True->(d0W (List.take v1.toNat a0.2.2.2.1) v2).isSome=true)/\True) <|
  if(!vl (v0Z a0 v2)||vl (d0W (List.take v1.toNat a0.2.2.2.1) v2))=true then
   some false
  else
   gd (l3 (v1+1)/\True) <|
   g1 (v1+1)
 else
  n0f a0 ()
def w0d(a0:m4):Option (Bool) :=
 lp (w0c a0) 0
def J0z:Ct:=lct 243 [.agg y163] (fun x=>w0d x.1) (fun r:Bool=>B r) (fun _=>())
theorem H0Z:Ok prog J0z:=by
 refine okL [.tmp 2] func243 ntmps243 results243 ?_;intro y ⟨a0,_⟩ r H Q hn hr;have:HT _ _:=⟨tc n0W (tc u0z (tc E0A (tc H0U tn)))⟩;refine qA (Z [p 1 (R 1)] [(1,K 163 y163 a0)])<|jN r (fun(_:Unit)=>Z [p 1 (R 1)] [(1,K 163 y163 a0)]) (n0f a0) (fun _ H=>?_) (fun _ n0 e0 t0=>?_)
 ·refine qA (Z [p 2 (B (decide ((a0.2.2.2.1.length:Int)<=8)))] [(1,K 163 y163 a0)])<|vTT<|hr H
 refine qA (Z [p 1 (R 1),p 6 (L y143 a0.2.2.2.1),p 7 (I (a0.2.2.2.1.length:Int)),p 8 (I 0)] [(1,K 163 y163 a0)])<|vB<|lX (fun(v1:Int)=>Z [p 1 (R 1),p 6 (L y143 a0.2.2.2.1),p 7 (I (a0.2.2.2.1.length:Int)),p 8 (I v1)] [(1,K 163 y163 a0)]) 0 H fun _ g1 b1 e1 t1 v1 H=>qA (Z [p 1 (R 1),p 6 (L y143 a0.2.2.2.1),p 7 (I (a0.2.2.2.1.length:Int)),p 8 (I v1),p 9 (B (decide (v1 < (a0.2.2.2.1.length:Int))))] [(1,K 163 y163 a0)])<|vQ<|cD H (fun H=>?_) (fun H=>?_)
 ·refine vK<|fQ<|vQ<|vB<|qD (fun v2=>Z (G16 v1 [p 4 (R 4),p 6 (L y143 a0.2.2.2.1),p 7 (I (a0.2.2.2.1.length:Int)),p 8 (I v1)]) [(4,K 143 y143 v2),(1,K 163 y163 a0)]) H fun v2 H=>qB (Z [p 1 (R 1),p 6 (L y143 a0.2.2.2.1),p 7 (I (a0.2.2.2.1.length:Int)),p 8 (I v1),p 24 (B (!vl (v0Z a0 v2)||vl (d0W (List.take v1.toNat a0.2.2.2.1) v2)))] [(4,K 143 y143 v2),(1,K 163 y163 a0)]) H fun H=>cD H (fun H=>?_) (fun H=>?_)
  ·refine qA (Z [p 2 (B false)] [(4,K 143 y143 v2),(1,K 163 y163 a0)])<|vTT<|fDD<|fR<|t1<|fDD<|t0<|hr H
  refine vK<|fK<|fQ<|zB (Z [p 1 (R 1),p 6 (L y143 a0.2.2.2.1),p 7 (I (a0.2.2.2.1.length:Int)),p 8 (I (v1+1))] [(4,K 143 y143 v2),(1,K 163 y163 a0)]) H fun H=>b1 H
 exact vE<|fE<|e1<|fX rfl<|n0 H
def k0h(a0:List I2):List ByteArray->Option (Bool)
 | v6 =>
 gd ((q0A a0).isSome=true/\(w8 (vl (q0A a0)) 2 5).isSome=true/\(vl (w8 (vl (q0A a0)) 2 5)=true/\True->(M6 v6).isSome=true)/\True) <|
 some (vl (w8 (vl (q0A a0)) 2 5)&&vl (M6 v6))
def n0g(v3:Int)(g1:List ByteArray×Int->Option (Bool)):List ByteArray->Option (Bool)
 | v5 =>
 gd (l3 (v3+1)/\True) <|
 g1 (v5,v3+1)
def w0e(a0:List I2)(g1:List ByteArray×Int->Option (Bool)):List ByteArray×Int->Option (Bool)
 | (v2,v3) =>
 if(decide (v3 < (a0.length:Int)))=true then
  gd (ix v3 a0.length/\True)<|lt (a0.getD v3.toNat (d6 y217)) fun v4 =>
  gd ((v2.length+[v4.1].length<=9223372036854775807/\(v2.length+[v4.1].length)*16<=140737488355328)/\True) <|
  gd (l3 ((a0.length:Int)-1)/\True) <|
  if(v3==(a0.length:Int)-1)=true then
   if(v4.2.1 != 2||v4.2.2.1 != 0||v4.2.2.2)=true then
    some false
   else
    n0g v3 g1 (v2++[v4.1])
  else
   gd (((v4.2.1 != 1)=false/\True->(w8 v4.2.2.1 0 500).isSome=true)/\True) <|
   if(v4.2.1 != 1||!vl (w8 v4.2.2.1 0 500))=true then
    some false
   else
    n0g v3 g1 (v2++[v4.1])
 else
  k0h a0 v2
def t0I(a0:List I2):Option (Bool) :=
 lp (w0e a0) ([],0)
def J0A:Ct:=lct 242 [.dat y217.sl] (fun x=>t0I x.1) (fun r:Bool=>B r) (fun _=>())
theorem I0a:Ok prog J0A:=by
 refine okL [.tmp 2] func242 ntmps242 results242 ?_;intro y ⟨a0,_⟩ r H Q hn hr;have:HT _ _:=⟨tc E0C (tc p0Y (tc F0G tn))⟩;refine qA (Z [p 0 (L y217 a0)] [])<|qA (Z [p 0 (L y217 a0),p 3 (nil)] [])<|jN r (fun(v6:List ByteArray)=>Z [p 0 (L y217 a0),p 3 (O 17)] [(17,A 9 Ty.str v6 0)]) (k0h a0) (fun v6 H=>?_) (fun _ n0 e0 t0=>?_)
 ·refine qB (Z [p 2 (B (vl (w8 (vl (q0A a0)) 2 5)&&vl (M6 v6)))] [(17,A 9 Ty.str v6 0)]) H fun H=>vTT<|hr H
 refine qA (Z [p 0 (L y217 a0),p 3 (nil),p 6 (L y217 a0),p 7 (I (a0.length:Int)),p 8 (I 0)] [])<|vB<|lX (fun((v2,v3):List ByteArray×Int)=>Z [p 0 (L y217 a0),p 3 (O 17),p 6 (L y217 a0),p 7 (I (a0.length:Int)),p 8 (I v3)] [(17,A 9 Ty.str v2 0)]) ([],0) H fun _ g1 b1 e1 t1 ⟨v2,v3⟩ H=>qA (Z [p 0 (L y217 a0),p 3 (O 17),p 6 (L y217 a0),p 7 (I (a0.length:Int)),p 8 (I v3),p 9 (B (decide (v3 < (a0.length:Int))))] [(17,A 9 Ty.str v2 0)])<|vQ<|cD H (fun H=>?_) (fun H=>?_)
 ·refine vK<|fQ<|jN r (fun(v5:List ByteArray)=>Z [p 0 (L y217 a0),p 3 (O 17),p 6 (L y217 a0),p 7 (I (a0.length:Int)),p 8 (I v3)] [(17,A 9 Ty.str v5 0)]) (n0g v3 g1) (fun v5 H=>?_) (fun _ n2 e2 t2=>?_)
  ·refine zB (Z [p 0 (L y217 a0),p 3 (O 17),p 6 (L y217 a0),p 7 (I (a0.length:Int)),p 8 (I (v3+1))] [(17,A 9 Ty.str v5 0)]) H fun H=>b1 H
  refine vB<|qD (fun v4=>Z [p 0 (L y217 a0),p 3 (O 17),p 4 (I v3),p 5 (R 5),p 6 (L y217 a0),p 7 (I (a0.length:Int)),p 8 (I v3)] [(5,K 217 y217 v4),(17,A 9 Ty.str v2 0)]) H fun v4 H=>qB (Z [p 0 (L y217 a0),p 3 (AV.os 17 1),p 4 (I v3),p 5 (R 5),p 6 (L y217 a0),p 7 (I (a0.length:Int)),p 8 (I v3)] (W68 (v2++[v4.1]) [v4.1] v4)) H fun H=>qB (Z [p 0 (L y217 a0),p 3 (AV.os 17 1),p 5 (R 5),p 6 (L y217 a0),p 7 (I (a0.length:Int)),p 8 (I v3),p 22 (B (v3==(a0.length:Int)-1))] (W68 (v2++[v4.1]) [v4.1] v4)) H fun H=>cD H (fun H=>?_) (fun H=>?_)
  ·refine qA (Z [p 0 (L y217 a0),p 3 (AV.os 17 1),p 6 (L y217 a0),p 7 (I (a0.length:Int)),p 8 (I v3),p 34 (B (v4.2.1 != 2||v4.2.2.1 != 0||v4.2.2.2))] (W68 (v2++[v4.1]) [v4.1] v4))<|cD H (fun H=>?_) (fun H=>?_)
   ·refine qA (Z [p 2 (B false)] (W68 (v2++[v4.1]) [v4.1] v4))<|vTT<|fDD<|t2<|t1<|fDD<|t0<|hr H
   exact vK<|fK<|n2 H
  refine qB (Z [p 0 (L y217 a0),p 3 (AV.os 17 1),p 6 (L y217 a0),p 7 (I (a0.length:Int)),p 8 (I v3),p 43 (B (v4.2.1 != 1||!vl (w8 v4.2.2.1 0 500)))] (W68 (v2++[v4.1]) [v4.1] v4)) H fun H=>cD H (fun H=>?_) (fun H=>?_)
  ·refine qA (Z [p 2 (B false)] (W68 (v2++[v4.1]) [v4.1] v4))<|vTT<|fDD<|t2<|t1<|fDD<|t0<|hr H
  exact vK<|fK<|n2 H
 exact vE<|fE<|e1<|fX rfl<|n0 H
def A0h(a0:m4):Option (Bool) :=
 gd ((R2 a0.1).isSome=true/\(vl (R2 a0.1)=true/\True->(t0I a0.2.2.1).isSome=true)/\((vl (R2 a0.1)&&vl (t0I a0.2.2.1))=true/\True->(w0d a0).isSome=true)/\((vl (R2 a0.1)&&vl (t0I a0.2.2.1)&&vl (w0d a0))=true/\True->(w8 a0.2.2.2.2.2.1 0 100000).isSome=true)/\((vl (R2 a0.1)&&vl (t0I a0.2.2.1)&&vl (w0d a0)&&vl (w8 a0.2.2.2.2.2.1 0 100000))=true/\True->(w8 a0.2.2.2.2.2.2 0 100000).isSome=true)/\((vl (R2 a0.1)&&vl (t0I a0.2.2.1)&&vl (w0d a0)&&vl (w8 a0.2.2.2.2.2.1 0 100000)&&vl (w8 a0.2.2.2.2.2.2 0 100000))=true/\True->(B0y a0).isSome=true)/\True) <|
 some (vl (R2 a0.1)&&vl (t0I a0.2.2.1)&&vl (w0d a0)&&vl (w8 a0.2.2.2.2.2.1 0 100000)&&vl (w8 a0.2.2.2.2.2.2 0 100000)&&vl (B0y a0))
def J0K:Ct:=lct 212 [.agg y163] (fun x=>A0h x.1) (fun r:Bool=>B r) (fun _=>())
theorem I0i:Ok prog J0K:=by
 refine okL [.tmp 2] func212 ntmps212 results212 ?_;intro y ⟨a0,_⟩ r H Q hn hr;have:HT _ _:=⟨tc H0Y (tc p0Y (tc H0Z (tc I0a (tc F0P tn))))⟩;refine qA (Z [p 1 (R 1)] [(1,K 163 y163 a0)])<|qB (Z [p 2 (B (vl (R2 a0.1)&&vl (t0I a0.2.2.1)&&vl (w0d a0)&&vl (w8 a0.2.2.2.2.2.1 0 100000)&&vl (w8 a0.2.2.2.2.2.2 0 100000)&&vl (B0y a0)))] [(1,K 163 y163 a0)]) H fun H=>vTT<|hr H
def k0q(a0:List m4):List ByteArray->Option (Bool)
 | v4 =>
 gd ((decide ((a0.length:Int)<=8)=true/\True->(M6 v4).isSome=true)/\True) <|
 some (decide ((a0.length:Int)<=8)&&vl (M6 v4))
def w0A(a0:List m4)(g1:List ByteArray×Int->Option (Bool)):List ByteArray×Int->Option (Bool)
 | (v1,v2) =>
 if(decide (v2 < (a0.length:Int)))=true then
  gd (ix v2 a0.length/\True)<|lt (a0.getD v2.toNat (d6 y163)) fun v3 =>
  gd ((A0h v3).isSome=true/\True) <|
  if(!vl (A0h v3))=true then
   some false
  else
   gd ((v1.length+[v3.1].length<=9223372036854775807/\(v1.length+[v3.1].length)*16<=140737488355328)/\True) <|
   gd (l3 (v2+1)/\True) <|
   g1 (v1++[v3.1],v2+1)
 else
  k0q a0 v1
def A0l(a0:List m4):Option (Bool) :=
 lp (w0A a0) ([],0)
def K0b:Ct:=lct 175 [.agg y163.sl] (fun x=>A0l x.1) (fun r:Bool=>B r) (fun _=>())
theorem I0u:Ok prog K0b:=by
 refine okL [.tmp 2] func175 ntmps175 results175 ?_;intro y ⟨a0,_⟩ r H Q hn hr;have:HT _ _:=⟨tc E0C (tc I0i tn)⟩;refine qA (Z [p 1 (R 1)] [(1,bx 26 [L y163 a0])])<|qA (Z [p 1 (R 1),p 3 (nil)] [(1,bx 26 [L y163 a0])])<|jN r (fun(v4:List ByteArray)=>Z (G53 []) (W66 a0 v4)) (k0q a0) (fun v4 H=>?_) (fun _ n0 e0 t0=>?_)
 ·refine qB (Z [p 2 (B (decide ((a0.length:Int)<=8)&&vl (M6 v4)))] (W66 a0 v4)) H fun H=>vTT<|hr H
 refine qA (Z [p 1 (R 1),p 3 (nil),p 7 (L y163 a0),p 8 (I (a0.length:Int)),p 9 (I 0)] [(1,bx 26 [L y163 a0])])<|vB<|lX (fun((v1,v2):List ByteArray×Int)=>Z (G53 [p 7 (L y163 a0),p 8 (I (a0.length:Int)),p 9 (I v2)]) (W66 a0 v1)) ([],0) H fun _ g1 b1 e1 t1 ⟨v1,v2⟩ H=>qA (Z (G53 [p 7 (L y163 a0),p 8 (I (a0.length:Int)),p 9 (I v2),p 10 (B (decide (v2 < (a0.length:Int))))]) (W66 a0 v1))<|vQ<|cD H (fun H=>?_) (fun H=>?_)
 ·refine vK<|fQ<|vQ<|vB<|qD (fun v3=>Z (G53 [p 5 (R 5),p 7 (L y163 a0),p 8 (I (a0.length:Int)),p 9 (I v2)]) ((5,K 163 y163 v3)::W66 a0 v1)) H fun v3 H=>vQ<|qB (Z (G53 [p 5 (R 5),p 7 (L y163 a0),p 8 (I (a0.length:Int)),p 9 (I v2),p 15 (B !vl (A0h v3))]) ((5,K 163 y163 v3)::W66 a0 v1)) H fun H=>cD H (fun H=>?_) (fun H=>?_)
  ·refine qA (Z [p 2 (B false)] ((5,K 163 y163 v3)::W66 a0 v1))<|vTT<|fR<|fDD<|fR<|t1<|fDD<|t0<|hr H
  refine vK<|fQ<|zB (Z [p 1 (R 1),p 3 (AV.os 20 1),p 7 (L y163 a0),p 8 (I (a0.length:Int)),p 9 (I v2)] [(20,A 9 Ty.str (v1++[v3.1]) 1),(19,A 9 Ty.str [v3.1] 0),(5,K 163 y163 v3),(1,bx 26 [L y163 a0])]) H fun H=>fK<|fQ<|zB (Z [p 1 (R 1),p 3 (AV.os 20 1),p 7 (L y163 a0),p 8 (I (a0.length:Int)),p 9 (I (v2+1))] [(20,A 9 Ty.str (v1++[v3.1]) 1),(19,A 9 Ty.str [v3.1] 0),(5,K 163 y163 v3),(1,bx 26 [L y163 a0])]) H fun H=>b1 H
 exact vE<|fE<|e1<|fX rfl<|n0 H
def i0u:Unit->Option (Int)
 | _ =>
 some (-1)
def p0f(a0:List Int)(g1:Int->Option (Int)):Int->Option (Int)
 | v0 =>
 if(decide (v0 < (a0.length:Int)))=true then
  gd (ix v0 a0.length/\(D0s (a0.getD v0.toNat 0)).isSome=true/\True) <|
  if(vl (D0s (a0.getD v0.toNat 0)))=true then
   some v0
  else
   gd (l3 (v0+1)/\True) <|
   g1 (v0+1)
 else
  i0u ()
def g0x(a0:List Int):Option (Int) :=
 lp (p0f a0) 0
def u0Y:Ct:=lct 217 [.dat i64.sl,.nof 180] (fun x=>g0x x.1) (fun r:Int=>I r) (fun _=>())
theorem u0B:Ok prog u0Y:=by
 refine okL [.tmp 4] func217 ntmps217 results217 ?_;intro y ⟨a0,_,_⟩ r H Q hn hr;have:HT _ _:=⟨tc E0G tn⟩;refine qA (Z [p 0 (L i64 a0),p 1 (AV.fn 180 [])] [])<|jN r (fun(_:Unit)=>Z [] []) (i0u) (fun _ H=>?_) (fun _ n0 e0 t0=>?_)
 ·refine qA (Z [p 4 (I (-1))] [])<|vTT<|hr H
 refine qA (Z [p 0 (L i64 a0),p 1 (AV.fn 180 []),p 7 (I (a0.length:Int)),p 8 (I 0)] [])<|vB<|lX (fun(v0:Int)=>Z [p 0 (L i64 a0),p 1 (AV.fn 180 []),p 7 (I (a0.length:Int)),p 8 (I v0)] []) 0 H fun _ g1 b1 e1 t1 v0 H=>qA (Z [p 0 (L i64 a0),p 1 (AV.fn 180 []),p 7 (I (a0.length:Int)),p 8 (I v0),p 9 (B (decide (v0 < (a0.length:Int))))] [])<|vQ<|cD H (fun H=>?_) (fun H=>?_)
 ·refine vK<|fQ<|vQ<|vB<|qA (Z [p 0 (L i64 a0),p 1 (AV.fn 180 []),p 5 (I v0),p 7 (I (a0.length:Int)),p 8 (I v0)] [])<|qB (Z [p 0 (L i64 a0),p 1 (AV.fn 180 []),p 5 (I v0),p 7 (I (a0.length:Int)),p 8 (I v0),p 16 (B (vl (D0s (a0.getD v0.toNat 0))))] []) H fun H=>cD H (fun H=>?_) (fun H=>?_)
  ·refine qA (Z [p 4 (I v0)] [])<|vTT<|fDD<|fR<|t1<|fDD<|t0<|hr H
  refine vK<|fK<|fQ<|zB (Z [p 0 (L i64 a0),p 1 (AV.fn 180 []),p 7 (I (a0.length:Int)),p 8 (I (v0+1))] []) H fun H=>b1 H
 exact vE<|fE<|e1<|fX rfl<|n0 H
def e0Z(a0:List Int):Option (Bool) :=
 gd ((g0x a0).isSome=true/\True)<|lt (vl (g0x a0)) fun v0 =>
 some (decide (0<=v0))
def v0b:Ct:=lct 179 [.dat i64.sl,.nof 180] (fun x=>e0Z x.1) (fun r:Bool=>B r) (fun _=>())
theorem u0D:Ok prog v0b:=by
 refine okL [.tmp 4] func179 ntmps179 results179 ?_;intro y ⟨a0,_,_⟩ r H Q hn hr;have:HT _ _:=⟨tc u0B (tc E0G tn)⟩;refine qA (Z [p 0 (L i64 a0),p 1 (AV.fn 180 [])] [])<|qD (fun v0=>Z [p 4 (B (decide (0<=v0)))] []) H fun v0 H=>vTT<|hr H
def k0u:List Int->Option (Bool)
 | v13 =>
 gd ((e0Z v13).isSome=true/\True) <|
 some (!vl (e0Z v13))
def n0u(v9:Int)(g3:Int×List Int->Option (Bool)):List Int->Option (Bool)
 | v12 =>
 gd (l3 (v9+1)/\True) <|
 g3 (v9+1,v12)
def x0m(a1:Y31)(g3:Int×List Int->Option (Bool)):Int×List Int->Option (Bool)
 | (v9,v10) =>
 if(decide (v9 < (a1.2.2.length:Int)))=true then
  gd (ix v9 a1.2.2.length/\True)<|lt (a1.2.2.getD v9.toNat (d6 y175)) fun v11 =>
  gd (((v11.2.1 != 1&&v11.2.1 != 2)=false/\True->(t0M a1 v11.2.2).isSome=true)/\True) <|
  if(v11.2.1 != 1&&v11.2.1 != 2||!vl (t0M a1 v11.2.2))=true then
   some false
  else
   if(v11.2.1==1)=true then
    gd (ix v11.2.2 v10.length/\v11.2.2.toNat<v10.length/\l3 (v10.getD v11.2.2.toNat 0+1)/\ix v11.2.2 v10.length/\v11.2.2.toNat<v10.length/\True) <|
    n0u v9 g3 (v10.set v11.2.2.toNat (v10.getD v11.2.2.toNat 0+1))
   else
    n0u v9 g3 v10
 else
  k0u v10
def n0v(a1:Y31):List Int->Option (Bool)
 | v6 =>
 lp (x0m a1) (0,v6)
def x0n(a1:Y31)(a0:List m4)(g1:Int×List Int->Option (Bool)):Int×List Int->Option (Bool)
 | (v2,v3) =>
 if(decide (v2 < (a1.1.length:Int)))=true then
  gd (ix v2 a1.1.length/\True)<|lt (a1.1.getD v2.toNat (d6 y165)) fun v4 =>
  gd ((A0k a1 a0 v4).isSome=true/\True) <|
  if(!vl (A0k a1 a0 v4))=true then
   some false
  else
   gd (l3 ((v4.2.2.length:Int)-1)/\ix ((v4.2.2.length:Int)-1) v4.2.2.length/\ix (v4.2.2.getD ((v4.2.2.length:Int)-1).toNat 0) v3.length/\Int.toNat (v4.2.2.getD ((v4.2.2.length:Int)-1).toNat 0)<v3.length/\l3 (v3.getD (Int.toNat (v4.2.2.getD ((v4.2.2.length:Int)-1).toNat 0)) 0+1)/\ix (v4.2.2.getD ((v4.2.2.length:Int)-1).toNat 0) v3.length/\Int.toNat (v4.2.2.getD ((v4.2.2.length:Int)-1).toNat 0)<v3.length/\True)<|lt (v3.set (Int.toNat (v4.2.2.getD ((v4.2.2.length:Int)-1).toNat 0)) (v3.getD (Int.toNat (v4.2.2.getD ((v4.2.2.length:Int)-1).toNat 0)) 0+1)) fun v5 =>
   gd (l3 (v2+1)/\True) <|
   g1 (v2+1,v5)
 else
  n0v a1 v3
def A0q(a0:List m4)(a1:Y31):Option (Bool) :=
 gd ((A0l a0).isSome=true/\((!vl (A0l a0))=false/\True->(B0K a1).isSome=true)/\True) <|
 if(!vl (A0l a0)||!vl (B0K a1))=true then
  some false
 else
  gd ((0<=(a1.2.1.length:Int)/\(a1.2.1.length:Int)=(a1.2.1.length:Int)/\(a1.2.1.length:Int).toNat*8<=281474976710656/\(a1.2.1.length:Int)<=9223372036854775807)/\True) <|
  lp (x0n a1 a0) ((0,List.replicate (a1.2.1.length:Int).toNat 0))
def K0C:Ct:=lct 126 [.agg y163.sl,.agg y31] (fun x=>A0q x.1 x.2.1) (fun r:Bool=>B r) (fun _=>())
theorem I0L:Ok prog K0C:=by
 refine okL [.tmp 4] func126 ntmps126 results126 ?_;intro y ⟨a0,a1,_⟩ r H Q hn hr;have:HT _ _:=⟨tc E0G (tc u0D (tc F0I (tc I0s (tc I0t (tc I0u tn)))))⟩;refine qA (Z (G13 []) (W7 a1 a0))<|vQ<|qB (Z (G13 [p 17 (B (!vl (A0l a0)||!vl (B0K a1)))]) (W7 a1 a0)) H fun H=>cD H (fun H=>?_) (fun H=>?_)
 ·refine qA (Z [p 4 (B false)] (W7 a1 a0))<|vTT<|fR<|hr H
 refine vK<|fQ<|qB (Z (G13 [p 5 (O 21)]) ((21,A 3 i64 (List.replicate (a1.2.1.length:Int).toNat 0) 0)::W7 a1 a0)) H fun H=>jN r (fun(v6:List Int)=>Z [p 3 (R 3),p 5 (O 21)] (W62 v6 a1)) (n0v a1) (fun v6 H=>?_) (fun _ n0 e0 t0=>?_)
 ·refine jN r (fun(v13:List Int)=>Z [p 5 (O 21)] [(21,A 3 i64 v13 0)]) (k0u) (fun v13 H=>?_) (fun _ n2 e2 t2=>?_)
  ·refine qB (Z [p 4 (B !vl (e0Z v13))] [(21,A 3 i64 v13 0)]) H fun H=>vTT<|hr H
  refine qA (Z (G79 a1.2.2 (a1.2.2.length:Int) [p 51 (I 0)]) (W62 v6 a1))<|vB<|lX (fun((v9,v10):Int×List Int)=>Z (G79 a1.2.2 (a1.2.2.length:Int) [p 51 (I v9)]) (W62 v10 a1)) (0,v6) H fun _ g3 b3 e3 t3 ⟨v9,v10⟩ H=>qA (Z (G79 a1.2.2 (a1.2.2.length:Int) [p 51 (I v9),p 52 (B (decide (v9 < (a1.2.2.length:Int))))]) (W62 v10 a1))<|vQ<|cD H (fun H=>?_) (fun H=>?_)
  ·refine vK<|fQ<|jN r (fun(v12:List Int)=>Z (G79 a1.2.2 (a1.2.2.length:Int) [p 51 (I v9)]) (W62 v12 a1)) (n0u v9 g3) (fun v12 H=>?_) (fun _ n4 e4 t4=>?_)
   ·refine zB (Z (G79 a1.2.2 (a1.2.2.length:Int) [p 51 (I (v9+1))]) (W62 v12 a1)) H fun H=>b3 H
   refine vB<|qD (fun v11=>Z [p 3 (R 3),p 5 (O 21),p 9 (R 9),p 49 (L y175 a1.2.2),p 50 (I (a1.2.2.length:Int)),p 51 (I v9)] ((9,K 175 y175 v11)::W62 v10 a1)) H fun v11 H=>vQ<|qB (Z [p 3 (R 3),p 5 (O 21),p 9 (R 9),p 49 (L y175 a1.2.2),p 50 (I (a1.2.2.length:Int)),p 51 (I v9),p 69 (B (v11.2.1 != 1&&v11.2.1 != 2||!vl (t0M a1 v11.2.2)))] ((9,K 175 y175 v11)::W62 v10 a1)) H fun H=>cD H (fun H=>?_) (fun H=>?_)
   ·refine qA (Z [p 4 (B false)] ((9,K 175 y175 v11)::W62 v10 a1))<|vTT<|fR<|fDD<|t4<|t3<|fDD<|t2<|hr H
   refine vK<|fQ<|qA (Z [p 3 (R 3),p 5 (O 21),p 9 (R 9),p 49 (L y175 a1.2.2),p 50 (I (a1.2.2.length:Int)),p 51 (I v9),p 72 (B (v11.2.1==1))] ((9,K 175 y175 v11)::W62 v10 a1))<|cD H (fun H=>?_) (fun H=>?_)
   ·refine zB (Z (G79 a1.2.2 (a1.2.2.length:Int) [p 51 (I v9)]) [(21,A 3 i64 (v10.set v11.2.2.toNat (v10.getD v11.2.2.toNat 0+1)) 0),(9,K 175 y175 v11),(3,K 31 y31 a1)]) H fun H=>fK<|n4 H
   exact vK<|fK<|n4 H
  exact vE<|fE<|e3<|fX rfl<|n2 H
 refine qA (Z (G13 [p 5 (O 21),p 23 (L y165 a1.1),p 24 (I (a1.1.length:Int)),p 25 (I 0)]) ((21,A 3 i64 (List.replicate (a1.2.1.length:Int).toNat 0) 0)::W7 a1 a0))<|vB<|lX (fun((v2,v3):Int×List Int)=>Z (G13 [p 5 (O 21),p 23 (L y165 a1.1),p 24 (I (a1.1.length:Int)),p 25 (I v2)]) ((21,A 3 i64 v3 0)::W7 a1 a0)) ((0,List.replicate (a1.2.1.length:Int).toNat 0)) H fun _ g1 b1 e1 t1 ⟨v2,v3⟩ H=>qA (Z (G13 [p 5 (O 21),p 23 (L y165 a1.1),p 24 (I (a1.1.length:Int)),p 25 (I v2),p 26 (B (decide (v2 < (a1.1.length:Int))))]) ((21,A 3 i64 v3 0)::W7 a1 a0))<|vQ<|cD H (fun H=>?_) (fun H=>?_)
 ·refine vK<|fQ<|vQ<|vB<|qD (fun v4=>Z (G13 [p 5 (O 21),p 7 (R 7),p 23 (L y165 a1.1),p 24 (I (a1.1.length:Int)),p 25 (I v2)]) ((7,K 165 y165 v4)::(21,A 3 i64 v3 0)::W7 a1 a0)) H fun v4 H=>vQ<|qB (Z (G13 [p 5 (O 21),p 7 (R 7),p 23 (L y165 a1.1),p 24 (I (a1.1.length:Int)),p 25 (I v2),p 33 (B !vl (A0k a1 a0 v4))]) ((7,K 165 y165 v4)::(21,A 3 i64 v3 0)::W7 a1 a0)) H fun H=>cD H (fun H=>?_) (fun H=>?_)
  ·refine qA (Z [p 4 (B false)] ((7,K 165 y165 v4)::(21,A 3 i64 v3 0)::W7 a1 a0))<|vTT<|fR<|fDD<|fR<|t1<|fDD<|t0<|hr H
  refine vK<|fQ<|zD (fun v5=>Z (G13 [p 5 (O 21),p 23 (L y165 a1.1),p 24 (I (a1.1.length:Int)),p 25 (I v2)]) ((21,A 3 i64 v5 0)::(7,K 165 y165 v4)::W7 a1 a0)) H fun v5 H=>fK<|fQ<|zB (Z (G13 [p 5 (O 21),p 23 (L y165 a1.1),p 24 (I (a1.1.length:Int)),p 25 (I (v2+1))]) ((21,A 3 i64 v5 0)::(7,K 165 y165 v4)::W7 a1 a0)) H fun H=>b1 H
 exact vE<|fE<|e1<|fX rfl<|n0 H
end Go.Proofs.YtphnknndgfgepaaGreatDoor
end
