/- Functions of this program as plain functions of data, and that they are so: printed by program. -/
import Derived.Test.YtekfdfcnjlfgiaaDoorXD
import Derived.Test.YtekfdfcnjlfgiaaDoorXF
import Derived.Test.YtekfdfcnjlfgiaaDoorTY
import Derived.Test.YtekfdfcnjlfgiaaDoorLB
section
namespace Go.Proofs.YtekfdfcnjlfgiaaDoor
open Go Go.Proofs Go.Proofs.Sv Go.Proofs.Xv Go.Proofs.Xl Go.RowKit
open Tryd
instance:HG Tryd.prog Γ:=⟨tok⟩
abbrev bx(T:TypeId)(c:List AV):Ob:=.box T c
abbrev b8:Ty:=.int .u8
abbrev G0(y0:Int)(y1:Int)(y2:Int)(t:List (Nat×Sl)):List (Nat×Sl):=p 0 (R 500000) :: p 1 (J y0) :: p 4 (R 4) :: p 5 (O 12) :: p 6 (O 14) :: p 7 (O 15) :: p 8 (I y1) :: p 9 (I y2) :: t
abbrev W1(y0:List (den i64))(y1:List (den i64)):List (Nat×Ob):=[(3,bx 26 [AV.os 9 0,AV.os 1009 0,AV.os 2009 0]),(1009,A 2 i64 y0 0),(9,A 2 i64 y1 0),(2,bx 26 [nil,nil,nil])]
abbrev W2(y0:List (den i64)):List (Nat×Ob):=[(12,A 2 i64 y0 0),(4,bx 26 [nil,nil,nil])]
def u25J0:Unit->Option Bool
 | _ =>
 some true
def u25L1(a0:List Int)(a1:List Int)(g1:Int->Option Bool):Int->Option Bool
 | v0 =>
 if(decide (v0 < (a0.length:Int))) then
  gd (ix v0 a0.length/\ix v0 a1.length/\True) <|
  if(a0.getD v0.toNat 0 != a1.getD v0.toNat 0) then
   some false
  else
   gd (in64 (v0+1)/\True) <|
   g1 (v0+1)
 else
  u25J0 ()
def u25(a0:List Int)(a1:List Int):Option Bool :=
 if((a0.length:Int) != (a1.length:Int)) then
  some false
 else
  lp (u25L1 a0 a1) 0
def k25:Ct:=lct 25 [.dat i64.sl,.dat i64.sl] (fun x=>u25 x.1 x.2.1) (fun r:Bool=>B r) (fun _=>())
theorem o25:Ok prog k25:=by
 refine okM [.tmp 4] func25 ?_;intro y ⟨a0,a1,_⟩ r H Q hn hr;refine iA [0,1]<|vQ<|iA [0,1,10]<|cD H (fun H=>iA [4]<|vTT<|fR<|hr H) fun H=>vK<|fQ<|jN r (fun(_:Unit)=>Z [] []) (u25J0) (fun _ H=>?_) (fun _ n0 e0 t0=>?_)
 ·refine iA [4]<|vTT<|hr H
 refine iA [0,1,5]<|vB<|lX (fun(v0:Int)=>Z [p 0 (L i64 a0),p 1 (L i64 a1),p 5 (I v0)] []) 0 H fun _ g1 b1 e1 t1 v0 H=>vQ<|iA [0,1,5,14]<|cD H (fun H=>?_) (fun H=>?_)
 ·refine vK<|fQ<|vQ<|vB<|iB [0,1,5,25] H fun H=>cD H (fun H=>iA [4]<|vTT<|fDD<|fR<|t1<|fDD<|t0<|hr H) fun H=>vK<|fK<|fQ<|jB [0,1,5] H fun H=>b1 H
 exact vE<|fE<|e1<|fX rfl<|n0 H
def u11(a0:Y26)(a1:Y26):Option Bool :=
 gd ((u25 a0.1 a1.1).isSome/\(vl (u25 a0.1 a1.1)=true/\True->(u25 a0.2.1 a1.2.1).isSome)/\((vl (u25 a0.1 a1.1)&&vl (u25 a0.2.1 a1.2.1))=true/\True->(u25 a0.2.2 a1.2.2).isSome)/\True) <|
 some (vl (u25 a0.1 a1.1)&&vl (u25 a0.2.1 a1.2.1)&&vl (u25 a0.2.2 a1.2.2))
def k11:Ct:=lct 11 [.agg y26,.agg y26] (fun x=>u11 x.1 x.2.1) (fun r:Bool=>B r) (fun _=>())
theorem o11:Ok prog k11:=by
 refine okM [.tmp 4] func11 ?_;intro y ⟨_,_,_⟩ r H Q hn hr;have:=hz (tc o25 tn);refine iA [2,3]<|iB [4] H fun H=>vTT<|hr H
def u31(a0:Int)(a1:Int)(a2:Int):Option Bool :=
 some (decide (a1<=a0)&&decide (a0<=a2))
def k31:Ct:=lct 31 [.dat i64,.dat i64,.dat i64] (fun x=>u31 x.1 x.2.1 x.2.2.1) (fun r:Bool=>B r) (fun _=>())
theorem o31:Ok prog k31:=by
 refine okM [.tmp 6] func31 ?_;intro y ⟨_,_,_,_⟩ r H Q hn hr;refine iA [0,1,2]<|iA [6]<|vTT<|hr H
def u35(a0:Int)(a1:Int)(a2:Int):Option Bool :=
 gd ((u31 a0 a1 a2).isSome/\True) <|
 some (!vl (u31 a0 a1 a2))
def k35:Ct:=lct 35 [.dat i64,.dat (.pt i64),.dat (.pt i64)] (fun x=>u35 x.1 x.2.1 x.2.2.1) (fun r:Bool=>B r) (fun _=>())
theorem o35:Ok prog k35:=by
 refine okM [.tmp 4] func35 ?_;intro y ⟨_,_,_,_⟩ r H Q hn hr;have:=hz (tc o31 tn);refine iA [0,1,2]<|iB [4] H fun H=>vTT<|hr H
def u44c35J0:Unit->Option Int
 | _ =>
 some (-1)
def u44c35L1(a0:List Int)(a1:Int×Int)(g1:Int->Option Int):Int->Option Int
 | v0 =>
 if(decide (v0 < (a0.length:Int))) then
  gd (ix v0 a0.length/\(u35 (a0.getD v0.toNat 0) a1.1 a1.2).isSome/\True) <|
  if(vl (u35 (a0.getD v0.toNat 0) a1.1 a1.2)) then
   some v0
  else
   gd (in64 (v0+1)/\True) <|
   g1 (v0+1)
 else
  u44c35J0 ()
def u44c35(a0:List Int)(a1:Int×Int):Option Int :=
 lp (u44c35L1 a0 a1) 0
def k44c35:Ct:=lct 44 [.dat i64.sl,.fn 35 (.pr i64.pt i64.pt)] (fun x=>u44c35 x.1 x.2.1) (fun r:Int=>I r) (fun _=>())
theorem o44c35:Ok prog k44c35:=by
 refine okM [.tmp 4] func44 ?_;intro y ⟨a0,a1,_⟩ r H Q hn hr;have:=hz (tc o35 tn);refine iA [0,1]<|jN r (fun(_:Unit)=>Z [] []) (u44c35J0) (fun _ H=>?_) (fun _ n0 e0 t0=>?_)
 ·refine iA [4]<|vTT<|hr H
 refine iA [0,1,7,8]<|vB<|lX (fun(v0:Int)=>Z [p 0 (L i64 a0),p 1 (AV.fn 35 [D i64.pt a1.1,D i64.pt a1.2]),p 7 (I (a0.length:Int)),p 8 (I v0)] []) 0 H fun _ g1 b1 e1 t1 v0 H=>iA [0,1,7,8,9]<|vQ<|cD H (fun H=>?_) (fun H=>?_)
 ·refine vK<|fQ<|vQ<|vB<|iA [0,1,5,7,8]<|iB [0,1,5,7,8,16] H fun H=>cD H (fun H=>iA [4]<|vTT<|fDD<|fR<|t1<|fDD<|t0<|hr H) fun H=>vK<|fK<|fQ<|jB [0,1,7,8] H fun H=>b1 H
 exact vE<|fE<|e1<|fX rfl<|n0 H
def u34c35(a0:List Int)(a1:Int×Int):Option Bool :=
 gd ((u44c35 a0 a1).isSome/\True)<|lt (vl (u44c35 a0 a1)) fun v0 =>
 some (decide (0<=v0))
def k34c35:Ct:=lct 34 [.dat i64.sl,.fn 35 (.pr (.pt i64) (.pt i64))] (fun x=>u34c35 x.1 x.2.1) (fun r:Bool=>B r) (fun _=>())
theorem o34c35:Ok prog k34c35:=by
 refine okM [.tmp 4] func34 ?_;intro y ⟨_,_,_⟩ r H Q hn hr;have:=hz (tc o44c35 (tc o35 tn));refine iA [0,1]<|iD o44c35 [4] H fun _ H=>vTT<|hr H
def u20(a0:List Int)(a1:Int)(a2:Int):Option Bool :=
 gd ((u34c35 a0 (a1,a2)).isSome/\True) <|
 some (!vl (u34c35 a0 (a1,a2)))
def k20:Ct:=lct 20 [.dat i64.sl,.dat i64,.dat i64] (fun x=>u20 x.1 x.2.1 x.2.2.1) (fun r:Bool=>B r) (fun _=>())
theorem o20:Ok prog k20:=by
 refine okM [.tmp 6] func20 ?_;intro y ⟨_,_,_,_⟩ r H Q hn hr;have:=hz (tc o34c35 (tc o35 tn));refine iA [0,4,5]<|iB [6] H fun H=>vTT<|hr H
def u33J0:Unit->Option Bool
 | _ =>
 some true
def u33L1(a0:List Int)(g1:Int->Option Bool):Int->Option Bool
 | v0 =>
 if(decide (v0 < (a0.length:Int))) then
  gd (in64 (v0-1)/\ix (v0-1) a0.length/\ix v0 a0.length/\True) <|
  if(decide (a0.getD v0.toNat 0<=a0.getD (v0-1).toNat 0)) then
   some false
  else
   gd (in64 (v0+1)/\True) <|
   g1 (v0+1)
 else
  u33J0 ()
def u33(a0:List Int):Option Bool :=
 lp (u33L1 a0) 1
def k33:Ct:=lct 33 [.dat i64.sl] (fun x=>u33 x.1) (fun r:Bool=>B r) (fun _=>())
theorem o33:Ok prog k33:=by
 refine okM [.tmp 2] func33 ?_;intro y ⟨a0,_⟩ r H Q hn hr;refine iA [0]<|jN r (fun(_:Unit)=>Z [] []) (u33J0) (fun _ H=>?_) (fun _ n0 e0 t0=>?_)
 ·refine iA [2]<|vTT<|hr H
 refine iA [0,3]<|vB<|lX (fun(v0:Int)=>Z [p 0 (L i64 a0),p 3 (I v0)] []) 1 H fun _ g1 b1 e1 t1 v0 H=>vQ<|iA [0,3,7]<|cD H (fun H=>?_) (fun H=>?_)
 ·refine vK<|fQ<|vQ<|vB<|iB [0,3,19] H fun H=>cD H (fun H=>iA [2]<|vTT<|fDD<|fR<|t1<|fDD<|t0<|hr H) fun H=>vK<|fK<|fQ<|jB [0,3] H fun H=>b1 H
 exact vE<|fE<|e1<|fX rfl<|n0 H
def u32(a0:List Int):Option Int :=
 some (a0.length:Int)
def k32:Ct:=lct 32 [.dat i64.sl] (fun x=>u32 x.1) (fun r:Int=>I r) (fun _=>())
theorem o32:Ok prog k32:=by
 refine okM [.tmp 2] func32 ?_;intro y ⟨_,_⟩ r H Q hn hr;refine iA [0]<|iA [2]<|vTT<|hr H
def u19(a0:List Int):Option Bool :=
 gd ((u32 a0).isSome/\(u31 (vl (u32 a0)) 1 4).isSome/\(vl (u31 (vl (u32 a0)) 1 4)=true/\True->(u20 a0 0 100000).isSome)/\((vl (u31 (vl (u32 a0)) 1 4)&&vl (u20 a0 0 100000))=true/\True->(u33 a0).isSome)/\True) <|
 some (vl (u31 (vl (u32 a0)) 1 4)&&vl (u20 a0 0 100000)&&vl (u33 a0))
def k19:Ct:=lct 19 [.dat i64.sl] (fun x=>u19 x.1) (fun r:Bool=>B r) (fun _=>())
theorem o19:Ok prog k19:=by
 refine okM [.tmp 2] func19 ?_;intro y ⟨_,_⟩ r H Q hn hr;have:=hz (tc o33 (tc o20 (tc o31 (tc o32 tn))));refine iA [0]<|iB [2] H fun H=>vTT<|hr H
def u9(a0:Y26):Option Bool :=
 gd ((u19 a0.1).isSome/\(vl (u19 a0.1)=true/\True->(u19 a0.2.1).isSome)/\((vl (u19 a0.1)&&vl (u19 a0.2.1))=true/\True->in64 ((a0.1.length:Int)*(a0.2.1.length:Int)))/\((vl (u19 a0.1)&&vl (u19 a0.2.1)&&(a0.2.2.length:Int)==(a0.1.length:Int)*(a0.2.1.length:Int))=true/\True->(u20 a0.2.2 (-1000000) 1000000).isSome)/\True) <|
 some (vl (u19 a0.1)&&vl (u19 a0.2.1)&&(a0.2.2.length:Int)==(a0.1.length:Int)*(a0.2.1.length:Int)&&vl (u20 a0.2.2 (-1000000) 1000000))
def k9:Ct:=lct 9 [.agg y26] (fun x=>u9 x.1) (fun r:Bool=>B r) (fun _=>())
theorem o9:Ok prog k9:=by
 refine okM [.tmp 2] func9 ?_;intro y ⟨_,_⟩ r H Q hn hr;have:=hz (tc o20 (tc o19 tn));refine iA [1]<|iB [2] H fun H=>vTT<|hr H
def u36(a0:Int)(a1:Int)(a2:Int):Option Int :=
 gd (0<a1/\0<a1/\True) <|
 if(a2==0&&decide (a0.tmod a1<0)) then
  gd (in64 (a0.tdiv a1-1)/\True) <|
  some (a0.tdiv a1-1)
 else
  if(a2==1&&decide (0<a0.tmod a1)) then
   gd (in64 (a0.tdiv a1+1)/\True) <|
   some (a0.tdiv a1+1)
  else
   some (a0.tdiv a1)
def k36:Ct:=lct 36 [.dat i64,.dat i64,.dat i64] (fun x=>u36 x.1 x.2.1 x.2.2.1) (fun r:Int=>I r) (fun _=>())
theorem o36:Ok prog k36:=by
 refine okM [.tmp 6] func36 ?_;intro y ⟨_,_,_,_⟩ r H Q hn hr;refine iA [0,1,2]<|iB [2,7,8] H fun H=>vQ<|vB<|iA [2,7,8,15]<|cD H (fun H=>iB [6] H fun H=>vTT<|fDD<|fR<|hr H) fun H=>iA [7,24]<|cD H (fun H=>iB [6] H fun H=>vTT<|fDD<|fR<|hr H) fun H=>vK<|fK<|fQ<|iA [6]<|vTT<|hr H
def u24(a0:Int)(a1:Int)(a2:Int):Option Int :=
 gd (in64 (a0*a1)/\(u36 (a0*a1) 1000 a2).isSome/\True)<|lt (vl (u36 (a0*a1) 1000 a2)) fun v0 =>
 some v0
def k24:Ct:=lct 24 [.dat i64,.dat i64,.dat i64] (fun x=>u24 x.1 x.2.1 x.2.2.1) (fun r:Int=>I r) (fun _=>())
theorem o24:Ok prog k24:=by
 refine okM [.tmp 6] func24 ?_;intro y ⟨_,_,_,_⟩ r H Q hn hr;have:=hz (tc o36 tn);refine iA [0,1,2]<|iD o36 [6] H fun _ H=>vTT<|hr H
def u22(a0:Int):Option Bool :=
 some (a0==0||a0==1)
def k22:Ct:=lct 22 [.dat i64] (fun x=>u22 x.1) (fun r:Bool=>B r) (fun _=>())
theorem o22:Ok prog k22:=by
 refine okM [.tmp 2] func22 ?_;intro y ⟨_,_⟩ r H Q hn hr;refine iA [0]<|iA [2]<|vTT<|hr H
def u21(a0:Int):Option Bool :=
 gd ((u31 a0 0 10000).isSome/\True) <|
 some (vl (u31 a0 0 10000))
def k21:Ct:=lct 21 [.dat i64] (fun x=>u21 x.1) (fun r:Bool=>B r) (fun _=>())
theorem o21:Ok prog k21:=by
 refine okM [.tmp 2] func21 ?_;intro y ⟨_,_⟩ r H Q hn hr;have:=hz (tc o31 tn);refine iA [0]<|iB [2] H fun H=>vTT<|hr H
def u10J0(v1:List Int)(v0:List Int):List Int->Option (Y26×Int)
 | v7 =>
 gd ((u9 (v1,v0,v7)).isSome/\True) <|
 if(!vl (u9 (v1,v0,v7))) then
  some ((([],[],[]),(2:Int)))
 else
  some (((v1,v0,v7),(0:Int)))
def u10L1(a0:Y26)(a1:Int)(a2:Int)(v1:List Int)(v0:List Int)(g1:Int×List Int->Option (Y26×Int)):Int×List Int->Option (Y26×Int)
 | (v4,v5) =>
 if(decide (v4 < (a0.2.2.length:Int))) then
  gd (ix v4 a0.2.2.length/\True) <|
  gd ((u24 (a0.2.2.getD v4.toNat 0) a1 a2).isSome/\ix v4 v5.length/\v4.toNat<v5.length/\True)<|lt (vl (u24 (a0.2.2.getD v4.toNat 0) a1 a2)) fun v6 =>
  gd (in64 (v4+1)/\True) <|
  g1 (v4+1,v5.set v4.toNat v6)
 else
  u10J0 v1 v0 v5
def u10(a0:Y26)(a1:Int)(a2:Int):Option (Y26×Int) :=
 gd ((u9 a0).isSome/\True) <|
 if(!vl (u9 a0)) then
  some ((([],[],[]),(1:Int)))
 else
  gd ((u21 a1).isSome/\((!vl (u21 a1))=false/\True->(u22 a2).isSome)/\True) <|
  if(!vl (u21 a1)||!vl (u22 a2)) then
   some ((([],[],[]),(2:Int)))
  else
   gd ((u23 a0.1).isSome/\(u23 a0.2.1).isSome/\(0<=(a0.2.2.length:Int)/\(a0.2.2.length:Int)=(a0.2.2.length:Int)/\(a0.2.2.length:Int).toNat*8<=281474976710656/\(a0.2.2.length:Int)<=9223372036854775807)/\True)<|lt ((vl (u23 a0.2.1),vl (u23 a0.1))) fun(v0,v1) =>
   lp (u10L1 a0 a1 a2 v1 v0) ((0,List.replicate (a0.2.2.length:Int).toNat 0))
def k10:Ct:=lct 10 [.agg y26,.dat i64,.dat i64] (fun x=>u10 x.1 x.2.1 x.2.2.1) (fun r:Y26×Int=>AV.tup [AV.agg [AV.ow 2 true i64 r.1.1,AV.ow 2 true i64 r.1.2.1,AV.ow 2 true i64 r.1.2.2],I r.2]) (fun _=>())
theorem o10:Ok prog k10:=by
 refine okM [.cell 6 26,.tmp 7] func10 ?_;intro y ⟨a0,a1,a2,_⟩ r H Q hn hr;have:=hz (tc o9 (tc o24 (tc o23 (tc o22 (tc o21 tn)))));refine iA [1,2,3,6]<|vQ<|vB<|iB [1,2,3,6,11] H fun H=>cD H (fun H=>iA [6,7]<|vTT<|fDD<|fR<|hr H) fun H=>iB [1,2,3,6,16] H fun H=>cD H (fun H=>iA [6,7]<|vTT<|fDD<|fR<|hr H) fun H=>vK<|fK<|fQ<|qD (fun(v0,v1)=>Z [p 1 (J a1),p 2 (J a2),p 3 (R 3),p 6 (R 6),p 8 (R 8)] [(8,bx 26 [AV.os 28 0,AV.os 31 0,AV.os 35 0]),(35,A 2 i64 (List.replicate (a0.2.2.length:Int).toNat 0) 0),(31,A 2 i64 v0 0),(28,A 2 i64 v1 0),(6,bx 26 [nil,nil,nil]),(3,K 26 y26 a0)]) H fun w H=>?_
 obtain⟨v0,v1⟩:=w;refine jN r (fun(v7:List Int)=>Z [p 6 (R 6),p 8 (R 8)] [(8,bx 26 [AV.os 28 0,AV.os 31 0,AV.os 35 0]),(35,A 2 i64 v7 0),(31,A 2 i64 v0 0),(28,A 2 i64 v1 0),(6,bx 26 [nil,nil,nil])]) (u10J0 v1 v0) (fun v7 H=>?_) (fun _ n0 e0 t0=>?_)
 ·refine vQ<|iB [6,8,56] H fun H=>cD H (fun H=>iA [6,7]<|vTT<|fR<|hr H) fun H=>vK<|fQ<|iA [6,7]<|vTT<|hr H
 refine iA [1,2,6,8,38,39,40]<|vB<|lX (fun((v4,v5):Int×List Int)=>Z [p 1 (J a1),p 2 (J a2),p 6 (R 6),p 8 (R 8),p 38 (L i64 a0.2.2),p 39 (I (a0.2.2.length:Int)),p 40 (I v4)] [(8,bx 26 [AV.os 28 0,AV.os 31 0,AV.os 35 0]),(35,A 2 i64 v5 0),(31,A 2 i64 v0 0),(28,A 2 i64 v1 0),(6,bx 26 [nil,nil,nil])]) ((0,List.replicate (a0.2.2.length:Int).toNat 0)) H fun _ g1 b1 e1 t1 ⟨v4,v5⟩ H=>iA [1,2,6,8,38,39,40,41]<|vQ<|cD H (fun H=>vK<|fQ<|vQ<|vB<|iB [1,2,6,8,9,10,38,39,40] H fun H=>jD o24 [1,2,6,8,38,39,40] H fun _ H=>fK<|fQ<|jB [1,2,6,8,38,39,40] H fun H=>b1 H) fun H=>vE<|fE<|e1<|fX rfl<|n0 H
def u18(a0:Int)(a1:Int)(a2:Int):Option Bool :=
 some (decide (a1<=a0)&&decide (a0<=a2))
def k18:Ct:=lct 18 [.dat i64,.dat i64,.dat i64] (fun x=>u18 x.1 x.2.1 x.2.2.1) (fun r:Bool=>B r) (fun _=>())
theorem o18:Ok prog k18:=by
 refine okM [.tmp 6] func18 ?_;intro y ⟨_,_,_,_⟩ r H Q hn hr;refine iA [0,1,2]<|iA [6]<|vTT<|hr H
def u17J0(a0:List Int):Unit->Option Bool
 | _ =>
 some (decide (1<=(a0.length:Int))&&decide ((a0.length:Int)<=4))
def u17L1(a0:List Int)(g1:Int->Option Bool):Int->Option Bool
 | v0 =>
 if(decide (v0 < (a0.length:Int))) then
  gd (ix v0 a0.length/\(u18 (a0.getD v0.toNat 0) 0 100000).isSome/\(decide (0<v0)=true/\(!vl (u18 (a0.getD v0.toNat 0) 0 100000))=false/\True->in64 (v0-1))/\(decide (0<v0)=true/\(!vl (u18 (a0.getD v0.toNat 0) 0 100000))=false/\True->ix (v0-1) a0.length)/\(decide (0<v0)=true/\(!vl (u18 (a0.getD v0.toNat 0) 0 100000))=false/\True->ix v0 a0.length)/\True) <|
  if(!vl (u18 (a0.getD v0.toNat 0) 0 100000)||decide (0<v0)&&decide (a0.getD v0.toNat 0<=a0.getD (v0-1).toNat 0)) then
   some false
  else
   gd (in64 (v0+1)/\True) <|
   g1 (v0+1)
 else
  u17J0 a0 ()
def u17(a0:List Int):Option Bool :=
 lp (u17L1 a0) 0
def k17:Ct:=lct 17 [.dat i64.sl] (fun x=>u17 x.1) (fun r:Bool=>B r) (fun _=>())
theorem o17:Ok prog k17:=by
 refine okM [.tmp 2] func17 ?_;intro y ⟨a0,_⟩ r H Q hn hr;have:=hz (tc o18 tn);refine iA [0]<|jN r (fun(_:Unit)=>Z [p 0 (L i64 a0)] []) (u17J0 a0) (fun _ H=>?_) (fun _ n0 e0 t0=>?_)
 ·refine iA [2]<|vTT<|hr H
 refine iA [0,3]<|vB<|lX (fun(v0:Int)=>Z [p 0 (L i64 a0),p 3 (I v0)] []) 0 H fun _ g1 b1 e1 t1 v0 H=>vQ<|iA [0,3,7]<|cD H (fun H=>?_) (fun H=>?_)
 ·refine vK<|fQ<|vQ<|vB<|iB [0,3,31] H fun H=>cD H (fun H=>iA [2]<|vTT<|fDD<|fR<|t1<|fDD<|t0<|hr H) fun H=>vK<|fK<|fQ<|jB [0,3] H fun H=>b1 H
 exact vE<|fE<|e1<|fX rfl<|n0 H
def u8J0:Unit->Option Bool
 | _ =>
 some true
def u8L1(a0:Y26)(g1:Int->Option Bool):Int->Option Bool
 | v0 =>
 if(decide (v0 < (a0.2.2.length:Int))) then
  gd (ix v0 a0.2.2.length/\(u18 (a0.2.2.getD v0.toNat 0) (-1000000) 1000000).isSome/\True) <|
  if(!vl (u18 (a0.2.2.getD v0.toNat 0) (-1000000) 1000000)) then
   some false
  else
   gd (in64 (v0+1)/\True) <|
   g1 (v0+1)
 else
  u8J0 ()
def u8(a0:Y26):Option Bool :=
 gd ((u17 a0.1).isSome/\((!vl (u17 a0.1))=false/\True->(u17 a0.2.1).isSome)/\((!vl (u17 a0.1)||!vl (u17 a0.2.1))=false/\True->in64 ((a0.1.length:Int)*(a0.2.1.length:Int)))/\True) <|
 if(!vl (u17 a0.1)||!vl (u17 a0.2.1)||(a0.2.2.length:Int) != (a0.1.length:Int)*(a0.2.1.length:Int)) then
  some false
 else
  lp (u8L1 a0) 0
def k8:Ct:=lct 8 [.agg y26] (fun x=>u8 x.1) (fun r:Bool=>B r) (fun _=>())
theorem o8:Ok prog k8:=by
 refine okM [.tmp 2] func8 ?_;intro y ⟨a0,_⟩ r H Q hn hr;have:=hz (tc o18 (tc o17 tn));refine iA [1]<|vQ<|iB [1,26] H fun H=>cD H (fun H=>iA [2]<|vTT<|fR<|hr H) fun H=>vK<|fQ<|jN r (fun(_:Unit)=>Z [] []) (u8J0) (fun _ H=>?_) (fun _ n0 e0 t0=>?_)
 ·refine iA [2]<|vTT<|hr H
 refine iA [1,3]<|vB<|lX (fun(v0:Int)=>Z [p 1 (R 1),p 3 (I v0)] [(1,K 26 y26 a0)]) 0 H fun _ g1 b1 e1 t1 v0 H=>vQ<|iA [1,3,31]<|cD H (fun H=>?_) (fun H=>?_)
 ·refine vK<|fQ<|vQ<|vB<|iB [1,3,40] H fun H=>cD H (fun H=>iA [2]<|vTT<|fDD<|fR<|t1<|fDD<|t0<|hr H) fun H=>vK<|fK<|fQ<|jB [1,3] H fun H=>b1 H
 exact vE<|fE<|e1<|fX rfl<|n0 H
def u15J0:List Int->Option (List Int×Bool)
 | v5 =>
 some (v5,true)
def u15L1(v0:List ByteArray)(g1:List Int×Int->Option (List Int×Bool)):List Int×Int->Option (List Int×Bool)
 | (v2,v3) =>
 if(decide (v3 < (v0.length:Int))) then
  gd (ix v3 v0.length/\v3.toNat<v0.length/\True) <|
  gd ((u29 (v0.getD v3.toNat (dflt Ty.str))).isSome/\True)<|lt (vl (u29 (v0.getD v3.toNat (dflt Ty.str)))) fun v4 =>
  if(!v4.2) then
   some ([],false)
  else
   gd ((v2.length+[v4.1].length<=9223372036854775807/\(v2.length+[v4.1].length)*8<=140737488355328)/\True) <|
   gd (in64 (v3+1)/\True) <|
   g1 (v2++[v4.1],v3+1)
 else
  u15J0 v2
def u15(a0:ByteArray)(a1:ByteArray):Option (List Int×Bool) :=
 gd ((u14 a0 a1).isSome/\True)<|lt (vl (u14 a0 a1)) fun v0 =>
 lp (u15L1 v0) ([],0)
def k15:Ct:=lct 15 [.dat Ty.str,.dat Ty.str] (fun x=>u15 x.1 x.2.1) (fun r:List Int×Bool=>AV.tup [AV.ow 2 true i64 r.1,B r.2]) (fun _=>())
theorem o15:Ok prog k15:=by
 refine okM [.tmp 4,.tmp 5] func15 ?_;intro y ⟨_,_,_⟩ r H Q hn hr;have:=hz (tc o29 (tc o14 tn));refine iA [0,1]<|iA [0,1,6]<|jN r (fun(v5:List Int)=>Z [p 6 (O 29)] [(29,A 2 i64 v5 0)]) (u15J0) (fun v5 H=>?_) (fun _ n0 e0 t0=>?_)
 ·refine iA [4,5]<|vTT<|hr H
 refine iD o14 [6,13,14,15] H fun v0 H=>vB<|lX (fun((v2,v3):List Int×Int)=>Z [p 6 (O 29),p 13 (O 13),p 14 (I (v0.length:Int)),p 15 (I v3)] [(13,A 9 Ty.str v0 0),(29,A 2 i64 v2 0)]) ([],0) H fun _ g1 b1 e1 t1 ⟨v2,v3⟩ H=>iA [6,13,14,15,16]<|vQ<|cD H (fun H=>?_) (fun H=>?_)
 ·refine vK<|fQ<|vQ<|vB<|iB [6,8,13,14,15] H fun H=>iD o29 [6,9,10,13,14,15] H fun _ H=>vQ<|iA [6,9,13,14,15,25]<|cD H (fun H=>iA [4,5]<|vTT<|fR<|fDD<|fR<|t1<|fDD<|t0<|hr H) fun H=>vK<|fQ<|jB [6,13,14,15] H fun H=>fK<|fQ<|jB [6,13,14,15] H fun H=>b1 H
 exact vE<|fE<|e1<|fX rfl<|n0 H
def u6(a0:ByteArray):Option (Y26×Bool) :=
 gd ((u14 a0 (ByteArray.mk #[124])).isSome/\True)<|lt (vl (u14 a0 (ByteArray.mk #[124]))) fun v0 =>
 if((v0.length:Int) != 3) then
  some ((([],[],[]),false))
 else
  gd (ix (0:Int) v0.length/\Int.toNat (0:Int)<v0.length/\(u15 (v0.getD (Int.toNat (0:Int)) (dflt Ty.str)) (ByteArray.mk #[(44:UInt8)])).isSome/\True)<|lt (vl (u15 (v0.getD (Int.toNat (0:Int)) (dflt Ty.str)) (ByteArray.mk #[(44:UInt8)]))) fun v1 =>
  gd (ix (1:Int) v0.length/\Int.toNat (1:Int)<v0.length/\(u15 (v0.getD (Int.toNat (1:Int)) (dflt Ty.str)) (ByteArray.mk #[(44:UInt8)])).isSome/\True)<|lt (vl (u15 (v0.getD (Int.toNat (1:Int)) (dflt Ty.str)) (ByteArray.mk #[(44:UInt8)]))) fun v2 =>
  gd (ix (2:Int) v0.length/\Int.toNat (2:Int)<v0.length/\(u15 (v0.getD (Int.toNat (2:Int)) (dflt Ty.str)) (ByteArray.mk #[(44:UInt8)])).isSome/\True)<|lt (vl (u15 (v0.getD (Int.toNat (2:Int)) (dflt Ty.str)) (ByteArray.mk #[(44:UInt8)]))) fun v3 =>
  gd (((!v1.2||!v2.2||!v3.2)=false/\True->(u9 (v1.1,v2.1,v3.1)).isSome)/\True) <|
  if(!v1.2||!v2.2||!v3.2||!vl (u9 (v1.1,v2.1,v3.1))) then
   some ((([],[],[]),false))
  else
   some (((v1.1,v2.1,v3.1),true))
def k6:Ct:=lct 6 [.dat Ty.str] (fun x=>u6 x.1) (fun r:Y26×Bool=>AV.tup [AV.agg [AV.ow 2 true i64 r.1.1,AV.ow 2 true i64 r.1.2.1,AV.ow 2 true i64 r.1.2.2],B r.2]) (fun _=>())
theorem o6:Ok prog k6:=by
 refine okM [.cell 2 26,.tmp 3] func6 ?_;intro y ⟨_,_⟩ r H Q hn hr;have:=hz (tc o9 (tc o15 (tc o14 tn)));refine iA [0,2]<|iD o14 [2,4] H fun _ H=>vQ<|iA [2,4,16]<|cD H (fun H=>iA [2,3]<|vTT<|fR<|hr H) fun H=>vK<|fQ<|iD o15 [2,4,5,6] H fun _ H=>iD o15 [2,4,5,6,7,8] H fun _ H=>iD o15 [2,5,6,7,8,9,10] H fun _ H=>iA [2,6,8,10,11]<|vQ<|iB [2,11,57] H fun H=>cD H (fun H=>iA [2,3]<|vTT<|fR<|hr H) fun H=>vK<|fQ<|iA [2,3]<|vTT<|hr H
def u42(a0:Int):Option ByteArray :=
 gd ((u51 a0 10).isSome/\True)<|lt (vl (u51 a0 10)) fun v0 =>
 some v0
def k42:Ct:=lct 42 [.dat i64] (fun x=>u42 x.1) (fun r:ByteArray=>S r) (fun _=>())
theorem o42:Ok prog k42:=by
 refine okM [.tmp 2] func42 ?_;intro y ⟨_,_⟩ r H Q hn hr;have:=hz (tc o51 tn);refine iA [0]<|iD o51 [2] H fun _ H=>vTT<|hr H
def u30J0(a1:ByteArray):List ByteArray->Option ByteArray
 | v5 =>
 gd ((u43 v5 a1).isSome/\True)<|lt (vl (u43 v5 a1)) fun v6 =>
 some v6
def u30L1(a0:List Int)(a1:ByteArray)(g1:Int×List ByteArray->Option ByteArray):Int×List ByteArray->Option ByteArray
 | (v2,v3) =>
 if(decide (v2 < (a0.length:Int))) then
  gd (ix v2 a0.length/\True) <|
  gd ((u42 (a0.getD v2.toNat 0)).isSome/\ix v2 v3.length/\v2.toNat<v3.length/\True)<|lt (vl (u42 (a0.getD v2.toNat 0))) fun v4 =>
  gd (in64 (v2+1)/\True) <|
  g1 (v2+1,v3.set v2.toNat v4)
 else
  u30J0 a1 v3
def u30(a0:List Int)(a1:ByteArray):Option ByteArray :=
 gd ((0<=(a0.length:Int)/\(a0.length:Int)=(a0.length:Int)/\(a0.length:Int).toNat*16<=281474976710656/\(a0.length:Int)<=9223372036854775807)/\True) <|
 lp (u30L1 a0 a1) ((0,List.replicate (a0.length:Int).toNat (ByteArray.mk #[])))
def k30:Ct:=lct 30 [.dat i64.sl,.dat Ty.str] (fun x=>u30 x.1 x.2.1) (fun r:ByteArray=>S r) (fun _=>())
theorem o30:Ok prog k30:=by
 refine okM [.tmp 4] func30 ?_;intro y ⟨a0,a1,_⟩ r H Q hn hr;have:=hz (tc o43 (tc o42 tn));refine iA [0,1]<|iB [0,1,5] H fun H=>jN r (fun(v5:List ByteArray)=>Z [p 1 (U a1),p 5 (O 10)] [(10,A 9 Ty.str v5 0)]) (u30J0 a1) (fun v5 H=>?_) (fun _ n0 e0 t0=>?_)
 ·refine iD o43 [4] H fun _ H=>vTT<|hr H
 refine iA [1,5,11,12,13]<|vB<|lX (fun((v2,v3):Int×List ByteArray)=>Z [p 1 (U a1),p 5 (O 10),p 11 (L i64 a0),p 12 (I (a0.length:Int)),p 13 (I v2)] [(10,A 9 Ty.str v3 0)]) ((0,List.replicate (a0.length:Int).toNat (ByteArray.mk #[]))) H fun _ g1 b1 e1 t1 ⟨v2,v3⟩ H=>iA [1,5,11,12,13,14]<|vQ<|cD H (fun H=>vK<|fQ<|vQ<|vB<|iB [1,5,6,7,11,12,13] H fun H=>jD o42 [1,5,11,12,13] H fun _ H=>fK<|fQ<|jB [1,5,11,12,13] H fun H=>b1 H) fun H=>vE<|fE<|e1<|fX rfl<|n0 H
def u16(a0:Y26):Option ByteArray :=
 gd ((u30 a0.1 (ByteArray.mk #[44])).isSome/\(vl (u30 a0.1 (ByteArray.mk #[44]))).size+(ByteArray.mk #[124]).size<=9223372036854775807/\(u30 a0.2.1 (ByteArray.mk #[44])).isSome/\(vl (u30 a0.1 (ByteArray.mk #[44]))++ByteArray.mk #[124]).size+(vl (u30 a0.2.1 (ByteArray.mk #[44]))).size<=9223372036854775807/\(vl (u30 a0.1 (ByteArray.mk #[44]))++ByteArray.mk #[124]++vl (u30 a0.2.1 (ByteArray.mk #[44]))).size+(ByteArray.mk #[124]).size<=9223372036854775807/\(u30 a0.2.2 (ByteArray.mk #[44])).isSome/\(vl (u30 a0.1 (ByteArray.mk #[44]))++ByteArray.mk #[124]++vl (u30 a0.2.1 (ByteArray.mk #[44]))++ByteArray.mk #[124]).size+(vl (u30 a0.2.2 (ByteArray.mk #[44]))).size<=9223372036854775807/\True)<|lt ((vl (u30 a0.1 (ByteArray.mk #[44])),vl (u30 a0.2.1 (ByteArray.mk #[44])),vl (u30 a0.2.2 (ByteArray.mk #[44])))) fun(v0,v1,v2) =>
 some (v0++ByteArray.mk #[124]++v1++ByteArray.mk #[124]++v2)
def k16:Ct:=lct 16 [.agg y26] (fun x=>u16 x.1) (fun r:ByteArray=>S r) (fun _=>())
theorem o16:Ok prog k16:=by
 refine okM [.tmp 2] func16 ?_;intro y ⟨a0,_⟩ r H Q hn hr;have:=hz (tc o30 tn);refine iA [1]<|qD (fun(v0,v1,v2)=>Z [p 2 (S (v0++ByteArray.mk #[124]++v1++ByteArray.mk #[124]++v2))] [(1,K 26 y26 a0)]) H fun⟨v0,v1,v2⟩ H =>
  vTT<|hr H
def u7(a0:Y26):Option ByteArray :=
 gd ((u9 a0).isSome/\True) <|
 if(!vl (u9 a0)) then
  some (ByteArray.mk #[])
 else
  gd ((u16 a0).isSome/\True)<|lt (vl (u16 a0)) fun v0 =>
  some v0
def k7:Ct:=lct 7 [.agg y26] (fun x=>u7 x.1) (fun r:ByteArray=>S r) (fun _=>())
theorem o7:Ok prog k7:=by
 refine okM [.tmp 2] func7 ?_;intro y ⟨_,_⟩ r H Q hn hr;have:=hz (tc o16 (tc o9 tn));refine iA [1]<|vQ<|iB [1,5] H fun H=>cD H (fun H=>iA [2]<|vTT<|fR<|hr H) fun H=>vK<|fQ<|iD o16 [2] H fun _ H=>vTT<|hr H
def u27(a0:Y52)(a1:Int):Option (Int×Y52) :=
 if(decide (a1<=1)) then
  some (((0:Int),a0))
 else
  if(decide (a0.2.1 < (a0.1.length:Int))) then
   gd (ix a0.2.1 a0.1.length/\True/\True) <|
   gd (in64 (a0.2.1+1)/\True) <|
   if(decide (a1<=256)) then
    gd (0<a1/\True) <|
    some ((Int.tmod (a0.1.getD a0.2.1.toNat 0) a1,a0.1,a0.2.1+1,a0.2.2))
   else
    gd (in64 (a0.2.2*(48271:Int))/\in64 (a0.2.2*(48271:Int)+a0.1.getD a0.2.1.toNat (0:Int))/\in64 (a0.2.2*(48271:Int)+a0.1.getD a0.2.1.toNat (0:Int)+(1:Int))/\(0:Int) < (2147483647:Int)/\True)<|lt ((a0.2.2*48271+a0.1.getD a0.2.1.toNat 0+1).tmod 2147483647) fun v0 =>
    gd (0<a1/\True) <|
    some (v0.tmod a1,a0.1,a0.2.1+1,v0)
  else
   gd (in64 (a0.2.2*(48271:Int))/\in64 (a0.2.2*(48271:Int)+(11:Int))/\(0:Int) < (2147483647:Int)/\True) <|
   gd ((0:Int) < (7:Int)/\(0:Int)<a1/\True) <|
   some (((((a0.2.2*48271+11).tmod 2147483647).tdiv 7).tmod a1,a0.1,a0.2.1,(a0.2.2*48271+11).tmod 2147483647))
def k27:Ct:=lct 27 [.io 52 y52,.dat i64] (fun x=>u27 x.1 x.2.1) (fun r:Int×Y52=>I r.1) (fun r=>r.2)
theorem o27:Ok prog k27:=by
 refine okM [.tmp 4] func27 ?_;intro y ⟨a0,a1,_⟩ r H Q hn hr;refine iA [0,1]<|vQ<|iA [0,1,7]<|cD H (fun H=>iA [4]<|vTT<|fR<|hr H) fun H=>vK<|fQ<|vQ<|iA [0,1,17]<|cD H (fun H=>?_) (fun H=>?_)
 ·refine iB [0,1,5] H fun H=>iB [0,1,5] H fun H=>vQ<|iA [0,1,5,37]<|cD H (fun H=>iB [4] H fun H=>vTT<|fR<|fR<|hr H) fun H=>vK<|fQ<|qD (fun v0=>Z [p 0 (R 500000),p 1 (J a1)] [(500000,bx 52 [L b8 a0.1,I (a0.2.1+1),I v0])]) H fun v0 H=>iB [4] H fun H=>vTT<|fR<|hr H
 refine vK<|fQ<|iB [0,1] H fun H=>iB [4] H fun H=>vTT<|hr H
def u37J0:List Int×Int×Int×List Int->Option (List Int×Y52)
 | (v10,v11,v12,v13) =>
 some (v13,v10,v11,v12)
def u37L1(a1:Int)(g1:Int×Int×List Int×Int×Int×List Int->Option (List Int×Y52)):Int×Int×List Int×Int×Int×List Int->Option (List Int×Y52)
 | (v3,v4,v5,v6,v7,v8) =>
 if(decide (0<v4)) then
  gd ((v8.length+[v3].length<=9223372036854775807/\(v8.length+[v3].length)*8<=140737488355328)/\True) <|
  gd (in64 (v3+1)/\(u27 (v5,v6,v7) a1).isSome/\in64 (v3+1+(vl (u27 (v5,v6,v7) a1)).1)/\True)<|lt (vl (u27 (v5,v6,v7) a1)) fun v9 =>
  gd (in64 (v4-1)/\True) <|
  g1 (v3+1+v9.1,v4-1,v9.2.1,v9.2.2.1,v9.2.2.2,v8++[v3])
 else
  u37J0 (v5,v6,v7,v8)
def u37(a0:Y52)(a1:Int):Option (List Int×Y52) :=
 gd ((u27 a0 a1).isSome/\True)<|lt (vl (u27 a0 a1)) fun v0 =>
 gd ((u27 v0.2 3).isSome/\in64 (1+(vl (u27 v0.2 3)).1)/\True)<|lt (vl (u27 v0.2 3)) fun v1 =>
 lp (u37L1 a1) (v0.1,1+v1.1,v1.2.1,v1.2.2.1,v1.2.2.2,[])
def k37:Ct:=lct 37 [.io 52 y52,.dat i64] (fun x=>u37 x.1 x.2.1) (fun r:List Int×Y52=>AV.ow 2 true i64 r.1) (fun r=>r.2)
theorem o37:Ok prog k37:=by
 refine okM [.tmp 4] func37 ?_;intro y ⟨_,a1,_⟩ r H Q hn hr;have:=hz (tc o27 tn);refine iA [0,1]<|iA [0,1,5]<|iD o27 [0,1,5,6] H fun v0 H=>jN r (fun((v10,v11,v12,v13):List Int×Int×Int×List Int)=>Z [p 5 (O 8)] [(500000,bx 52 [L b8 v10,J v11,J v12]),(8,A 2 i64 v13 0)]) (u37J0) (fun⟨v10,v11,v12,v13⟩ H=>?_) (fun _ n0 e0 t0=>?_)
 ·refine iA [4]<|vTT<|hr H
 refine iD o27 [0,1,5,6,7] H fun v1 H=>vB<|lX (fun((v3,v4,v5,v6,v7,v8):Int×Int×List Int×Int×Int×List Int)=>Z [p 0 (R 500000),p 1 (J a1),p 5 (O 8),p 6 (I v3),p 7 (I v4)] [(500000,bx 52 [L b8 v5,J v6,J v7]),(8,A 2 i64 v8 0)]) (v0.1,1+v1.1,v1.2.1,v1.2.2.1,v1.2.2.2,[]) H fun _ g1 b1 e1 t1 ⟨v3,v4,v5,v6,v7,v8⟩ H=>vQ<|iA [0,1,5,6,7,16]<|cD H (fun H=>vK<|fQ<|vQ<|vB<|iB [0,1,5,6,7] H fun H=>jD o27 [0,1,5,6,7] H fun _ H=>fK<|fQ<|jB [0,1,5,6,7] H fun H=>b1 H) fun H=>vE<|fE<|e1<|fX rfl<|n0 H
def u26J0(v0:List Int×Y52)(v1:List Int×Y52):List Int×List Int×Int×Int->Option (Y26×Y52)
 | (v31,v32,v33,v34) =>
 some (((v0.1,v1.1,v31),v32,v33,v34))
def u26J3(v14:Int)(v15:List Int)(g1:Int×List Int×List Int×Int×Int->Option (Y26×Y52)):Int×List Int×Int×Int->Option (Y26×Y52)
 | (v27,v28,v29,v30) =>
 gd ((v15.length+[v27].length<=9223372036854775807/\(v15.length+[v27].length)*8<=140737488355328)/\True) <|
 gd (in64 (v14+1)/\True) <|
 g1 (v14+1,v15++[v27],v28,v29,v30)
def u26J2(v14:Int)(v15:List Int)(v1:List Int×Y52)(g1:Int×List Int×List Int×Int×Int->Option (Y26×Y52)):Int×List Int×Int×Int->Option (Y26×Y52)
 | (v21,v22,v23,v24) =>
 if(decide ((v1.1.length:Int)<=v14)) then
  gd (in64 (v14-(v1.1.length:Int))/\ix (v14-(v1.1.length:Int)) v15.length/\(v14-(v1.1.length:Int)).toNat<v15.length/\(u27 (v22,v23,v24) 20).isSome/\in64 (v15.getD (v14-(v1.1.length:Int)).toNat 0+(vl (u27 (v22,v23,v24) 20)).1)/\True)<|lt ((vl (u27 (v22,v23,v24) 20),max v21 (v15.getD (v14-(v1.1.length:Int)).toNat 0+(vl (u27 (v22,v23,v24) 20)).1))) fun(v25,v26) =>
  u26J3 v14 v15 g1 (v26,v25.2.1,v25.2.2.1,v25.2.2.2)
 else
  u26J3 v14 v15 g1 (v21,v22,v23,v24)
def u26L1(v1:List Int×Y52)(a1:Int)(v0:List Int×Y52)(g1:Int×List Int×List Int×Int×Int->Option (Y26×Y52)):Int×List Int×List Int×Int×Int->Option (Y26×Y52)
 | (v14,v15,v16,v17,v18) =>
 gd (in64 ((v0.1.length:Int)*(v1.1.length:Int))/\True) <|
 if(decide (v14 < (v0.1.length:Int)*(v1.1.length:Int))) then
  gd ((u27 (v16,v17,v18) 10).isSome/\in64 (a1+(vl (u27 (v16,v17,v18) 10)).1)/\True)<|lt (vl (u27 (v16,v17,v18) 10)) fun v19 =>
  gd (0 < (v1.1.length:Int)/\True) <|
  if(decide (0<v14.tmod (v1.1.length:Int))) then
   gd (in64 (v14-1)/\ix (v14-1) v15.length/\(v14-1).toNat<v15.length/\(u27 v19.2 20).isSome/\in64 (v15.getD (v14-1).toNat 0+(vl (u27 v19.2 20)).1)/\True)<|lt (vl (u27 v19.2 20)) fun v20 =>
   u26J2 v14 v15 v1 g1 ((max (a1+v19.1) (v15.getD (v14-1).toNat 0+v20.1),v20.2.1,v20.2.2.1,v20.2.2.2))
  else
   u26J2 v14 v15 v1 g1 (a1+v19.1,v19.2.1,v19.2.2.1,v19.2.2.2)
 else
  u26J0 v0 v1 (v15,v16,v17,v18)
def u26(a0:Y52)(a1:Int):Option (Y26×Y52) :=
 gd ((u37 a0 60).isSome/\True)<|lt (vl (u37 a0 60)) fun v0 =>
 gd ((u37 v0.2 40).isSome/\True)<|lt (vl (u37 v0.2 40)) fun v1 =>
 lp (u26L1 v1 a1 v0) (0,[],v1.2.1,v1.2.2.1,v1.2.2.2)
def k26:Ct:=lct 26 [.io 52 y52,.dat i64] (fun x=>u26 x.1 x.2.1) (fun r:Y26×Y52=>AV.agg [AV.ow 2 true i64 r.1.1,AV.ow 2 true i64 r.1.2.1,AV.ow 2 true i64 r.1.2.2]) (fun r=>r.2)
theorem o26:Ok prog k26:=by
 refine okM [.cell 4 26] func26 ?_;intro y ⟨_,a1,_⟩ r H Q hn hr;have:=hz (tc o27 (tc o37 tn));refine iA [0,1,4]<|iD o37 [0,1,4,5] H fun v0 H=>iD o37 [0,1,4,5,6] H fun v1 H=>iA [0,1,4,5,6,7]<|iA [0,1,4,5,6,7,8]<|jN r (fun((v31,v32,v33,v34):List Int×List Int×Int×Int)=>Z [p 4 (R 4),p 5 (O 12),p 6 (O 14),p 7 (O 15)] ((15,A 2 i64 v31 0)::(14,A 2 i64 v1.1 0)::(500000,bx 52 [L b8 v32,J v33,J v34])::W2 v0.1)) (u26J0 v0 v1) (fun⟨v31,v32,v33,v34⟩ H=>?_) (fun _ n0 e0 t0=>?_)
 ·refine iA [4]<|vTT<|hr H
 refine iA [0,1,4,5,6,7,8,9]<|vB<|lX (fun((v14,v15,v16,v17,v18):Int×List Int×List Int×Int×Int)=>Z (G0 a1 (v1.1.length:Int) v14 []) ((15,A 2 i64 v15 0)::(14,A 2 i64 v1.1 0)::(500000,bx 52 [L b8 v16,J v17,J v18])::W2 v0.1)) (0,[],v1.2.1,v1.2.2.1,v1.2.2.2) H fun _ g1 b1 e1 t1 ⟨v14,v15,v16,v17,v18⟩ H=>vQ<|iB [0,1,4,5,6,7,8,9,23] H fun H=>cD H (fun H=>?_) (fun H=>?_)
 ·refine vK<|fQ<|vQ<|vB<|iD o27 [0,1,4,5,6,7,8,9,10] H fun _ H=>jN r (fun((v21,v22,v23,v24):Int×List Int×Int×Int)=>Z (G0 a1 (v1.1.length:Int) v14 [p 10 (I v21)]) ((500000,bx 52 [L b8 v22,J v23,J v24])::(15,A 2 i64 v15 0)::(14,A 2 i64 v1.1 0)::W2 v0.1)) (u26J2 v14 v15 v1 g1) (fun⟨v21,v22,v23,v24⟩ H=>?_) (fun _ n2 e2 t2=>?_)
  ·refine jN r (fun((v27,v28,v29,v30):Int×List Int×Int×Int)=>Z (G0 a1 (v1.1.length:Int) v14 [p 10 (I v27)]) ((500000,bx 52 [L b8 v28,J v29,J v30])::(15,A 2 i64 v15 0)::(14,A 2 i64 v1.1 0)::W2 v0.1)) (u26J3 v14 v15 g1) (fun⟨v27,v28,v29,v30⟩ H=>?_) (fun _ n3 e3 t3=>?_)
   ·refine jB [0,1,4,5,6,7,8,9] H fun H=>fK<|fQ<|jB [0,1,4,5,6,7,8,9] H fun H=>b1 H
   refine iA [0,1,4,5,6,7,8,9,10,46]<|cD H (fun H=>?_) (fun H=>?_)
   ·refine zD (fun(v25,v26)=>Z (G0 a1 (v1.1.length:Int) v14 [p 10 (I v26)]) ((500000,K 52 y52 v25.2)::(15,A 2 i64 v15 0)::(14,A 2 i64 v1.1 0)::W2 v0.1)) H fun⟨v25,v26⟩ H =>
     n3 H
   exact vK<|n3 H
  refine iB [0,1,4,5,6,7,8,9,10,33] H fun H=>cD H (fun H=>jD o27 [0,1,4,5,6,7,8,9,10] H fun _ H=>n2 H) fun H=>vK<|n2 H
 exact vE<|fE<|e1<|fX rfl<|n0 H
def u12J0:List Int×List Int×Int×Int×List Int×List Int->Option (Y26×Y52)
 | (v10,v11,v12,v13,v14,v15) =>
 some (((v14,v15,v10),v11,v12,v13))
def u12J1(v2:Int×Y52)(v0:Y26×Y52)(v1:Int×Y52):Bool->Option (Y26×Y52)
 | v8 =>
 if v8 then
  gd (ix v1.1 v0.1.2.2.length/\v1.1.toNat<v0.1.2.2.length/\in64 (v0.1.2.2.getD v1.1.toNat 0-30)/\ix v1.1 v0.1.2.2.length/\v1.1.toNat<v0.1.2.2.length/\True)<|lt (v0.1.2.2.set v1.1.toNat (v0.1.2.2.getD v1.1.toNat 0-30)) fun v9 =>
  u12J0 (v9,v2.2.1,v2.2.2.1,v2.2.2.2,v0.1.1,v0.1.2.1)
 else
  u12J0 (v0.1.2.2,v2.2.1,v2.2.2.1,v2.2.2.2,v0.1.1,v0.1.2.1)
def u12(a0:Y52):Option (Y26×Y52) :=
 gd ((u27 a0 100).isSome/\in64 ((vl (u27 a0 100)).1-20)/\(u26 (vl (u27 a0 100)).2 ((vl (u27 a0 100)).1-20)).isSome/\True)<|lt (vl (u26 (vl (u27 a0 100)).2 ((vl (u27 a0 100)).1-20))) fun v0 =>
 gd ((u27 v0.2 (v0.1.2.2.length:Int)).isSome/\True)<|lt (vl (u27 v0.2 (v0.1.2.2.length:Int))) fun v1 =>
 gd ((u27 v1.2 16).isSome/\True)<|lt (vl (u27 v1.2 16)) fun v2 =>
 if(v2.1==0) then
  gd ((u27 v2.2 4).isSome/\ix (vl (u27 v2.2 4)).1 [-50,1000000,1000001,-1000000].length/\(vl (u27 v2.2 4)).1.toNat<[-50,1000000,1000001,-1000000].length/\ix v1.1 v0.1.2.2.length/\v1.1.toNat<v0.1.2.2.length/\True)<|lt ((vl (u27 v2.2 4),v0.1.2.2.set v1.1.toNat ([-50,1000000,1000001,-1000000].getD (vl (u27 v2.2 4)).1.toNat 0))) fun(v3,v4) =>
  u12J0 (v4,v3.2.1,v3.2.2.1,v3.2.2.2,v0.1.1,v0.1.2.1)
 else
  if(v2.1==1) then
   gd ((u27 v2.2 (3:Int)).isSome/\ix (vl (u27 v2.2 (3:Int))).1 [(-1:Int),(100000:Int),(7:Int)].length/\(vl (u27 v2.2 (3:Int))).1.toNat<[(-1:Int),(100000:Int),(7:Int)].length/\ix (0:Int) v0.1.1.length/\Int.toNat (0:Int)<v0.1.1.length/\True)<|lt ((vl (u27 v2.2 3),v0.1.1.set (Int.toNat (0:Int)) ([(-1:Int),(100000:Int),(7:Int)].getD (vl (u27 v2.2 (3:Int))).1.toNat (0:Int)))) fun(v5,v6) =>
   u12J0 (v0.1.2.2,v5.2.1,v5.2.2.1,v5.2.2.2,v6,v0.1.2.1)
  else
   if(v2.1==2) then
    gd (ix (0:Int) v0.1.2.1.length/\Int.toNat (0:Int)<v0.1.2.1.length/\(v0.1.2.1.length+[v0.1.2.1.getD (Int.toNat (0:Int)) (0:Int)].length<=9223372036854775807/\(v0.1.2.1.length+[v0.1.2.1.getD (Int.toNat (0:Int)) (0:Int)].length)*8<=140737488355328)/\True)<|lt (v0.1.2.1++[v0.1.2.1.getD (Int.toNat (0:Int)) (0:Int)]) fun v7 =>
    u12J0 (v0.1.2.2,v2.2.1,v2.2.2.1,v2.2.2.2,v0.1.1,v7)
   else
    if(v2.1==3) then
     gd (((0:Int)<=(1:Int)/\(1:Int)<=(v0.1.2.2.length:Int)/\(v0.1.2.2.length:Int)<=(v0.1.2.2.length:Int))/\True) <|
     u12J0 ((List.drop (Int.toNat (1:Int)) v0.1.2.2,v2.2.1,v2.2.2.1,v2.2.2.2,v0.1.1,v0.1.2.1))
    else
     if(v2.1==4) then
      u12J1 v2 v0 v1 (v2.1==4)
     else
      u12J1 v2 v0 v1 (v2.1==5)
def k12:Ct:=lct 12 [.io 52 y52] (fun x=>u12 x.1) (fun r:Y26×Y52=>AV.agg [AV.ow 2 true i64 r.1.1,AV.ow 2 true i64 r.1.2.1,AV.ow 2 true i64 r.1.2.2]) (fun r=>r.2)
theorem o12:Ok prog k12:=by
 refine okM [.cell 2 26] func12 ?_;intro y ⟨_,_⟩ r H Q hn hr;have:=hz (tc o27 (tc o26 tn));refine iA [0,2]<|iD o26 [0,2,3] H fun v0 H=>iD o27 [0,2,3,4] H fun v1 H=>jN r (fun((v10,v11,v12,v13,v14,v15):List Int×List Int×Int×Int×List Int×List Int)=>Z [p 2 (R 2),p 3 (R 3)] ((2009,A 2 i64 v10 0)::(500000,bx 52 [L b8 v11,J v12,J v13])::W1 v15 v14)) (u12J0) (fun⟨v10,v11,v12,v13,v14,v15⟩ H=>?_) (fun _ n0 e0 t0=>?_)
 ·refine iA [2]<|vTT<|hr H
 refine iD o27 [0,2,3,4,16] H fun v2 H=>vB<|iA [0,2,3,4,16,17]<|cD H (fun H=>?_) (fun H=>?_)
 ·refine zD (fun(v3,v4)=>Z [p 2 (R 2),p 3 (R 3)] ((2009,A 2 i64 v4 0)::(500000,K 52 y52 v3.2)::(22,A 2 i64 [-50,1000000,1000001,-1000000] 0)::W1 v0.1.2.1 v0.1.1)) H fun⟨v3,v4⟩ H =>
   fK<|n0 H
 refine iA [0,2,3,4,16,28]<|cD H (fun H=>?_) (fun H=>?_)
 ·refine zD (fun(v5,v6)=>Z [p 2 (R 2),p 3 (R 3)] [(9,A 2 i64 v6 0),(500000,K 52 y52 v5.2),(32,A 2 i64 [-1,100000,7] 0),(3,bx 26 [AV.os 9 0,AV.os 1009 0,AV.os 2009 0]),(2009,A 2 i64 v0.1.2.2 0),(1009,A 2 i64 v0.1.2.1 0),(2,bx 26 [nil,nil,nil])]) H fun⟨v5,v6⟩ H =>
   fK<|n0 H
 refine iA [2,3,4,16,38]<|cD H (fun H=>zD (fun v7=>Z [p 2 (R 2),p 3 (R 3)] [(3,bx 26 [AV.os 9 0,AV.os 1009 1,AV.os 2009 0]),(1009,A 2 i64 v7 1),(46,A 2 i64 [v0.1.2.1.getD (Int.toNat (0:Int)) (0:Int)] 0),(500000,K 52 y52 v2.2),(2009,A 2 i64 v0.1.2.2 0),(9,A 2 i64 v0.1.1 0),(2,bx 26 [nil,nil,nil])]) H fun v7 H=>fK<|n0 H) fun H=>iA [2,3,4,16,49]<|cD H (fun H=>jB [2,3] H fun H=>fK<|n0 H) fun H=>jN r (fun(v8:Bool)=>Z [p 2 (R 2),p 3 (R 3),p 4 (I v1.1),p 55 (B v8)] [(500000,K 52 y52 v2.2),(3,bx 26 [AV.os 9 0,AV.os 1009 0,AV.os 2009 0]),(2009,A 2 i64 v0.1.2.2 0),(1009,A 2 i64 v0.1.2.1 0),(9,A 2 i64 v0.1.1 0),(2,bx 26 [nil,nil,nil])]) (u12J1 v2 v0 v1) (fun v8 H=>?_) (fun _ n1 e1 t1=>?_)
 ·refine cD H (fun H=>zD (fun v9=>Z [p 2 (R 2),p 3 (R 3)] ((2009,A 2 i64 v9 0)::(500000,K 52 y52 v2.2)::W1 v0.1.2.1 v0.1.1)) H fun v9 H=>fK<|n0 H) fun H=>vK<|fK<|n0 H
 refine iA [2,3,4,16,55]<|cD H (fun H=>vK<|n1 H) fun H=>jA [2,3,4,55]<|n1 H
def u13J0(a0:List Int):Int->Option (List Int×Int×Int)
 | v3 =>
 some ((a0,(0:Int),v3))
def u13L1(a0:List Int)(g1:Int×Int->Option (List Int×Int×Int)):Int×Int->Option (List Int×Int×Int)
 | (v1,v2) =>
 if(decide (v1 < (a0.length:Int))&&decide (v1<64)) then
  gd (in64 (v2*(31:Int))/\ix v1 a0.length/\True/\in64 (v2*(31:Int)+a0.getD v1.toNat (0:Int))/\(0:Int) < (2147483647:Int)/\True) <|
  gd (in64 (v1+1)/\True) <|
  g1 ((v1+1,(v2*31+a0.getD v1.toNat 0).tmod 2147483647))
 else
  u13J0 a0 v2
def u13(a0:List Int):Option (List Int×Int×Int) :=
 lp (u13L1 a0) (0,12345)
def k13:Ct:=lct 13 [.dat (b8.sl)] (fun x=>u13 x.1) (fun r:List Int×Int×Int=>AV.ob 52 [L b8 r.1,I r.2.1,I r.2.2]) (fun _=>())
theorem o13:Ok prog k13:=by
 refine okM [.tmp 2] func13 ?_;intro y ⟨a0,_⟩ r H Q hn hr;refine iA [0]<|iA [0,3]<|jN r (fun(v3:Int)=>Z [p 3 (R 7)] [(7,bx 52 [L b8 a0,I 0,I v3])]) (u13J0 a0) (fun v3 H=>?_) (fun _ n0 e0 t0=>?_)
 ·refine iA [2]<|vTT<|hr H
 refine iA [0,3,4]<|vB<|lX (fun((v1,v2):Int×Int)=>Z [p 0 (L b8 a0),p 3 (R 7),p 4 (I v1)] [(7,bx 52 [L b8 a0,I 0,I v2])]) (0,12345) H fun _ g1 b1 e1 t1 ⟨v1,v2⟩ H=>vQ<|iA [0,3,4,15]<|cD H (fun H=>vK<|fQ<|vQ<|vB<|jB [0,3,4] H fun H=>fK<|fQ<|jB [0,3,4] H fun H=>b1 H) fun H=>vE<|fE<|e1<|fX rfl<|n0 H
def u5(a0:List Int):Option Y26 :=
 gd ((u13 a0).isSome/\(u12 (vl (u13 a0))).isSome/\True)<|lt (vl (u12 (vl (u13 a0)))) fun v0 =>
 some v0.1
def k5:Ct:=lct 5 [.dat (b8.sl)] (fun x=>u5 x.1) (fun r:Y26=>AV.agg [AV.ow 2 true i64 r.1,AV.ow 2 true i64 r.2.1,AV.ow 2 true i64 r.2.2]) (fun _=>())
theorem o5:Ok prog k5:=by
 refine okM [.cell 2 26] func5 ?_;intro y ⟨_,_⟩ r H Q hn hr;have:=hz (tc o12 (tc o13 tn));refine iA [0,2]<|iD o12 [2] H fun _ H=>vTT<|hr H
def u4(a0:List Int):Option Bool :=
 some (decide (4096 < (a0.length:Int)))
def k4:Ct:=lct 4 [.dat (b8.sl)] (fun x=>u4 x.1) (fun r:Bool=>B r) (fun _=>())
theorem o4:Ok prog k4:=by
 refine okM [.tmp 2] func4 ?_;intro y ⟨_,_⟩ r H Q hn hr;refine iA [0]<|iA [2]<|vTT<|hr H
def u3(a0:List Int):Option Bool :=
 gd ((u4 a0).isSome/\True) <|
 if(vl (u4 a0)) then
  some true
 else
  gd ((u5 a0).isSome/\True)<|lt (vl (u5 a0)) fun v0 =>
  gd ((u7 v0).isSome/\(u6 (vl (u7 v0))).isSome/\True)<|lt (vl (u6 (vl (u7 v0)))) fun v1 =>
  gd ((u8 v0).isSome/\True) <|
  if(!vl (u8 v0)) then
   gd (((!v1.2)=true/\True->(u9 v0).isSome)/\True) <|
   some (!v1.2&&!vl (u9 v0))
  else
   gd ((u10 v0 1000 0).isSome/\True)<|lt (vl (u10 v0 1000 0)) fun v2 =>
   gd ((v1.2=true/\True->(u11 v1.1 v0).isSome)/\((v1.2&&vl (u11 v1.1 v0)&&v2.2==0)=true/\True->(u11 v2.1 v0).isSome)/\True) <|
   some (v1.2&&vl (u11 v1.1 v0)&&v2.2==0&&vl (u11 v2.1 v0))
def k3:Ct:=lct 3 [.dat (b8.sl)] (fun x=>u3 x.1) (fun r:Bool=>B r) (fun _=>())
theorem o3:Ok prog k3:=by
 refine okM [.tmp 2] func3 ?_;intro y ⟨_,_⟩ r H Q hn hr;have:=hz (tc o11 (tc o10 (tc o9 (tc o8 (tc o6 (tc o7 (tc o5 (tc o4 tn))))))));refine iA [0]<|vQ<|iB [0,9] H fun H=>cD H (fun H=>iA [2]<|vTT<|fR<|hr H) fun H=>vK<|fQ<|iD o5 [3] H fun _ H=>iD o6 [3,4,5] H fun _ H=>vQ<|iB [3,4,5,20] H fun H=>cD H (fun H=>iB [2] H fun H=>vTT<|fR<|hr H) fun H=>vK<|fQ<|iD o10 [3,4,5,6,7] H fun _ H=>iB [2] H fun H=>vTT<|hr H
abbrev sd(s:Y52):Prop:=0<=s.2.1/\0<=s.2.2/\s.2.2<2147483647
end Go.Proofs.YtekfdfcnjlfgiaaDoor
end
