/- Functions of this program as plain functions of data, and that they are so: printed by program. -/
import Derived.Test.YtphnknndgfgepaaGreatDoorF7Aa
section
namespace Go.Proofs.YtphnknndgfgepaaGreatDoor
open Go Go.Proofs Go.Proofs.Sv Go.Proofs.Xv Go.Proofs.Xl Go.RowKit
open Tryz
def u120J0:List Y48->Option (List Y48)
 | v20 =>
 some v20
def u120J2(v9:Int)(g1:Int×List Y48->Option (List Y48)):List Y48->Option (List Y48)
 | v19 =>
 gd (in64 (v9+1)/\True) <|
 g1 (v9+1,v19)
def u120J4(v14:Int)(g3:Int×List Y48->Option (List Y48)):List Y48->Option (List Y48)
 | v18 =>
 gd (in64 (v14+1)/\True) <|
 g3 (v14+1,v18)
def u120J5(v14:Int)(v15:List Y48)(a2:Int)(a3:Int)(v9:Int)(a4:Int)(g3:Int×List Y48->Option (List Y48)):Bool->Option (List Y48)
 | v16 =>
 if v16=true then
  gd ((u123 v15 a2 a3 v9 v14 1 a4).isSome=true/\True)<|lt (vl (u123 v15 a2 a3 v9 v14 1 a4)) fun v17 =>
  u120J4 v14 g3 v17
 else
  u120J4 v14 g3 v15
def u120L3(a2:Int)(a3:Int)(v9:Int)(a4:Int)(a1:Y143)(g1:Int×List Y48->Option (List Y48))(g3:Int×List Y48->Option (List Y48)):Int×List Y48->Option (List Y48)
 | (v14,v15) =>
 if(decide (v14<=1))=true then
  if(a1.1==1)=true then
   u120J5 v14 v15 a2 a3 v9 a4 g3 (a1.2.2.2.1==3||(a1.2.2.2.1==1)==(v9==v14))
  else
   if(a1.1==2)=true then
    u120J5 v14 v15 a2 a3 v9 a4 g3 (v9==0)
   else
    if(a1.1==3)=true then
     u120J5 v14 v15 a2 a3 v9 a4 g3 (v9==1)
    else
     u120J5 v14 v15 a2 a3 v9 a4 g3 false
 else
  u120J2 v9 g1 v15
def u120L1(a2:Int)(a3:Int)(a4:Int)(a1:Y143)(g1:Int×List Y48->Option (List Y48)):Int×List Y48->Option (List Y48)
 | (v9,v10) =>
 if(decide (v9<=1))=true then
  lp (u120L3 a2 a3 v9 a4 a1 g1) (0,v10)
 else
  u120J0 v10
def u120(a0:List Y48)(a1:Y143)(a2:Int)(a3:Int)(a4:Int):Option (List Y48) :=
 lp (u120L1 a2 a3 a4 a1) (0,a0)
def k120:Ct:=lct 120 [.os 48 y48,.agg y143,.dat i64,.dat i64,.dat i64] (fun x=>u120 x.1 x.2.1 x.2.2.1 x.2.2.2.1 x.2.2.2.2.1) (fun r:List Y48=>AV.ow 48 true y48 r) (fun _=>())
theorem o120:Ok prog k120:=by
 refine okL [.tmp 10] func120 ntmps120 results120 ?_;intro y ⟨a0,a1,a2,a3,a4,_⟩ r H Q hn hr;have:HT _ _:=⟨tc o123 tn⟩;refine qA (Z [p 0 (O 500000),p 2 (J a2),p 3 (J a3),p 4 (J a4),p 6 (R 6)] (W21 a1 a0))<|jN r (fun(v20:List Y48)=>Z [p 0 (O 500000)] [(500000,A 48 y48 v20 0)]) (u120J0) (fun v20 H=>?_) (fun _ n0 e0 t0=>?_)
 ·refine qA (Z [p 10 (O 500000)] [(500000,A 48 y48 v20 0)])<|vTT<|hr H
 refine qA (Z [p 0 (O 500000),p 2 (J a2),p 3 (J a3),p 4 (J a4),p 6 (R 6),p 11 (I 0)] (W21 a1 a0))<|vB<|lX (fun((v9,v10):Int×List Y48)=>Z (G8 a2 a3 a4 v9 []) (W21 a1 v10)) (0,a0) H fun _ g1 b1 e1 t1 ⟨v9,v10⟩ H=>vQ<|qA (Z (G8 a2 a3 a4 v9 [p 15 (B (decide (v9<=1)))]) (W21 a1 v10))<|cD H (fun H=>?_) (fun H=>?_)
 ·refine vK<|fQ<|jN r (fun(v19:List Y48)=>Z (G8 a2 a3 a4 v9 []) (W21 a1 v19)) (u120J2 v9 g1) (fun v19 H=>?_) (fun _ n2 e2 t2=>?_)
  ·refine zB (Z (G8 a2 a3 a4 (v9+1) []) (W21 a1 v19)) H fun H=>b1 H
  refine vB<|qA (Z (G8 a2 a3 a4 v9 [p 12 (I 0)]) (W21 a1 v10))<|vB<|lX (fun((v14,v15):Int×List Y48)=>Z (G8 a2 a3 a4 v9 [p 12 (I v14)]) (W21 a1 v15)) (0,v10) H fun _ g3 b3 e3 t3 ⟨v14,v15⟩ H=>vQ<|qA (Z (G8 a2 a3 a4 v9 [p 12 (I v14),p 19 (B (decide (v14<=1)))]) (W21 a1 v15))<|cD H (fun H=>?_) (fun H=>?_)
  ·refine vK<|fQ<|jN r (fun(v18:List Y48)=>Z (G8 a2 a3 a4 v9 [p 12 (I v14)]) [(500000,A 48 y48 v18 0),(6,K 143 y143 a1)]) (u120J4 v14 g3) (fun v18 H=>?_) (fun _ n4 e4 t4=>?_)
   ·refine zB (Z (G8 a2 a3 a4 v9 [p 12 (I (v14+1))]) [(500000,A 48 y48 v18 0),(6,K 143 y143 a1)]) H fun H=>b3 H
   refine vB<|qA (Z (G8 a2 a3 a4 v9 [p 12 (I v14),p 13 (B false)]) (W21 a1 v15))<|jN r (fun(v16:Bool)=>Z (G8 a2 a3 a4 v9 [p 12 (I v14),p 13 (B v16)]) (W21 a1 v15)) (u120J5 v14 v15 a2 a3 v9 a4 g3) (fun v16 H=>?_) (fun _ n5 e5 t5=>?_)
   ·refine qA (Z (G8 a2 a3 a4 v9 [p 12 (I v14),p 46 (B v16)]) (W21 a1 v15))<|cD H (fun H=>?_) (fun H=>?_)
    ·refine zD (fun v17=>Z [p 0 (AV.os 500000 1),p 2 (J a2),p 3 (J a3),p 4 (J a4),p 6 (R 6),p 11 (I v9),p 12 (I v14)] [(500000,A 48 y48 v17 1),(6,K 143 y143 a1)]) H fun v17 H=>fK<|n4 H
    exact vK<|fK<|n4 H
   refine qA (Z (G8 a2 a3 a4 v9 [p 12 (I v14),p 13 (B false),p 23 (J a1.1)]) (W21 a1 v15))<|vB<|qA (Z (G8 a2 a3 a4 v9 [p 12 (I v14),p 13 (B false),p 23 (J a1.1),p 24 (B (a1.1==1))]) (W21 a1 v15))<|cD H (fun H=>?_) (fun H=>?_)
   ·refine zA (Z (G8 a2 a3 a4 v9 [p 12 (I v14),p 13 (B (a1.2.2.2.1==3||(a1.2.2.2.1==1)==(v9==v14)))]) (W21 a1 v15))<|fK<|n5 H
   refine qA (Z (G8 a2 a3 a4 v9 [p 12 (I v14),p 13 (B false),p 23 (J a1.1),p 38 (B (a1.1==2))]) (W21 a1 v15))<|cD H (fun H=>?_) (fun H=>?_)
   ·refine zA (Z (G8 a2 a3 a4 v9 [p 12 (I v14),p 13 (B (v9==0))]) (W21 a1 v15))<|fK<|n5 H
   refine qA (Z (G8 a2 a3 a4 v9 [p 12 (I v14),p 13 (B false),p 42 (B (a1.1==3))]) (W21 a1 v15))<|cD H (fun H=>?_) (fun H=>?_)
   ·refine zA (Z (G8 a2 a3 a4 v9 [p 12 (I v14),p 13 (B (v9==1))]) (W21 a1 v15))<|fK<|n5 H
   exact vK<|fK<|n5 H
  exact vE<|fE<|e3<|fX rfl<|fK<|n2 H
 exact vE<|fE<|e1<|fX rfl<|n0 H
def u121J0:Unit->Option (Int)
 | _ =>
 some (-1)
def u121L1(v0:List Y179)(a1:Int)(a2:Int)(g1:Int->Option (Int)):Int->Option (Int)
 | v1 =>
 if(decide (v1 < (v0.length:Int)))=true then
  gd (ix v1 v0.length/\v1.toNat<v0.length/\(((v0.getD v1.toNat (dflt y179)).1==a1)=true/\True->ix v1 v0.length)/\(((v0.getD v1.toNat (dflt y179)).1==a1)=true/\True->v1.toNat<v0.length)/\True) <|
  if((v0.getD v1.toNat (dflt y179)).1==a1&&(v0.getD v1.toNat (dflt y179)).2.1==a2)=true then
   some v1
  else
   gd (in64 (v1+1)/\True) <|
   g1 (v1+1)
 else
  u121J0 ()
def u121(a0:Y31)(a1:Int)(a2:Int):Option (Int) :=
 gd ((u124 a0).isSome=true/\True)<|lt (vl (u124 a0)) fun v0 =>
 lp (u121L1 v0 a1 a2) 0
def k121:Ct:=lct 121 [.agg y31,.dat i64,.dat i64] (fun x=>u121 x.1 x.2.1 x.2.2.1) (fun r:Int=>I r) (fun _=>())
theorem o121:Ok prog k121:=by
 refine okL [.tmp 6] func121 ntmps121 results121 ?_;intro y ⟨a0,a1,a2,_⟩ r H Q hn hr;have:HT _ _:=⟨tc o124 tn⟩;refine qA (Z (G52 a1 a2 [p 3 (R 3)]) [(3,K 31 y31 a0)])<|qD (fun v0=>Z (G52 a1 a2 [p 7 (O 10)]) [(10,A 179 y179 v0 0),(3,K 31 y31 a0)]) H fun v0 H=>jN r (fun(_:Unit)=>Z [] []) (u121J0) (fun _ H=>?_) (fun _ n0 e0 t0=>?_)
 ·refine qA (Z [p 6 (I (-1))] [])<|vTT<|hr H
 refine qA (Z (G52 a1 a2 [p 7 (O 10),p 8 (I 0)]) [(10,A 179 y179 v0 0),(3,K 31 y31 a0)])<|vB<|lX (fun(v1:Int)=>Z (G52 a1 a2 [p 7 (O 10),p 8 (I v1)]) [(10,A 179 y179 v0 0)]) 0 H fun _ g1 b1 e1 t1 v1 H=>vQ<|qA (Z (G52 a1 a2 [p 7 (O 10),p 8 (I v1),p 14 (B (decide (v1 < (v0.length:Int))))]) [(10,A 179 y179 v0 0)])<|cD H (fun H=>?_) (fun H=>?_)
 ·refine vK<|fQ<|vQ<|vB<|qB (Z (G52 a1 a2 [p 7 (O 10),p 8 (I v1),p 32 (B ((v0.getD v1.toNat (dflt y179)).1==a1&&(v0.getD v1.toNat (dflt y179)).2.1==a2))]) [(10,A 179 y179 v0 0)]) H fun H=>cD H (fun H=>?_) (fun H=>?_)
  ·refine qA (Z [p 6 (I v1)] [(10,A 179 y179 v0 0)])<|vTT<|fDD<|fR<|t1<|fDD<|t0<|hr H
  refine vK<|fK<|fQ<|zB (Z (G52 a1 a2 [p 7 (O 10),p 8 (I (v1+1))]) [(10,A 179 y179 v0 0)]) H fun H=>b1 H
 exact vE<|fE<|e1<|fX rfl<|n0 H
def u59J5:List Y48->Option (List Y48)
 | v39 =>
 some v39
def u59J7(v28:Int)(g6:Int×List Y48->Option (List Y48)):List Y48->Option (List Y48)
 | v38 =>
 gd (in64 (v28+1)/\True) <|
 g6 (v28+1,v38)
def u59L8(v30:Int)(v31:List Int)(v28:Int)(g6:Int×List Y48->Option (List Y48))(g8:Int×List Y48->Option (List Y48)):Int×List Y48->Option (List Y48)
 | (v34,v35) =>
 if(decide (v34 < (v31.length:Int)))=true then
  gd (ix v34 v31.length/\v34.toNat<v31.length/\(u123 v35 v30 (v31.getD v34.toNat 0) 0 0 2 v34).isSome=true/\True)<|lt (vl (u123 v35 v30 (v31.getD v34.toNat 0) 0 0 2 v34)) fun v36 =>
  gd (ix v34 v31.length/\v34.toNat<v31.length/\(u123 v36 v30 (v31.getD v34.toNat 0) 1 1 2 v34).isSome=true/\True)<|lt (vl (u123 v36 v30 (v31.getD v34.toNat 0) 1 1 2 v34)) fun v37 =>
  gd (in64 (v34+1)/\True) <|
  g8 (v34+1,v37)
 else
  u59J7 v28 g6 v35
def u59L6(a0:Y34)(g6:Int×List Y48->Option (List Y48)):Int×List Y48->Option (List Y48)
 | (v28,v29) =>
 if(decide (v28 < (a0.2.1.2.1.length:Int)))=true then
  gd ((u122 a0.2.1 v28).isSome=true/\True)<|lt (vl (u122 a0.2.1 v28)) fun v30 =>
  gd ((u71 a0.2.1 v28).isSome=true/\True)<|lt (vl (u71 a0.2.1 v28)) fun v31 =>
  lp (u59L8 v30 v31 v28 g6) (0,v29)
 else
  u59J5 v29
def u59J0(a0:Y34):List Y48->Option (List Y48)
 | v18 =>
 lp (u59L6 a0) (0,v18)
def u59J2(v8:Int)(g1:Int×List Y48->Option (List Y48)):List Y48->Option (List Y48)
 | v17 =>
 gd (in64 (v8+1)/\True) <|
 g1 (v8+1,v17)
def u59J4(v13:Int)(g3:Int×List Y48->Option (List Y48)):List Y48->Option (List Y48)
 | v16 =>
 gd (in64 (v13+1)/\True) <|
 g3 (v13+1,v16)
def u59L3(v10:Y163)(a0:Y34)(v8:Int)(g1:Int×List Y48->Option (List Y48))(g3:Int×List Y48->Option (List Y48)):Int×List Y48->Option (List Y48)
 | (v13,v14) =>
 if(decide (v13 < (v10.2.2.2.1.length:Int)))=true then
  gd (ix v13 v10.2.2.2.1.length/\True) <|
  if(decide ((v10.2.2.2.1.getD v13.toNat (dflt y143)).1<=3))=true then
   gd (ix v13 v10.2.2.2.1.length/\ix v13 v10.2.2.2.1.length/\(u121 a0.2.1 v8 (v10.2.2.2.1.getD v13.toNat (dflt y143)).2.1).isSome=true/\ix v13 v10.2.2.2.1.length/\(u121 a0.2.1 v8 (v10.2.2.2.1.getD v13.toNat (dflt y143)).2.2.1).isSome=true/\(u120 v14 (v10.2.2.2.1.getD v13.toNat (dflt y143)) (vl (u121 a0.2.1 v8 (v10.2.2.2.1.getD v13.toNat (dflt y143)).2.1)) (vl (u121 a0.2.1 v8 (v10.2.2.2.1.getD v13.toNat (dflt y143)).2.2.1)) v13).isSome=true/\True)<|lt (vl (u120 v14 (v10.2.2.2.1.getD v13.toNat (dflt y143)) (vl (u121 a0.2.1 v8 (v10.2.2.2.1.getD v13.toNat (dflt y143)).2.1)) (vl (u121 a0.2.1 v8 (v10.2.2.2.1.getD v13.toNat (dflt y143)).2.2.1)) v13)) fun v15 =>
   u59J4 v13 g3 v15
  else
   u59J4 v13 g3 v14
 else
  u59J2 v8 g1 v14
def u59L1(a0:Y34)(g1:Int×List Y48->Option (List Y48)):Int×List Y48->Option (List Y48)
 | (v8,v9) =>
 if(decide (v8 < (a0.2.1.1.length:Int)))=true then
  gd (ix v8 a0.2.1.1.length/\ix (a0.2.1.1.getD v8.toNat (dflt y165)).2.1 a0.1.length/\True)<|lt (a0.1.getD (a0.2.1.1.getD v8.toNat (dflt y165)).2.1.toNat (dflt y163)) fun v10 =>
  lp (u59L3 v10 a0 v8 g1) (0,v9)
 else
  u59J0 a0 v9
def u59(a0:Y34):Option (List Y48) :=
 lp (u59L1 a0) (0,[])
def k59:Ct:=lct 59 [.agg y34] (fun x=>u59 x.1) (fun r:List Y48=>AV.ow 48 true y48 r) (fun _=>())
theorem o59:Ok prog k59:=by
 refine okL [.tmp 2] func59 ntmps59 results59 ?_;intro y ⟨a0,_⟩ r H Q hn hr;have:HT _ _:=⟨tc o123 (tc o71 (tc o122 (tc o120 (tc o121 tn))))⟩;refine qA (Z [p 1 (R 1)] [(1,K 34 y34 a0)])<|qA (Z [p 1 (R 1),p 3 (O 12)] [(12,A 48 y48 [] 0),(1,K 34 y34 a0)])<|qA (Z [p 1 (R 1),p 3 (O 12),p 4 (R 4)] [(4,K 31 y31 a0.2.1),(12,A 48 y48 [] 0),(1,K 34 y34 a0)])<|jN r (fun(v18:List Y48)=>Z [p 3 (O 12),p 4 (R 4)] (W51 a0.2.1 v18)) (u59J0 a0) (fun v18 H=>?_) (fun _ n0 e0 t0=>?_)
 ·refine jN r (fun(v39:List Y48)=>Z [p 3 (O 12)] [(12,A 48 y48 v39 0)]) (u59J5) (fun v39 H=>?_) (fun _ n5 e5 t5=>?_)
  ·refine qA (Z [p 2 (O 12)] [(12,A 48 y48 v39 0)])<|vTT<|hr H
  refine qA (Z [p 3 (O 12),p 4 (R 4),p 8 (I 0)] (W51 a0.2.1 v18))<|vB<|lX (fun((v28,v29):Int×List Y48)=>Z (G64 v28 []) (W51 a0.2.1 v29)) (0,v18) H fun _ g6 b6 e6 t6 ⟨v28,v29⟩ H=>vQ<|qA (Z (G64 v28 [p 73 (B (decide (v28 < (a0.2.1.2.1.length:Int))))]) (W51 a0.2.1 v29))<|cD H (fun H=>?_) (fun H=>?_)
  ·refine vK<|fQ<|jN r (fun(v38:List Y48)=>Z (G64 v28 []) (W51 a0.2.1 v38)) (u59J7 v28 g6) (fun v38 H=>?_) (fun _ n7 e7 t7=>?_)
   ·refine zB (Z (G64 (v28+1) []) (W51 a0.2.1 v38)) H fun H=>b6 H
   refine vB<|qD (fun v30=>Z (G64 v28 [p 9 (I v30)]) (W51 a0.2.1 v29)) H fun v30 H=>qD (fun v31=>Z (G64 v28 [p 9 (I v30),p 10 (O 81)]) ((81,A 2 i64 v31 0)::W51 a0.2.1 v29)) H fun v31 H=>qA (Z (G64 v28 [p 9 (I v30),p 10 (O 81),p 11 (I 0)]) ((81,A 2 i64 v31 0)::W51 a0.2.1 v29))<|vB<|lX (fun((v34,v35):Int×List Y48)=>Z (G64 v28 [p 9 (I v30),p 10 (O 81),p 11 (I v34)]) ((81,A 2 i64 v31 0)::W51 a0.2.1 v35)) (0,v29) H fun _ g8 b8 e8 t8 ⟨v34,v35⟩ H=>vQ<|qA (Z (G64 v28 [p 9 (I v30),p 10 (O 81),p 11 (I v34),p 85 (B (decide (v34 < (v31.length:Int))))]) ((81,A 2 i64 v31 0)::W51 a0.2.1 v35))<|cD H (fun H=>?_) (fun H=>?_)
   ·refine vK<|fQ<|vQ<|vB<|qD (fun v36=>Z [p 3 (AV.os 12 1),p 4 (R 4),p 8 (I v28),p 9 (I v30),p 10 (O 81),p 11 (I v34)] [(12,A 48 y48 v36 1),(81,A 2 i64 v31 0),(4,K 31 y31 a0.2.1)]) H fun v36 H=>zD (fun v37=>Z [p 3 (AV.os 12 2),p 4 (R 4),p 8 (I v28),p 9 (I v30),p 10 (O 81),p 11 (I v34)] [(12,A 48 y48 v37 2),(81,A 2 i64 v31 0),(4,K 31 y31 a0.2.1)]) H fun v37 H=>fK<|fQ<|zB (Z [p 3 (AV.os 12 2),p 4 (R 4),p 8 (I v28),p 9 (I v30),p 10 (O 81),p 11 (I (v34+1))] [(12,A 48 y48 v37 2),(81,A 2 i64 v31 0),(4,K 31 y31 a0.2.1)]) H fun H=>b8 H
   exact vE<|fE<|e8<|fX rfl<|fK<|n7 H
  exact vE<|fE<|e6<|fX rfl<|n5 H
 refine qA (Z [p 1 (R 1),p 3 (O 12),p 4 (R 4),p 5 (I 0)] [(4,K 31 y31 a0.2.1),(12,A 48 y48 [] 0),(1,K 34 y34 a0)])<|vB<|lX (fun((v8,v9):Int×List Y48)=>Z (G38 v8 []) (W45 a0.2.1 v9 a0)) (0,[]) H fun _ g1 b1 e1 t1 ⟨v8,v9⟩ H=>vQ<|qA (Z (G38 v8 [p 19 (B (decide (v8 < (a0.2.1.1.length:Int))))]) (W45 a0.2.1 v9 a0))<|cD H (fun H=>?_) (fun H=>?_)
 ·refine vK<|fQ<|jN r (fun(v17:List Y48)=>Z (G38 v8 []) (W45 a0.2.1 v17 a0)) (u59J2 v8 g1) (fun v17 H=>?_) (fun _ n2 e2 t2=>?_)
  ·refine zB (Z (G38 (v8+1) []) (W45 a0.2.1 v17 a0)) H fun H=>b1 H
  refine vB<|qD (fun v10=>Z (G38 v8 [p 6 (L y143 v10.2.2.2.1)]) (W45 a0.2.1 v9 a0)) H fun v10 H=>qA (Z (G38 v8 [p 6 (L y143 v10.2.2.2.1),p 7 (I 0)]) (W45 a0.2.1 v9 a0))<|vB<|lX (fun((v13,v14):Int×List Y48)=>Z (G38 v8 [p 6 (L y143 v10.2.2.2.1),p 7 (I v13)]) (W45 a0.2.1 v14 a0)) (0,v9) H fun _ g3 b3 e3 t3 ⟨v13,v14⟩ H=>vQ<|qA (Z (G38 v8 [p 6 (L y143 v10.2.2.2.1),p 7 (I v13),p 37 (B (decide (v13 < (v10.2.2.2.1.length:Int))))]) (W45 a0.2.1 v14 a0))<|cD H (fun H=>?_) (fun H=>?_)
  ·refine vK<|fQ<|jN r (fun(v16:List Y48)=>Z (G38 v8 [p 6 (L y143 v10.2.2.2.1),p 7 (I v13)]) [(12,A 48 y48 v16 0),(4,K 31 y31 a0.2.1),(1,K 34 y34 a0)]) (u59J4 v13 g3) (fun v16 H=>?_) (fun _ n4 e4 t4=>?_)
   ·refine zB (Z (G38 v8 [p 6 (L y143 v10.2.2.2.1),p 7 (I (v13+1))]) [(12,A 48 y48 v16 0),(4,K 31 y31 a0.2.1),(1,K 34 y34 a0)]) H fun H=>b3 H
   refine vB<|qB (Z (G38 v8 [p 6 (L y143 v10.2.2.2.1),p 7 (I v13),p 45 (B (decide ((v10.2.2.2.1.getD v13.toNat (dflt y143)).1<=3)))]) (W45 a0.2.1 v14 a0)) H fun H=>cD H (fun H=>?_) (fun H=>?_)
   ·refine zD (fun v15=>Z [p 1 (R 1),p 3 (AV.os 12 1),p 4 (R 4),p 5 (I v8),p 6 (L y143 v10.2.2.2.1),p 7 (I v13)] [(12,A 48 y48 v15 1),(4,K 31 y31 a0.2.1),(1,K 34 y34 a0)]) H fun v15 H=>fK<|n4 H
   exact vK<|fK<|n4 H
  exact vE<|fE<|e3<|fX rfl<|fK<|n2 H
 exact vE<|fE<|e1<|fX rfl<|n0 H
def u97(a0:Int)(a1:Int)(a2:Int):Option (Bool) :=
 some (decide (a1<=a0)&&decide (a0<=a2))
def k97:Ct:=lct 97 [.dat i64,.dat i64,.dat i64] (fun x=>u97 x.1 x.2.1 x.2.2.1) (fun r:Bool=>B r) (fun _=>())
theorem o97:Ok prog k97:=by
 refine okL [.tmp 6] func97 ntmps97 results97 ?_;intro y ⟨a0,a1,a2,_⟩ r H Q hn hr;have:HT _ _:=⟨@tn prog⟩;refine qA (Z [p 0 (J a0),p 1 (J a1),p 2 (J a2)] [])<|qA (Z [p 6 (B (decide (a1<=a0)&&decide (a0<=a2)))] [])<|vTT<|hr H
def u70J2:Unit->Option (Bool)
 | _ =>
 some true
def u70L3(a0:Y110)(g3:Int->Option (Bool)):Int->Option (Bool)
 | v1 =>
 if(decide (v1 < (a0.2.2.2.length:Int)))=true then
  gd (ix v1 a0.2.2.2.length/\in64 ((a0.1.length:Int)-1)/\(u97 (a0.2.2.2.getD v1.toNat 0) 0 ((a0.1.length:Int)-1)).isSome=true/\True) <|
  if(!vl (u97 (a0.2.2.2.getD v1.toNat 0) 0 ((a0.1.length:Int)-1)))=true then
   some false
  else
   gd (in64 (v1+1)/\True) <|
   g3 (v1+1)
 else
  u70J2 ()
def u70J0(a0:Y110):Unit->Option (Bool)
 | _ =>
 lp (u70L3 a0) 0
def u70L1(a0:Y110)(g1:Int->Option (Bool)):Int->Option (Bool)
 | v0 =>
 if(decide (v0 < (a0.1.length:Int)))=true then
  gd (ix v0 a0.2.2.1.length/\(u97 (a0.2.2.1.getD v0.toNat 0) 0 500).isSome=true/\((!vl (u97 (a0.2.2.1.getD v0.toNat 0) 0 500))=false/\True->ix v0 a0.2.1.length)/\((!vl (u97 (a0.2.2.1.getD v0.toNat 0) 0 500))=false/\True->(u97 (a0.2.1.getD v0.toNat 0) 0 1000).isSome=true)/\True) <|
  if(!vl (u97 (a0.2.2.1.getD v0.toNat 0) 0 500)||!vl (u97 (a0.2.1.getD v0.toNat 0) 0 1000))=true then
   some false
  else
   gd (((v0==0)=true/\True->ix v0 a0.1.length)/\((a0.1.getD v0.toNat 0 != -1)=false/\(v0==0)=true/\True->ix v0 a0.2.1.length)/\(decide (0<v0)=true/\(v0==0&&(a0.1.getD v0.toNat 0 != -1||a0.2.1.getD v0.toNat 0 != 0))=false/\True->ix v0 a0.1.length)/\(decide (0<v0)=true/\(v0==0&&(a0.1.getD v0.toNat 0 != -1||a0.2.1.getD v0.toNat 0 != 0))=false/\True->in64 (v0-1))/\(decide (0<v0)=true/\(v0==0&&(a0.1.getD v0.toNat 0 != -1||a0.2.1.getD v0.toNat 0 != 0))=false/\True->(u97 (a0.1.getD v0.toNat 0) 0 (v0-1)).isSome=true)/\True) <|
   if(v0==0&&(a0.1.getD v0.toNat 0 != -1||a0.2.1.getD v0.toNat 0 != 0)||decide (0<v0)&&!vl (u97 (a0.1.getD v0.toNat 0) 0 (v0-1)))=true then
    some false
   else
    gd (in64 (v0+1)/\True) <|
    g1 (v0+1)
 else
  u70J0 a0 ()
def u70(a0:Y110)(a1:Int):Option (Bool) :=
 if(decide ((a0.1.length:Int)<1)||decide (8 < (a0.1.length:Int))||(a0.2.1.length:Int) != (a0.1.length:Int)||(a0.2.2.1.length:Int) != (a0.1.length:Int)||(a0.2.2.2.length:Int) != a1)=true then
  some false
 else
  lp (u70L1 a0) 0
def k70:Ct:=lct 70 [.agg y110,.dat i64] (fun x=>u70 x.1 x.2.1) (fun r:Bool=>B r) (fun _=>())
theorem o70:Ok prog k70:=by
 refine okL [.tmp 4] func70 ntmps70 results70 ?_;intro y ⟨a0,a1,_⟩ r H Q hn hr;have:HT _ _:=⟨tc o97 tn⟩;refine qA (Z (G40 a1 []) [(2,K 110 y110 a0)])<|qA (Z (G40 a1 [p 5 (I (a0.1.length:Int))]) [(2,K 110 y110 a0)])<|vQ<|qA (Z (G80 (a0.1.length:Int) [p 37 (B (decide ((a0.1.length:Int)<1)||decide (8 < (a0.1.length:Int))||(a0.2.1.length:Int) != (a0.1.length:Int)||(a0.2.2.1.length:Int) != (a0.1.length:Int)||(a0.2.2.2.length:Int) != a1))]) [(2,K 110 y110 a0)])<|cD H (fun H=>?_) (fun H=>?_)
 ·refine qA (Z [p 4 (B false)] [(2,K 110 y110 a0)])<|vTT<|fR<|hr H
 refine vK<|fQ<|jN r (fun(_:Unit)=>Z (G80 (a0.1.length:Int) []) [(2,K 110 y110 a0)]) (u70J0 a0) (fun _ H=>?_) (fun _ n0 e0 t0=>?_)
 ·refine jN r (fun(_:Unit)=>Z [] []) (u70J2) (fun _ H=>?_) (fun _ n2 e2 t2=>?_)
  ·refine qA (Z [p 4 (B true)] [])<|vTT<|hr H
  refine qA (Z (G80 (a0.1.length:Int) [p 7 (I 0)]) [(2,K 110 y110 a0)])<|vB<|lX (fun(v1:Int)=>Z (G80 (a0.1.length:Int) [p 7 (I v1)]) [(2,K 110 y110 a0)]) 0 H fun _ g3 b3 e3 t3 v1 H=>vQ<|qA (Z (G80 (a0.1.length:Int) [p 7 (I v1),p 96 (B (decide (v1 < (a0.2.2.2.length:Int))))]) [(2,K 110 y110 a0)])<|cD H (fun H=>?_) (fun H=>?_)
  ·refine vK<|fQ<|vQ<|vB<|qB (Z (G80 (a0.1.length:Int) [p 7 (I v1),p 107 (B !vl (u97 (a0.2.2.2.getD v1.toNat 0) 0 ((a0.1.length:Int)-1)))]) [(2,K 110 y110 a0)]) H fun H=>cD H (fun H=>?_) (fun H=>?_)
   ·refine qA (Z [p 4 (B false)] [(2,K 110 y110 a0)])<|vTT<|fDD<|fR<|t3<|fDD<|t2<|hr H
   refine vK<|fK<|fQ<|zB (Z (G80 (a0.1.length:Int) [p 7 (I (v1+1))]) [(2,K 110 y110 a0)]) H fun H=>b3 H
  exact vE<|fE<|e3<|fX rfl<|n2 H
 refine qA (Z (G80 (a0.1.length:Int) [p 6 (I 0)]) [(2,K 110 y110 a0)])<|vB<|lX (fun(v0:Int)=>Z (G80 (a0.1.length:Int) [p 6 (I v0)]) [(2,K 110 y110 a0)]) 0 H fun _ g1 b1 e1 t1 v0 H=>vQ<|qA (Z (G80 (a0.1.length:Int) [p 6 (I v0),p 40 (B (decide (v0 < (a0.1.length:Int))))]) [(2,K 110 y110 a0)])<|cD H (fun H=>?_) (fun H=>?_)
 ·refine vK<|fQ<|vQ<|vB<|vQ<|qB (Z (G80 (a0.1.length:Int) [p 6 (I v0),p 58 (B (!vl (u97 (a0.2.2.1.getD v0.toNat 0) 0 500)||!vl (u97 (a0.2.1.getD v0.toNat 0) 0 1000)))]) [(2,K 110 y110 a0)]) H fun H=>cD H (fun H=>?_) (fun H=>?_)
  ·refine qA (Z [p 4 (B false)] [(2,K 110 y110 a0)])<|vTT<|fR<|fDD<|fR<|t1<|fDD<|t0<|hr H
  refine vK<|fQ<|qB (Z (G80 (a0.1.length:Int) [p 6 (I v0),p 91 (B (v0==0&&(a0.1.getD v0.toNat 0 != -1||a0.2.1.getD v0.toNat 0 != 0)||decide (0<v0)&&!vl (u97 (a0.1.getD v0.toNat 0) 0 (v0-1))))]) [(2,K 110 y110 a0)]) H fun H=>cD H (fun H=>?_) (fun H=>?_)
  ·refine qA (Z [p 4 (B false)] [(2,K 110 y110 a0)])<|vTT<|fDD<|fR<|t1<|fDD<|t0<|hr H
  refine vK<|fK<|fQ<|zB (Z (G80 (a0.1.length:Int) [p 6 (I (v0+1))]) [(2,K 110 y110 a0)]) H fun H=>b1 H
 exact vE<|fE<|e1<|fX rfl<|n0 H
def u151J0(a0:ByteArray):Unit->Option (Bool)
 | _ =>
 some (decide (1<=(a0.size:Int))&&decide ((a0.size:Int)<=8))
def u151L1(a0:ByteArray)(g1:Int->Option (Bool)):Int->Option (Bool)
 | v0 =>
 if(decide (v0 < (a0.size:Int)))=true then
  gd (ix v0 a0.size/\(decide (97<=byteAt a0 v0.toNat)=true/\True->ix v0 a0.size)/\True) <|
  gd (ix v0 a0.size/\(decide (48<=byteAt a0 v0.toNat)=true/\True->ix v0 a0.size)/\True) <|
  if(!(decide (97<=byteAt a0 v0.toNat)&&decide (byteAt a0 v0.toNat<=122))&&!(decide (48<=byteAt a0 v0.toNat)&&decide (byteAt a0 v0.toNat<=57)&&decide (0<v0)))=true then
   some false
  else
   gd (in64 (v0+1)/\True) <|
   g1 (v0+1)
 else
  u151J0 a0 ()
def u151(a0:ByteArray):Option (Bool) :=
 lp (u151L1 a0) 0
def k151:Ct:=lct 151 [.dat Ty.str] (fun x=>u151 x.1) (fun r:Bool=>B r) (fun _=>())
theorem o151:Ok prog k151:=by
 refine okL [.tmp 2] func151 ntmps151 results151 ?_;intro y ⟨a0,_⟩ r H Q hn hr;have:HT _ _:=⟨@tn prog⟩;refine qA (Z [p 0 (U a0)] [])<|jN r (fun(_:Unit)=>Z [p 0 (U a0)] []) (u151J0 a0) (fun _ H=>?_) (fun _ n0 e0 t0=>?_)
 ·refine qA (Z [p 2 (B (decide (1<=(a0.size:Int))&&decide ((a0.size:Int)<=8)))] [])<|vTT<|hr H
 refine qA (Z [p 0 (U a0),p 3 (I 0)] [])<|vB<|lX (fun(v0:Int)=>Z [p 0 (U a0),p 3 (I v0)] []) 0 H fun _ g1 b1 e1 t1 v0 H=>vQ<|qA (Z [p 0 (U a0),p 3 (I v0),p 9 (B (decide (v0 < (a0.size:Int))))] [])<|cD H (fun H=>?_) (fun H=>?_)
 ·refine vK<|fQ<|vQ<|vB<|qB (Z [p 0 (U a0),p 3 (I v0),p 4 (B (decide (97<=byteAt a0 v0.toNat)&&decide (byteAt a0 v0.toNat<=122)))] []) H fun H=>qB (Z [p 0 (U a0),p 3 (I v0),p 4 (B (decide (97<=byteAt a0 v0.toNat)&&decide (byteAt a0 v0.toNat<=122))),p 5 (B (decide (48<=byteAt a0 v0.toNat)&&decide (byteAt a0 v0.toNat<=57)))] []) H fun H=>qA (Z [p 0 (U a0),p 3 (I v0),p 41 (B (!(decide (97<=byteAt a0 v0.toNat)&&decide (byteAt a0 v0.toNat<=122))&&!(decide (48<=byteAt a0 v0.toNat)&&decide (byteAt a0 v0.toNat<=57)&&decide (0<v0))))] [])<|cD H (fun H=>?_) (fun H=>?_)
  ·refine qA (Z [p 2 (B false)] [])<|vTT<|fDD<|fR<|t1<|fDD<|t0<|hr H
  refine vK<|fK<|fQ<|zB (Z [p 0 (U a0),p 3 (I (v0+1))] []) H fun H=>b1 H
 exact vE<|fE<|e1<|fX rfl<|n0 H
def u134J0:Unit->Option (Bool)
 | _ =>
 some true
def u134J2(v1:Int)(g1:Int->Option (Bool)):Unit->Option (Bool)
 | _ =>
 gd (in64 (v1+1)/\True) <|
 g1 (v1+1)
def u134L3(a0:List ByteArray)(v1:Int)(g1:Int->Option (Bool))(g3:Int->Option (Bool)):Int->Option (Bool)
 | v2 =>
 if(decide (v2<v1))=true then
  gd (ix v2 a0.length/\ix v1 a0.length/\True) <|
  if(decide (a0.getD v2.toNat (dflt Ty.str)=a0.getD v1.toNat (dflt Ty.str)))=true then
   some false
  else
   gd (in64 (v2+1)/\True) <|
   g3 (v2+1)
 else
  u134J2 v1 g1 ()
def u134L1(a0:List ByteArray)(g1:Int->Option (Bool)):Int->Option (Bool)
 | v1 =>
 if(decide (v1 < (a0.length:Int)))=true then
  gd (ix v1 a0.length/\(u151 (a0.getD v1.toNat (dflt Ty.str))).isSome=true/\True) <|
  if(!vl (u151 (a0.getD v1.toNat (dflt Ty.str))))=true then
   some false
  else
   lp (u134L3 a0 v1 g1) 0
 else
  u134J0 ()
def u134(a0:List ByteArray):Option (Bool) :=
 lp (u134L1 a0) 0
def k134:Ct:=lct 134 [.dat Ty.str.sl] (fun x=>u134 x.1) (fun r:Bool=>B r) (fun _=>())
theorem o134:Ok prog k134:=by
 refine okL [.tmp 2] func134 ntmps134 results134 ?_;intro y ⟨a0,_⟩ r H Q hn hr;have:HT _ _:=⟨tc o151 tn⟩;refine qA (Z [p 0 (L Ty.str a0)] [])<|jN r (fun(_:Unit)=>Z [] []) (u134J0) (fun _ H=>?_) (fun _ n0 e0 t0=>?_)
 ·refine qA (Z [p 2 (B true)] [])<|vTT<|hr H
 refine qA (Z [p 0 (L Ty.str a0),p 3 (I 0)] [])<|vB<|lX (fun(v1:Int)=>Z (G84 a0 v1 []) []) 0 H fun _ g1 b1 e1 t1 v1 H=>vQ<|qA (Z (G84 a0 v1 [p 8 (B (decide (v1 < (a0.length:Int))))]) [])<|cD H (fun H=>?_) (fun H=>?_)
 ·refine vK<|fQ<|jN r (fun(_:Unit)=>Z (G84 a0 v1 []) []) (u134J2 v1 g1) (fun _ H=>?_) (fun _ n2 e2 t2=>?_)
  ·refine zB (Z (G84 a0 (v1+1) []) []) H fun H=>b1 H
  refine vB<|vQ<|qB (Z (G84 a0 v1 [p 16 (B !vl (u151 (a0.getD v1.toNat (dflt Ty.str))))]) []) H fun H=>cD H (fun H=>?_) (fun H=>?_)
  ·refine qA (Z [p 2 (B false)] [])<|vTT<|fR<|fDD<|t2<|t1<|fDD<|t0<|hr H
  refine vK<|fQ<|qA (Z (G84 a0 v1 [p 4 (I 0)]) [])<|vB<|lX (fun(v2:Int)=>Z (G84 a0 v1 [p 4 (I v2)]) []) 0 H fun _ g3 b3 e3 t3 v2 H=>vQ<|qA (Z (G84 a0 v1 [p 4 (I v2),p 19 (B (decide (v2<v1)))]) [])<|cD H (fun H=>?_) (fun H=>?_)
  ·refine vK<|fQ<|vQ<|vB<|qB (Z (G84 a0 v1 [p 4 (I v2),p 30 (B (decide (a0.getD v2.toNat (dflt Ty.str)=a0.getD v1.toNat (dflt Ty.str))))]) []) H fun H=>cD H (fun H=>?_) (fun H=>?_)
   ·refine qA (Z [p 2 (B false)] [])<|vTT<|fDD<|fR<|t3<|fDD<|fDD<|t2<|t1<|fDD<|t0<|hr H
   refine vK<|fK<|fQ<|zB (Z (G84 a0 v1 [p 4 (I (v2+1))]) []) H fun H=>b3 H
  exact vE<|fE<|e3<|fX rfl<|fK<|n2 H
 exact vE<|fE<|e1<|fX rfl<|n0 H
def u133J4:Unit->Option (Bool)
 | _ =>
 some true
def u133L5(a1:Y31)(g5:Int->Option (Bool)):Int->Option (Bool)
 | v5 =>
 if(decide (v5 < (a1.2.2.length:Int)))=true then
  gd (ix v5 a1.2.2.length/\(u97 (a1.2.2.getD v5.toNat (dflt y175)).2.1 1 2).isSome=true/\((!vl (u97 (a1.2.2.getD v5.toNat (dflt y175)).2.1 1 2))=false/\True->ix v5 a1.2.2.length)/\((!vl (u97 (a1.2.2.getD v5.toNat (dflt y175)).2.1 1 2))=false/\True->in64 ((a1.2.1.length:Int)-1))/\((!vl (u97 (a1.2.2.getD v5.toNat (dflt y175)).2.1 1 2))=false/\True->(u97 (a1.2.2.getD v5.toNat (dflt y175)).2.2 0 ((a1.2.1.length:Int)-1)).isSome=true)/\True) <|
  if(!vl (u97 (a1.2.2.getD v5.toNat (dflt y175)).2.1 1 2)||!vl (u97 (a1.2.2.getD v5.toNat (dflt y175)).2.2 0 ((a1.2.1.length:Int)-1)))=true then
   some false
  else
   gd (in64 (v5+1)/\True) <|
   g5 (v5+1)
 else
  u133J4 ()
def u133J0(a1:Y31):Unit->Option (Bool)
 | _ =>
 lp (u133L5 a1) 0
def u133J2(v2:Int)(g1:Int->Option (Bool)):Unit->Option (Bool)
 | _ =>
 gd (in64 (v2+1)/\True) <|
 g1 (v2+1)
def u133L3(v3:Y165)(a1:Y31)(v2:Int)(g1:Int->Option (Bool))(g3:Int->Option (Bool)):Int->Option (Bool)
 | v4 =>
 if(decide (v4 < (v3.2.2.length:Int)))=true then
  gd (ix v4 v3.2.2.length/\in64 ((a1.2.1.length:Int)-1)/\(u97 (v3.2.2.getD v4.toNat 0) 0 ((a1.2.1.length:Int)-1)).isSome=true/\True) <|
  if(!vl (u97 (v3.2.2.getD v4.toNat 0) 0 ((a1.2.1.length:Int)-1)))=true then
   some false
  else
   gd (in64 (v4+1)/\True) <|
   g3 (v4+1)
 else
  u133J2 v2 g1 ()
def u133L1(a1:Y31)(a0:List Y163)(g1:Int->Option (Bool)):Int->Option (Bool)
 | v2 =>
 if(decide (v2 < (a1.1.length:Int)))=true then
  gd (ix v2 a1.1.length/\True)<|lt (a1.1.getD v2.toNat (dflt y165)) fun v3 =>
  gd (in64 ((a0.length:Int)-1)/\(u97 v3.2.1 0 ((a0.length:Int)-1)).isSome=true/\((!vl (u97 v3.2.1 0 ((a0.length:Int)-1)))=false/\True->ix v3.2.1 a0.length)/\True) <|
  if(!vl (u97 v3.2.1 0 ((a0.length:Int)-1))||(v3.2.2.length:Int) != (↑(a0.getD v3.2.1.toNat (dflt y163)).2.2.1.length:Int))=true then
   some false
  else
   lp (u133L3 v3 a1 v2 g1) 0
 else
  u133J0 a1 ()
def u133(a0:List Y163)(a1:Y31):Option (Bool) :=
 lp (u133L1 a1 a0) 0
def k133:Ct:=lct 133 [.agg y163.sl,.agg y31] (fun x=>u133 x.1 x.2.1) (fun r:Bool=>B r) (fun _=>())
theorem o133:Ok prog k133:=by
 refine okL [.tmp 4] func133 ntmps133 results133 ?_;intro y ⟨a0,a1,_⟩ r H Q hn hr;have:HT _ _:=⟨tc o97 tn⟩;refine qA (Z (G7 []) (W6 a1 a0))<|qA (Z (G7 [p 5 (I (a1.2.1.length:Int))]) (W6 a1 a0))<|jN r (fun(_:Unit)=>Z [p 3 (R 3),p 5 (I (a1.2.1.length:Int))] [(3,K 31 y31 a1)]) (u133J0 a1) (fun _ H=>?_) (fun _ n0 e0 t0=>?_)
 ·refine jN r (fun(_:Unit)=>Z [] []) (u133J4) (fun _ H=>?_) (fun _ n4 e4 t4=>?_)
  ·refine qA (Z [p 4 (B true)] [])<|vTT<|hr H
  refine qA (Z [p 3 (R 3),p 5 (I (a1.2.1.length:Int)),p 9 (I 0)] [(3,K 31 y31 a1)])<|vB<|lX (fun(v5:Int)=>Z [p 3 (R 3),p 5 (I (a1.2.1.length:Int)),p 9 (I v5)] [(3,K 31 y31 a1)]) 0 H fun _ g5 b5 e5 t5 v5 H=>vQ<|qA (Z [p 3 (R 3),p 5 (I (a1.2.1.length:Int)),p 9 (I v5),p 67 (B (decide (v5 < (a1.2.2.length:Int))))] [(3,K 31 y31 a1)])<|cD H (fun H=>?_) (fun H=>?_)
  ·refine vK<|fQ<|vQ<|vB<|qB (Z [p 3 (R 3),p 5 (I (a1.2.1.length:Int)),p 9 (I v5),p 89 (B (!vl (u97 (a1.2.2.getD v5.toNat (dflt y175)).2.1 1 2)||!vl (u97 (a1.2.2.getD v5.toNat (dflt y175)).2.2 0 ((a1.2.1.length:Int)-1))))] [(3,K 31 y31 a1)]) H fun H=>cD H (fun H=>?_) (fun H=>?_)
   ·refine qA (Z [p 4 (B false)] [(3,K 31 y31 a1)])<|vTT<|fDD<|fR<|t5<|fDD<|t4<|hr H
   refine vK<|fK<|fQ<|zB (Z [p 3 (R 3),p 5 (I (a1.2.1.length:Int)),p 9 (I (v5+1))] [(3,K 31 y31 a1)]) H fun H=>b5 H
  exact vE<|fE<|e5<|fX rfl<|n4 H
 refine qA (Z (G7 [p 5 (I (a1.2.1.length:Int)),p 6 (I 0)]) (W6 a1 a0))<|vB<|lX (fun(v2:Int)=>Z (G7 [p 5 (I (a1.2.1.length:Int)),p 6 (I v2)]) (W6 a1 a0)) 0 H fun _ g1 b1 e1 t1 v2 H=>vQ<|qA (Z (G7 [p 5 (I (a1.2.1.length:Int)),p 6 (I v2),p 17 (B (decide (v2 < (a1.1.length:Int))))]) (W6 a1 a0))<|cD H (fun H=>?_) (fun H=>?_)
 ·refine vK<|fQ<|jN r (fun(_:Unit)=>Z (G7 [p 5 (I (a1.2.1.length:Int)),p 6 (I v2)]) (W6 a1 a0)) (u133J2 v2 g1) (fun _ H=>?_) (fun _ n2 e2 t2=>?_)
  ·refine zB (Z (G7 [p 5 (I (a1.2.1.length:Int)),p 6 (I (v2+1))]) (W6 a1 a0)) H fun H=>b1 H
  refine vB<|qD (fun v3=>Z (G7 [p 5 (I (a1.2.1.length:Int)),p 6 (I v2),p 7 (R 7)]) ((7,K 165 y165 v3)::W6 a1 a0)) H fun v3 H=>vQ<|qB (Z (G7 [p 5 (I (a1.2.1.length:Int)),p 6 (I v2),p 7 (R 7),p 46 (B (!vl (u97 v3.2.1 0 ((a0.length:Int)-1))||(v3.2.2.length:Int) != (↑(a0.getD v3.2.1.toNat (dflt y163)).2.2.1.length:Int)))]) ((7,K 165 y165 v3)::W6 a1 a0)) H fun H=>cD H (fun H=>?_) (fun H=>?_)
  ·refine qA (Z [p 4 (B false)] ((7,K 165 y165 v3)::W6 a1 a0))<|vTT<|fR<|fDD<|t2<|t1<|fDD<|t0<|hr H
  refine vK<|fQ<|qA (Z (G7 [p 5 (I (a1.2.1.length:Int)),p 6 (I v2),p 7 (R 7),p 8 (I 0)]) ((7,K 165 y165 v3)::W6 a1 a0))<|vB<|lX (fun(v4:Int)=>Z (G7 [p 5 (I (a1.2.1.length:Int)),p 6 (I v2),p 7 (R 7),p 8 (I v4)]) ((7,K 165 y165 v3)::W6 a1 a0)) 0 H fun _ g3 b3 e3 t3 v4 H=>vQ<|qA (Z (G7 [p 5 (I (a1.2.1.length:Int)),p 6 (I v2),p 7 (R 7),p 8 (I v4),p 51 (B (decide (v4 < (v3.2.2.length:Int))))]) ((7,K 165 y165 v3)::W6 a1 a0))<|cD H (fun H=>?_) (fun H=>?_)
  ·refine vK<|fQ<|vQ<|vB<|qB (Z (G7 [p 5 (I (a1.2.1.length:Int)),p 6 (I v2),p 7 (R 7),p 8 (I v4),p 62 (B !vl (u97 (v3.2.2.getD v4.toNat 0) 0 ((a1.2.1.length:Int)-1)))]) ((7,K 165 y165 v3)::W6 a1 a0)) H fun H=>cD H (fun H=>?_) (fun H=>?_)
   ·refine qA (Z [p 4 (B false)] ((7,K 165 y165 v3)::W6 a1 a0))<|vTT<|fDD<|fR<|t3<|fDD<|fDD<|t2<|t1<|fDD<|t0<|hr H
   refine vK<|fK<|fQ<|zB (Z (G7 [p 5 (I (a1.2.1.length:Int)),p 6 (I v2),p 7 (R 7),p 8 (I (v4+1))]) ((7,K 165 y165 v3)::W6 a1 a0)) H fun H=>b3 H
  exact vE<|fE<|e3<|fX rfl<|fK<|n2 H
 exact vE<|fE<|e1<|fX rfl<|n0 H
def u220J0:List Int->Option (List Int)
 | v4 =>
 some v4
def u220L1(a0:Y163)(g1:Int×List Int->Option (List Int)):Int×List Int->Option (List Int)
 | (v1,v2) =>
 if(decide (v1 < (a0.2.2.2.1.length:Int)))=true then
  gd (ix v1 a0.2.2.2.1.length/\ix (a0.2.2.2.1.getD v1.toNat (dflt y143)).1 v2.length/\(a0.2.2.2.1.getD v1.toNat (dflt y143)).1.toNat<v2.length/\in64 (v2.getD (a0.2.2.2.1.getD v1.toNat (dflt y143)).1.toNat 0+1)/\ix (a0.2.2.2.1.getD v1.toNat (dflt y143)).1 v2.length/\(a0.2.2.2.1.getD v1.toNat (dflt y143)).1.toNat<v2.length/\True)<|lt (v2.set (a0.2.2.2.1.getD v1.toNat (dflt y143)).1.toNat (v2.getD (a0.2.2.2.1.getD v1.toNat (dflt y143)).1.toNat 0+1)) fun v3 =>
  gd (in64 (v1+1)/\True) <|
  g1 (v1+1,v3)
 else
  u220J0 v2
def u220(a0:Y163):Option (List Int) :=
 gd (((0:Int)<=(6:Int)/\(6:Int)=(6:Int)/\Int.toNat (6:Int)*8<=281474976710656/\(6:Int)<=(9223372036854775807:Int))/\True) <|
 lp (u220L1 a0) ((0,List.replicate (Int.toNat (6:Int)) (0:Int)))
def k220:Ct:=lct 220 [.agg y163] (fun x=>u220 x.1) (fun r:List Int=>AV.ow 2 true i64 r) (fun _=>())
theorem o220:Ok prog k220:=by
 refine okL [.tmp 2] func220 ntmps220 results220 ?_;intro y ⟨a0,_⟩ r H Q hn hr;have:HT _ _:=⟨@tn prog⟩;refine qA (Z [p 1 (R 1)] [(1,K 163 y163 a0)])<|qB (Z [p 1 (R 1),p 3 (O 5)] [(5,A 2 i64 (List.replicate (Int.toNat (6:Int)) (0:Int)) 0),(1,K 163 y163 a0)]) H fun H=>jN r (fun(v4:List Int)=>Z [p 3 (O 5)] [(5,A 2 i64 v4 0)]) (u220J0) (fun v4 H=>?_) (fun _ n0 e0 t0=>?_)
 ·refine qA (Z [p 2 (O 5)] [(5,A 2 i64 v4 0)])<|vTT<|hr H
 refine qA (Z [p 1 (R 1),p 3 (O 5),p 4 (I (0:Int))] [(5,A 2 i64 (List.replicate (Int.toNat (6:Int)) (0:Int)) 0),(1,K 163 y163 a0)])<|vB<|lX (fun((v1,v2):Int×List Int)=>Z [p 1 (R 1),p 3 (O 5),p 4 (I v1)] [(5,A 2 i64 v2 0),(1,K 163 y163 a0)]) ((0,List.replicate (Int.toNat (6:Int)) (0:Int))) H fun _ g1 b1 e1 t1 ⟨v1,v2⟩ H=>vQ<|qA (Z [p 1 (R 1),p 3 (O 5),p 4 (I v1),p 10 (B (decide (v1 < (a0.2.2.2.1.length:Int))))] [(5,A 2 i64 v2 0),(1,K 163 y163 a0)])<|cD H (fun H=>?_) (fun H=>?_)
 ·refine vK<|fQ<|vQ<|vB<|zD (fun v3=>Z [p 1 (R 1),p 3 (O 5),p 4 (I v1)] [(5,A 2 i64 v3 0),(1,K 163 y163 a0)]) H fun v3 H=>fK<|fQ<|zB (Z [p 1 (R 1),p 3 (O 5),p 4 (I (v1+1))] [(5,A 2 i64 v3 0),(1,K 163 y163 a0)]) H fun H=>b1 H
 exact vE<|fE<|e1<|fX rfl<|n0 H
def u285J0(a0:List Int):Unit->Option (Bool)
 | _ =>
 some (decide (1<=(a0.length:Int))&&decide ((a0.length:Int)<=4))
def u285L1(a0:List Int)(g1:Int->Option (Bool)):Int->Option (Bool)
 | v0 =>
 if(decide (v0 < (a0.length:Int)))=true then
  gd (ix v0 a0.length/\(u97 (a0.getD v0.toNat 0) 0 100000).isSome=true/\(decide (0<v0)=true/\(!vl (u97 (a0.getD v0.toNat 0) 0 100000))=false/\True->in64 (v0-1))/\(decide (0<v0)=true/\(!vl (u97 (a0.getD v0.toNat 0) 0 100000))=false/\True->ix (v0-1) a0.length)/\(decide (0<v0)=true/\(!vl (u97 (a0.getD v0.toNat 0) 0 100000))=false/\True->ix v0 a0.length)/\True) <|
  if(!vl (u97 (a0.getD v0.toNat 0) 0 100000)||decide (0<v0)&&decide (a0.getD v0.toNat 0<=a0.getD (v0-1).toNat 0))=true then
   some false
  else
   gd (in64 (v0+1)/\True) <|
   g1 (v0+1)
 else
  u285J0 a0 ()
def u285(a0:List Int):Option (Bool) :=
 lp (u285L1 a0) 0
def k285:Ct:=lct 285 [.dat i64.sl] (fun x=>u285 x.1) (fun r:Bool=>B r) (fun _=>())
theorem o285:Ok prog k285:=by
 refine okL [.tmp 2] func285 ntmps285 results285 ?_;intro y ⟨a0,_⟩ r H Q hn hr;have:HT _ _:=⟨tc o97 tn⟩;refine qA (Z [p 0 (L i64 a0)] [])<|jN r (fun(_:Unit)=>Z [p 0 (L i64 a0)] []) (u285J0 a0) (fun _ H=>?_) (fun _ n0 e0 t0=>?_)
 ·refine qA (Z [p 2 (B (decide (1<=(a0.length:Int))&&decide ((a0.length:Int)<=4)))] [])<|vTT<|hr H
 refine qA (Z [p 0 (L i64 a0),p 3 (I 0)] [])<|vB<|lX (fun(v0:Int)=>Z [p 0 (L i64 a0),p 3 (I v0)] []) 0 H fun _ g1 b1 e1 t1 v0 H=>vQ<|qA (Z [p 0 (L i64 a0),p 3 (I v0),p 7 (B (decide (v0 < (a0.length:Int))))] [])<|cD H (fun H=>?_) (fun H=>?_)
 ·refine vK<|fQ<|vQ<|vB<|qB (Z [p 0 (L i64 a0),p 3 (I v0),p 31 (B (!vl (u97 (a0.getD v0.toNat 0) 0 100000)||decide (0<v0)&&decide (a0.getD v0.toNat 0<=a0.getD (v0-1).toNat 0)))] []) H fun H=>cD H (fun H=>?_) (fun H=>?_)
  ·refine qA (Z [p 2 (B false)] [])<|vTT<|fDD<|fR<|t1<|fDD<|t0<|hr H
  refine vK<|fK<|fQ<|zB (Z [p 0 (L i64 a0),p 3 (I (v0+1))] []) H fun H=>b1 H
 exact vE<|fE<|e1<|fX rfl<|n0 H
def u277J0:Unit->Option (Bool)
 | _ =>
 some true
def u277L1(a0:Y140)(g1:Int->Option (Bool)):Int->Option (Bool)
 | v0 =>
 if(decide (v0 < (a0.2.2.length:Int)))=true then
  gd (ix v0 a0.2.2.length/\(u97 (a0.2.2.getD v0.toNat 0) (-1000000) 1000000).isSome=true/\True) <|
  if(!vl (u97 (a0.2.2.getD v0.toNat 0) (-1000000) 1000000))=true then
   some false
  else
   gd (in64 (v0+1)/\True) <|
   g1 (v0+1)
 else
  u277J0 ()
def u277(a0:Y140):Option (Bool) :=
 gd ((u285 a0.1).isSome=true/\((!vl (u285 a0.1))=false/\True->(u285 a0.2.1).isSome=true)/\((!vl (u285 a0.1)||!vl (u285 a0.2.1))=false/\True->in64 ((a0.1.length:Int)*(a0.2.1.length:Int)))/\True) <|
 if(!vl (u285 a0.1)||!vl (u285 a0.2.1)||(a0.2.2.length:Int) != (a0.1.length:Int)*(a0.2.1.length:Int))=true then
  some false
 else
  lp (u277L1 a0) 0
def k277:Ct:=lct 277 [.agg y140] (fun x=>u277 x.1) (fun r:Bool=>B r) (fun _=>())
theorem o277:Ok prog k277:=by
 refine okL [.tmp 2] func277 ntmps277 results277 ?_;intro y ⟨a0,_⟩ r H Q hn hr;have:HT _ _:=⟨tc o97 (tc o285 tn)⟩;refine qA (Z [p 1 (R 1)] [(1,K 140 y140 a0)])<|vQ<|qB (Z [p 1 (R 1),p 26 (B (!vl (u285 a0.1)||!vl (u285 a0.2.1)||(a0.2.2.length:Int) != (a0.1.length:Int)*(a0.2.1.length:Int)))] [(1,K 140 y140 a0)]) H fun H=>cD H (fun H=>?_) (fun H=>?_)
 ·refine qA (Z [p 2 (B false)] [(1,K 140 y140 a0)])<|vTT<|fR<|hr H
 refine vK<|fQ<|jN r (fun(_:Unit)=>Z [] []) (u277J0) (fun _ H=>?_) (fun _ n0 e0 t0=>?_)
 ·refine qA (Z [p 2 (B true)] [])<|vTT<|hr H
 refine qA (Z [p 1 (R 1),p 3 (I 0)] [(1,K 140 y140 a0)])<|vB<|lX (fun(v0:Int)=>Z (G12 v0 []) [(1,K 140 y140 a0)]) 0 H fun _ g1 b1 e1 t1 v0 H=>vQ<|qA (Z (G12 v0 [p 31 (B (decide (v0 < (a0.2.2.length:Int))))]) [(1,K 140 y140 a0)])<|cD H (fun H=>?_) (fun H=>?_)
 ·refine vK<|fQ<|vQ<|vB<|qB (Z (G12 v0 [p 40 (B !vl (u97 (a0.2.2.getD v0.toNat 0) (-1000000) 1000000))]) [(1,K 140 y140 a0)]) H fun H=>cD H (fun H=>?_) (fun H=>?_)
  ·refine qA (Z [p 2 (B false)] [(1,K 140 y140 a0)])<|vTT<|fDD<|fR<|t1<|fDD<|t0<|hr H
  refine vK<|fK<|fQ<|zB (Z (G12 (v0+1) []) [(1,K 140 y140 a0)]) H fun H=>b1 H
 exact vE<|fE<|e1<|fX rfl<|n0 H
def u265J0:Int×Int->Option (Y75×Int)
 | (v5,v6) =>
 some (((v5,v6),(0:Int)))
def u265L1(a0:Y140)(g1:Int×Int×Int->Option (Y75×Int)):Int×Int×Int->Option (Y75×Int)
 | (v2,v3,v4) =>
 if(decide (v2 < (a0.2.2.length:Int)))=true then
  gd (ix v2 a0.2.2.length/\True) <|
  gd (ix v2 a0.2.2.length/\True) <|
  gd (in64 (v2+1)/\True) <|
  g1 ((v2+1,min v3 (a0.2.2.getD v2.toNat 0),max v4 (a0.2.2.getD v2.toNat 0)))
 else
  u265J0 (v3,v4)
def u265(a0:Y140):Option (Y75×Int) :=
 gd ((u277 a0).isSome=true/\True) <|
 if(!vl (u277 a0))=true then
  some ((((0:Int),(0:Int)),(1:Int)))
 else
  gd (ix 0 a0.2.2.length/\ix 0 a0.2.2.length/\True) <|
  lp (u265L1 a0) ((1,a0.2.2.getD (Int.toNat (0:Int)) (0:Int),a0.2.2.getD (Int.toNat (0:Int)) (0:Int)))
def k265:Ct:=lct 265 [.agg y140] (fun x=>u265 x.1) (fun r:Y75×Int=>AV.tup [AV.agg [I r.1.1,I r.1.2],I r.2]) (fun _=>())
theorem o265:Ok prog k265:=by
 refine okL [.cell 2 75,.tmp 3] func265 ntmps265 results265 ?_;intro y ⟨a0,_⟩ r H Q hn hr;have:HT _ _:=⟨tc o277 tn⟩;refine qA (Z [p 1 (R 1),p 2 (R 2)] (W47 a0))<|vQ<|qB (Z [p 1 (R 1),p 2 (R 2),p 8 (B !vl (u277 a0))] (W47 a0)) H fun H=>cD H (fun H=>?_) (fun H=>?_)
 ·refine qA (Z [p 2 (R 2),p 3 (I 1)] (W47 a0))<|vTT<|fR<|hr H
 refine vK<|fQ<|qB (Z (G71 []) (W81 (a0.2.2.getD (Int.toNat (0:Int)) (0:Int)) a0)) H fun H=>jN r (fun((v5,v6):Int×Int)=>Z [p 2 (R 2),p 4 (R 4)] [(4,bx 75 [J v5,J v6]),(2,bx 75 [I 0,I 0])]) (u265J0) (fun⟨v5,v6⟩ H=>?_) (fun _ n0 e0 t0=>?_)
 ·refine qA (Z [p 2 (R 2),p 3 (I 0)] [(2,bx 75 [J v5,J v6]),(4,bx 75 [J v5,J v6])])<|vTT<|hr H
 refine qA (Z (G71 [p 5 (I (1:Int))]) (W81 (a0.2.2.getD (Int.toNat (0:Int)) (0:Int)) a0))<|vB<|lX (fun((v2,v3,v4):Int×Int×Int)=>Z (G71 [p 5 (I v2)]) ((4,bx 75 [J v3,J v4])::W47 a0)) ((1,a0.2.2.getD (Int.toNat (0:Int)) (0:Int),a0.2.2.getD (Int.toNat (0:Int)) (0:Int))) H fun _ g1 b1 e1 t1 ⟨v2,v3,v4⟩ H=>vQ<|qA (Z (G71 [p 5 (I v2),p 23 (B (decide (v2 < (a0.2.2.length:Int))))]) ((4,bx 75 [J v3,J v4])::W47 a0))<|cD H (fun H=>?_) (fun H=>?_)
 ·refine vK<|fQ<|vQ<|vB<|qB (Z (G71 [p 5 (I v2)]) ((4,bx 75 [I (min v3 (a0.2.2.getD v2.toNat 0)),J v4])::W47 a0)) H fun H=>zB (Z (G71 [p 5 (I v2)]) ((4,bx 75 [I (min v3 (a0.2.2.getD v2.toNat 0)),I (max v4 (a0.2.2.getD v2.toNat 0))])::W47 a0)) H fun H=>fK<|fQ<|zB (Z (G71 [p 5 (I (v2+1))]) ((4,bx 75 [I (min v3 (a0.2.2.getD v2.toNat 0)),I (max v4 (a0.2.2.getD v2.toNat 0))])::W47 a0)) H fun H=>b1 H
 exact vE<|fE<|e1<|fX rfl<|n0 H
def u246J0:Unit->Option (Bool)
 | _ =>
 some true
def u246L1(a1:Bool)(a0:List Y140)(g1:Int->Option (Bool)):Int->Option (Bool)
 | v1 =>
 if(decide (v1<2))=true then
  gd (ix v1 a0.length/\(u265 (a0.getD v1.toNat (dflt y140))).isSome=true/\True)<|lt (vl (u265 (a0.getD v1.toNat (dflt y140)))) fun v2 =>
  if(v2.2 != 0||a1&&decide (v2.1.1<0))=true then
   some false
  else
   gd (in64 (v1+1)/\True) <|
   g1 (v1+1)
 else
  u246J0 ()
def u246(a0:List Y140)(a1:Bool):Option (Bool) :=
 if((a0.length:Int) != 2)=true then
  some false
 else
  lp (u246L1 a1 a0) 0
def k246:Ct:=lct 246 [.dat y140.sl,.dat Ty.bool] (fun x=>u246 x.1 x.2.1) (fun r:Bool=>B r) (fun _=>())
theorem o246:Ok prog k246:=by
 refine okL [.tmp 4] func246 ntmps246 results246 ?_;intro y ⟨a0,a1,_⟩ r H Q hn hr;have:HT _ _:=⟨tc o265 tn⟩;refine qA (Z [p 0 (L y140 a0),p 1 (C a1)] [])<|vQ<|qA (Z [p 0 (L y140 a0),p 1 (C a1),p 10 (B ((a0.length:Int) != 2))] [])<|cD H (fun H=>?_) (fun H=>?_)
 ·refine qA (Z [p 4 (B false)] [])<|vTT<|fR<|hr H
 refine vK<|fQ<|jN r (fun(_:Unit)=>Z [] []) (u246J0) (fun _ H=>?_) (fun _ n0 e0 t0=>?_)
 ·refine qA (Z [p 4 (B true)] [])<|vTT<|hr H
 refine qA (Z [p 0 (L y140 a0),p 1 (C a1),p 5 (I 0)] [])<|vB<|lX (fun(v1:Int)=>Z [p 0 (L y140 a0),p 1 (C a1),p 5 (I v1)] []) 0 H fun _ g1 b1 e1 t1 v1 H=>vQ<|qA (Z [p 0 (L y140 a0),p 1 (C a1),p 5 (I v1),p 12 (B (decide (v1<2)))] [])<|cD H (fun H=>?_) (fun H=>?_)
 ·refine vK<|fQ<|vQ<|vB<|qD (fun v2=>Z [p 0 (L y140 a0),p 1 (C a1),p 5 (I v1),p 6 (R 6),p 7 (I v2.2)] [(6,bx 75 (cellsD true y75 v2.1))]) H fun v2 H=>qA (Z [p 0 (L y140 a0),p 1 (C a1),p 5 (I v1),p 32 (B (v2.2 != 0||a1&&decide (v2.1.1<0)))] [(6,bx 75 (cellsD true y75 v2.1))])<|cD H (fun H=>?_) (fun H=>?_)
  ·refine qA (Z [p 4 (B false)] [(6,bx 75 (cellsD true y75 v2.1))])<|vTT<|fDD<|fR<|t1<|fDD<|t0<|hr H
  refine vK<|fK<|fQ<|zB (Z [p 0 (L y140 a0),p 1 (C a1),p 5 (I (v1+1))] [(6,bx 75 (cellsD true y75 v2.1))]) H fun H=>b1 H
 exact vE<|fE<|e1<|fX rfl<|n0 H
def u219J1(v0:Y217)(a1:Y143)(a0:Y163):Bool->Option (Bool)
 | v2 =>
 if v2=true then
  gd (((v0.2.2.2&&decide (a1.2.2.1 < (a0.2.2.1.length:Int)-1))=true/\True->ix a1.2.2.1 a0.2.2.1.length)/\((v0.2.2.2&&decide (a1.2.2.1 < (a0.2.2.1.length:Int)-1)&&!(a0.2.2.1.getD a1.2.2.1.toNat (dflt y217)).2.2.2&&a1.2.2.2.1==0)=true/\True->(u246 a1.2.2.2.2.1 false).isSome=true)/\True) <|
  some (v0.2.2.2&&decide (a1.2.2.1 < (a0.2.2.1.length:Int)-1)&&!(a0.2.2.1.getD a1.2.2.1.toNat (dflt y217)).2.2.2&&a1.2.2.2.1==0&&vl (u246 a1.2.2.2.2.1 false)&&(a1.2.2.2.2.2.length:Int)==0)
 else
  some false
def u219J0(v0:Y217)(a1:Y143)(a0:Y163):Bool->Option (Bool)
 | v1 =>
 if v1=true then
  gd (((v0.2.2.2&&a1.2.2.1==(a0.2.2.1.length:Int)-1&&a1.2.2.2.1==0)=true/\True->(u246 a1.2.2.2.2.1 true).isSome=true)/\((v0.2.2.2&&a1.2.2.1==(a0.2.2.1.length:Int)-1&&a1.2.2.2.1==0&&vl (u246 a1.2.2.2.2.1 true))=true/\True->(u246 a1.2.2.2.2.2 true).isSome=true)/\True) <|
  some (v0.2.2.2&&a1.2.2.1==(a0.2.2.1.length:Int)-1&&a1.2.2.2.1==0&&vl (u246 a1.2.2.2.2.1 true)&&vl (u246 a1.2.2.2.2.2 true))
 else
  if(a1.1==4)=true then
   u219J1 v0 a1 a0 (a1.1==4)
  else
   u219J1 v0 a1 a0 (a1.1==5)
def u219(a0:Y163)(a1:Y143):Option (Bool) :=
 gd (in64 ((a0.2.2.1.length:Int)-1)/\True) <|
 gd (in64 ((a0.2.2.1.length:Int)-1-1)/\(u97 a1.2.1 0 ((a0.2.2.1.length:Int)-1-1)).isSome=true/\((!vl (u97 a1.2.1 0 ((a0.2.2.1.length:Int)-1-1)))=false/\True->(u97 a1.2.2.1 0 ((a0.2.2.1.length:Int)-1)).isSome=true)/\True) <|
 if(!vl (u97 a1.2.1 0 ((a0.2.2.1.length:Int)-1-1))||!vl (u97 a1.2.2.1 0 ((a0.2.2.1.length:Int)-1)))=true then
  some false
 else
  gd (ix a1.2.1 a0.2.2.1.length/\True)<|lt (a0.2.2.1.getD a1.2.1.toNat (dflt y217)) fun v0 =>
  if(a1.1==1)=true then
   gd (((!v0.2.2.2&&a1.2.2.1==(a0.2.2.1.length:Int)-1)=true/\True->(u97 a1.2.2.2.1 1 3).isSome=true)/\((!v0.2.2.2&&a1.2.2.1==(a0.2.2.1.length:Int)-1&&vl (u97 a1.2.2.2.1 1 3))=true/\True->(u246 a1.2.2.2.2.1 true).isSome=true)/\((!v0.2.2.2&&a1.2.2.1==(a0.2.2.1.length:Int)-1&&vl (u97 a1.2.2.2.1 1 3)&&vl (u246 a1.2.2.2.2.1 true))=true/\True->(u246 a1.2.2.2.2.2 true).isSome=true)/\True) <|
   some (!v0.2.2.2&&a1.2.2.1==(a0.2.2.1.length:Int)-1&&vl (u97 a1.2.2.2.1 1 3)&&vl (u246 a1.2.2.2.2.1 true)&&vl (u246 a1.2.2.2.2.2 true))
  else
   if(a1.1==2)=true then
    u219J0 v0 a1 a0 (a1.1==2)
   else
    u219J0 v0 a1 a0 (a1.1==3)
def k219:Ct:=lct 219 [.agg y163,.agg y143] (fun x=>u219 x.1 x.2.1) (fun r:Bool=>B r) (fun _=>())
theorem o219:Ok prog k219:=by
 refine okL [.tmp 4] func219 ntmps219 results219 ?_;intro y ⟨a0,a1,_⟩ r H Q hn hr;have:HT _ _:=⟨tc o246 (tc o97 tn)⟩;refine qA (Z (G7 []) (W11 a1 a0))<|qB (Z (G7 [p 5 (I ((a0.2.2.1.length:Int)-1))]) (W11 a1 a0)) H fun H=>vQ<|qB (Z (G7 [p 5 (I ((a0.2.2.1.length:Int)-1)),p 23 (B (!vl (u97 a1.2.1 0 ((a0.2.2.1.length:Int)-1-1))||!vl (u97 a1.2.2.1 0 ((a0.2.2.1.length:Int)-1))))]) (W11 a1 a0)) H fun H=>cD H (fun H=>?_) (fun H=>?_)
 ·refine qA (Z [p 4 (B false)] (W11 a1 a0))<|vTT<|fR<|hr H
 refine vK<|fQ<|qD (fun v0=>Z (G7 [p 5 (I ((a0.2.2.1.length:Int)-1)),p 6 (C v0.2.2.2)]) (W11 a1 a0)) H fun v0 H=>vQ<|qA (Z (G7 [p 5 (I ((a0.2.2.1.length:Int)-1)),p 6 (C v0.2.2.2),p 32 (J a1.1)]) (W11 a1 a0))<|vB<|qA (Z (G7 [p 5 (I ((a0.2.2.1.length:Int)-1)),p 6 (C v0.2.2.2),p 32 (J a1.1),p 33 (B (a1.1==1))]) (W11 a1 a0))<|cD H (fun H=>?_) (fun H=>?_)
 ·refine qB (Z [p 4 (B (!v0.2.2.2&&a1.2.2.1==(a0.2.2.1.length:Int)-1&&vl (u97 a1.2.2.2.1 1 3)&&vl (u246 a1.2.2.2.2.1 true)&&vl (u246 a1.2.2.2.2.2 true)))] (W11 a1 a0)) H fun H=>vTT<|fDD<|fR<|hr H
 refine jN r (fun(v1:Bool)=>Z (G7 [p 5 (I ((a0.2.2.1.length:Int)-1)),p 6 (C v0.2.2.2),p 32 (J a1.1),p 58 (B v1)]) (W11 a1 a0)) (u219J0 v0 a1 a0) (fun v1 H=>?_) (fun _ n0 e0 t0=>?_)
 ·refine cD H (fun H=>?_) (fun H=>?_)
  ·refine qB (Z [p 4 (B (v0.2.2.2&&a1.2.2.1==(a0.2.2.1.length:Int)-1&&a1.2.2.2.1==0&&vl (u246 a1.2.2.2.2.1 true)&&vl (u246 a1.2.2.2.2.2 true)))] (W11 a1 a0)) H fun H=>vTT<|fDD<|fR<|hr H
  refine jN r (fun(v2:Bool)=>Z (G7 [p 5 (I ((a0.2.2.1.length:Int)-1)),p 6 (C v0.2.2.2),p 83 (B v2)]) (W11 a1 a0)) (u219J1 v0 a1 a0) (fun v2 H=>?_) (fun _ n1 e1 t1=>?_)
  ·refine cD H (fun H=>?_) (fun H=>?_)
   ·refine qB (Z [p 4 (B (v0.2.2.2&&decide (a1.2.2.1 < (a0.2.2.1.length:Int)-1)&&!(a0.2.2.1.getD a1.2.2.1.toNat (dflt y217)).2.2.2&&a1.2.2.2.1==0&&vl (u246 a1.2.2.2.2.1 false)&&(a1.2.2.2.2.2.length:Int)==0))] (W11 a1 a0)) H fun H=>vTT<|fDD<|fR<|hr H
   refine vK<|fK<|fQ<|qA (Z [p 4 (B false)] (W11 a1 a0))<|vTT<|hr H
  refine qA (Z (G7 [p 5 (I ((a0.2.2.1.length:Int)-1)),p 6 (C v0.2.2.2),p 32 (J a1.1),p 83 (B (a1.1==4))]) (W11 a1 a0))<|cD H (fun H=>?_) (fun H=>?_)
  ·exact vK<|n1 H
  refine zA (Z (G7 [p 5 (I ((a0.2.2.1.length:Int)-1)),p 6 (C v0.2.2.2),p 83 (B (a1.1==5))]) (W11 a1 a0))<|n1 H
 refine qA (Z (G7 [p 5 (I ((a0.2.2.1.length:Int)-1)),p 6 (C v0.2.2.2),p 32 (J a1.1),p 58 (B (a1.1==2))]) (W11 a1 a0))<|cD H (fun H=>?_) (fun H=>?_)
 ·exact vK<|n0 H
 refine zA (Z (G7 [p 5 (I ((a0.2.2.1.length:Int)-1)),p 6 (C v0.2.2.2),p 32 (J a1.1),p 58 (B (a1.1==3))]) (W11 a1 a0))<|n0 H
def u218J0:Int->Option (Int×Bool)
 | v8 =>
 some (v8,true)
def u218J2(v4:Int)(g1:Int×Int->Option (Int×Bool)):Int->Option (Int×Bool)
 | v7 =>
 gd (in64 (v4+1)/\True) <|
 g1 (v7,v4+1)
def u218J3(v4:Int)(v3:Int)(v5:Y217)(a0:Y163)(g1:Int×Int->Option (Int×Bool)):Unit->Option (Int×Bool)
 | _ =>
 gd ((u151 v5.1).isSome=true/\((!vl (u151 v5.1))=false/\True->(u97 v5.2.2.1 0 500).isSome=true)/\True) <|
 if(!vl (u151 v5.1)||!vl (u97 v5.2.2.1 0 500))=true then
  some (((0:Int),false))
 else
  gd (in64 ((a0.2.2.1.length:Int)-1)/\((v4==(a0.2.2.1.length:Int)-1&&(v5.2.1 != 2||v5.2.2.1 != 0||v5.2.2.2))=false/\True->in64 ((a0.2.2.1.length:Int)-1))/\True) <|
  if(v4==(a0.2.2.1.length:Int)-1&&(v5.2.1 != 2||v5.2.2.1 != 0||v5.2.2.2)||decide (v4 < (a0.2.2.1.length:Int)-1)&&v5.2.1 != 1)=true then
   some (((0:Int),false))
  else
   if v5.2.2.2=true then
    gd (in64 (v3+1)/\True) <|
    u218J2 v4 g1 (v3+1)
   else
    u218J2 v4 g1 v3
def u218L4(a0:Y163)(v5:Y217)(v4:Int)(v3:Int)(g1:Int×Int->Option (Int×Bool))(g4:Int->Option (Int×Bool)):Int->Option (Int×Bool)
 | v6 =>
 if(decide (v6<v4))=true then
  gd (ix v6 a0.2.2.1.length/\True) <|
  if(decide ((a0.2.2.1.getD v6.toNat (dflt y217)).1=v5.1))=true then
   some (((0:Int),false))
  else
   gd (in64 (v6+1)/\True) <|
   g4 (v6+1)
 else
  u218J3 v4 v3 v5 a0 g1 ()
def u218L1(a0:Y163)(g1:Int×Int->Option (Int×Bool)):Int×Int->Option (Int×Bool)
 | (v3,v4) =>
 if(decide (v4 < (a0.2.2.1.length:Int)))=true then
  gd (ix v4 a0.2.2.1.length/\True)<|lt (a0.2.2.1.getD v4.toNat (dflt y217)) fun v5 =>
  lp (u218L4 a0 v5 v4 v3 g1) 0
 else
  u218J0 v3
def u218(a0:Y163):Option (Int×Bool) :=
 if(decide ((a0.2.2.1.length:Int)<2)||decide (5 < (a0.2.2.1.length:Int)))=true then
  some (((0:Int),false))
 else
  lp (u218L1 a0) (0,0)
def k218:Ct:=lct 218 [.agg y163] (fun x=>u218 x.1) (fun r:Int×Bool=>AV.tup [I r.1,B r.2]) (fun _=>())
theorem o218:Ok prog k218:=by
 refine okL [.tmp 2,.tmp 3] func218 ntmps218 results218 ?_;intro y ⟨a0,_⟩ r H Q hn hr;have:HT _ _:=⟨tc o97 (tc o151 tn)⟩;refine qA (Z [p 1 (R 1)] [(1,K 163 y163 a0)])<|qA (Z [p 1 (R 1),p 4 (I (a0.2.2.1.length:Int))] [(1,K 163 y163 a0)])<|vQ<|qA (Z [p 1 (R 1),p 4 (I (a0.2.2.1.length:Int)),p 17 (B (decide ((a0.2.2.1.length:Int)<2)||decide (5 < (a0.2.2.1.length:Int))))] [(1,K 163 y163 a0)])<|cD H (fun H=>?_) (fun H=>?_)
 ·refine qA (Z [p 2 (I 0),p 3 (B false)] [(1,K 163 y163 a0)])<|vTT<|fR<|hr H
 refine vK<|fQ<|qA (Z [p 1 (R 1),p 4 (I (a0.2.2.1.length:Int)),p 5 (I 0)] [(1,K 163 y163 a0)])<|jN r (fun(v8:Int)=>Z [p 5 (I v8)] []) (u218J0) (fun v8 H=>?_) (fun _ n0 e0 t0=>?_)
 ·refine qA (Z [p 2 (I v8),p 3 (B true)] [])<|vTT<|hr H
 refine qA (Z [p 1 (R 1),p 4 (I (a0.2.2.1.length:Int)),p 5 (I 0),p 6 (I 0)] [(1,K 163 y163 a0)])<|vB<|lX (fun((v3,v4):Int×Int)=>Z (G33 (a0.2.2.1.length:Int) v3 v4 []) [(1,K 163 y163 a0)]) (0,0) H fun _ g1 b1 e1 t1 ⟨v3,v4⟩ H=>vQ<|qA (Z (G33 (a0.2.2.1.length:Int) v3 v4 [p 20 (B (decide (v4 < (a0.2.2.1.length:Int))))]) [(1,K 163 y163 a0)])<|cD H (fun H=>?_) (fun H=>?_)
 ·refine vK<|fQ<|jN r (fun(v7:Int)=>Z (G33 (a0.2.2.1.length:Int) v7 v4 []) [(1,K 163 y163 a0)]) (u218J2 v4 g1) (fun v7 H=>?_) (fun _ n2 e2 t2=>?_)
  ·refine zB (Z (G33 (a0.2.2.1.length:Int) v7 (v4+1) []) [(1,K 163 y163 a0)]) H fun H=>b1 H
  refine vB<|qD (fun v5=>Z (G33 (a0.2.2.1.length:Int) v3 v4 [p 7 (R 7)]) (W34 v5 a0)) H fun v5 H=>jN r (fun(_:Unit)=>Z (G33 (a0.2.2.1.length:Int) v3 v4 [p 7 (R 7)]) (W34 v5 a0)) (u218J3 v4 v3 v5 a0 g1) (fun _ H=>?_) (fun _ n3 e3 t3=>?_)
  ·refine vQ<|qB (Z (G33 (a0.2.2.1.length:Int) v3 v4 [p 7 (R 7),p 51 (B (!vl (u151 v5.1)||!vl (u97 v5.2.2.1 0 500)))]) (W34 v5 a0)) H fun H=>cD H (fun H=>?_) (fun H=>?_)
   ·refine qA (Z [p 2 (I 0),p 3 (B false)] (W34 v5 a0))<|vTT<|fR<|fDD<|t2<|t1<|fDD<|t0<|hr H
   refine vK<|fQ<|vQ<|qB (Z (G33 (a0.2.2.1.length:Int) v3 v4 [p 7 (R 7),p 80 (B (v4==(a0.2.2.1.length:Int)-1&&(v5.2.1 != 2||v5.2.2.1 != 0||v5.2.2.2)||decide (v4 < (a0.2.2.1.length:Int)-1)&&v5.2.1 != 1))]) (W34 v5 a0)) H fun H=>cD H (fun H=>?_) (fun H=>?_)
   ·refine qA (Z [p 2 (I 0),p 3 (B false)] (W34 v5 a0))<|vTT<|fR<|fDD<|t2<|t1<|fDD<|t0<|hr H
   refine vK<|fQ<|qA (Z (G33 (a0.2.2.1.length:Int) v3 v4 [p 82 (C v5.2.2.2)]) (W34 v5 a0))<|cD H (fun H=>?_) (fun H=>?_)
   ·refine zB (Z (G33 (a0.2.2.1.length:Int) (v3+1) v4 []) (W34 v5 a0)) H fun H=>fK<|n2 H
   exact vK<|fK<|n2 H
  refine qA (Z (G33 (a0.2.2.1.length:Int) v3 v4 [p 7 (R 7),p 8 (I 0)]) (W34 v5 a0))<|vB<|lX (fun(v6:Int)=>Z (G33 (a0.2.2.1.length:Int) v3 v4 [p 7 (R 7),p 8 (I v6)]) (W34 v5 a0)) 0 H fun _ g4 b4 e4 t4 v6 H=>vQ<|qA (Z (G33 (a0.2.2.1.length:Int) v3 v4 [p 7 (R 7),p 8 (I v6),p 30 (B (decide (v6<v4)))]) (W34 v5 a0))<|cD H (fun H=>?_) (fun H=>?_)
  ·refine vK<|fQ<|vQ<|vB<|qB (Z (G33 (a0.2.2.1.length:Int) v3 v4 [p 7 (R 7),p 8 (I v6),p 41 (B (decide ((a0.2.2.1.getD v6.toNat (dflt y217)).1=v5.1)))]) (W34 v5 a0)) H fun H=>cD H (fun H=>?_) (fun H=>?_)
   ·refine qA (Z [p 2 (I 0),p 3 (B false)] (W34 v5 a0))<|vTT<|fDD<|fR<|t4<|fDD<|t3<|fDD<|t2<|t1<|fDD<|t0<|hr H
   refine vK<|fK<|fQ<|zB (Z (G33 (a0.2.2.1.length:Int) v3 v4 [p 7 (R 7),p 8 (I (v6+1))]) (W34 v5 a0)) H fun H=>b4 H
  exact vE<|fE<|e4<|fX rfl<|n3 H
 exact vE<|fE<|e1<|fX rfl<|n0 H
def u186J4:Unit->Option (Bool)
 | _ =>
 some false
def u186J5(v0:Int×Bool)(a0:Y163):Unit->Option (Bool)
 | _ =>
 gd (((v0.1==(0:Int))=true/\True->in64 ((a0.2.2.1.length:Int)-(1:Int)))/\((v0.1==(0:Int))=true/\True->(0:Int)<=(a0.2.2.1.length:Int)-(1:Int)/\(a0.2.2.1.length:Int)-(1:Int)<=(18446744073709551615:Int))/\((v0.1==(0:Int))=true/\True->((0:Int)<=(a0.2.2.1.length:Int)-(1:Int)/\(a0.2.2.1.length:Int)-(1:Int)<=(62:Int))/\in64 ((1:Int)*(2:Int) ^ ((a0.2.2.1.length:Int)-(1:Int)).toNat))/\True) <|
 some (v0.1==(0:Int)&&(a0.2.2.2.2.1.length:Int)==(1:Int)*(2:den i64) ^ ((a0.2.2.1.length:Int)-(1:Int)).toNat)
def u186L6(a0:Y163)(v0:Int×Bool)(g6:Int->Option (Bool)):Int->Option (Bool)
 | v7 =>
 if(decide (v7 < (a0.2.2.2.2.1.length:Int)))=true then
  gd (ix v7 a0.2.2.2.2.1.length/\(u97 (a0.2.2.2.2.1.getD v7.toNat 0) 0 1).isSome=true/\True) <|
  if(!vl (u97 (a0.2.2.2.2.1.getD v7.toNat 0) 0 1))=true then
   some false
  else
   gd (in64 (v7+1)/\True) <|
   g6 (v7+1)
 else
  u186J5 v0 a0 ()
def u186J0(a0:Y163)(v0:Int×Bool):Unit->Option (Bool)
 | _ =>
 gd ((u220 a0).isSome=true/\True)<|lt (vl (u220 a0)) fun v6 =>
 if(a0.2.1==1)=true then
  lp (u186L6 a0 v0) 0
 else
  if(a0.2.1==2)=true then
   gd (((v0.1==(1:Int))=true/\True->ix (1:Int) v6.length)/\((v0.1==(1:Int))=true/\True->Int.toNat (1:Int)<v6.length)/\((v0.1==(1:Int)&&v6.getD (Int.toNat (1:Int)) (0:Int)==(0:Int))=true/\True->ix (2:Int) v6.length)/\((v0.1==(1:Int)&&v6.getD (Int.toNat (1:Int)) (0:Int)==(0:Int))=true/\True->Int.toNat (2:Int)<v6.length)/\((v0.1==(1:Int)&&v6.getD (Int.toNat (1:Int)) (0:Int)==(0:Int))=true/\True->ix (3:Int) v6.length)/\((v0.1==(1:Int)&&v6.getD (Int.toNat (1:Int)) (0:Int)==(0:Int))=true/\True->Int.toNat (3:Int)<v6.length)/\True) <|
   some (v0.1==(1:Int)&&v6.getD (Int.toNat (1:Int)) (0:Int)==(0:Int)&&!decide ((0:Int)<v6.getD (Int.toNat (2:Int)) (0:Int))==decide ((0:Int)<v6.getD (Int.toNat (3:Int)) (0:Int))&&(a0.2.2.2.2.1.length:Int)==(0:Int))
  else
   if(a0.2.1==3)=true then
    gd (((v0.1==(1:Int))=true/\True->ix (1:Int) v6.length)/\((v0.1==(1:Int))=true/\True->Int.toNat (1:Int)<v6.length)/\((v0.1==(1:Int)&&decide ((0:Int)<v6.getD (Int.toNat (1:Int)) (0:Int)))=true/\True->ix (2:Int) v6.length)/\((v0.1==(1:Int)&&decide ((0:Int)<v6.getD (Int.toNat (1:Int)) (0:Int)))=true/\True->Int.toNat (2:Int)<v6.length)/\((v0.1==(1:Int)&&decide ((0:Int)<v6.getD (Int.toNat (1:Int)) (0:Int))&&decide ((0:Int)<v6.getD (Int.toNat (2:Int)) (0:Int)))=true/\True->ix (3:Int) v6.length)/\((v0.1==(1:Int)&&decide ((0:Int)<v6.getD (Int.toNat (1:Int)) (0:Int))&&decide ((0:Int)<v6.getD (Int.toNat (2:Int)) (0:Int)))=true/\True->Int.toNat (3:Int)<v6.length)/\True) <|
    some (v0.1==(1:Int)&&decide ((0:Int)<v6.getD (Int.toNat (1:Int)) (0:Int))&&decide ((0:Int)<v6.getD (Int.toNat (2:Int)) (0:Int))&&v6.getD (Int.toNat (3:Int)) (0:Int)==(0:Int)&&(a0.2.2.2.2.1.length:Int)==(0:Int))
   else
    u186J4 ()
def u186J2(v3:Int)(g1:Int->Option (Bool)):Unit->Option (Bool)
 | _ =>
 gd (in64 (v3+1)/\True) <|
 g1 (v3+1)
def u186L3(a0:Y163)(v4:Y143)(v3:Int)(g1:Int->Option (Bool))(g3:Int->Option (Bool)):Int->Option (Bool)
 | v5 =>
 if(decide (v5<v3))=true then
  gd (ix v5 a0.2.2.2.1.length/\(((a0.2.2.2.1.getD v5.toNat (dflt y143)).1==v4.1)=true/\True->ix v5 a0.2.2.2.1.length)/\(((a0.2.2.2.1.getD v5.toNat (dflt y143)).1==v4.1&&(a0.2.2.2.1.getD v5.toNat (dflt y143)).2.1==v4.2.1)=true/\True->ix v5 a0.2.2.2.1.length)/\True) <|
  if((a0.2.2.2.1.getD v5.toNat (dflt y143)).1==v4.1&&(a0.2.2.2.1.getD v5.toNat (dflt y143)).2.1==v4.2.1&&(a0.2.2.2.1.getD v5.toNat (dflt y143)).2.2.1==v4.2.2.1)=true then
   some false
  else
   gd (in64 (v5+1)/\True) <|
   g3 (v5+1)
 else
  u186J2 v3 g1 ()
def u186L1(a0:Y163)(v0:Int×Bool)(g1:Int->Option (Bool)):Int->Option (Bool)
 | v3 =>
 if(decide (v3 < (a0.2.2.2.1.length:Int)))=true then
  gd (ix v3 a0.2.2.2.1.length/\True)<|lt (a0.2.2.2.1.getD v3.toNat (dflt y143)) fun v4 =>
  gd ((u219 a0 v4).isSome=true/\True) <|
  if(!vl (u219 a0 v4))=true then
   some false
  else
   lp (u186L3 a0 v4 v3 g1) 0
 else
  u186J0 a0 v0 ()
def u186(a0:Y163):Option (Bool) :=
 gd ((u218 a0).isSome=true/\True)<|lt (vl (u218 a0)) fun v0 =>
 gd (((!v0.2)=false/\True->(u151 a0.1).isSome=true)/\((!v0.2||!vl (u151 a0.1)||decide (8 < (a0.2.2.2.1.length:Int)))=false/\True->(u97 a0.2.2.2.2.2.1 0 100000).isSome=true)/\((!v0.2||!vl (u151 a0.1)||decide (8 < (a0.2.2.2.1.length:Int))||!vl (u97 a0.2.2.2.2.2.1 0 100000))=false/\True->(u97 a0.2.2.2.2.2.2 0 100000).isSome=true)/\True) <|
 if(!v0.2||!vl (u151 a0.1)||decide (8 < (a0.2.2.2.1.length:Int))||!vl (u97 a0.2.2.2.2.2.1 0 100000)||!vl (u97 a0.2.2.2.2.2.2 0 100000))=true then
  some false
 else
  lp (u186L1 a0 v0) 0
def k186:Ct:=lct 186 [.agg y163] (fun x=>u186 x.1) (fun r:Bool=>B r) (fun _=>())
theorem o186:Ok prog k186:=by
 refine okL [.tmp 2] func186 ntmps186 results186 ?_;intro y ⟨a0,_⟩ r H Q hn hr;have:HT _ _:=⟨tc o97 (tc o220 (tc o219 (tc o151 (tc o218 tn))))⟩;refine qA (Z [p 1 (R 1)] [(1,K 163 y163 a0)])<|qD (fun v0=>Z (G12 v0.1 [p 4 (B v0.2)]) [(1,K 163 y163 a0)]) H fun v0 H=>vQ<|qB (Z (G12 v0.1 [p 40 (B (!v0.2||!vl (u151 a0.1)||decide (8 < (a0.2.2.2.1.length:Int))||!vl (u97 a0.2.2.2.2.2.1 0 100000)||!vl (u97 a0.2.2.2.2.2.2 0 100000)))]) [(1,K 163 y163 a0)]) H fun H=>cD H (fun H=>?_) (fun H=>?_)
 ·refine qA (Z [p 2 (B false)] [(1,K 163 y163 a0)])<|vTT<|fR<|hr H
 refine vK<|fQ<|jN r (fun(_:Unit)=>Z (G12 v0.1 []) [(1,K 163 y163 a0)]) (u186J0 a0 v0) (fun _ H=>?_) (fun _ n0 e0 t0=>?_)
 ·refine qD (fun v6=>Z (G12 v0.1 [p 8 (O 94)]) (W68 v6 a0)) H fun v6 H=>jN r (fun(_:Unit)=>Z [] []) (u186J4) (fun _ H=>?_) (fun _ n4 e4 t4=>?_)
  ·refine qA (Z [p 2 (B false)] [])<|vTT<|hr H
  refine qA (Z (G12 v0.1 [p 8 (O 94),p 96 (J a0.2.1)]) (W68 v6 a0))<|vB<|qA (Z (G12 v0.1 [p 8 (O 94),p 96 (J a0.2.1),p 97 (B (a0.2.1==1))]) (W68 v6 a0))<|cD H (fun H=>?_) (fun H=>?_)
  ·refine jN r (fun(_:Unit)=>Z (G12 v0.1 []) [(1,K 163 y163 a0)]) (u186J5 v0 a0) (fun _ H=>?_) (fun _ n5 e5 t5=>?_)
   ·refine qB (Z [p 2 (B (v0.1==(0:Int)&&(a0.2.2.2.2.1.length:Int)==(1:Int)*(2:den i64) ^ ((a0.2.2.1.length:Int)-(1:Int)).toNat))] [(1,K 163 y163 a0)]) H fun H=>vTT<|fDD<|t4<|hr H
   refine qA (Z (G12 v0.1 [p 9 (I 0)]) (W68 v6 a0))<|vB<|lX (fun(v7:Int)=>Z (G12 v0.1 [p 9 (I v7)]) [(1,K 163 y163 a0)]) 0 H fun _ g6 b6 e6 t6 v7 H=>vQ<|qA (Z (G12 v0.1 [p 9 (I v7),p 103 (B (decide (v7 < (a0.2.2.2.2.1.length:Int))))]) [(1,K 163 y163 a0)])<|cD H (fun H=>?_) (fun H=>?_)
   ·refine vK<|fQ<|vQ<|vB<|qB (Z (G12 v0.1 [p 9 (I v7),p 112 (B !vl (u97 (a0.2.2.2.2.1.getD v7.toNat 0) 0 1))]) [(1,K 163 y163 a0)]) H fun H=>cD H (fun H=>?_) (fun H=>?_)
    ·refine qA (Z [p 2 (B false)] [(1,K 163 y163 a0)])<|vTT<|fDD<|fR<|t6<|fDD<|t5<|fDD<|t4<|hr H
    refine vK<|fK<|fQ<|zB (Z (G12 v0.1 [p 9 (I (v7+1))]) [(1,K 163 y163 a0)]) H fun H=>b6 H
   exact vE<|fE<|e6<|fX rfl<|n5 H
  refine qA (Z (G12 v0.1 [p 8 (O 94),p 96 (J a0.2.1),p 127 (B (a0.2.1==2))]) (W68 v6 a0))<|cD H (fun H=>?_) (fun H=>?_)
  ·refine qB (Z [p 2 (B (v0.1==(1:Int)&&v6.getD (Int.toNat (1:Int)) (0:Int)==(0:Int)&&!decide ((0:Int)<v6.getD (Int.toNat (2:Int)) (0:Int))==decide ((0:Int)<v6.getD (Int.toNat (3:Int)) (0:Int))&&(a0.2.2.2.2.1.length:Int)==(0:Int)))] (W68 v6 a0)) H fun H=>vTT<|fDD<|t4<|hr H
  refine qA (Z (G12 v0.1 [p 8 (O 94),p 154 (B (a0.2.1==3))]) (W68 v6 a0))<|cD H (fun H=>?_) (fun H=>?_)
  ·refine qB (Z [p 2 (B (v0.1==(1:Int)&&decide ((0:Int)<v6.getD (Int.toNat (1:Int)) (0:Int))&&decide ((0:Int)<v6.getD (Int.toNat (2:Int)) (0:Int))&&v6.getD (Int.toNat (3:Int)) (0:Int)==(0:Int)&&(a0.2.2.2.2.1.length:Int)==(0:Int)))] (W68 v6 a0)) H fun H=>vTT<|fDD<|t4<|hr H
  exact vK<|fK<|n4 H
 refine qA (Z (G12 v0.1 [p 5 (I 0)]) [(1,K 163 y163 a0)])<|vB<|lX (fun(v3:Int)=>Z (G12 v0.1 [p 5 (I v3)]) [(1,K 163 y163 a0)]) 0 H fun _ g1 b1 e1 t1 v3 H=>vQ<|qA (Z (G12 v0.1 [p 5 (I v3),p 45 (B (decide (v3 < (a0.2.2.2.1.length:Int))))]) [(1,K 163 y163 a0)])<|cD H (fun H=>?_) (fun H=>?_)
 ·refine vK<|fQ<|jN r (fun(_:Unit)=>Z (G12 v0.1 [p 5 (I v3)]) [(1,K 163 y163 a0)]) (u186J2 v3 g1) (fun _ H=>?_) (fun _ n2 e2 t2=>?_)
  ·refine zB (Z (G12 v0.1 [p 5 (I (v3+1))]) [(1,K 163 y163 a0)]) H fun H=>b1 H
  refine vB<|qD (fun v4=>Z (G12 v0.1 [p 5 (I v3),p 6 (R 6)]) (W58 v4 a0)) H fun v4 H=>vQ<|qB (Z (G12 v0.1 [p 5 (I v3),p 6 (R 6),p 56 (B !vl (u219 a0 v4))]) (W58 v4 a0)) H fun H=>cD H (fun H=>?_) (fun H=>?_)
  ·refine qA (Z [p 2 (B false)] (W58 v4 a0))<|vTT<|fR<|fDD<|t2<|t1<|fDD<|t0<|hr H
  refine vK<|fQ<|qA (Z (G12 v0.1 [p 5 (I v3),p 6 (R 6),p 7 (I 0)]) (W58 v4 a0))<|vB<|lX (fun(v5:Int)=>Z (G12 v0.1 [p 5 (I v3),p 6 (R 6),p 7 (I v5)]) (W58 v4 a0)) 0 H fun _ g3 b3 e3 t3 v5 H=>vQ<|qA (Z (G12 v0.1 [p 5 (I v3),p 6 (R 6),p 7 (I v5),p 59 (B (decide (v5<v3)))]) (W58 v4 a0))<|cD H (fun H=>?_) (fun H=>?_)
  ·refine vK<|fQ<|vQ<|vB<|qB (Z (G12 v0.1 [p 5 (I v3),p 6 (R 6),p 7 (I v5),p 92 (B ((a0.2.2.2.1.getD v5.toNat (dflt y143)).1==v4.1&&(a0.2.2.2.1.getD v5.toNat (dflt y143)).2.1==v4.2.1&&(a0.2.2.2.1.getD v5.toNat (dflt y143)).2.2.1==v4.2.2.1))]) (W58 v4 a0)) H fun H=>cD H (fun H=>?_) (fun H=>?_)
   ·refine qA (Z [p 2 (B false)] (W58 v4 a0))<|vTT<|fDD<|fR<|t3<|fDD<|fDD<|t2<|t1<|fDD<|t0<|hr H
   refine vK<|fK<|fQ<|zB (Z (G12 v0.1 [p 5 (I v3),p 6 (R 6),p 7 (I (v5+1))]) (W58 v4 a0)) H fun H=>b3 H
  exact vE<|fE<|e3<|fX rfl<|fK<|n2 H
 exact vE<|fE<|e1<|fX rfl<|n0 H
def u132J0(a0:List Y163):Unit->Option (Bool)
 | _ =>
 some (decide ((a0.length:Int)<=8))
def u132J2(v1:Int)(g1:Int->Option (Bool)):Unit->Option (Bool)
 | _ =>
 gd (in64 (v1+1)/\True) <|
 g1 (v1+1)
def u132L3(a0:List Y163)(v1:Int)(g1:Int->Option (Bool))(g3:Int->Option (Bool)):Int->Option (Bool)
 | v2 =>
 if(decide (v2<v1))=true then
  gd (ix v2 a0.length/\ix v1 a0.length/\True) <|
  if(decide ((a0.getD v2.toNat (dflt y163)).1=(a0.getD v1.toNat (dflt y163)).1))=true then
   some false
  else
   gd (in64 (v2+1)/\True) <|
   g3 (v2+1)
 else
  u132J2 v1 g1 ()
def u132L1(a0:List Y163)(g1:Int->Option (Bool)):Int->Option (Bool)
 | v1 =>
 if(decide (v1 < (a0.length:Int)))=true then
  gd (ix v1 a0.length/\(u186 (a0.getD v1.toNat (dflt y163))).isSome=true/\True) <|
  if(!vl (u186 (a0.getD v1.toNat (dflt y163))))=true then
   some false
  else
   lp (u132L3 a0 v1 g1) 0
 else
  u132J0 a0 ()
def u132(a0:List Y163):Option (Bool) :=
 lp (u132L1 a0) 0
def k132:Ct:=lct 132 [.agg y163.sl] (fun x=>u132 x.1) (fun r:Bool=>B r) (fun _=>())
theorem o132:Ok prog k132:=by
 refine okL [.tmp 2] func132 ntmps132 results132 ?_;intro y ⟨a0,_⟩ r H Q hn hr;have:HT _ _:=⟨tc o186 tn⟩;refine qA (Z [p 1 (R 1)] [(1,bx 26 [L y163 a0])])<|jN r (fun(_:Unit)=>Z [p 1 (R 1)] [(1,bx 26 [L y163 a0])]) (u132J0 a0) (fun _ H=>?_) (fun _ n0 e0 t0=>?_)
 ·refine qA (Z [p 2 (B (decide ((a0.length:Int)<=8)))] [(1,bx 26 [L y163 a0])])<|vTT<|hr H
 refine qA (Z [p 1 (R 1),p 3 (I 0)] [(1,bx 26 [L y163 a0])])<|vB<|lX (fun(v1:Int)=>Z (G12 v1 []) [(1,bx 26 [L y163 a0])]) 0 H fun _ g1 b1 e1 t1 v1 H=>vQ<|qA (Z (G12 v1 [p 9 (B (decide (v1 < (a0.length:Int))))]) [(1,bx 26 [L y163 a0])])<|cD H (fun H=>?_) (fun H=>?_)
 ·refine vK<|fQ<|jN r (fun(_:Unit)=>Z (G12 v1 []) [(1,bx 26 [L y163 a0])]) (u132J2 v1 g1) (fun _ H=>?_) (fun _ n2 e2 t2=>?_)
  ·refine zB (Z (G12 (v1+1) []) [(1,bx 26 [L y163 a0])]) H fun H=>b1 H
  refine vB<|vQ<|qB (Z (G12 v1 [p 18 (B !vl (u186 (a0.getD v1.toNat (dflt y163))))]) [(1,bx 26 [L y163 a0])]) H fun H=>cD H (fun H=>?_) (fun H=>?_)
  ·refine qA (Z [p 2 (B false)] [(1,bx 26 [L y163 a0])])<|vTT<|fR<|fDD<|t2<|t1<|fDD<|t0<|hr H
  refine vK<|fQ<|qA (Z (G12 v1 [p 4 (I 0)]) [(1,bx 26 [L y163 a0])])<|vB<|lX (fun(v2:Int)=>Z (G12 v1 [p 4 (I v2)]) [(1,bx 26 [L y163 a0])]) 0 H fun _ g3 b3 e3 t3 v2 H=>vQ<|qA (Z (G12 v1 [p 4 (I v2),p 21 (B (decide (v2<v1)))]) [(1,bx 26 [L y163 a0])])<|cD H (fun H=>?_) (fun H=>?_)
  ·refine vK<|fQ<|vQ<|vB<|qB (Z (G12 v1 [p 4 (I v2),p 36 (B (decide ((a0.getD v2.toNat (dflt y163)).1=(a0.getD v1.toNat (dflt y163)).1)))]) [(1,bx 26 [L y163 a0])]) H fun H=>cD H (fun H=>?_) (fun H=>?_)
   ·refine qA (Z [p 2 (B false)] [(1,bx 26 [L y163 a0])])<|vTT<|fDD<|fR<|t3<|fDD<|fDD<|t2<|t1<|fDD<|t0<|hr H
   refine vK<|fK<|fQ<|zB (Z (G12 v1 [p 4 (I (v2+1))]) [(1,bx 26 [L y163 a0])]) H fun H=>b3 H
  exact vE<|fE<|e3<|fX rfl<|fK<|n2 H
 exact vE<|fE<|e1<|fX rfl<|n0 H
def u69J9:Unit->Option (Bool)
 | _ =>
 some true
def u69L10(v20:List Int)(g10:Int->Option (Bool)):Int->Option (Bool)
 | v21 =>
 if(decide (v21 < (v20.length:Int)))=true then
  gd (ix v21 v20.length/\v21.toNat<v20.length/\True) <|
  if(v20.getD v21.toNat 0 != 1)=true then
   some false
  else
   gd (in64 (v21+1)/\True) <|
   g10 (v21+1)
 else
  u69J9 ()
def u69J6:List Int->Option (Bool)
 | v20 =>
 lp (u69L10 v20) 0
def u69J8(v16:Int)(g7:Int×List Int->Option (Bool)):List Int->Option (Bool)
 | v19 =>
 gd (in64 (v16+1)/\True) <|
 g7 (v16+1,v19)
def u69L7(a1:Y31)(g7:Int×List Int->Option (Bool)):Int×List Int->Option (Bool)
 | (v16,v17) =>
 if(decide (v16 < (a1.2.2.length:Int)))=true then
  gd (ix v16 a1.2.2.length/\True) <|
  if((a1.2.2.getD v16.toNat (dflt y175)).2.1==1)=true then
   gd (ix v16 a1.2.2.length/\ix (a1.2.2.getD v16.toNat (dflt y175)).2.2 v17.length/\(a1.2.2.getD v16.toNat (dflt y175)).2.2.toNat<v17.length/\in64 (v17.getD (a1.2.2.getD v16.toNat (dflt y175)).2.2.toNat 0+1)/\ix (a1.2.2.getD v16.toNat (dflt y175)).2.2 v17.length/\(a1.2.2.getD v16.toNat (dflt y175)).2.2.toNat<v17.length/\True)<|lt (v17.set (a1.2.2.getD v16.toNat (dflt y175)).2.2.toNat (v17.getD (a1.2.2.getD v16.toNat (dflt y175)).2.2.toNat 0+1)) fun v18 =>
   u69J8 v16 g7 v18
  else
   u69J8 v16 g7 v17
 else
  u69J6 v17
def u69J4(a1:Y31):List Int->Option (Bool)
 | v13 =>
 lp (u69L7 a1) (0,v13)
def u69L5(a1:Y31)(g5:Int×List Int->Option (Bool)):Int×List Int->Option (Bool)
 | (v9,v10) =>
 if(decide (v9 < (a1.1.length:Int)))=true then
  gd (ix v9 a1.1.length/\True)<|lt (a1.1.getD v9.toNat (dflt y165)) fun v11 =>
  gd (in64 ((v11.2.2.length:Int)-1)/\ix ((v11.2.2.length:Int)-1) v11.2.2.length/\ix (v11.2.2.getD ((v11.2.2.length:Int)-1).toNat 0) v10.length/\Int.toNat (v11.2.2.getD ((v11.2.2.length:Int)-1).toNat 0)<v10.length/\in64 (v10.getD (Int.toNat (v11.2.2.getD ((v11.2.2.length:Int)-1).toNat 0)) 0+1)/\ix (v11.2.2.getD ((v11.2.2.length:Int)-1).toNat 0) v10.length/\Int.toNat (v11.2.2.getD ((v11.2.2.length:Int)-1).toNat 0)<v10.length/\True)<|lt (v10.set (Int.toNat (v11.2.2.getD ((v11.2.2.length:Int)-1).toNat 0)) (v10.getD (Int.toNat (v11.2.2.getD ((v11.2.2.length:Int)-1).toNat 0)) 0+1)) fun v12 =>
  gd (in64 (v9+1)/\True) <|
  g5 (v9+1,v12)
 else
  u69J4 a1 v10
def u69J2(a1:Y31)(v2:List ByteArray):List ByteArray->Option (Bool)
 | v6 =>
 gd ((u134 v2).isSome=true/\((!vl (u134 v2))=false/\True->(u134 v6).isSome=true)/\((!vl (u134 v2)||!vl (u134 v6))=false/\True->(u134 a1.2.1).isSome=true)/\True) <|
 if(!vl (u134 v2)||!vl (u134 v6)||!vl (u134 a1.2.1))=true then
  some false
 else
  gd ((0<=(a1.2.1.length:Int)/\(a1.2.1.length:Int)=(a1.2.1.length:Int)/\(a1.2.1.length:Int).toNat*8<=281474976710656/\(a1.2.1.length:Int)<=9223372036854775807)/\True) <|
  lp (u69L5 a1) ((0,List.replicate (a1.2.1.length:Int).toNat 0))
def u69L3(a1:Y31)(v2:List ByteArray)(g3:Int×List ByteArray->Option (Bool)):Int×List ByteArray->Option (Bool)
 | (v4,v5) =>
 if(decide (v4 < (a1.2.2.length:Int)))=true then
  gd (ix v4 a1.2.2.length/\(v5.length+[(a1.2.2.getD v4.toNat (dflt y175)).1].length<=9223372036854775807/\(v5.length+[(a1.2.2.getD v4.toNat (dflt y175)).1].length)*16<=140737488355328)/\True) <|
  gd (in64 (v4+1)/\True) <|
  g3 ((v4+1,v5++[(a1.2.2.getD v4.toNat (dflt y175)).1]))
 else
  u69J2 a1 v2 v5
def u69J0(a1:Y31):List ByteArray->Option (Bool)
 | v2 =>
 lp (u69L3 a1 v2) (0,[])
def u69L1(a1:Y31)(g1:Int×List ByteArray->Option (Bool)):Int×List ByteArray->Option (Bool)
 | (v0,v1) =>
 if(decide (v0 < (a1.1.length:Int)))=true then
  gd (ix v0 a1.1.length/\(v1.length+[(a1.1.getD v0.toNat (dflt y165)).1].length<=9223372036854775807/\(v1.length+[(a1.1.getD v0.toNat (dflt y165)).1].length)*16<=140737488355328)/\True) <|
  gd (in64 (v0+1)/\True) <|
  g1 ((v0+1,v1++[(a1.1.getD v0.toNat (dflt y165)).1]))
 else
  u69J0 a1 v1
def u69(a0:List Y163)(a1:Y31):Option (Bool) :=
 gd ((u132 a0).isSome=true/\((!vl (u132 a0)||decide (14 < (a1.1.length:Int))||decide (30 < (a1.2.1.length:Int))||decide (8 < (a1.2.2.length:Int)))=false/\True->(u133 a0 a1).isSome=true)/\True) <|
 if(!vl (u132 a0)||decide (14 < (a1.1.length:Int))||decide (30 < (a1.2.1.length:Int))||decide (8 < (a1.2.2.length:Int))||!vl (u133 a0 a1))=true then
  some false
 else
  lp (u69L1 a1) (0,[])
def k69:Ct:=lct 69 [.agg y163.sl,.agg y31] (fun x=>u69 x.1 x.2.1) (fun r:Bool=>B r) (fun _=>())
theorem o69:Ok prog k69:=by
 refine okL [.tmp 4] func69 ntmps69 results69 ?_;intro y ⟨a0,a1,_⟩ r H Q hn hr;have:HT _ _:=⟨tc o134 (tc o133 (tc o132 tn))⟩;refine qA (Z (G7 []) (W6 a1 a0))<|vQ<|qB (Z [p 3 (R 3),p 40 (B (!vl (u132 a0)||decide (14 < (a1.1.length:Int))||decide (30 < (a1.2.1.length:Int))||decide (8 < (a1.2.2.length:Int))||!vl (u133 a0 a1)))] (W6 a1 a0)) H fun H=>cD H (fun H=>?_) (fun H=>?_)
 ·refine qA (Z [p 4 (B false)] (W6 a1 a0))<|vTT<|fR<|hr H
 refine vK<|fQ<|qA (Z (G65 []) ((41,A 9 Ty.str [] 0)::W6 a1 a0))<|jN r (fun(v2:List ByteArray)=>Z (G65 []) (W37 v2 a1)) (u69J0 a1) (fun v2 H=>?_) (fun _ n0 e0 t0=>?_)
 ·refine qA (Z (G65 [p 7 (O 58)]) ((58,A 9 Ty.str [] 0)::W37 v2 a1))<|jN r (fun(v6:List ByteArray)=>Z (G65 [p 7 (O 58)]) ((58,A 9 Ty.str v6 0)::W37 v2 a1)) (u69J2 a1 v2) (fun v6 H=>?_) (fun _ n2 e2 t2=>?_)
  ·refine vQ<|qB (Z [p 3 (R 3),p 88 (B (!vl (u134 v2)||!vl (u134 v6)||!vl (u134 a1.2.1)))] ((58,A 9 Ty.str v6 0)::W37 v2 a1)) H fun H=>cD H (fun H=>?_) (fun H=>?_)
   ·refine qA (Z [p 4 (B false)] ((58,A 9 Ty.str v6 0)::W37 v2 a1))<|vTT<|fR<|hr H
   refine vK<|fQ<|qB (Z (G54 []) ((92,A 2 i64 (List.replicate (a1.2.1.length:Int).toNat 0) 0)::(58,A 9 Ty.str v6 0)::W37 v2 a1)) H fun H=>jN r (fun(v13:List Int)=>Z (G54 []) (W42 v13 a1)) (u69J4 a1) (fun v13 H=>?_) (fun _ n4 e4 t4=>?_)
   ·refine jN r (fun(v20:List Int)=>Z [p 9 (O 92)] [(92,A 2 i64 v20 0)]) (u69J6) (fun v20 H=>?_) (fun _ n6 e6 t6=>?_)
    ·refine jN r (fun(_:Unit)=>Z [] []) (u69J9) (fun _ H=>?_) (fun _ n9 e9 t9=>?_)
     ·refine qA (Z [p 4 (B true)] [])<|vTT<|hr H
     refine qA (Z [p 9 (O 92),p 13 (I 0)] [(92,A 2 i64 v20 0)])<|vB<|lX (fun(v21:Int)=>Z [p 9 (O 92),p 13 (I v21)] [(92,A 2 i64 v20 0)]) 0 H fun _ g10 b10 e10 t10 v21 H=>vQ<|qA (Z [p 9 (O 92),p 13 (I v21),p 145 (B (decide (v21 < (v20.length:Int))))] [(92,A 2 i64 v20 0)])<|cD H (fun H=>?_) (fun H=>?_)
     ·refine vK<|fQ<|vQ<|vB<|qB (Z [p 9 (O 92),p 13 (I v21),p 152 (B (v20.getD v21.toNat 0 != 1))] [(92,A 2 i64 v20 0)]) H fun H=>cD H (fun H=>?_) (fun H=>?_)
      ·refine qA (Z [p 4 (B false)] [(92,A 2 i64 v20 0)])<|vTT<|fDD<|fR<|t10<|fDD<|t9<|hr H
      refine vK<|fK<|fQ<|zB (Z [p 9 (O 92),p 13 (I (v21+1))] [(92,A 2 i64 v20 0)]) H fun H=>b10 H
     exact vE<|fE<|e10<|fX rfl<|n9 H
    refine qA (Z (G54 [p 12 (I 0)]) (W42 v13 a1))<|vB<|lX (fun((v16,v17):Int×List Int)=>Z (G54 [p 12 (I v16)]) (W42 v17 a1)) (0,v13) H fun _ g7 b7 e7 t7 ⟨v16,v17⟩ H=>vQ<|qA (Z (G54 [p 12 (I v16),p 121 (B (decide (v16 < (a1.2.2.length:Int))))]) (W42 v17 a1))<|cD H (fun H=>?_) (fun H=>?_)
    ·refine vK<|fQ<|jN r (fun(v19:List Int)=>Z (G54 [p 12 (I v16)]) (W42 v19 a1)) (u69J8 v16 g7) (fun v19 H=>?_) (fun _ n8 e8 t8=>?_)
     ·refine zB (Z (G54 [p 12 (I (v16+1))]) (W42 v19 a1)) H fun H=>b7 H
     refine vB<|qB (Z (G54 [p 12 (I v16),p 130 (B ((a1.2.2.getD v16.toNat (dflt y175)).2.1==1))]) (W42 v17 a1)) H fun H=>cD H (fun H=>?_) (fun H=>?_)
     ·refine zD (fun v18=>Z (G54 [p 12 (I v16)]) (W42 v18 a1)) H fun v18 H=>fK<|n8 H
     exact vK<|fK<|n8 H
    exact vE<|fE<|e7<|fX rfl<|n6 H
   refine qA (Z (G54 [p 10 (I 0)]) ((92,A 2 i64 (List.replicate (a1.2.1.length:Int).toNat 0) 0)::(58,A 9 Ty.str v6 0)::W37 v2 a1))<|vB<|lX (fun((v9,v10):Int×List Int)=>Z (G54 [p 10 (I v9)]) (W42 v10 a1)) ((0,List.replicate (a1.2.1.length:Int).toNat 0)) H fun _ g5 b5 e5 t5 ⟨v9,v10⟩ H=>vQ<|qA (Z (G54 [p 10 (I v9),p 97 (B (decide (v9 < (a1.1.length:Int))))]) (W42 v10 a1))<|cD H (fun H=>?_) (fun H=>?_)
   ·refine vK<|fQ<|vQ<|vB<|qD (fun v11=>Z (G54 [p 10 (I v9),p 11 (L i64 v11.2.2)]) (W42 v10 a1)) H fun v11 H=>zD (fun v12=>Z (G54 [p 10 (I v9)]) (W42 v12 a1)) H fun v12 H=>fK<|fQ<|zB (Z (G54 [p 10 (I (v9+1))]) (W42 v12 a1)) H fun H=>b5 H
   exact vE<|fE<|e5<|fX rfl<|n4 H
  refine qA (Z (G65 [p 7 (O 58),p 8 (I 0)]) ((58,A 9 Ty.str [] 0)::W37 v2 a1))<|vB<|lX (fun((v4,v5):Int×List ByteArray)=>Z (G65 [p 7 (O 58),p 8 (I v4)]) ((58,A 9 Ty.str v5 0)::W37 v2 a1)) (0,[]) H fun _ g3 b3 e3 t3 ⟨v4,v5⟩ H=>vQ<|qA (Z (G65 [p 7 (O 58),p 8 (I v4),p 63 (B (decide (v4 < (a1.2.2.length:Int))))]) ((58,A 9 Ty.str v5 0)::W37 v2 a1))<|cD H (fun H=>?_) (fun H=>?_)
  ·refine vK<|fQ<|vQ<|vB<|zB (Z (G65 [p 7 (AV.os 58 1),p 8 (I v4)]) ((58,A 9 Ty.str (v5++[(a1.2.2.getD v4.toNat (dflt y175)).1]) 1)::(73,A 9 Ty.str [(a1.2.2.getD v4.toNat (dflt y175)).1] 0)::W37 v2 a1)) H fun H=>fK<|fQ<|zB (Z (G65 [p 7 (AV.os 58 1),p 8 (I (v4+1))]) ((58,A 9 Ty.str (v5++[(a1.2.2.getD v4.toNat (dflt y175)).1]) 1)::(73,A 9 Ty.str [(a1.2.2.getD v4.toNat (dflt y175)).1] 0)::W37 v2 a1)) H fun H=>b3 H
  exact vE<|fE<|e3<|fX rfl<|n2 H
 refine qA (Z (G65 [p 6 (I 0)]) ((41,A 9 Ty.str [] 0)::W6 a1 a0))<|vB<|lX (fun((v0,v1):Int×List ByteArray)=>Z (G65 [p 6 (I v0)]) (W37 v1 a1)) (0,[]) H fun _ g1 b1 e1 t1 ⟨v0,v1⟩ H=>vQ<|qA (Z (G65 [p 6 (I v0),p 46 (B (decide (v0 < (a1.1.length:Int))))]) (W37 v1 a1))<|cD H (fun H=>?_) (fun H=>?_)
 ·refine vK<|fQ<|vQ<|vB<|zB (Z [p 3 (R 3),p 5 (AV.os 41 1),p 6 (I v0)] [(41,A 9 Ty.str (v1++[(a1.1.getD v0.toNat (dflt y165)).1]) 1),(56,A 9 Ty.str [(a1.1.getD v0.toNat (dflt y165)).1] 0),(3,K 31 y31 a1)]) H fun H=>fK<|fQ<|zB (Z [p 3 (R 3),p 5 (AV.os 41 1),p 6 (I (v0+1))] [(41,A 9 Ty.str (v1++[(a1.1.getD v0.toNat (dflt y165)).1]) 1),(56,A 9 Ty.str [(a1.1.getD v0.toNat (dflt y165)).1] 0),(3,K 31 y31 a1)]) H fun H=>b1 H
 exact vE<|fE<|e1<|fX rfl<|n0 H
def u23J0:Unit->Option (Bool)
 | _ =>
 some true
def u23L1(a0:Y34)(g1:Int->Option (Bool)):Int->Option (Bool)
 | v1 =>
 if(decide (v1 < (a0.2.2.length:Int)))=true then
  gd (ix v1 a0.2.2.length/\(u71 a0.2.1 v1).isSome=true/\(u70 (a0.2.2.getD v1.toNat (dflt y110)) (↑(vl (u71 a0.2.1 v1)).length:Int)).isSome=true/\True)<|lt (vl (u71 a0.2.1 v1)) fun v2 =>
  if(!vl (u70 (a0.2.2.getD v1.toNat (dflt y110)) (v2.length:Int)))=true then
   some false
  else
   gd (in64 (v1+1)/\True) <|
   g1 (v1+1)
 else
  u23J0 ()
def u23(a0:Y34):Option (Bool) :=
 gd ((u69 a0.1 a0.2.1).isSome=true/\True) <|
 if(!vl (u69 a0.1 a0.2.1)||(a0.2.2.length:Int) != (a0.2.1.2.1.length:Int))=true then
  some false
 else
  lp (u23L1 a0) 0
def k23:Ct:=lct 23 [.agg y34] (fun x=>u23 x.1) (fun r:Bool=>B r) (fun _=>())
theorem o23:Ok prog k23:=by
 refine okL [.tmp 2] func23 ntmps23 results23 ?_;intro y ⟨a0,_⟩ r H Q hn hr;have:HT _ _:=⟨tc o70 (tc o71 (tc o69 tn))⟩;refine qA (Z [p 1 (R 1)] [(1,K 34 y34 a0)])<|vQ<|qB (Z [p 1 (R 1),p 19 (B (!vl (u69 a0.1 a0.2.1)||(a0.2.2.length:Int) != (a0.2.1.2.1.length:Int)))] [(1,K 34 y34 a0)]) H fun H=>cD H (fun H=>?_) (fun H=>?_)
 ·refine qA (Z [p 2 (B false)] [(1,K 34 y34 a0)])<|vTT<|fR<|hr H
 refine vK<|fQ<|jN r (fun(_:Unit)=>Z [] []) (u23J0) (fun _ H=>?_) (fun _ n0 e0 t0=>?_)
 ·refine qA (Z [p 2 (B true)] [])<|vTT<|hr H
 refine qA (Z [p 1 (R 1),p 3 (I 0)] [(1,K 34 y34 a0)])<|vB<|lX (fun(v1:Int)=>Z (G12 v1 []) [(1,K 34 y34 a0)]) 0 H fun _ g1 b1 e1 t1 v1 H=>vQ<|qA (Z (G12 v1 [p 24 (B (decide (v1 < (a0.2.2.length:Int))))]) [(1,K 34 y34 a0)])<|cD H (fun H=>?_) (fun H=>?_)
 ·refine vK<|fQ<|vQ<|vB<|qD (fun v2=>Z (G12 v1 [p 38 (B !vl (u70 (a0.2.2.getD v1.toNat (dflt y110)) (v2.length:Int)))]) [(35,A 2 i64 v2 0),(1,K 34 y34 a0)]) H fun v2 H=>cD H (fun H=>?_) (fun H=>?_)
  ·refine qA (Z [p 2 (B false)] [(35,A 2 i64 v2 0),(1,K 34 y34 a0)])<|vTT<|fDD<|fR<|t1<|fDD<|t0<|hr H
  refine vK<|fK<|fQ<|zB (Z (G12 (v1+1) []) [(35,A 2 i64 v2 0),(1,K 34 y34 a0)]) H fun H=>b1 H
 exact vE<|fE<|e1<|fX rfl<|n0 H
def u162(a0:Int)(a1:Int)(a2:Int):Option (Int) :=
 gd (0<a1/\0<a1/\True) <|
 if(a2==0&&decide (a0.tmod a1<0))=true then
  gd (in64 (a0.tdiv a1-1)/\True) <|
  some (a0.tdiv a1-1)
 else
  if(a2==1&&decide (0<a0.tmod a1))=true then
   gd (in64 (a0.tdiv a1+1)/\True) <|
   some (a0.tdiv a1+1)
  else
   some (a0.tdiv a1)
def k162:Ct:=lct 162 [.dat i64,.dat i64,.dat i64] (fun x=>u162 x.1 x.2.1 x.2.2.1) (fun r:Int=>I r) (fun _=>())
theorem o162:Ok prog k162:=by
 refine okL [.tmp 6] func162 ntmps162 results162 ?_;intro y ⟨a0,a1,a2,_⟩ r H Q hn hr;have:HT _ _:=⟨@tn prog⟩;refine qA (Z [p 0 (J a0),p 1 (J a1),p 2 (J a2)] [])<|qB (Z [p 2 (J a2),p 7 (I (a0.tdiv a1)),p 8 (I (a0.tmod a1))] []) H fun H=>vQ<|vB<|qA (Z [p 2 (J a2),p 7 (I (a0.tdiv a1)),p 8 (I (a0.tmod a1)),p 15 (B (a2==0&&decide (a0.tmod a1<0)))] [])<|cD H (fun H=>?_) (fun H=>?_)
 ·refine qB (Z [p 6 (I (a0.tdiv a1-1))] []) H fun H=>vTT<|fDD<|fR<|hr H
 refine qA (Z [p 7 (I (a0.tdiv a1)),p 24 (B (a2==1&&decide (0<a0.tmod a1)))] [])<|cD H (fun H=>?_) (fun H=>?_)
 ·refine qB (Z [p 6 (I (a0.tdiv a1+1))] []) H fun H=>vTT<|fDD<|fR<|hr H
 refine vK<|fK<|fQ<|qA (Z [p 6 (I (a0.tdiv a1))] [])<|vTT<|hr H
def u197J0:Int->Option (Int)
 | v2 =>
 some v2
def u197L1(a0:Int)(g1:Int×Int->Option (Int)):Int×Int->Option (Int)
 | (v0,v1) =>
 if(decide (v0<v1))=true then
  gd (in64 (v0+v1)/\in64 (v0+v1+(1:Int))/\(0:Int) < (2:Int)/\True) <|
  gd (in64 ((v0+v1+1).tdiv 2*(v0+v1+1).tdiv 2)/\True) <|
  if(decide ((v0+v1+1).tdiv 2*(v0+v1+1).tdiv 2<=a0))=true then
   g1 (((v0+v1+1).tdiv 2,v1))
  else
   gd (in64 ((v0+v1+1).tdiv 2-1)/\True) <|
   g1 ((v0,(v0+v1+1).tdiv 2-1))
 else
  u197J0 v0
def u197(a0:Int):Option (Int) :=
 lp (u197L1 a0) (0,3000000000)
def k197:Ct:=lct 197 [.dat i64] (fun x=>u197 x.1) (fun r:Int=>I r) (fun _=>())
theorem o197:Ok prog k197:=by
 refine okL [.tmp 2] func197 ntmps197 results197 ?_;intro y ⟨a0,_⟩ r H Q hn hr;have:HT _ _:=⟨@tn prog⟩;refine qA (Z [p 0 (J a0)] [])<|qA (Z [p 0 (J a0),p 3 (I 0),p 4 (I 3000000000)] [])<|jN r (fun(v2:Int)=>Z [p 3 (I v2)] []) (u197J0) (fun v2 H=>?_) (fun _ n0 e0 t0=>?_)
 ·refine qA (Z [p 2 (I v2)] [])<|vTT<|hr H
 refine vB<|lX (fun((v0,v1):Int×Int)=>Z [p 0 (J a0),p 3 (I v0),p 4 (I v1)] []) (0,3000000000) H fun _ g1 b1 e1 t1 ⟨v0,v1⟩ H=>vQ<|qA (Z [p 0 (J a0),p 3 (I v0),p 4 (I v1),p 8 (B (decide (v0<v1)))] [])<|cD H (fun H=>?_) (fun H=>?_)
 ·refine vK<|fQ<|vB<|qB (Z [p 0 (J a0),p 3 (I v0),p 4 (I v1),p 5 (I ((v0+v1+1).tdiv 2))] []) H fun H=>qB (Z [p 0 (J a0),p 3 (I v0),p 4 (I v1),p 5 (I ((v0+v1+1).tdiv 2)),p 18 (B (decide ((v0+v1+1).tdiv 2*(v0+v1+1).tdiv 2<=a0)))] []) H fun H=>cD H (fun H=>?_) (fun H=>?_)
  ·refine zA (Z [p 0 (J a0),p 3 (I ((v0+v1+1).tdiv 2)),p 4 (I v1)] [])<|fK<|b1 H
  refine zB (Z [p 0 (J a0),p 3 (I v0),p 4 (I ((v0+v1+1).tdiv 2-1))] []) H fun H=>fK<|b1 H
 exact vE<|fE<|e1<|fX rfl<|n0 H
def u166(a0:Int)(a1:Int)(a2:Int):Option (Int) :=
 gd (in64 (500*a0)/\in64 (500*a0*500)/\in64 (500*a0*500*a0)/\in64 (a1*a1)/\in64 (500*a0*500*a0+a1*a1)/\True) <|
 gd ((u197 (500*a0*500*a0+a1*a1)).isSome=true/\True)<|lt (vl (u197 (500*a0*500*a0+a1*a1))) fun v0 =>
 gd (((a2==1)=true/\True->in64 (v0*v0))/\True) <|
 if(a2==1&&decide (v0*v0<500*a0*500*a0+a1*a1))=true then
  gd ((0:Int) < (500:Int)/\in64 (v0.tdiv (500:Int)+(1:Int))/\True) <|
  some (v0.tdiv 500+1)
 else
  gd ((u162 v0 500 a2).isSome=true/\True)<|lt (vl (u162 v0 500 a2)) fun v1 =>
  some v1
def k166:Ct:=lct 166 [.dat i64,.dat i64,.dat i64] (fun x=>u166 x.1 x.2.1 x.2.2.1) (fun r:Int=>I r) (fun _=>())
theorem o166:Ok prog k166:=by
 refine okL [.tmp 6] func166 ntmps166 results166 ?_;intro y ⟨a0,a1,a2,_⟩ r H Q hn hr;have:HT _ _:=⟨tc o162 (tc o197 tn)⟩;refine qA (Z [p 0 (J a0),p 1 (J a1),p 2 (J a2)] [])<|qB (Z [p 2 (J a2),p 7 (I (500*a0*500*a0+a1*a1))] []) H fun H=>qD (fun v0=>Z [p 2 (J a2),p 7 (I (500*a0*500*a0+a1*a1)),p 8 (I v0)] []) H fun v0 H=>vQ<|qB (Z [p 2 (J a2),p 8 (I v0),p 28 (B (a2==1&&decide (v0*v0<500*a0*500*a0+a1*a1)))] []) H fun H=>cD H (fun H=>?_) (fun H=>?_)
 ·refine qB (Z [p 6 (I (v0.tdiv 500+1))] []) H fun H=>vTT<|fR<|hr H
 refine vK<|fQ<|qD (fun v1=>Z [p 6 (I v1)] []) H fun v1 H=>vTT<|hr H
def u253(a0:Int):Option (Bool) :=
 some (a0 != a0)
def k253:Ct:=lct 253 [.dat i64] (fun x=>u253 x.1) (fun r:Bool=>B r) (fun _=>())
theorem o253:Ok prog k253:=by
 refine okL [.tmp 2] func253 ntmps253 results253 ?_;intro y ⟨a0,_⟩ r H Q hn hr;have:HT _ _:=⟨@tn prog⟩;refine qA (Z [p 0 (J a0)] [])<|qA (Z [p 2 (B (a0 != a0))] [])<|vTT<|hr H
def u252(a0:Int):Option (Bool) :=
 some (a0 != a0)
def k252:Ct:=lct 252 [.dat i64] (fun x=>u252 x.1) (fun r:Bool=>B r) (fun _=>())
theorem o252:Ok prog k252:=by
 refine okL [.tmp 2] func252 ntmps252 results252 ?_;intro y ⟨a0,_⟩ r H Q hn hr;have:HT _ _:=⟨@tn prog⟩;refine qA (Z [p 0 (J a0)] [])<|qA (Z [p 2 (B (a0 != a0))] [])<|vTT<|hr H
def u227(a0:Int)(a1:Int):Option (Bool) :=
 gd ((u252 a0).isSome=true/\(vl (u252 a0)=true/\True->(u252 a1).isSome=true)/\True) <|
 some (vl (u252 a0)&&!vl (u252 a1)||decide (a0<a1))
def k227:Ct:=lct 227 [.dat i64,.dat i64] (fun x=>u227 x.1 x.2.1) (fun r:Bool=>B r) (fun _=>())
theorem o227:Ok prog k227:=by
 refine okL [.tmp 4] func227 ntmps227 results227 ?_;intro y ⟨a0,a1,_⟩ r H Q hn hr;have:HT _ _:=⟨tc o252 tn⟩;refine qA (Z [p 0 (J a0),p 1 (J a1)] [])<|qB (Z [p 4 (B (vl (u252 a0)&&!vl (u252 a1)||decide (a0<a1)))] []) H fun H=>vTT<|hr H
def u233J0(a0:List Int)(a1:Int):Int->Option (Int×Bool)
 | v3 =>
 gd ((decide (v3 < (a0.length:Int))=true/\True->ix v3 a0.length)/\((a0.getD v3.toNat 0==a1)=false/\decide (v3 < (a0.length:Int))=true/\True->ix v3 a0.length)/\((a0.getD v3.toNat 0==a1)=false/\decide (v3 < (a0.length:Int))=true/\True->(u253 (a0.getD v3.toNat 0)).isSome=true)/\(vl (u253 (a0.getD v3.toNat 0))=true/\(a0.getD v3.toNat 0==a1)=false/\decide (v3 < (a0.length:Int))=true/\True->(u253 a1).isSome=true)/\True) <|
 some ((v3,decide (v3 < (a0.length:Int))&&(a0.getD v3.toNat 0==a1||vl (u253 (a0.getD v3.toNat 0))&&vl (u253 a1))))
def u233L1(a0:List Int)(a1:Int)(g1:Int×Int->Option (Int×Bool)):Int×Int->Option (Int×Bool)
 | (v1,v2) =>
 if(decide (v1<v2))=true then
  gd (in64 (v1+v2)/\((0:Int)<=v1+v2/\v1+v2<=(18446744073709551615:Int))/\(((0:Int)<=(1:Int)/\(1:Int)<=(62:Int))/\(0:Int)<=(v1+v2).fdiv ((2:Int) ^ Int.toNat (1:Int))/\(v1+v2).fdiv ((2:Int) ^ Int.toNat (1:Int))<=(18446744073709551615:Int))/\in64 ((v1+v2).fdiv ((2:Int) ^ Int.toNat (1:Int)))/\True) <|
  gd (ix ((v1+v2).fdiv ((2:Int) ^ Int.toNat (1:Int))) a0.length/\(u227 (a0.getD ((v1+v2).fdiv ((2:Int) ^ Int.toNat (1:Int))).toNat (0:Int)) a1).isSome=true/\True) <|
  if(vl (u227 (a0.getD ((v1+v2).fdiv ((2:Int) ^ Int.toNat (1:Int))).toNat (0:Int)) a1))=true then
   gd (in64 ((v1+v2).fdiv ((2:Int) ^ Int.toNat (1:Int))+(1:Int))/\True) <|
   g1 (((v1+v2).fdiv ((2:Int) ^ Int.toNat (1:Int))+(1:Int),v2))
  else
   g1 ((v1,(v1+v2).fdiv ((2:Int) ^ Int.toNat (1:Int))))
 else
  u233J0 a0 a1 v1
def u233(a0:List Int)(a1:Int):Option (Int×Bool) :=
 lp (u233L1 a0 a1) ((0,(a0.length:Int)))
def k233:Ct:=lct 233 [.dat i64.sl,.dat i64] (fun x=>u233 x.1 x.2.1) (fun r:Int×Bool=>AV.tup [I r.1,B r.2]) (fun _=>())
theorem o233:Ok prog k233:=by
 refine okL [.tmp 4,.tmp 5] func233 ntmps233 results233 ?_;intro y ⟨a0,a1,_⟩ r H Q hn hr;have:HT _ _:=⟨tc o253 (tc o227 tn)⟩;refine qA (Z (G83 a0 a1 []) [])<|qA (Z (G83 a0 a1 [p 6 (I (a0.length:Int))]) [])<|qA (Z (G83 a0 a1 [p 6 (I (a0.length:Int)),p 7 (I 0),p 8 (I (a0.length:Int))]) [])<|jN r (fun(v3:Int)=>Z (G83 a0 a1 [p 6 (I (a0.length:Int)),p 7 (I v3)]) []) (u233J0 a0 a1) (fun v3 H=>?_) (fun _ n0 e0 t0=>?_)
 ·refine qB (Z [p 4 (I v3),p 5 (B (decide (v3 < (a0.length:Int))&&(a0.getD v3.toNat 0==a1||vl (u253 (a0.getD v3.toNat 0))&&vl (u253 a1))))] []) H fun H=>vTT<|hr H
 refine vB<|lX (fun((v1,v2):Int×Int)=>Z (G83 a0 a1 [p 6 (I (a0.length:Int)),p 7 (I v1),p 8 (I v2)]) []) ((0,(a0.length:Int))) H fun _ g1 b1 e1 t1 ⟨v1,v2⟩ H=>vQ<|qA (Z (G83 a0 a1 [p 6 (I (a0.length:Int)),p 7 (I v1),p 8 (I v2),p 15 (B (decide (v1<v2)))]) [])<|cD H (fun H=>?_) (fun H=>?_)
 ·refine vK<|fQ<|vB<|qB (Z (G83 a0 a1 [p 6 (I (a0.length:Int)),p 7 (I v1),p 8 (I v2),p 9 (I ((v1+v2).fdiv ((2:Int) ^ Int.toNat (1:Int))))]) []) H fun H=>qB (Z (G83 a0 a1 [p 6 (I (a0.length:Int)),p 7 (I v1),p 8 (I v2),p 9 (I ((v1+v2).fdiv ((2:Int) ^ Int.toNat (1:Int)))),p 27 (B (vl (u227 (a0.getD ((v1+v2).fdiv ((2:Int) ^ Int.toNat (1:Int))).toNat (0:Int)) a1)))]) []) H fun H=>cD H (fun H=>?_) (fun H=>?_)
  ·refine zB (Z (G83 a0 a1 [p 6 (I (a0.length:Int)),p 7 (I ((v1+v2).fdiv ((2:Int) ^ Int.toNat (1:Int))+(1:Int))),p 8 (I v2)]) []) H fun H=>fK<|b1 H
  refine zA (Z (G83 a0 a1 [p 6 (I (a0.length:Int)),p 7 (I v1),p 8 (I ((v1+v2).fdiv ((2:Int) ^ Int.toNat (1:Int))))]) [])<|fK<|b1 H
 exact vE<|fE<|e1<|fX rfl<|n0 H
def u195(a0:List Int)(a1:Int):Option (List Y225×Int) :=
 gd (ix 0 a0.length/\in64 ((a0.length:Int)-1)/\ix ((a0.length:Int)-1) a0.length/\True)<|lt (min (max a1 (a0.getD (Int.toNat (0:Int)) (0:Int))) (a0.getD ((a0.length:Int)-(1:Int)).toNat (0:Int))) fun v0 =>
 gd ((u233 a0 v0).isSome=true/\True)<|lt (vl (u233 a0 v0)) fun v1 =>
 if v1.2=true then
  some (([(v1.1,(1:Int))],(1:Int)))
 else
  gd (in64 (v1.1-1)/\ix v1.1 a0.length/\in64 (a0.getD v1.1.toNat 0-v0)/\in64 (v1.1-1)/\ix (v1.1-1) a0.length/\in64 (v0-a0.getD (v1.1-1).toNat 0)/\ix v1.1 a0.length/\in64 (v1.1-1)/\ix (v1.1-1) a0.length/\in64 (a0.getD v1.1.toNat 0-a0.getD (v1.1-1).toNat 0)/\True)<|lt ([(v1.1-1,a0.getD v1.1.toNat 0-v0),(v1.1,v0-a0.getD (v1.1-1).toNat 0)]) fun v2 =>
  some ((v2,a0.getD v1.1.toNat 0-a0.getD (v1.1-1).toNat 0))
def k195:Ct:=lct 195 [.dat i64.sl,.dat i64] (fun x=>u195 x.1 x.2.1) (fun r:List Y225×Int=>AV.tup [AV.ow 225 true y225 r.1,I r.2]) (fun _=>())
theorem o195:Ok prog k195:=by
 refine okL [.tmp 4,.tmp 5] func195 ntmps195 results195 ?_;intro y ⟨a0,a1,_⟩ r H Q hn hr;have:HT _ _:=⟨tc o233 tn⟩;refine qA (Z (G83 a0 a1 []) [])<|qD (fun v0=>Z [p 0 (L i64 a0),p 1 (I v0)] []) H fun v0 H=>qD (fun v1=>Z [p 0 (L i64 a0),p 1 (I v0),p 6 (I v1.1),p 7 (B v1.2)] []) H fun v1 H=>vQ<|qA (Z [p 0 (L i64 a0),p 1 (I v0),p 6 (I v1.1),p 26 (B v1.2)] [])<|cD H (fun H=>?_) (fun H=>?_)
 ·refine qA (Z [p 4 (O 29),p 5 (I (1:Int))] [(29,A 225 y225 [(v1.1,(1:Int))] 0)])<|vTT<|fR<|hr H
 refine vK<|fQ<|qD (fun v2=>Z [p 4 (O 48),p 5 (I (a0.getD v1.1.toNat 0-a0.getD (v1.1-1).toNat 0))] [(48,A 225 y225 v2 0)]) H fun v2 H=>vTT<|hr H
def u161J0(v0:List Y225×Int)(v1:List Y225×Int)(a3:Int):Int->Option (Int)
 | v20 =>
 gd (in64 (v0.2*v1.2)/\(u162 v20 (v0.2*v1.2) a3).isSome=true/\True)<|lt (vl (u162 v20 (v0.2*v1.2) a3)) fun v21 =>
 some v21
def u161J2(v11:Int)(g1:Int×Int->Option (Int)):Int->Option (Int)
 | v19 =>
 gd (in64 (v11+1)/\True) <|
 g1 (v19,v11+1)
def u161L3(a0:Y140)(v12:Y225)(v1:List Y225×Int)(v11:Int)(g1:Int×Int->Option (Int))(g3:Int×Int->Option (Int)):Int×Int->Option (Int)
 | (v15,v16) =>
 if(decide (v16 < (v1.1.length:Int)))=true then
  gd (ix v16 v1.1.length/\v16.toNat<v1.1.length/\True)<|lt (v1.1.getD v16.toNat (dflt y225)) fun v17 =>
  gd (in64 (v12.1*(a0.2.1.length:Int))/\in64 (v12.1*(a0.2.1.length:Int)+v17.1)/\ix (v12.1*(a0.2.1.length:Int)+v17.1) a0.2.2.length/\in64 (a0.2.2.getD (v12.1*(a0.2.1.length:Int)+v17.1).toNat 0*v12.2)/\in64 (a0.2.2.getD (v12.1*(a0.2.1.length:Int)+v17.1).toNat 0*v12.2*v17.2)/\in64 (v15+a0.2.2.getD (v12.1*(a0.2.1.length:Int)+v17.1).toNat 0*v12.2*v17.2)/\True)<|lt (v15+a0.2.2.getD (v12.1*(a0.2.1.length:Int)+v17.1).toNat 0*v12.2*v17.2) fun v18 =>
  gd (in64 (v16+1)/\True) <|
  g3 (v18,v16+1)
 else
  u161J2 v11 g1 v15
def u161L1(a0:Y140)(v1:List Y225×Int)(v0:List Y225×Int)(a3:Int)(g1:Int×Int->Option (Int)):Int×Int->Option (Int)
 | (v10,v11) =>
 if(decide (v11 < (v0.1.length:Int)))=true then
  gd (ix v11 v0.1.length/\v11.toNat<v0.1.length/\True)<|lt (v0.1.getD v11.toNat (dflt y225)) fun v12 =>
  lp (u161L3 a0 v12 v1 v11 g1) (v10,0)
 else
  u161J0 v0 v1 a3 v10
def u161(a0:Y140)(a1:Int)(a2:Int)(a3:Int):Option (Int) :=
 gd ((u195 a0.1 a1).isSome=true/\True)<|lt (vl (u195 a0.1 a1)) fun v0 =>
 gd ((u195 a0.2.1 a2).isSome=true/\True)<|lt (vl (u195 a0.2.1 a2)) fun v1 =>
 lp (u161L1 a0 v1 v0 a3) (0,0)
def k161:Ct:=lct 161 [.agg y140,.dat i64,.dat i64,.dat i64] (fun x=>u161 x.1 x.2.1 x.2.2.1 x.2.2.2.1) (fun r:Int=>I r) (fun _=>())
theorem o161:Ok prog k161:=by
 refine okL [.tmp 8] func161 ntmps161 results161 ?_;intro y ⟨a0,a1,a2,a3,_⟩ r H Q hn hr;have:HT _ _:=⟨tc o162 (tc o195 tn)⟩;refine qA (Z (G52 a1 a2 [p 3 (J a3),p 4 (R 4)]) [(4,K 140 y140 a0)])<|qD (fun v0=>Z [p 2 (J a2),p 3 (J a3),p 4 (R 4),p 9 (O 22),p 10 (I v0.2)] [(22,A 225 y225 v0.1 0),(4,K 140 y140 a0)]) H fun v0 H=>qD (fun v1=>Z [p 3 (J a3),p 4 (R 4),p 9 (O 22),p 10 (I v0.2),p 11 (O 29),p 12 (I v1.2)] (W20 v1.1 v0.1 a0)) H fun v1 H=>qA (Z [p 3 (J a3),p 4 (R 4),p 9 (O 22),p 10 (I v0.2),p 11 (O 29),p 12 (I v1.2),p 13 (I 0)] (W20 v1.1 v0.1 a0))<|jN r (fun(v20:Int)=>Z [p 3 (J a3),p 10 (I v0.2),p 12 (I v1.2),p 13 (I v20)] []) (u161J0 v0 v1 a3) (fun v20 H=>?_) (fun _ n0 e0 t0=>?_)
 ·refine qD (fun v21=>Z [p 8 (I v21)] []) H fun v21 H=>vTT<|hr H
 refine qA (Z [p 3 (J a3),p 4 (R 4),p 10 (I v0.2),p 11 (O 29),p 12 (I v1.2),p 13 (I 0),p 32 (O 22),p 33 (I (v0.1.length:Int)),p 34 (I 0)] (W20 v1.1 v0.1 a0))<|vB<|lX (fun((v10,v11):Int×Int)=>Z (G27 a3 v0.2 v1.2 v10 [p 32 (O 22),p 33 (I (v0.1.length:Int)),p 34 (I v11)]) (W20 v1.1 v0.1 a0)) (0,0) H fun _ g1 b1 e1 t1 ⟨v10,v11⟩ H=>qA (Z (G27 a3 v0.2 v1.2 v10 [p 32 (O 22),p 33 (I (v0.1.length:Int)),p 34 (I v11),p 35 (B (decide (v11 < (v0.1.length:Int))))]) (W20 v1.1 v0.1 a0))<|vQ<|cD H (fun H=>?_) (fun H=>?_)
 ·refine vK<|fQ<|jN r (fun(v19:Int)=>Z (G27 a3 v0.2 v1.2 v19 [p 32 (O 22),p 33 (I (v0.1.length:Int)),p 34 (I v11)]) (W20 v1.1 v0.1 a0)) (u161J2 v11 g1) (fun v19 H=>?_) (fun _ n2 e2 t2=>?_)
  ·refine zB (Z (G27 a3 v0.2 v1.2 v19 [p 32 (O 22),p 33 (I (v0.1.length:Int)),p 34 (I (v11+1))]) (W20 v1.1 v0.1 a0)) H fun H=>b1 H
  refine vB<|qD (fun v12=>Z (G27 a3 v0.2 v1.2 v10 [p 15 (R 15),p 32 (O 22),p 33 (I (v0.1.length:Int)),p 34 (I v11)]) ((15,bx 225 (cellsD true y225 v12))::W20 v1.1 v0.1 a0)) H fun v12 H=>qA (Z (G27 a3 v0.2 v1.2 v10 [p 15 (R 15),p 32 (O 22),p 33 (I (v0.1.length:Int)),p 34 (I v11),p 38 (O 29),p 39 (I (v1.1.length:Int)),p 40 (I 0)]) ((15,bx 225 (cellsD true y225 v12))::W20 v1.1 v0.1 a0))<|vB<|lX (fun((v15,v16):Int×Int)=>Z (G27 a3 v0.2 v1.2 v15 [p 15 (R 15),p 32 (O 22),p 33 (I (v0.1.length:Int)),p 34 (I v11),p 38 (O 29),p 39 (I (v1.1.length:Int)),p 40 (I v16)]) ((15,bx 225 (cellsD true y225 v12))::W20 v1.1 v0.1 a0)) (v10,0) H fun _ g3 b3 e3 t3 ⟨v15,v16⟩ H=>qA (Z (G27 a3 v0.2 v1.2 v15 [p 15 (R 15),p 32 (O 22),p 33 (I (v0.1.length:Int)),p 34 (I v11),p 38 (O 29),p 39 (I (v1.1.length:Int)),p 40 (I v16),p 41 (B (decide (v16 < (v1.1.length:Int))))]) ((15,bx 225 (cellsD true y225 v12))::W20 v1.1 v0.1 a0))<|vQ<|cD H (fun H=>?_) (fun H=>?_)
  ·refine vK<|fQ<|vQ<|vB<|qD (fun v17=>Z (G27 a3 v0.2 v1.2 v15 [p 15 (R 15),p 17 (R 17),p 32 (O 22),p 33 (I (v0.1.length:Int)),p 34 (I v11),p 38 (O 29),p 39 (I (v1.1.length:Int)),p 40 (I v16)]) ((17,bx 225 (cellsD true y225 v17))::(15,bx 225 (cellsD true y225 v12))::W20 v1.1 v0.1 a0)) H fun v17 H=>zD (fun v18=>Z (G27 a3 v0.2 v1.2 v18 [p 15 (R 15),p 32 (O 22),p 33 (I (v0.1.length:Int)),p 34 (I v11),p 38 (O 29),p 39 (I (v1.1.length:Int)),p 40 (I v16)]) ((17,bx 225 (cellsD true y225 v17))::(15,bx 225 (cellsD true y225 v12))::W20 v1.1 v0.1 a0)) H fun v18 H=>fK<|fQ<|zB (Z (G27 a3 v0.2 v1.2 v18 [p 15 (R 15),p 32 (O 22),p 33 (I (v0.1.length:Int)),p 34 (I v11),p 38 (O 29),p 39 (I (v1.1.length:Int)),p 40 (I (v16+1))]) ((17,bx 225 (cellsD true y225 v17))::(15,bx 225 (cellsD true y225 v12))::W20 v1.1 v0.1 a0)) H fun H=>b3 H
  exact vE<|fE<|e3<|fX rfl<|fK<|n2 H
 exact vE<|fE<|e1<|fX rfl<|n0 H
def u105(a0:Y100)(a1:Y48):Option (Y143) :=
 gd ((0:Int) < (2:Int)/\ix (a1.2.1.tdiv (2:Int)) a0.2.1.length/\ix (a0.2.1.getD (a1.2.1.tdiv (2:Int)).toNat (dflt y105)).1 a0.1.2.1.1.length/\True)<|lt (a0.1.2.1.1.getD (a0.2.1.getD (a1.2.1.tdiv 2).toNat (dflt y105)).1.toNat (dflt y165)) fun v0 =>
 gd (ix v0.2.1 a0.1.1.length/\ix a1.2.2.2 (a0.1.1.getD v0.2.1.toNat (dflt y163)).2.2.2.1.length/\True)<|lt ((a0.1.1.getD v0.2.1.toNat (dflt y163)).2.2.2.1.getD a1.2.2.2.toNat (dflt y143)) fun v1 =>
 some v1
def k105:Ct:=lct 105 [.dat y100.pt,.agg y48] (fun x=>u105 x.1 x.2.1) (fun r:Y143=>AV.agg (Q12 r)) (fun _=>())
theorem o105:Ok prog k105:=by
 refine okL [.cell 4 143] func105 ntmps105 results105 ?_;intro y ⟨a0,a1,_⟩ r H Q hn hr;have:HT _ _:=⟨@tn prog⟩;refine qA (Z [p 0 (D y100.pt a0),p 3 (R 3),p 4 (R 4)] [(4,bx 143 [I 0,I 0,I 0,I 0,nil,nil]),(3,K 48 y48 a1)])<|qD (fun v0=>Z [p 0 (D y100.pt a0),p 3 (R 3),p 4 (R 4),p 5 (R 5)] [(5,K 165 y165 v0),(4,bx 143 [I 0,I 0,I 0,I 0,nil,nil]),(3,K 48 y48 a1)]) H fun v0 H=>qD (fun v1=>Z [p 4 (R 4)] [(4,K 143 y143 v1),(5,K 165 y165 v0),(3,K 48 y48 a1)]) H fun v1 H=>vTT<|hr H
def u160(a0:Y100)(a1:Y48):Option (Int) :=
 gd ((0:Int) < (2:Int)/\ix (a1.2.1.tdiv (2:Int)) a0.2.1.length/\True)<|lt (a0.2.1.getD (a1.2.1.tdiv 2).toNat (dflt y105)) fun v0 =>
 some v0.2.2.1
def k160:Ct:=lct 160 [.dat y100.pt,.agg y48] (fun x=>u160 x.1 x.2.1) (fun r:Int=>I r) (fun _=>())
theorem o160:Ok prog k160:=by
 refine okL [.tmp 4] func160 ntmps160 results160 ?_;intro y ⟨a0,a1,_⟩ r H Q hn hr;have:HT _ _:=⟨@tn prog⟩;refine qA (Z [p 0 (D y100.pt a0),p 3 (R 3)] [(3,K 48 y48 a1)])<|qD (fun v0=>Z [p 4 (J v0.2.2.1)] [(3,K 48 y48 a1)]) H fun v0 H=>vTT<|hr H
def u108(a0:Y100)(a1:Int)(a2:Int)(a3:Int):Option (Int) :=
 gd (ix a1 a0.2.2.1.length/\True)<|lt (a0.2.2.1.getD a1.toNat (dflt y48)) fun v0 =>
 gd ((u160 a0 v0).isSome=true/\True)<|lt (vl (u160 a0 v0)) fun v1 =>
 if(v0.2.2.1==1)=true then
  gd ((u105 a0 v0).isSome=true/\(0:Int) < (2:Int)/\ix (v0.2.1.tmod (2:Int)) (vl (u105 a0 v0)).2.2.2.2.2.length/\ix v1 a0.2.2.2.1.length/\(u161 ((vl (u105 a0 v0)).2.2.2.2.2.getD (v0.2.1.tmod (2:Int)).toNat (dflt y140)) a2 (a0.2.2.2.1.getD v1.toNat (0:Int)) a3).isSome=true/\True)<|lt (vl (u161 ((vl (u105 a0 v0)).2.2.2.2.2.getD (v0.2.1.tmod 2).toNat (dflt y140)) a2 (a0.2.2.2.1.getD v1.toNat 0) a3)) fun v2 =>
  some (min v2 1000000)
 else
  gd (ix v1 a0.2.2.2.2.1.length/\ix v0.2.2.2 (List.length (a0.2.2.2.2.1.getD v1.toNat []))/\(u166 a2 (List.getD (a0.2.2.2.2.1.getD v1.toNat []) v0.2.2.2.toNat 0) a3).isSome=true/\True)<|lt (vl (u166 a2 (List.getD (a0.2.2.2.2.1.getD v1.toNat []) v0.2.2.2.toNat 0) a3)) fun v3 =>
  some (min v3 1000000)
def k108:Ct:=lct 108 [.dat y100.pt,.dat i64,.dat i64,.dat i64] (fun x=>u108 x.1 x.2.1 x.2.2.1 x.2.2.2.1) (fun r:Int=>I r) (fun _=>())
theorem o108:Ok prog k108:=by
 refine okL [.tmp 8] func108 ntmps108 results108 ?_;intro y ⟨a0,a1,a2,a3,_⟩ r H Q hn hr;have:HT _ _:=⟨tc o166 (tc o161 (tc o105 (tc o160 tn)))⟩;refine qA (Z [p 0 (D y100.pt a0),p 1 (J a1),p 2 (J a2),p 3 (J a3)] [])<|qD (fun v0=>Z [p 0 (D y100.pt a0),p 2 (J a2),p 3 (J a3),p 9 (R 9)] [(9,K 48 y48 v0)]) H fun v0 H=>qD (fun v1=>Z [p 0 (D y100.pt a0),p 2 (J a2),p 3 (J a3),p 9 (R 9),p 10 (I v1)] [(9,K 48 y48 v0)]) H fun v1 H=>vQ<|qA (Z [p 0 (D y100.pt a0),p 2 (J a2),p 3 (J a3),p 9 (R 9),p 10 (I v1),p 23 (B (v0.2.2.1==1))] [(9,K 48 y48 v0)])<|cD H (fun H=>?_) (fun H=>?_)
 ·refine qD (fun v2=>Z [p 8 (I (min v2 1000000))] [(9,K 48 y48 v0)]) H fun v2 H=>vTT<|fR<|hr H
 refine vK<|fQ<|qD (fun v3=>Z [p 8 (I (min v3 1000000))] [(9,K 48 y48 v0)]) H fun v3 H=>vTT<|hr H
def u163(a0:Int)(a1:Int)(a2:Int):Option (Int) :=
 gd (in64 (a0*a1)/\(u162 (a0*a1) 1000 a2).isSome=true/\True)<|lt (vl (u162 (a0*a1) 1000 a2)) fun v0 =>
 some v0
def k163:Ct:=lct 163 [.dat i64,.dat i64,.dat i64] (fun x=>u163 x.1 x.2.1 x.2.2.1) (fun r:Int=>I r) (fun _=>())
theorem o163:Ok prog k163:=by
 refine okL [.tmp 6] func163 ntmps163 results163 ?_;intro y ⟨a0,a1,a2,_⟩ r H Q hn hr;have:HT _ _:=⟨tc o162 tn⟩;refine qA (Z [p 0 (J a0),p 1 (J a1),p 2 (J a2)] [])<|qD (fun v0=>Z [p 6 (I v0)] []) H fun v0 H=>vTT<|hr H
def u164(a0:Y65)(a1:Int)(a2:Int):Option (Int) :=
 if(a1==1&&a2==0)=true then
  some a0.2.1
 else
  if(a1==1)=true then
   some a0.2.2.1
  else
   if(a2==0)=true then
    some a0.2.2.2.1
   else
    some a0.2.2.2.2
def k164:Ct:=lct 164 [.agg y65,.dat i64,.dat i64] (fun x=>u164 x.1 x.2.1 x.2.2.1) (fun r:Int=>I r) (fun _=>())
theorem o164:Ok prog k164:=by
 refine okL [.tmp 6] func164 ntmps164 results164 ?_;intro y ⟨a0,a1,a2,_⟩ r H Q hn hr;have:HT _ _:=⟨@tn prog⟩;refine qA (Z (G52 a1 a2 [p 3 (R 3)]) [(3,K 65 y65 a0)])<|vQ<|vB<|qA (Z (G52 a1 a2 [p 3 (R 3),p 7 (B (a1==1&&a2==0))]) [(3,K 65 y65 a0)])<|cD H (fun H=>?_) (fun H=>?_)
 ·refine qA (Z [p 6 (J a0.2.1)] [(3,K 65 y65 a0)])<|vTT<|fDD<|fR<|hr H
 refine qA (Z [p 2 (J a2),p 3 (R 3),p 16 (B (a1==1))] [(3,K 65 y65 a0)])<|cD H (fun H=>?_) (fun H=>?_)
 ·refine qA (Z [p 6 (J a0.2.2.1)] [(3,K 65 y65 a0)])<|vTT<|fDD<|fR<|hr H
 refine qA (Z [p 3 (R 3),p 21 (B (a2==0))] [(3,K 65 y65 a0)])<|cD H (fun H=>?_) (fun H=>?_)
 ·refine qA (Z [p 6 (J a0.2.2.2.1)] [(3,K 65 y65 a0)])<|vTT<|fDD<|fR<|hr H
 refine vK<|fK<|fQ<|qA (Z [p 6 (J a0.2.2.2.2)] [(3,K 65 y65 a0)])<|vTT<|hr H
def u103J0(a1:Y65)(v0:Y48)(a4:Int):Int->Option (Int)
 | v4 =>
 gd ((u164 a1 v0.2.2.1 a4).isSome=true/\(u163 v4 (vl (u164 a1 v0.2.2.1 a4)) a4).isSome=true/\True)<|lt (vl (u163 v4 (vl (u164 a1 v0.2.2.1 a4)) a4)) fun v5 =>
 some v5
def u103(a0:Y100)(a1:Y65)(a2:Int)(a3:Int)(a4:Int):Option (Int) :=
 gd (ix a2 a0.2.2.1.length/\True)<|lt (a0.2.2.1.getD a2.toNat (dflt y48)) fun v0 =>
 gd ((u160 a0 v0).isSome=true/\True)<|lt (vl (u160 a0 v0)) fun v1 =>
 if(v0.2.2.1==1)=true then
  gd ((u105 a0 v0).isSome=true/\(0:Int) < (2:Int)/\ix (v0.2.1.tmod (2:Int)) (vl (u105 a0 v0)).2.2.2.2.1.length/\ix v1 a0.2.2.2.1.length/\(u161 ((vl (u105 a0 v0)).2.2.2.2.1.getD (v0.2.1.tmod (2:Int)).toNat (dflt y140)) a3 (a0.2.2.2.1.getD v1.toNat (0:Int)) a4).isSome=true/\True)<|lt (vl (u161 ((vl (u105 a0 v0)).2.2.2.2.1.getD (v0.2.1.tmod 2).toNat (dflt y140)) a3 (a0.2.2.2.1.getD v1.toNat 0) a4)) fun v2 =>
  u103J0 a1 v0 a4 v2
 else
  gd (ix v1 a0.2.2.2.2.1.length/\ix v0.2.2.2 (List.length (a0.2.2.2.2.1.getD v1.toNat []))/\(u162 (List.getD (a0.2.2.2.2.1.getD v1.toNat []) v0.2.2.2.toNat 0) 1000 a4).isSome=true/\True)<|lt (vl (u162 (List.getD (a0.2.2.2.2.1.getD v1.toNat []) v0.2.2.2.toNat 0) 1000 a4)) fun v3 =>
  u103J0 a1 v0 a4 v3
def k103:Ct:=lct 103 [.dat y100.pt,.agg y65,.dat i64,.dat i64,.dat i64] (fun x=>u103 x.1 x.2.1 x.2.2.1 x.2.2.2.1 x.2.2.2.2.1) (fun r:Int=>I r) (fun _=>())
theorem o103:Ok prog k103:=by
 refine okL [.tmp 10] func103 ntmps103 results103 ?_;intro y ⟨a0,a1,a2,a3,a4,_⟩ r H Q hn hr;have:HT _ _:=⟨tc o163 (tc o164 (tc o162 (tc o161 (tc o105 (tc o160 tn)))))⟩;refine qA (Z [p 0 (D y100.pt a0),p 2 (J a2),p 3 (J a3),p 4 (J a4),p 6 (R 6)] [(6,K 65 y65 a1)])<|qD (fun v0=>Z [p 0 (D y100.pt a0),p 3 (J a3),p 4 (J a4),p 6 (R 6),p 11 (R 11)] (W74 v0 a1)) H fun v0 H=>qD (fun v1=>Z [p 0 (D y100.pt a0),p 3 (J a3),p 4 (J a4),p 6 (R 6),p 11 (R 11),p 12 (I v1)] (W74 v0 a1)) H fun v1 H=>qA (Z [p 0 (D y100.pt a0),p 3 (J a3),p 4 (J a4),p 6 (R 6),p 11 (R 11),p 12 (I v1)] (W74 v0 a1))<|jN r (fun(v4:Int)=>Z [p 4 (J a4),p 6 (R 6),p 11 (R 11),p 13 (I v4)] (W74 v0 a1)) (u103J0 a1 v0 a4) (fun v4 H=>?_) (fun _ n0 e0 t0=>?_)
 ·refine qD (fun v5=>Z [p 10 (I v5)] (W74 v0 a1)) H fun v5 H=>vTT<|hr H
 refine qA (Z [p 0 (D y100.pt a0),p 3 (J a3),p 4 (J a4),p 6 (R 6),p 11 (R 11),p 12 (I v1),p 26 (B (v0.2.2.1==1))] (W74 v0 a1))<|cD H (fun H=>?_) (fun H=>?_)
 ·refine zD (fun v2=>Z [p 4 (J a4),p 6 (R 6),p 11 (R 11),p 13 (I v2)] (W74 v0 a1)) H fun v2 H=>n0 H
 refine zD (fun v3=>Z [p 4 (J a4),p 6 (R 6),p 11 (R 11),p 13 (I v3)] (W74 v0 a1)) H fun v3 H=>n0 H
def u94(a0:Int):Option (Bool) :=
 some (a0==0||a0==1)
def k94:Ct:=lct 94 [.dat i64] (fun x=>u94 x.1) (fun r:Bool=>B r) (fun _=>())
theorem o94:Ok prog k94:=by
 refine okL [.tmp 2] func94 ntmps94 results94 ?_;intro y ⟨a0,_⟩ r H Q hn hr;have:HT _ _:=⟨@tn prog⟩;refine qA (Z [p 0 (J a0)] [])<|qA (Z [p 2 (B (a0==0||a0==1))] [])<|vTT<|hr H
def u93(a0:Int):Option (Bool) :=
 gd ((u150 a0 0 1000000).isSome=true/\True) <|
 some (vl (u150 a0 0 1000000))
def k93:Ct:=lct 93 [.dat i64] (fun x=>u93 x.1) (fun r:Bool=>B r) (fun _=>())
theorem o93:Ok prog k93:=by
 refine okL [.tmp 2] func93 ntmps93 results93 ?_;intro y ⟨a0,_⟩ r H Q hn hr;have:HT _ _:=⟨tc o150 tn⟩;refine qA (Z [p 0 (J a0)] [])<|qB (Z [p 2 (B (vl (u150 a0 0 1000000)))] []) H fun H=>vTT<|hr H
def u102(a0:Y100)(a1:Int):Option (Bool) :=
 gd ((u159 a0.2.2.1).isSome=true/\in64 (vl (u159 a0.2.2.1)-1)/\(u150 a1 0 (vl (u159 a0.2.2.1)-1)).isSome=true/\True) <|
 some (vl (u150 a1 0 (vl (u159 a0.2.2.1)-1)))
def k102:Ct:=lct 102 [.dat y100.pt,.dat i64] (fun x=>u102 x.1 x.2.1) (fun r:Bool=>B r) (fun _=>())
theorem o102:Ok prog k102:=by
 refine okL [.tmp 4] func102 ntmps102 results102 ?_;intro y ⟨a0,a1,_⟩ r H Q hn hr;have:HT _ _:=⟨tc o150 (tc o159 tn)⟩;refine qA (Z [p 0 (D y100.pt a0),p 1 (J a1)] [])<|qB (Z [p 4 (B (vl (u150 a1 0 (vl (u159 a0.2.2.1)-1))))] []) H fun H=>vTT<|hr H
def u110(a0:Int)(a1:Int):Option (Bool) :=
 some (decide (100<=a0)&&decide (a0<=a1)&&decide (a1<=5000))
def k110:Ct:=lct 110 [.dat i64,.dat i64] (fun x=>u110 x.1 x.2.1) (fun r:Bool=>B r) (fun _=>())
theorem o110:Ok prog k110:=by
 refine okL [.tmp 4] func110 ntmps110 results110 ?_;intro y ⟨a0,a1,_⟩ r H Q hn hr;have:HT _ _:=⟨@tn prog⟩;refine qA (Z [p 0 (J a0),p 1 (J a1)] [])<|qA (Z [p 4 (B (decide (100<=a0)&&decide (a0<=a1)&&decide (a1<=5000)))] [])<|vTT<|hr H
def u52(a0:Y65):Option (Bool) :=
 gd ((u109 a0.1).isSome=true/\(vl (u109 a0.1)=true/\True->(u110 a0.2.1 a0.2.2.1).isSome=true)/\((vl (u109 a0.1)&&vl (u110 a0.2.1 a0.2.2.1))=true/\True->(u110 a0.2.2.2.1 a0.2.2.2.2).isSome=true)/\True) <|
 some (vl (u109 a0.1)&&vl (u110 a0.2.1 a0.2.2.1)&&vl (u110 a0.2.2.2.1 a0.2.2.2.2))
def k52:Ct:=lct 52 [.agg y65] (fun x=>u52 x.1) (fun r:Bool=>B r) (fun _=>())
theorem o52:Ok prog k52:=by
 refine okL [.tmp 2] func52 ntmps52 results52 ?_;intro y ⟨a0,_⟩ r H Q hn hr;have:HT _ _:=⟨tc o110 (tc o109 tn)⟩;refine qA (Z [p 1 (R 1)] [(1,K 65 y65 a0)])<|qB (Z [p 2 (B (vl (u109 a0.1)&&vl (u110 a0.2.1 a0.2.2.1)&&vl (u110 a0.2.2.2.1 a0.2.2.2.2)))] [(1,K 65 y65 a0)]) H fun H=>vTT<|hr H
def u156(a0:Int)(a1:Int)(a2:Int):Option (Int) :=
 gd (0<a1/\True) <|
 gd (0<a1/\True) <|
 if(decide (a0.tmod a1<0)&&a2==0)=true then
  gd (in64 (a0.tdiv a1-1)/\True) <|
  some (a0.tdiv a1-1)
 else
  if(decide (0<a0.tmod a1)&&a2==1)=true then
   gd (in64 (a0.tdiv a1+1)/\True) <|
   some (a0.tdiv a1+1)
  else
   some (a0.tdiv a1)
def k156:Ct:=lct 156 [.dat i64,.dat i64,.dat i64] (fun x=>u156 x.1 x.2.1 x.2.2.1) (fun r:Int=>I r) (fun _=>())
theorem o156:Ok prog k156:=by
 refine okL [.tmp 6] func156 ntmps156 results156 ?_;intro y ⟨a0,a1,a2,_⟩ r H Q hn hr;have:HT _ _:=⟨@tn prog⟩;refine qA (Z [p 0 (J a0),p 1 (J a1),p 2 (J a2)] [])<|qB (Z [p 0 (J a0),p 1 (J a1),p 2 (J a2),p 7 (I (a0.tdiv a1))] []) H fun H=>qB (Z [p 2 (J a2),p 7 (I (a0.tdiv a1)),p 8 (I (a0.tmod a1))] []) H fun H=>vQ<|qA (Z [p 2 (J a2),p 7 (I (a0.tdiv a1)),p 8 (I (a0.tmod a1)),p 20 (B (decide (a0.tmod a1<0)&&a2==0))] [])<|cD H (fun H=>?_) (fun H=>?_)
 ·refine qB (Z [p 6 (I (a0.tdiv a1-1))] []) H fun H=>vTT<|fR<|hr H
 refine vK<|fQ<|vQ<|qA (Z [p 7 (I (a0.tdiv a1)),p 28 (B (decide (0<a0.tmod a1)&&a2==1))] [])<|cD H (fun H=>?_) (fun H=>?_)
 ·refine qB (Z [p 6 (I (a0.tdiv a1+1))] []) H fun H=>vTT<|fR<|hr H
 refine vK<|fQ<|qA (Z [p 6 (I (a0.tdiv a1))] [])<|vTT<|hr H
def u232(a0:List Y163)(a1:Y31)(a2:Y179):Option (Int) :=
 if(decide (a2.1<0))=true then
  some 0
 else
  gd (ix a2.1 a1.1.length/\ix (a1.1.getD a2.1.toNat (dflt y165)).2.1 a0.length/\ix a2.2.1 (a0.getD (a1.1.getD a2.1.toNat (dflt y165)).2.1.toNat (dflt y163)).2.2.1.length/\True)<|lt ((a0.getD (a1.1.getD a2.1.toNat (dflt y165)).2.1.toNat (dflt y163)).2.2.1.getD a2.2.1.toNat (dflt y217)) fun v0 =>
  some v0.2.2.1
def k232:Ct:=lct 232 [.agg y163.sl,.agg y31,.agg y179] (fun x=>u232 x.1 x.2.1 x.2.2.1) (fun r:Int=>I r) (fun _=>())
theorem o232:Ok prog k232:=by
 refine okL [.tmp 6] func232 ntmps232 results232 ?_;intro y ⟨a0,a1,a2,_⟩ r H Q hn hr;have:HT _ _:=⟨@tn prog⟩;refine qA (Z [p 3 (R 3),p 4 (R 4),p 5 (R 5)] [(5,K 179 y179 a2),(4,K 31 y31 a1),(3,bx 26 [L y163 a0])])<|vQ<|qA (Z [p 3 (R 3),p 4 (R 4),p 5 (R 5),p 9 (B (decide (a2.1<0)))] [(5,K 179 y179 a2),(4,K 31 y31 a1),(3,bx 26 [L y163 a0])])<|cD H (fun H=>?_) (fun H=>?_)
 ·refine qA (Z [p 6 (I 0)] [(5,K 179 y179 a2),(4,K 31 y31 a1),(3,bx 26 [L y163 a0])])<|vTT<|fR<|hr H
 refine vK<|fQ<|qD (fun v0=>Z [p 6 (J v0.2.2.1)] [(5,K 179 y179 a2),(4,K 31 y31 a1),(3,bx 26 [L y163 a0])]) H fun v0 H=>vTT<|hr H
def u169(a0:List Int):Option (List Int) :=
 gd ((0+a0.length<=9223372036854775807/\(0+a0.length)*8<=140737488355328)/\True) <|
 some ([]++a0)
def k169:Ct:=lct 169 [.dat i64.sl] (fun x=>u169 x.1) (fun r:List Int=>AV.ow 2 true i64 r) (fun _=>())
theorem o169:Ok prog k169:=by
 refine okL [.tmp 2] func169 ntmps169 results169 ?_;intro y ⟨a0,_⟩ r H Q hn hr;have:HT _ _:=⟨@tn prog⟩;refine qA (Z [p 0 (L i64 a0)] [])<|qB (Z [p 2 (AV.os 3 1)] [(3,A 2 i64 ([]++a0) 1)]) H fun H=>vTT<|hr H
def u191J2:List Int->Option (List Int)
 | v15 =>
 some v15
def u191L3(v0:Y110)(g3:Int×List Int->Option (List Int)):Int×List Int->Option (List Int)
 | (v12,v13) =>
 if(decide (0<v12))=true then
  gd (ix v12 v0.1.length/\ix (v0.1.getD v12.toNat 0) v13.length/\Int.toNat (v0.1.getD v12.toNat 0)<v13.length/\ix v12 v13.length/\v12.toNat<v13.length/\in64 (v13.getD (Int.toNat (v0.1.getD v12.toNat 0)) 0+v13.getD v12.toNat 0)/\ix (v0.1.getD v12.toNat 0) v13.length/\Int.toNat (v0.1.getD v12.toNat 0)<v13.length/\True)<|lt (v13.set (Int.toNat (v0.1.getD v12.toNat 0)) (v13.getD (Int.toNat (v0.1.getD v12.toNat 0)) 0+v13.getD v12.toNat 0)) fun v14 =>
  gd (in64 (v12-1)/\True) <|
  g3 (v12-1,v14)
 else
  u191J2 v13
def u191J0(v0:Y110):List Int->Option (List Int)
 | v10 =>
 gd (in64 ((v10.length:Int)-1)/\True) <|
 lp (u191L3 v0) (((v10.length:Int)-1,v10))
def u191L1(a0:Y34)(v2:List Y179)(v3:List Int)(v0:Y110)(g1:Int×List Int->Option (List Int)):Int×List Int->Option (List Int)
 | (v6,v7) =>
 if(decide (v6 < (v3.length:Int)))=true then
  gd (ix v6 v0.2.2.2.length/\ix (v0.2.2.2.getD v6.toNat 0) v7.length/\Int.toNat (v0.2.2.2.getD v6.toNat 0)<v7.length/\ix v6 v3.length/\v6.toNat<v3.length/\ix (v3.getD v6.toNat 0) v2.length/\Int.toNat (v3.getD v6.toNat 0)<v2.length/\(u232 a0.1 a0.2.1 (v2.getD (Int.toNat (v3.getD v6.toNat 0)) (dflt y179))).isSome=true/\in64 (v7.getD (Int.toNat (v0.2.2.2.getD v6.toNat 0)) 0+vl (u232 a0.1 a0.2.1 (v2.getD (Int.toNat (v3.getD v6.toNat 0)) (dflt y179))))/\ix (v0.2.2.2.getD v6.toNat 0) v7.length/\Int.toNat (v0.2.2.2.getD v6.toNat 0)<v7.length/\True)<|lt ((vl (u232 a0.1 a0.2.1 (v2.getD (Int.toNat (v3.getD v6.toNat 0)) (dflt y179))),v7.set (Int.toNat (v0.2.2.2.getD v6.toNat 0)) (v7.getD (Int.toNat (v0.2.2.2.getD v6.toNat 0)) 0+vl (u232 a0.1 a0.2.1 (v2.getD (Int.toNat (v3.getD v6.toNat 0)) (dflt y179)))))) fun(_v8,v9) =>
  gd (in64 (v6+1)/\True) <|
  g1 (v6+1,v9)
 else
  u191J0 v0 v7
def u191(a0:Y34)(a1:Int):Option (List Int) :=
 gd (ix a1 a0.2.2.length/\True)<|lt (a0.2.2.getD a1.toNat (dflt y110)) fun v0 =>
 gd ((u169 v0.2.2.1).isSome=true/\True)<|lt (vl (u169 v0.2.2.1)) fun v1 =>
 gd ((u124 a0.2.1).isSome=true/\True)<|lt (vl (u124 a0.2.1)) fun v2 =>
 gd ((u71 a0.2.1 a1).isSome=true/\True)<|lt (vl (u71 a0.2.1 a1)) fun v3 =>
 lp (u191L1 a0 v2 v3 v0) (0,v1)
def k191:Ct:=lct 191 [.agg y34,.dat i64] (fun x=>u191 x.1 x.2.1) (fun r:List Int=>AV.ow 2 true i64 r) (fun _=>())
theorem o191:Ok prog k191:=by
 refine okL [.tmp 4] func191 ntmps191 results191 ?_;intro y ⟨a0,a1,_⟩ r H Q hn hr;have:HT _ _:=⟨tc o232 (tc o71 (tc o124 (tc o169 tn)))⟩;refine qA (Z (G40 a1 []) [(2,K 34 y34 a0)])<|qD (fun v0=>Z (G40 a1 [p 5 (R 5)]) (W24 v0 a0)) H fun v0 H=>qD (fun v1=>Z (G40 a1 [p 5 (R 5),p 6 (O 18)]) ((18,A 2 i64 v1 0)::W24 v0 a0)) H fun v1 H=>qD (fun v2=>Z (G40 a1 [p 5 (R 5),p 6 (O 18),p 7 (O 21)]) ((21,A 179 y179 v2 0)::(18,A 2 i64 v1 0)::W24 v0 a0)) H fun v2 H=>qD (fun v3=>Z (G31 [p 8 (O 25)]) ((25,A 2 i64 v3 0)::(21,A 179 y179 v2 0)::(18,A 2 i64 v1 0)::W24 v0 a0)) H fun v3 H=>jN r (fun(v10:List Int)=>Z [p 5 (R 5),p 6 (O 18)] (W44 v10 v0)) (u191J0 v0) (fun v10 H=>?_) (fun _ n0 e0 t0=>?_)
 ·refine jN r (fun(v15:List Int)=>Z [p 6 (O 18)] [(18,A 2 i64 v15 0)]) (u191J2) (fun v15 H=>?_) (fun _ n2 e2 t2=>?_)
  ·refine qA (Z [p 4 (O 18)] [(18,A 2 i64 v15 0)])<|vTT<|hr H
  refine qB (Z (G55 ((v10.length:Int)-1) []) (W44 v10 v0)) H fun H=>vB<|lX (fun((v12,v13):Int×List Int)=>Z (G55 v12 []) (W44 v13 v0)) (((v10.length:Int)-1,v10)) H fun _ g3 b3 e3 t3 ⟨v12,v13⟩ H=>vQ<|qA (Z (G55 v12 [p 58 (B (decide (0<v12)))]) (W44 v13 v0))<|cD H (fun H=>?_) (fun H=>?_)
  ·refine vK<|fQ<|vQ<|vB<|zD (fun v14=>Z (G55 v12 []) (W44 v14 v0)) H fun v14 H=>fK<|fQ<|zB (Z (G55 (v12-1) []) (W44 v14 v0)) H fun H=>b3 H
  exact vE<|fE<|e3<|fX rfl<|n2 H
 refine qA (Z (G31 [p 8 (O 25),p 9 (I 0)]) ((25,A 2 i64 v3 0)::(21,A 179 y179 v2 0)::(18,A 2 i64 v1 0)::W24 v0 a0))<|vB<|lX (fun((v6,v7):Int×List Int)=>Z (G31 [p 8 (O 25),p 9 (I v6)]) ((25,A 2 i64 v3 0)::(21,A 179 y179 v2 0)::(18,A 2 i64 v7 0)::W24 v0 a0)) (0,v1) H fun _ g1 b1 e1 t1 ⟨v6,v7⟩ H=>vQ<|qA (Z (G31 [p 8 (O 25),p 9 (I v6),p 29 (B (decide (v6 < (v3.length:Int))))]) ((25,A 2 i64 v3 0)::(21,A 179 y179 v2 0)::(18,A 2 i64 v7 0)::W24 v0 a0))<|cD H (fun H=>?_) (fun H=>?_)
 ·refine vK<|fQ<|vQ<|vB<|zD (fun(v8,v9)=>Z (G31 [p 8 (O 25),p 9 (I v6)]) ((18,A 2 i64 v9 0)::(25,A 2 i64 v3 0)::(21,A 179 y179 v2 0)::W24 v0 a0)) H fun⟨v8,v9⟩ H =>
   fK<|fQ <|
   zB (Z (G31 [p 8 (O 25),p 9 (I (v6+1))]) ((18,A 2 i64 v9 0)::(25,A 2 i64 v3 0)::(21,A 179 y179 v2 0)::W24 v0 a0)) H fun H =>
   b1 H
 exact vE<|fE<|e1<|fX rfl<|n0 H
def u193J0:List Int->Option (List Int)
 | v8 =>
 some v8
def u193L1(v0:Y110)(v1:List Int)(g1:Int×List Int->Option (List Int)):Int×List Int->Option (List Int)
 | (v4,v5) =>
 if(decide (v4 < (v1.length:Int)))=true then
  gd (ix v4 v0.1.length/\ix (v0.1.getD v4.toNat 0) v5.length/\Int.toNat (v0.1.getD v4.toNat 0)<v5.length/\ix v4 v0.2.1.length/\ix v4 v1.length/\v4.toNat<v1.length/\in64 (v0.2.1.getD v4.toNat 0*v1.getD v4.toNat 0)/\in64 (v5.getD (Int.toNat (v0.1.getD v4.toNat 0)) 0+v0.2.1.getD v4.toNat 0*v1.getD v4.toNat 0)/\(v5.length+[v5.getD (Int.toNat (v0.1.getD v4.toNat 0)) 0+v0.2.1.getD v4.toNat 0*v1.getD v4.toNat 0].length<=9223372036854775807/\(v5.length+[v5.getD (Int.toNat (v0.1.getD v4.toNat 0)) 0+v0.2.1.getD v4.toNat 0*v1.getD v4.toNat 0].length)*8<=140737488355328)/\True)<|lt ((v5++[v5.getD (Int.toNat (v0.1.getD v4.toNat 0)) 0+v0.2.1.getD v4.toNat 0*v1.getD v4.toNat 0],[v5.getD (Int.toNat (v0.1.getD v4.toNat 0)) 0+v0.2.1.getD v4.toNat 0*v1.getD v4.toNat 0])) fun(v6,_v7) =>
  gd (in64 (v4+1)/\True) <|
  g1 (v4+1,v6)
 else
  u193J0 v5
def u193(a0:Y34)(a1:Int):Option (List Int) :=
 gd (ix a1 a0.2.2.length/\True)<|lt (a0.2.2.getD a1.toNat (dflt y110)) fun v0 =>
 gd ((u191 a0 a1).isSome=true/\True)<|lt (vl (u191 a0 a1)) fun v1 =>
 lp (u193L1 v0 v1) (1,[0])
def k193:Ct:=lct 193 [.agg y34,.dat i64] (fun x=>u193 x.1 x.2.1) (fun r:List Int=>AV.ow 2 true i64 r) (fun _=>())
theorem o193:Ok prog k193:=by
 refine okL [.tmp 4] func193 ntmps193 results193 ?_;intro y ⟨a0,a1,_⟩ r H Q hn hr;have:HT _ _:=⟨tc o191 tn⟩;refine qA (Z (G40 a1 []) [(2,K 34 y34 a0)])<|qD (fun v0=>Z (G40 a1 [p 5 (R 5)]) (W24 v0 a0)) H fun v0 H=>qD (fun v1=>Z (G56 []) ((16,A 2 i64 v1 0)::W24 v0 a0)) H fun v1 H=>qA (Z (G56 [p 7 (O 17)]) ((17,A 2 i64 [0] 0)::(16,A 2 i64 v1 0)::W24 v0 a0))<|jN r (fun(v8:List Int)=>Z [p 7 (O 17)] [(17,A 2 i64 v8 0)]) (u193J0) (fun v8 H=>?_) (fun _ n0 e0 t0=>?_)
 ·refine qA (Z [p 4 (O 17)] [(17,A 2 i64 v8 0)])<|vTT<|hr H
 refine qA (Z (G56 [p 7 (O 17),p 8 (I 1)]) ((17,A 2 i64 [0] 0)::(16,A 2 i64 v1 0)::W24 v0 a0))<|vB<|lX (fun((v4,v5):Int×List Int)=>Z (G56 [p 7 (O 17),p 8 (I v4)]) [(17,A 2 i64 v5 0),(16,A 2 i64 v1 0),(5,K 110 y110 v0)]) (1,[0]) H fun _ g1 b1 e1 t1 ⟨v4,v5⟩ H=>vQ<|qA (Z (G56 [p 7 (O 17),p 8 (I v4),p 21 (B (decide (v4 < (v1.length:Int))))]) [(17,A 2 i64 v5 0),(16,A 2 i64 v1 0),(5,K 110 y110 v0)])<|cD H (fun H=>?_) (fun H=>?_)
 ·refine vK<|fQ<|vQ<|vB<|zD (fun(v6,v7)=>Z (G56 [p 7 (AV.os 17 1),p 8 (I v4)]) [(17,A 2 i64 v6 1),(44,A 2 i64 v7 0),(16,A 2 i64 v1 0),(5,K 110 y110 v0)]) H fun⟨v6,v7⟩ H =>
   fK<|fQ <|
   zB (Z (G56 [p 7 (AV.os 17 1),p 8 (I (v4+1))]) [(17,A 2 i64 v6 1),(44,A 2 i64 v7 0),(16,A 2 i64 v1 0),(5,K 110 y110 v0)]) H fun H =>
   b1 H
 exact vE<|fE<|e1<|fX rfl<|n0 H
def u155(a0:Y34)(a1:Y48):Option (Int) :=
 gd ((u124 a0.2.1).isSome=true/\(0:Int) < (2:Int)/\ix (a1.2.1.tdiv (2:Int)) (vl (u124 a0.2.1)).length/\(a1.2.1.tdiv (2:Int)).toNat < (vl (u124 a0.2.1)).length/\True)<|lt ((vl (u124 a0.2.1),(vl (u124 a0.2.1)).getD (a1.2.1.tdiv 2).toNat (dflt y179))) fun(_v0,v1) =>
 some v1.2.2.1
def k155:Ct:=lct 155 [.agg y34,.agg y48] (fun x=>u155 x.1 x.2.1) (fun r:Int=>I r) (fun _=>())
theorem o155:Ok prog k155:=by
 refine okL [.tmp 4] func155 ntmps155 results155 ?_;intro y ⟨a0,a1,_⟩ r H Q hn hr;have:HT _ _:=⟨tc o124 tn⟩;refine qA (Z (G7 []) [(3,K 48 y48 a1),(2,K 34 y34 a0)])<|qD (fun(v0,v1)=>Z [p 4 (I v1.2.2.1)] [(7,A 179 y179 v0 0),(3,K 48 y48 a1),(2,K 34 y34 a0)]) H fun⟨v0,v1⟩ H =>
  vTT<|hr H
def u192J0:Unit->Option (Int×Int×Int)
 | _ =>
 some (((0:Int),(1:Int),(0:Int)))
def u192L1(a0:List Int)(v0:Int)(g1:Int->Option (Int×Int×Int)):Int->Option (Int×Int×Int)
 | v1 =>
 if(decide (0<=v1))=true then
  gd (ix v1 a0.length/\True) <|
  if(v0==a0.getD v1.toNat 0)=true then
   some ((v1,(1:Int),(0:Int)))
  else
   gd (ix v1 a0.length/\True) <|
   if(decide (a0.getD v1.toNat 0<v0))=true then
    gd (in64 (v1+1)/\ix (v1+1) a0.length/\in64 (a0.getD (v1+1).toNat 0-v0)/\ix v1 a0.length/\in64 (v0-a0.getD v1.toNat 0)/\True) <|
    some ((v1,a0.getD (v1+1).toNat 0-v0,v0-a0.getD v1.toNat 0))
   else
    gd (in64 (v1-1)/\True) <|
    g1 (v1-1)
 else
  u192J0 ()
def u192(a0:List Int)(a1:Int):Option (Int×Int×Int) :=
 gd (ix 0 a0.length/\True) <|
 gd (in64 ((a0.length:Int)-1)/\ix ((a0.length:Int)-1) a0.length/\True)<|lt (min (max a1 (a0.getD (Int.toNat (0:Int)) (0:Int))) (a0.getD ((a0.length:Int)-(1:Int)).toNat (0:Int))) fun v0 =>
 gd (in64 ((a0.length:Int)-1)/\True) <|
 lp (u192L1 a0 v0) ((a0.length:Int)-1)
def k192:Ct:=lct 192 [.dat i64.sl,.dat i64] (fun x=>u192 x.1 x.2.1) (fun r:Int×Int×Int=>AV.tup [I r.1,I r.2.1,I r.2.2]) (fun _=>())
theorem o192:Ok prog k192:=by
 refine okL [.tmp 4,.tmp 5,.tmp 6] func192 ntmps192 results192 ?_;intro y ⟨a0,a1,_⟩ r H Q hn hr;have:HT _ _:=⟨@tn prog⟩;refine qA (Z (G83 a0 a1 []) [])<|qA (Z (G83 a0 a1 [p 7 (I (a0.length:Int))]) [])<|qB (Z [p 0 (L i64 a0),p 1 (I (max a1 (a0.getD (Int.toNat (0:Int)) (0:Int)))),p 7 (I (a0.length:Int))] []) H fun H=>qD (fun v0=>Z [p 0 (L i64 a0),p 1 (I v0),p 7 (I (a0.length:Int))] []) H fun v0 H=>jN r (fun(_:Unit)=>Z [] []) (u192J0) (fun _ H=>?_) (fun _ n0 e0 t0=>?_)
 ·refine qA (Z [p 4 (I 0),p 5 (I 1),p 6 (I 0)] [])<|vTT<|hr H
 refine qB (Z [p 0 (L i64 a0),p 1 (I v0),p 8 (I ((a0.length:Int)-1))] []) H fun H=>vB<|lX (fun(v1:Int)=>Z [p 0 (L i64 a0),p 1 (I v0),p 8 (I v1)] []) ((a0.length:Int)-1) H fun _ g1 b1 e1 t1 v1 H=>vQ<|qA (Z [p 0 (L i64 a0),p 1 (I v0),p 8 (I v1),p 26 (B (decide (0<=v1)))] [])<|cD H (fun H=>?_) (fun H=>?_)
 ·refine vK<|fQ<|vQ<|vB<|vQ<|qB (Z [p 0 (L i64 a0),p 1 (I v0),p 8 (I v1),p 34 (B (v0==a0.getD v1.toNat 0))] []) H fun H=>cD H (fun H=>?_) (fun H=>?_)
  ·refine qA (Z [p 4 (I v1),p 5 (I 1),p 6 (I 0)] [])<|vTT<|fR<|fDD<|fR<|t1<|fDD<|t0<|hr H
  refine vK<|fQ<|qB (Z [p 0 (L i64 a0),p 1 (I v0),p 8 (I v1),p 41 (B (decide (a0.getD v1.toNat 0<v0)))] []) H fun H=>cD H (fun H=>?_) (fun H=>?_)
  ·refine qB (Z [p 4 (I v1),p 5 (I (a0.getD (v1+1).toNat 0-v0)),p 6 (I (v0-a0.getD v1.toNat 0))] []) H fun H=>vTT<|fDD<|fR<|t1<|fDD<|t0<|hr H
  refine vK<|fK<|fQ<|zB (Z [p 0 (L i64 a0),p 1 (I v0),p 8 (I (v1-1))] []) H fun H=>b1 H
 exact vE<|fE<|e1<|fX rfl<|n0 H
def u153J0(v0:Int×Int×Int)(v1:Int×Int×Int)(a3:Int):Int->Option (Int)
 | v26 =>
 gd (in64 (v0.2.1+v0.2.2)/\in64 (v1.2.1+v1.2.2)/\in64 ((v0.2.1+v0.2.2)*(v1.2.1+v1.2.2))/\(u156 v26 ((v0.2.1+v0.2.2)*(v1.2.1+v1.2.2)) a3).isSome=true/\True)<|lt (vl (u156 v26 ((v0.2.1+v0.2.2)*(v1.2.1+v1.2.2)) a3)) fun v27 =>
 some v27
def u153J2(v14:Int)(g1:Int×Int->Option (Int)):Int->Option (Int)
 | v25 =>
 gd (in64 (v14+1)/\True) <|
 g1 (v25,v14+1)
def u153J4(v20:Int)(g3:Int×Int->Option (Int)):Int->Option (Int)
 | v24 =>
 gd (in64 (v20+1)/\True) <|
 g3 (v24,v20+1)
def u153J6(v20:Int)(v19:Int)(a0:Y140)(v0:Int×Int×Int)(v14:Int)(v1:Int×Int×Int)(g3:Int×Int->Option (Int)):Int->Option (Int)
 | v22 =>
 if(decide (0<v22))=true then
  gd (in64 (v0.1+v14)/\in64 ((v0.1+v14)*(a0.2.1.length:Int))/\in64 ((v0.1+v14)*(a0.2.1.length:Int)+v1.1)/\in64 ((v0.1+v14)*(a0.2.1.length:Int)+v1.1+v20)/\ix ((v0.1+v14)*(a0.2.1.length:Int)+v1.1+v20) a0.2.2.length/\in64 (v22*a0.2.2.getD ((v0.1+v14)*(a0.2.1.length:Int)+v1.1+v20).toNat 0)/\in64 (v19+v22*a0.2.2.getD ((v0.1+v14)*(a0.2.1.length:Int)+v1.1+v20).toNat 0)/\True)<|lt (v19+v22*a0.2.2.getD ((v0.1+v14)*(a0.2.1.length:Int)+v1.1+v20).toNat 0) fun v23 =>
  u153J4 v20 g3 v23
 else
  u153J4 v20 g3 v19
def u153J5(v20:Int)(v19:Int)(a0:Y140)(v0:Int×Int×Int)(v14:Int)(v1:Int×Int×Int)(g3:Int×Int->Option (Int)):Int->Option (Int)
 | v21 =>
 if(v20==0)=true then
  gd (in64 (v21*v1.2.1)/\True) <|
  u153J6 v20 v19 a0 v0 v14 v1 g3 (v21*v1.2.1)
 else
  gd (in64 (v21*v1.2.2)/\True) <|
  u153J6 v20 v19 a0 v0 v14 v1 g3 (v21*v1.2.2)
def u153L3(a0:Y140)(v0:Int×Int×Int)(v14:Int)(v1:Int×Int×Int)(g1:Int×Int->Option (Int))(g3:Int×Int->Option (Int)):Int×Int->Option (Int)
 | (v19,v20) =>
 if(decide (v20<2))=true then
  if(v14==1)=true then
   u153J5 v20 v19 a0 v0 v14 v1 g3 v0.2.2
  else
   u153J5 v20 v19 a0 v0 v14 v1 g3 v0.2.1
 else
  u153J2 v14 g1 v19
def u153L1(a0:Y140)(v0:Int×Int×Int)(v1:Int×Int×Int)(a3:Int)(g1:Int×Int->Option (Int)):Int×Int->Option (Int)
 | (v13,v14) =>
 if(decide (v14<2))=true then
  lp (u153L3 a0 v0 v14 v1 g1) (v13,0)
 else
  u153J0 v0 v1 a3 v13
def u153(a0:Y140)(a1:Int)(a2:Int)(a3:Int):Option (Int) :=
 gd ((u192 a0.1 a1).isSome=true/\True)<|lt (vl (u192 a0.1 a1)) fun v0 =>
 gd ((u192 a0.2.1 a2).isSome=true/\True)<|lt (vl (u192 a0.2.1 a2)) fun v1 =>
 lp (u153L1 a0 v0 v1 a3) (0,0)
def k153:Ct:=lct 153 [.agg y140,.dat i64,.dat i64,.dat i64] (fun x=>u153 x.1 x.2.1 x.2.2.1 x.2.2.2.1) (fun r:Int=>I r) (fun _=>())
theorem o153:Ok prog k153:=by
 refine okL [.tmp 8] func153 ntmps153 results153 ?_;intro y ⟨a0,a1,a2,a3,_⟩ r H Q hn hr;have:HT _ _:=⟨tc o156 (tc o192 tn)⟩;refine qA (Z (G52 a1 a2 [p 3 (J a3),p 4 (R 4)]) [(4,K 140 y140 a0)])<|qD (fun v0=>Z [p 2 (J a2),p 3 (J a3),p 4 (R 4),p 9 (I v0.1),p 10 (I v0.2.1),p 11 (I v0.2.2)] [(4,K 140 y140 a0)]) H fun v0 H=>qD (fun v1=>Z [p 3 (J a3),p 4 (R 4),p 9 (I v0.1),p 10 (I v0.2.1),p 11 (I v0.2.2),p 12 (I v1.1),p 13 (I v1.2.1),p 14 (I v1.2.2)] [(4,K 140 y140 a0)]) H fun v1 H=>qA (Z (G4 a3 v0.1 v0.2.1 v0.2.2 v1.1 v1.2.1 v1.2.2 (a0.2.1.length:Int) []) [(4,K 140 y140 a0)])<|qA (Z (G4 a3 v0.1 v0.2.1 v0.2.2 v1.1 v1.2.1 v1.2.2 (a0.2.1.length:Int) [p 16 (I 0)]) [(4,K 140 y140 a0)])<|jN r (fun(v26:Int)=>Z [p 3 (J a3),p 10 (I v0.2.1),p 11 (I v0.2.2),p 13 (I v1.2.1),p 14 (I v1.2.2),p 16 (I v26)] []) (u153J0 v0 v1 a3) (fun v26 H=>?_) (fun _ n0 e0 t0=>?_)
 ·refine qD (fun v27=>Z [p 8 (I v27)] []) H fun v27 H=>vTT<|hr H
 refine qA (Z (G4 a3 v0.1 v0.2.1 v0.2.2 v1.1 v1.2.1 v1.2.2 (a0.2.1.length:Int) [p 16 (I 0),p 17 (I 0)]) [(4,K 140 y140 a0)])<|vB<|lX (fun((v13,v14):Int×Int)=>Z (G4 a3 v0.1 v0.2.1 v0.2.2 v1.1 v1.2.1 v1.2.2 (a0.2.1.length:Int) [p 16 (I v13),p 17 (I v14)]) [(4,K 140 y140 a0)]) (0,0) H fun _ g1 b1 e1 t1 ⟨v13,v14⟩ H=>vQ<|qA (Z (G4 a3 v0.1 v0.2.1 v0.2.2 v1.1 v1.2.1 v1.2.2 (a0.2.1.length:Int) [p 16 (I v13),p 17 (I v14),p 40 (B (decide (v14<2)))]) [(4,K 140 y140 a0)])<|cD H (fun H=>?_) (fun H=>?_)
 ·refine vK<|fQ<|jN r (fun(v25:Int)=>Z (G4 a3 v0.1 v0.2.1 v0.2.2 v1.1 v1.2.1 v1.2.2 (a0.2.1.length:Int) [p 16 (I v25),p 17 (I v14)]) [(4,K 140 y140 a0)]) (u153J2 v14 g1) (fun v25 H=>?_) (fun _ n2 e2 t2=>?_)
  ·refine zB (Z (G4 a3 v0.1 v0.2.1 v0.2.2 v1.1 v1.2.1 v1.2.2 (a0.2.1.length:Int) [p 16 (I v25),p 17 (I (v14+1))]) [(4,K 140 y140 a0)]) H fun H=>b1 H
  refine vB<|qA (Z (G4 a3 v0.1 v0.2.1 v0.2.2 v1.1 v1.2.1 v1.2.2 (a0.2.1.length:Int) [p 16 (I v13),p 17 (I v14),p 18 (I 0)]) [(4,K 140 y140 a0)])<|vB<|lX (fun((v19,v20):Int×Int)=>Z (G4 a3 v0.1 v0.2.1 v0.2.2 v1.1 v1.2.1 v1.2.2 (a0.2.1.length:Int) [p 16 (I v19),p 17 (I v14),p 18 (I v20)]) [(4,K 140 y140 a0)]) (v13,0) H fun _ g3 b3 e3 t3 ⟨v19,v20⟩ H=>vQ<|qA (Z (G4 a3 v0.1 v0.2.1 v0.2.2 v1.1 v1.2.1 v1.2.2 (a0.2.1.length:Int) [p 16 (I v19),p 17 (I v14),p 18 (I v20),p 44 (B (decide (v20<2)))]) [(4,K 140 y140 a0)])<|cD H (fun H=>?_) (fun H=>?_)
  ·refine vK<|fQ<|jN r (fun(v24:Int)=>Z (G4 a3 v0.1 v0.2.1 v0.2.2 v1.1 v1.2.1 v1.2.2 (a0.2.1.length:Int) [p 16 (I v24),p 17 (I v14),p 18 (I v20)]) [(4,K 140 y140 a0)]) (u153J4 v20 g3) (fun v24 H=>?_) (fun _ n4 e4 t4=>?_)
   ·refine zB (Z (G4 a3 v0.1 v0.2.1 v0.2.2 v1.1 v1.2.1 v1.2.2 (a0.2.1.length:Int) [p 16 (I v24),p 17 (I v14),p 18 (I (v20+1))]) [(4,K 140 y140 a0)]) H fun H=>b3 H
   refine vB<|qA (Z (G4 a3 v0.1 v0.2.1 v0.2.2 v1.1 v1.2.1 v1.2.2 (a0.2.1.length:Int) [p 16 (I v19),p 17 (I v14),p 18 (I v20),p 19 (I v0.2.1)]) [(4,K 140 y140 a0)])<|jN r (fun(v21:Int)=>Z (G4 a3 v0.1 v0.2.1 v0.2.2 v1.1 v1.2.1 v1.2.2 (a0.2.1.length:Int) [p 16 (I v19),p 17 (I v14),p 18 (I v20),p 19 (I v21)]) [(4,K 140 y140 a0)]) (u153J5 v20 v19 a0 v0 v14 v1 g3) (fun v21 H=>?_) (fun _ n5 e5 t5=>?_)
   ·refine jN r (fun(v22:Int)=>Z (G4 a3 v0.1 v0.2.1 v0.2.2 v1.1 v1.2.1 v1.2.2 (a0.2.1.length:Int) [p 16 (I v19),p 17 (I v14),p 18 (I v20),p 19 (I v22)]) [(4,K 140 y140 a0)]) (u153J6 v20 v19 a0 v0 v14 v1 g3) (fun v22 H=>?_) (fun _ n6 e6 t6=>?_)
    ·refine qA (Z (G4 a3 v0.1 v0.2.1 v0.2.2 v1.1 v1.2.1 v1.2.2 (a0.2.1.length:Int) [p 16 (I v19),p 17 (I v14),p 18 (I v20),p 19 (I v22),p 60 (B (decide (0<v22)))]) [(4,K 140 y140 a0)])<|cD H (fun H=>?_) (fun H=>?_)
     ·refine zD (fun v23=>Z (G4 a3 v0.1 v0.2.1 v0.2.2 v1.1 v1.2.1 v1.2.2 (a0.2.1.length:Int) [p 16 (I v23),p 17 (I v14),p 18 (I v20)]) [(4,K 140 y140 a0)]) H fun v23 H=>fK<|n4 H
     exact vK<|fK<|n4 H
    refine qA (Z (G4 a3 v0.1 v0.2.1 v0.2.2 v1.1 v1.2.1 v1.2.2 (a0.2.1.length:Int) [p 16 (I v19),p 17 (I v14),p 18 (I v20),p 19 (I v21),p 52 (B (v20==0))]) [(4,K 140 y140 a0)])<|cD H (fun H=>?_) (fun H=>?_)
    ·refine zB (Z (G4 a3 v0.1 v0.2.1 v0.2.2 v1.1 v1.2.1 v1.2.2 (a0.2.1.length:Int) [p 16 (I v19),p 17 (I v14),p 18 (I v20),p 19 (I (v21*v1.2.1))]) [(4,K 140 y140 a0)]) H fun H=>n6 H
    refine zB (Z (G4 a3 v0.1 v0.2.1 v0.2.2 v1.1 v1.2.1 v1.2.2 (a0.2.1.length:Int) [p 16 (I v19),p 17 (I v14),p 18 (I v20),p 19 (I (v21*v1.2.2))]) [(4,K 140 y140 a0)]) H fun H=>n6 H
   refine qA (Z (G4 a3 v0.1 v0.2.1 v0.2.2 v1.1 v1.2.1 v1.2.2 (a0.2.1.length:Int) [p 16 (I v19),p 17 (I v14),p 18 (I v20),p 19 (I v0.2.1),p 49 (B (v14==1))]) [(4,K 140 y140 a0)])<|cD H (fun H=>?_) (fun H=>?_)
   ·refine zA (Z (G4 a3 v0.1 v0.2.1 v0.2.2 v1.1 v1.2.1 v1.2.2 (a0.2.1.length:Int) [p 16 (I v19),p 17 (I v14),p 18 (I v20),p 19 (I v0.2.2)]) [(4,K 140 y140 a0)])<|n5 H
   exact vK<|n5 H
  exact vE<|fE<|e3<|fX rfl<|fK<|n2 H
 exact vE<|fE<|e1<|fX rfl<|n0 H
def u152(a0:Y34)(a1:Y48):Option (Y143×Int) :=
 gd ((u124 a0.2.1).isSome=true/\(0:Int) < (2:Int)/\ix (a1.2.1.tdiv (2:Int)) (vl (u124 a0.2.1)).length/\(a1.2.1.tdiv (2:Int)).toNat < (vl (u124 a0.2.1)).length/\True)<|lt ((vl (u124 a0.2.1),(vl (u124 a0.2.1)).getD (a1.2.1.tdiv 2).toNat (dflt y179))) fun(_v0,v1) =>
 gd (ix v1.1 a0.2.1.1.length/\ix (a0.2.1.1.getD v1.1.toNat (dflt y165)).2.1 a0.1.length/\ix a1.2.2.2 (a0.1.getD (a0.2.1.1.getD v1.1.toNat (dflt y165)).2.1.toNat (dflt y163)).2.2.2.1.length/\(u191 a0 v1.2.2.1).isSome=true/\ix (0:Int) (vl (u191 a0 v1.2.2.1)).length/\Int.toNat (0:Int) < (vl (u191 a0 v1.2.2.1)).length/\True)<|lt ((vl (u191 a0 v1.2.2.1),(a0.1.getD (a0.2.1.1.getD v1.1.toNat (dflt y165)).2.1.toNat (dflt y163)).2.2.2.1.getD a1.2.2.2.toNat (dflt y143))) fun(v2,v3) =>
 some ((v3,v2.getD (Int.toNat (0:Int)) (0:Int)))
def k152:Ct:=lct 152 [.agg y34,.agg y48] (fun x=>u152 x.1 x.2.1) (fun r:Y143×Int=>AV.tup [AV.agg (Q12 r.1),I r.2]) (fun _=>())
theorem o152:Ok prog k152:=by
 refine okL [.cell 4 143,.tmp 5] func152 ntmps152 results152 ?_;intro y ⟨a0,a1,_⟩ r H Q hn hr;have:HT _ _:=⟨tc o191 (tc o124 tn)⟩;refine qA (Z (G7 [p 4 (R 4)]) [(4,bx 143 [I 0,I 0,I 0,I 0,nil,nil]),(3,K 48 y48 a1),(2,K 34 y34 a0)])<|qD (fun(v0,v1)=>Z (G7 [p 4 (R 4),p 6 (R 6)]) [(6,bx 179 (cellsD true y179 v1)),(9,A 179 y179 v0 0),(4,bx 143 [I 0,I 0,I 0,I 0,nil,nil]),(3,K 48 y48 a1),(2,K 34 y34 a0)]) H fun⟨v0,v1⟩ H =>
  qD (fun(v2,v3)=>Z [p 4 (R 4),p 5 (I (v2.getD (Int.toNat (0:Int)) (0:Int)))] [(4,K 143 y143 v3),(36,A 2 i64 v2 0),(6,bx 179 (cellsD true y179 v1)),(9,A 179 y179 v0 0),(3,K 48 y48 a1),(2,K 34 y34 a0)]) H fun⟨v2,v3⟩ H =>
  vTT<|hr H
def u157(a0:Y65)(a1:Int)(a2:Int):Option (Int) :=
 if(a1==1)=true then
  if(a2==0)=true then
   some a0.2.1
  else
   some a0.2.2.1
 else
  if(a2==0)=true then
   some a0.2.2.2.1
  else
   some a0.2.2.2.2
def k157:Ct:=lct 157 [.agg y65,.dat i64,.dat i64] (fun x=>u157 x.1 x.2.1 x.2.2.1) (fun r:Int=>I r) (fun _=>())
theorem o157:Ok prog k157:=by
 refine okL [.tmp 6] func157 ntmps157 results157 ?_;intro y ⟨a0,a1,a2,_⟩ r H Q hn hr;have:HT _ _:=⟨@tn prog⟩;refine qA (Z (G52 a1 a2 [p 3 (R 3)]) [(3,K 65 y65 a0)])<|vQ<|qA (Z [p 2 (J a2),p 3 (R 3),p 8 (B (a1==1))] [(3,K 65 y65 a0)])<|cD H (fun H=>?_) (fun H=>?_)
 ·refine vQ<|qA (Z [p 3 (R 3),p 10 (B (a2==0))] [(3,K 65 y65 a0)])<|cD H (fun H=>?_) (fun H=>?_)
  ·refine qA (Z [p 6 (J a0.2.1)] [(3,K 65 y65 a0)])<|vTT<|fR<|fR<|hr H
  refine vK<|fQ<|qA (Z [p 6 (J a0.2.2.1)] [(3,K 65 y65 a0)])<|vTT<|fR<|hr H
 refine vK<|fQ<|vQ<|qA (Z [p 3 (R 3),p 16 (B (a2==0))] [(3,K 65 y65 a0)])<|cD H (fun H=>?_) (fun H=>?_)
 ·refine qA (Z [p 6 (J a0.2.2.2.1)] [(3,K 65 y65 a0)])<|vTT<|fR<|hr H
 refine vK<|fQ<|qA (Z [p 6 (J a0.2.2.2.2)] [(3,K 65 y65 a0)])<|vTT<|hr H
def u154J0:List Int->Option (List Int)
 | v5 =>
 some v5
def u154L1(v0:List Int)(a0:Y34)(a1:Int)(a2:Int)(g1:Int×List Int->Option (List Int)):Int×List Int->Option (List Int)
 | (v2,v3) =>
 gd (ix a1 a0.2.2.length/\True) <|
 if(decide (v2 < (↑(a0.2.2.getD a1.toNat (dflt y110)).2.2.2.length:Int)))=true then
  gd (ix a1 a0.2.2.length/\ix v2 (a0.2.2.getD a1.toNat (dflt y110)).2.2.2.length/\ix ((a0.2.2.getD a1.toNat (dflt y110)).2.2.2.getD v2.toNat 0) v0.length/\Int.toNat ((a0.2.2.getD a1.toNat (dflt y110)).2.2.2.getD v2.toNat 0)<v0.length/\(u156 (v0.getD (Int.toNat ((a0.2.2.getD a1.toNat (dflt y110)).2.2.2.getD v2.toNat 0)) 0) 1000 a2).isSome=true/\(v3.length+[vl (u156 (v0.getD (Int.toNat ((a0.2.2.getD a1.toNat (dflt y110)).2.2.2.getD v2.toNat 0)) 0) 1000 a2)].length<=9223372036854775807/\(v3.length+[vl (u156 (v0.getD (Int.toNat ((a0.2.2.getD a1.toNat (dflt y110)).2.2.2.getD v2.toNat 0)) 0) 1000 a2)].length)*8<=140737488355328)/\True)<|lt (vl (u156 (v0.getD (Int.toNat ((a0.2.2.getD a1.toNat (dflt y110)).2.2.2.getD v2.toNat 0)) 0) 1000 a2)) fun v4 =>
  gd (in64 (v2+1)/\True) <|
  g1 (v2+1,v3++[v4])
 else
  u154J0 v3
def u154(a0:Y34)(a1:Int)(a2:Int):Option (List Int) :=
 gd ((u193 a0 a1).isSome=true/\True)<|lt (vl (u193 a0 a1)) fun v0 =>
 lp (u154L1 v0 a0 a1 a2) (0,[])
def k154:Ct:=lct 154 [.agg y34,.dat i64,.dat i64] (fun x=>u154 x.1 x.2.1 x.2.2.1) (fun r:List Int=>AV.ow 2 true i64 r) (fun _=>())
theorem o154:Ok prog k154:=by
 refine okL [.tmp 6] func154 ntmps154 results154 ?_;intro y ⟨a0,a1,a2,_⟩ r H Q hn hr;have:HT _ _:=⟨tc o156 (tc o193 tn)⟩;refine qA (Z (G52 a1 a2 [p 3 (R 3)]) [(3,K 34 y34 a0)])<|qD (fun v0=>Z (G52 a1 a2 [p 3 (R 3),p 7 (O 12)]) [(12,A 2 i64 v0 0),(3,K 34 y34 a0)]) H fun v0 H=>qA (Z (G52 a1 a2 [p 3 (R 3),p 7 (O 12),p 8 (O 13)]) [(13,A 2 i64 [] 0),(12,A 2 i64 v0 0),(3,K 34 y34 a0)])<|jN r (fun(v5:List Int)=>Z [p 8 (O 13)] [(13,A 2 i64 v5 0)]) (u154J0) (fun v5 H=>?_) (fun _ n0 e0 t0=>?_)
 ·refine qA (Z [p 6 (O 13)] [(13,A 2 i64 v5 0)])<|vTT<|hr H
 refine qA (Z (G52 a1 a2 [p 3 (R 3),p 7 (O 12),p 8 (O 13),p 9 (I 0)]) [(13,A 2 i64 [] 0),(12,A 2 i64 v0 0),(3,K 34 y34 a0)])<|vB<|lX (fun((v2,v3):Int×List Int)=>Z (G52 a1 a2 [p 3 (R 3),p 7 (O 12),p 8 (O 13),p 9 (I v2)]) [(13,A 2 i64 v3 0),(12,A 2 i64 v0 0),(3,K 34 y34 a0)]) (0,[]) H fun _ g1 b1 e1 t1 ⟨v2,v3⟩ H=>vQ<|qB (Z (G52 a1 a2 [p 3 (R 3),p 7 (O 12),p 8 (O 13),p 9 (I v2),p 22 (B (decide (v2 < (↑(a0.2.2.getD a1.toNat (dflt y110)).2.2.2.length:Int))))]) [(13,A 2 i64 v3 0),(12,A 2 i64 v0 0),(3,K 34 y34 a0)]) H fun H=>cD H (fun H=>?_) (fun H=>?_)
 ·refine vK<|fQ<|vQ<|vB<|zD (fun v4=>Z (G52 a1 a2 [p 3 (R 3),p 7 (O 12),p 8 (AV.os 13 1),p 9 (I v2)]) [(13,A 2 i64 (v3++[v4]) 1),(40,A 2 i64 [v4] 0),(12,A 2 i64 v0 0),(3,K 34 y34 a0)]) H fun v4 H=>fK<|fQ<|zB (Z (G52 a1 a2 [p 3 (R 3),p 7 (O 12),p 8 (AV.os 13 1),p 9 (I (v2+1))]) [(13,A 2 i64 (v3++[v4]) 1),(40,A 2 i64 [v4] 0),(12,A 2 i64 v0 0),(3,K 34 y34 a0)]) H fun H=>b1 H
 exact vE<|fE<|e1<|fX rfl<|n0 H
def u99J0(a1:Y65)(a2:Y48)(a4:Int):Int->Option (Int)
 | v3 =>
 gd ((u157 a1 a2.2.2.1 a4).isSome=true/\in64 (v3*vl (u157 a1 a2.2.2.1 a4))/\(u156 (v3*vl (u157 a1 a2.2.2.1 a4)) 1000 a4).isSome=true/\True)<|lt (vl (u156 (v3*vl (u157 a1 a2.2.2.1 a4)) 1000 a4)) fun v4 =>
 some v4
def u99(a0:Y34)(a1:Y65)(a2:Y48)(a3:Int)(a4:Int):Option (Int) :=
 if(a2.2.2.1==1)=true then
  gd ((u152 a0 a2).isSome=true/\True)<|lt (vl (u152 a0 a2)) fun v0 =>
  gd ((0:Int) < (2:Int)/\ix (a2.2.1.tmod (2:Int)) v0.1.2.2.2.2.1.length/\(u153 (v0.1.2.2.2.2.1.getD (a2.2.1.tmod (2:Int)).toNat (dflt y140)) a3 v0.2 a4).isSome=true/\True)<|lt (vl (u153 (v0.1.2.2.2.2.1.getD (a2.2.1.tmod 2).toNat (dflt y140)) a3 v0.2 a4)) fun v1 =>
  u99J0 a1 a2 a4 v1
 else
  gd ((u155 a0 a2).isSome=true/\(u154 a0 (vl (u155 a0 a2)) a4).isSome=true/\ix a2.2.2.2 (vl (u154 a0 (vl (u155 a0 a2)) a4)).length/\a2.2.2.2.toNat < (vl (u154 a0 (vl (u155 a0 a2)) a4)).length/\True)<|lt (vl (u154 a0 (vl (u155 a0 a2)) a4)) fun v2 =>
  u99J0 a1 a2 a4 (v2.getD a2.2.2.2.toNat 0)
def k99:Ct:=lct 99 [.agg y34,.agg y65,.agg y48,.dat i64,.dat i64] (fun x=>u99 x.1 x.2.1 x.2.2.1 x.2.2.2.1 x.2.2.2.2.1) (fun r:Int=>I r) (fun _=>())
theorem o99:Ok prog k99:=by
 refine okL [.tmp 10] func99 ntmps99 results99 ?_;intro y ⟨a0,a1,a2,a3,a4,_⟩ r H Q hn hr;have:HT _ _:=⟨tc o156 (tc o157 (tc o154 (tc o155 (tc o153 (tc o152 tn)))))⟩;refine qA (Z [p 3 (J a3),p 4 (J a4),p 5 (R 5),p 6 (R 6),p 7 (R 7)] ((7,K 48 y48 a2)::W26 a1 a0))<|qA (Z [p 3 (J a3),p 4 (J a4),p 5 (R 5),p 6 (R 6),p 7 (R 7)] ((7,K 48 y48 a2)::W26 a1 a0))<|jN r (fun(v3:Int)=>Z [p 4 (J a4),p 6 (R 6),p 7 (R 7),p 11 (I v3)] [(7,K 48 y48 a2),(6,K 65 y65 a1)]) (u99J0 a1 a2 a4) (fun v3 H=>?_) (fun _ n0 e0 t0=>?_)
 ·refine qD (fun v4=>Z [p 10 (I v4)] [(7,K 48 y48 a2),(6,K 65 y65 a1)]) H fun v4 H=>vTT<|hr H
 refine qA (Z [p 3 (J a3),p 4 (J a4),p 5 (R 5),p 6 (R 6),p 7 (R 7),p 16 (B (a2.2.2.1==1))] ((7,K 48 y48 a2)::W26 a1 a0))<|cD H (fun H=>?_) (fun H=>?_)
 ·refine qD (fun v0=>Z [p 3 (J a3),p 4 (J a4),p 6 (R 6),p 7 (R 7),p 12 (R 12),p 13 (I v0.2)] ((12,bx 143 (Q12 v0.1))::(7,K 48 y48 a2)::W26 a1 a0)) H fun v0 H=>zD (fun v1=>Z [p 4 (J a4),p 6 (R 6),p 7 (R 7),p 11 (I v1)] ((12,bx 143 (Q12 v0.1))::(7,K 48 y48 a2)::W26 a1 a0)) H fun v1 H=>n0 H
 refine zD (fun v2=>Z [p 4 (J a4),p 6 (R 6),p 7 (R 7),p 11 (I (v2.getD a2.2.2.2.toNat 0))] ((39,A 2 i64 v2 0)::(7,K 48 y48 a2)::W26 a1 a0)) H fun v2 H=>n0 H
def u98(a0:Int):Option (Bool) :=
 some (a0==0||a0==1)
def k98:Ct:=lct 98 [.dat i64] (fun x=>u98 x.1) (fun r:Bool=>B r) (fun _=>())
theorem o98:Ok prog k98:=by
 refine okL [.tmp 2] func98 ntmps98 results98 ?_;intro y ⟨a0,_⟩ r H Q hn hr;have:HT _ _:=⟨@tn prog⟩;refine qA (Z [p 0 (J a0)] [])<|qA (Z [p 2 (B (a0==0||a0==1))] [])<|vTT<|hr H
def u96J0(a0:Y65):Unit->Option (Bool)
 | _ =>
 gd ((u151 a0.1).isSome=true/\True) <|
 some (vl (u151 a0.1)&&decide (a0.2.1<=a0.2.2.1)&&decide (a0.2.2.2.1<=a0.2.2.2.2))
def u96L1(v0:List Int)(a0:Y65)(g1:Int->Option (Bool)):Int->Option (Bool)
 | v1 =>
 if(decide (v1 < (v0.length:Int)))=true then
  gd (ix v1 v0.length/\v1.toNat<v0.length/\(u97 (v0.getD v1.toNat 0) 100 5000).isSome=true/\True) <|
  if(!vl (u97 (v0.getD v1.toNat 0) 100 5000))=true then
   some false
  else
   gd (in64 (v1+1)/\True) <|
   g1 (v1+1)
 else
  u96J0 a0 ()
def u96(a0:Y65):Option (Bool) :=
 lt ([a0.2.1,a0.2.2.1,a0.2.2.2.1,a0.2.2.2.2]) fun v0 =>
 lp (u96L1 v0 a0) 0
def k96:Ct:=lct 96 [.agg y65] (fun x=>u96 x.1) (fun r:Bool=>B r) (fun _=>())
theorem o96:Ok prog k96:=by
 refine okL [.tmp 2] func96 ntmps96 results96 ?_;intro y ⟨a0,_⟩ r H Q hn hr;have:HT _ _:=⟨tc o151 (tc o97 tn)⟩;refine qA (Z [p 1 (R 1)] [(1,K 65 y65 a0)])<|qC (fun v0=>Z [p 1 (R 1),p 3 (O 13)] (W90 v0 a0)) H fun v0 H=>jN r (fun(_:Unit)=>Z [p 1 (R 1)] [(1,K 65 y65 a0)]) (u96J0 a0) (fun _ H=>?_) (fun _ n0 e0 t0=>?_)
 ·refine qB (Z [p 2 (B (vl (u151 a0.1)&&decide (a0.2.1<=a0.2.2.1)&&decide (a0.2.2.2.1<=a0.2.2.2.2)))] [(1,K 65 y65 a0)]) H fun H=>vTT<|hr H
 refine qA (Z [p 1 (R 1),p 3 (O 13),p 4 (I 0)] (W90 v0 a0))<|vB<|lX (fun(v1:Int)=>Z [p 1 (R 1),p 3 (O 13),p 4 (I v1)] (W90 v0 a0)) 0 H fun _ g1 b1 e1 t1 v1 H=>vQ<|qA (Z [p 1 (R 1),p 3 (O 13),p 4 (I v1),p 17 (B (decide (v1 < (v0.length:Int))))] (W90 v0 a0))<|cD H (fun H=>?_) (fun H=>?_)
 ·refine vK<|fQ<|vQ<|vB<|qB (Z [p 1 (R 1),p 3 (O 13),p 4 (I v1),p 25 (B !vl (u97 (v0.getD v1.toNat 0) 100 5000))] (W90 v0 a0)) H fun H=>cD H (fun H=>?_) (fun H=>?_)
  ·refine qA (Z [p 2 (B false)] (W90 v0 a0))<|vTT<|fDD<|fR<|t1<|fDD<|t0<|hr H
  refine vK<|fK<|fQ<|zB (Z [p 1 (R 1),p 3 (O 13),p 4 (I (v1+1))] (W90 v0 a0)) H fun H=>b1 H
 exact vE<|fE<|e1<|fX rfl<|n0 H
def u47(a0:Y34)(a1:Y65)(a2:Int)(a3:Int)(a4:Int):Option (Int×Int) :=
 gd ((u65 a0).isSome=true/\((!vl (u65 a0))=false/\True->(u52 a1).isSome=true)/\True) <|
 if(!vl (u65 a0)||!vl (u52 a1))=true then
  some (((0:Int),(1:Int)))
 else
  gd ((u66 a0).isSome=true/\True)<|lt (vl (u66 a0)) fun v0 =>
  gd ((u102 v0 a2).isSome=true/\True) <|
  if(!vl (u102 v0 a2))=true then
   some (((0:Int),(4:Int)))
  else
   gd ((u93 a3).isSome=true/\((!vl (u93 a3))=false/\True->(u94 a4).isSome=true)/\True) <|
   if(!vl (u93 a3)||!vl (u94 a4))=true then
    some (((0:Int),(2:Int)))
   else
    gd ((u103 v0 a1 a2 a3 a4).isSome=true/\True)<|lt (vl (u103 v0 a1 a2 a3 a4)) fun v1 =>
    some ((v1,(0:Int)))
def k47:Ct:=lct 47 [.agg y34,.agg y65,.dat i64,.dat i64,.dat i64] (fun x=>u47 x.1 x.2.1 x.2.2.1 x.2.2.2.1 x.2.2.2.2.1) (fun r:Int×Int=>AV.tup [I r.1,I r.2]) (fun _=>())
theorem o47:Ok prog k47:=by
 refine okL [.tmp 10,.tmp 11] func47 ntmps47 results47 ?_;intro y ⟨a0,a1,a2,a3,a4,_⟩ r H Q hn hr;have:HT _ _:=⟨tc o103 (tc o94 (tc o93 (tc o102 (tc o66 (tc o52 (tc o65 tn))))))⟩;refine qA (Z (G72 a2 a3 a4 []) (W26 a1 a0))<|vQ<|qB (Z (G72 a2 a3 a4 [p 20 (B (!vl (u65 a0)||!vl (u52 a1)))]) (W26 a1 a0)) H fun H=>cD H (fun H=>?_) (fun H=>?_)
 ·refine qA (Z [p 10 (I 0),p 11 (I 1)] (W26 a1 a0))<|vTT<|fR<|hr H
 refine vK<|fQ<|qD (fun v0=>Z [p 2 (J a2),p 3 (J a3),p 4 (J a4),p 6 (R 6),p 12 (D y100.pt v0)] (W26 a1 a0)) H fun v0 H=>vQ<|vB<|qB (Z [p 2 (J a2),p 3 (J a3),p 4 (J a4),p 6 (R 6),p 12 (D y100.pt v0),p 23 (B !vl (u102 v0 a2))] (W26 a1 a0)) H fun H=>cD H (fun H=>?_) (fun H=>?_)
 ·refine qA (Z [p 10 (I 0),p 11 (I 4)] (W26 a1 a0))<|vTT<|fDD<|fR<|hr H
 refine qB (Z [p 2 (J a2),p 3 (J a3),p 4 (J a4),p 6 (R 6),p 12 (D y100.pt v0),p 28 (B (!vl (u93 a3)||!vl (u94 a4)))] (W26 a1 a0)) H fun H=>cD H (fun H=>?_) (fun H=>?_)
 ·refine qA (Z [p 10 (I 0),p 11 (I 2)] (W26 a1 a0))<|vTT<|fDD<|fR<|hr H
 refine vK<|fK<|fQ<|qD (fun v1=>Z [p 10 (I v1),p 11 (I 0)] (W26 a1 a0)) H fun v1 H=>vTT<|hr H
def u104(a0:Y34)(a1:Int)(a2:Int)(a3:Int):Option (Int) :=
 gd ((u59 a0).isSome=true/\in64 ((↑(vl (u59 a0)).length:Int)-1)/\(u97 a1 0 ((↑(vl (u59 a0)).length:Int)-1)).isSome=true/\True)<|lt (vl (u59 a0)) fun v0 =>
 if(!vl (u97 a1 0 ((v0.length:Int)-1)))=true then
  some 4
 else
  gd ((u97 a2 0 1000000).isSome=true/\((!vl (u97 a2 0 1000000))=false/\True->(u98 a3).isSome=true)/\True) <|
  if(!vl (u97 a2 0 1000000)||!vl (u98 a3))=true then
   some 2
  else
   some 0
def k104:Ct:=lct 104 [.agg y34,.dat i64,.dat i64,.dat i64] (fun x=>u104 x.1 x.2.1 x.2.2.1 x.2.2.2.1) (fun r:Int=>I r) (fun _=>())
theorem o104:Ok prog k104:=by
 refine okL [.tmp 8] func104 ntmps104 results104 ?_;intro y ⟨a0,a1,a2,a3,_⟩ r H Q hn hr;have:HT _ _:=⟨tc o98 (tc o97 (tc o59 tn))⟩;refine qA (Z (G52 a1 a2 [p 3 (J a3),p 4 (R 4)]) [(4,K 34 y34 a0)])<|vQ<|qD (fun v0=>Z [p 2 (J a2),p 3 (J a3),p 15 (B !vl (u97 a1 0 ((v0.length:Int)-1)))] [(11,A 48 y48 v0 0),(4,K 34 y34 a0)]) H fun v0 H=>cD H (fun H=>?_) (fun H=>?_)
 ·refine qA (Z [p 8 (I 4)] [(11,A 48 y48 v0 0),(4,K 34 y34 a0)])<|vTT<|fR<|hr H
 refine vK<|fQ<|vQ<|qB (Z [p 23 (B (!vl (u97 a2 0 1000000)||!vl (u98 a3)))] [(11,A 48 y48 v0 0),(4,K 34 y34 a0)]) H fun H=>cD H (fun H=>?_) (fun H=>?_)
 ·refine qA (Z [p 8 (I 2)] [(11,A 48 y48 v0 0),(4,K 34 y34 a0)])<|vTT<|fR<|hr H
 refine vK<|fQ<|qA (Z [p 8 (I 0)] [(11,A 48 y48 v0 0),(4,K 34 y34 a0)])<|vTT<|hr H
def u48(a0:Y34)(a1:Y65)(a2:Int)(a3:Int)(a4:Int):Option (Int×Int) :=
 gd ((u23 a0).isSome=true/\((!vl (u23 a0))=false/\True->(u96 a1).isSome=true)/\True) <|
 if(!vl (u23 a0)||!vl (u96 a1))=true then
  some (((0:Int),(1:Int)))
 else
  gd ((u104 a0 a2 a3 a4).isSome=true/\True)<|lt (vl (u104 a0 a2 a3 a4)) fun v0 =>
  if(v0 != 0)=true then
   some (((0:Int),v0))
  else
   gd ((u59 a0).isSome=true/\ix a2 (vl (u59 a0)).length/\a2.toNat < (vl (u59 a0)).length/\(u99 a0 a1 ((vl (u59 a0)).getD a2.toNat (dflt y48)) a3 a4).isSome=true/\True)<|lt ((vl (u99 a0 a1 ((vl (u59 a0)).getD a2.toNat (dflt y48)) a3 a4),vl (u59 a0))) fun(v1,_v2) =>
   some ((v1,(0:Int)))
def k48:Ct:=lct 48 [.agg y34,.agg y65,.dat i64,.dat i64,.dat i64] (fun x=>u48 x.1 x.2.1 x.2.2.1 x.2.2.2.1 x.2.2.2.2.1) (fun r:Int×Int=>AV.tup [I r.1,I r.2]) (fun _=>())
theorem o48:Ok prog k48:=by
 refine okL [.tmp 10,.tmp 11] func48 ntmps48 results48 ?_;intro y ⟨a0,a1,a2,a3,a4,_⟩ r H Q hn hr;have:HT _ _:=⟨tc o99 (tc o59 (tc o104 (tc o96 (tc o23 tn))))⟩;refine qA (Z (G72 a2 a3 a4 []) (W26 a1 a0))<|vQ<|qB (Z (G72 a2 a3 a4 [p 20 (B (!vl (u23 a0)||!vl (u96 a1)))]) (W26 a1 a0)) H fun H=>cD H (fun H=>?_) (fun H=>?_)
 ·refine qA (Z [p 10 (I 0),p 11 (I 1)] (W26 a1 a0))<|vTT<|fR<|hr H
 refine vK<|fQ<|vQ<|qD (fun v0=>Z (G72 a2 a3 a4 [p 12 (I v0)]) (W26 a1 a0)) H fun v0 H=>qA (Z (G72 a2 a3 a4 [p 12 (I v0),p 27 (B (v0 != 0))]) (W26 a1 a0))<|cD H (fun H=>?_) (fun H=>?_)
 ·refine qA (Z [p 10 (I 0),p 11 (I v0)] (W26 a1 a0))<|vTT<|fR<|hr H
 refine vK<|fQ<|qD (fun(v1,v2)=>Z [p 10 (I v1),p 11 (I 0)] ((32,A 48 y48 v2 0)::W26 a1 a0)) H fun⟨v1,v2⟩ H =>
  vTT<|hr H
end Go.Proofs.YtphnknndgfgepaaGreatDoor
end
