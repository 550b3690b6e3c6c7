/- Functions of this program as plain functions of data, and that they are so: printed by program. -/
import Derived.Test.YtlfeppknkfknhaaGreatDoorFE1a
section
namespace Go.Proofs.YtlfeppknkfknhaaGreatDoor
open Go Go.Proofs Go.Proofs.Sv Go.Proofs.Xv Go.Proofs.Xl Go.RowKit
open Tryz
def u58J5(a0:Y47)(v0:List Y156):List Y148×List Int×List (List Int)->Option Y158
 | (v97,v98,v99) =>
 some (a0,v0,v97,v98,v99,[])
def u58J7(v71:Int)(g6:Int×List Int×List (List Int)×List Y148->Option Y158):List (List Int)×List Int×List Y148->Option Y158
 | (v94,v95,v96) =>
 gd (in64 (v71+1)/\True) <|
 g6 (v71+1,v95,v94,v96)
def u58J9(v85:Int)(g8:Int×List Y148->Option Y158):List Y148->Option Y158
 | v93 =>
 gd (in64 (v85+1)/\True) <|
 g8 (v85+1,v93)
def u58L10(v24:List Int)(v71:Int)(v23:List (List Int))(v85:Int)(g8:Int×List Y148->Option Y158)(g10:Int×List Y148->Option Y158):Int×List Y148->Option Y158
 | (v89,v90) =>
 if(decide (v89<2)) then
  gd (ix v71 v24.length/\v71.toNat<v24.length/\in64 ((2:Int)*v24.getD v71.toNat (0:Int))/\in64 ((2:Int)*v24.getD v71.toNat (0:Int)+v89)/\in64 ((2:Int)*List.getD (v23.getD v71.toNat []) v85.toNat (0:Int))/\in64 ((2:Int)*List.getD (v23.getD v71.toNat []) v85.toNat (0:Int)+v89)/\(v90.length+[((2:Int)*v24.getD v71.toNat (0:Int)+v89,(2:Int)*List.getD (v23.getD v71.toNat []) v85.toNat (0:Int)+v89,(2:Int),v85)].length<=9223372036854775807/\(v90.length+[((2:Int)*v24.getD v71.toNat (0:Int)+v89,(2:Int)*List.getD (v23.getD v71.toNat []) v85.toNat (0:Int)+v89,(2:Int),v85)].length)*32<=140737488355328)/\True)<|lt ((v90++[((2:Int)*v24.getD v71.toNat (0:Int)+v89,(2:Int)*List.getD (v23.getD v71.toNat []) v85.toNat (0:Int)+v89,(2:Int),v85)],[((2:Int)*v24.getD v71.toNat (0:Int)+v89,(2:Int)*List.getD (v23.getD v71.toNat []) v85.toNat (0:Int)+v89,(2:Int),v85)])) fun(v91,_) =>
  gd (in64 (v89+1)/\True) <|
  g10 (v89+1,v91)
 else
  u58J9 v85 g8 v90
def u58L8(v24:List Int)(v71:Int)(v23:List (List Int))(v73:List (List Int))(v76:List Int)(v72:List Int)(v75:List Int)(g6:Int×List Int×List (List Int)×List Y148->Option Y158)(g8:Int×List Y148->Option Y158):Int×List Y148->Option Y158
 | (v85,v86) =>
 if(decide (v85 < (↑(List.length (v23.getD v71.toNat [])):Int))) then
  gd (ix v85 (List.length (v23.getD v71.toNat []))/\True) <|
  lp (u58L10 v24 v71 v23 v85 g8) (0,v86)
 else
  u58J7 v71 g6 ((v73++[v76],v72++[v75.getD (Int.toNat (0:Int)) (0:Int)],v86))
def u58L6(v24:List Int)(v23:List (List Int))(a0:Y47)(v0:List Y156)(g6:Int×List Int×List (List Int)×List Y148->Option Y158):Int×List Int×List (List Int)×List Y148->Option Y158
 | (v71,v72,v73,v74) =>
 if(decide (v71 < (a0.2.2.length:Int))) then
  gd ((u89 a0 v71).isSome/\ix (0:Int) (vl (u89 a0 v71)).length/\Int.toNat (0:Int) < (vl (u89 a0 v71)).length/\(v72.length+[(vl (u89 a0 v71)).getD (Int.toNat (0:Int)) (0:Int)].length<=9223372036854775807/\(v72.length+[(vl (u89 a0 v71)).getD (Int.toNat (0:Int)) (0:Int)].length)*8<=140737488355328)/\True)<|lt (vl (u89 a0 v71)) fun v75 =>
  gd ((u90 a0 v71).isSome/\(v73.length+[vl (u90 a0 v71)].length<=9223372036854775807/\(v73.length+[vl (u90 a0 v71)].length)*24<=140737488355328)/\True)<|lt (vl (u90 a0 v71)) fun v76 =>
  gd (ix v71 v23.length/\True) <|
  lp (u58L8 v24 v71 v23 v73 v76 v72 v75 g6) (0,v74)
 else
  u58J5 a0 v0 (v74,v72,v73)
def u58J2(a0:Y47)(v0:List Y156)(v10:List Y148):List (List Int)×List Int->Option Y158
 | (v23,v24) =>
 lp (u58L6 v24 v23 a0 v0) (0,[],[],v10)
def u58J4(v16:Int)(g3:Int×List (List Int)×List Int->Option Y158):List Int×List (List Int)->Option Y158
 | (v21,v22) =>
 gd (in64 (v16+1)/\True) <|
 g3 (v16+1,v22,v21)
def u58L3(v0:List Y156)(a0:Y47)(v10:List Y148)(g3:Int×List (List Int)×List Int->Option Y158):Int×List (List Int)×List Int->Option Y158
 | (v16,v17,v18) =>
 if(decide (v16 < (v0.length:Int))) then
  gd (ix v16 v0.length/\v16.toNat<v0.length/\True)<|lt (v0.getD v16.toNat (dflt y156)) fun v19 =>
  if v19.2.2.2 then
   gd (ix v19.2.2.1 v18.length/\v19.2.2.1.toNat<v18.length/\True) <|
   u58J4 v16 g3 (v18.set v19.2.2.1.toNat v16,v17)
  else
   gd (ix v19.2.2.1 v17.length/\v19.2.2.1.toNat<v17.length/\((v17.getD v19.2.2.1.toNat []).length+[v16].length<=9223372036854775807/\((v17.getD v19.2.2.1.toNat []).length+[v16].length)*8<=140737488355328)/\ix v19.2.2.1 v17.length/\(v19.2.2.1.toNat<v17.length/\v19.2.2.1.toNat=v19.2.2.1.toNat)/\True)<|lt (v17.set v19.2.2.1.toNat (v17.getD v19.2.2.1.toNat []++[v16])) fun v20 =>
   u58J4 v16 g3 (v18,v20)
 else
  u58J2 a0 v0 v10 (v17,v18)
def u58J0(v0:List Y156)(a0:Y47):List Y148->Option Y158
 | v10 =>
 gd ((0<=(a0.2.2.length:Int)/\(a0.2.2.length:Int)=(a0.2.2.length:Int)/\(a0.2.2.length:Int).toNat*8<=281474976710656/\(a0.2.2.length:Int)<=9223372036854775807)/\True) <|
 gd ((0<=(a0.2.2.length:Int)/\(a0.2.2.length:Int)=(a0.2.2.length:Int)/\(a0.2.2.length:Int).toNat*24<=281474976710656/\(a0.2.2.length:Int)<=9223372036854775807)/\True) <|
 lp (u58L3 v0 a0 v10) ((0,List.replicate (a0.2.2.length:Int).toNat [],List.replicate (a0.2.2.length:Int).toNat 0))
def u58L1(a0:Y47)(v0:List Y156)(g1:Int×Int×List Y148->Option Y158):Int×Int×List Y148->Option Y158
 | (v4,v5,v6) =>
 if(decide (v5 < (a0.2.1.1.length:Int))) then
  gd (ix v5 a0.2.1.1.length/\True)<|lt (a0.2.1.1.getD v5.toNat (dflt y94)) fun v7 =>
  gd ((u87 a0 v7 v4).isSome/\(v6.length+(vl (u87 a0 v7 v4)).length<=9223372036854775807/\(v6.length+(vl (u87 a0 v7 v4)).length)*32<=140737488355328)/\True)<|lt (vl (u87 a0 v7 v4)) fun v8 =>
  gd ((u88 v7.2.2).isSome/\in64 (v4+vl (u88 v7.2.2))/\True)<|lt (vl (u88 v7.2.2)) fun v9 =>
  gd (in64 (v5+1)/\True) <|
  g1 (v4+v9,v5+1,v6++v8)
 else
  u58J0 v0 a0 v6
def u58(a0:Y47):Option Y158 :=
 gd ((u85 a0.2.1).isSome/\True)<|lt (vl (u85 a0.2.1)) fun v0 =>
 lp (u58L1 a0 v0) (0,0,[])
def k58:Ct:=lct 58 [.agg y47] (fun x=>u58 x.1) (fun r:Y158=>D y158.pt r) (fun _=>())
theorem o58:Ok prog k58:=by
 refine okM [.tmp 2] func58 ?_;intro y ⟨a0,_⟩ r H Q hn hr;have:=hz (tc o90d (tc o89 (tc o88 (tc o87 (tc o85 tn)))));refine iA [1]<|iD o85 [1,3] H fun v0 H=>iA [1,3,4]<|jN r (fun(v10:List Y148)=>Z [p 1 (R 1),p 3 (R 20)] ((20,bx 158 (Q0 a0))::W0 v0 a0 v10)) (u58J0 v0 a0) (fun v10 H=>?_) (fun _ n0 e0 t0=>?_)
 ·refine iB [1,3,7] H fun H=>iB [1,3,7,8] H fun H=>jN r (fun((v23,v24):List (List Int)×List Int)=>Z (G1 [p 8 (AV.og 54)]) ((54,Ob.grd 33 2 true i64 v23 none)::(50,A 2 i64 v24 0)::(20,bx 158 (Q0 a0))::W0 v0 a0 v10)) (u58J2 a0 v0 v10) (fun w H=>?_) (fun _ n2 e2 t2=>?_)
  ·obtain⟨v23,v24⟩:=w;refine jN r (fun((v97,v98,v99):List Y148×List Int×List (List Int))=>Z [p 3 (R 20)] [(20,bx 158 (Q1 a0)),(18,A 156 y156 v0 0),(38,A 148 y148 v97 0),(102,A 2 i64 v98 0),(114,A 33 i64.sl v99 0)]) (u58J5 a0 v0) (fun⟨v97,v98,v99⟩ H=>?_) (fun _ n5 e5 t5=>?_)
   ·refine iA [2]<|vTT<|hr H
   refine iA [1,3,7,8,87,88]<|vB<|fZ 54 (Z (G1 [p 8 (M i64.sl v23),p 87 (I (a0.2.2.length:Int)),p 88 (I 0)]) ((50,A 2 i64 v24 0)::(20,bx 158 (Q0 a0))::W0 v0 a0 v10))<|lX (fun((v71,v72,v73,v74):Int×List Int×List (List Int)×List Y148)=>Z (G1 [p 8 (M i64.sl v23),p 87 (I (a0.2.2.length:Int)),p 88 (I v71)]) [(50,A 2 i64 v24 0),(20,bx 158 (Q1 a0)),(18,A 156 y156 v0 0),(1,K 47 y47 a0),(38,A 148 y148 v74 0),(102,A 2 i64 v72 0),(114,A 33 i64.sl v73 0)]) (0,[],[],v10) H fun _ g6 b6 e6 t6 ⟨v71,v72,v73,v74⟩ H=>iA [1,3,7,8,87,88,89]<|vQ<|cD H (fun H=>?_) (fun H=>?_)
   ·refine vK<|fQ<|jN r (fun((v94,v95,v96):List (List Int)×List Int×List Y148)=>Z (G1 [p 8 (M i64.sl v23),p 87 (I (a0.2.2.length:Int)),p 88 (I v71)]) ((20,bx 158 (Q1 a0))::(114,A 33 i64.sl v94 0)::(102,A 2 i64 v95 0)::(50,A 2 i64 v24 0)::W0 v0 a0 v96)) (u58J7 v71 g6) (fun⟨v94,v95,v96⟩ H=>?_) (fun _ n7 e7 t7=>?_)
    ·refine jB [1,3,7,8,87,88] H fun H=>b6 H
    refine vB<|iA [1,3,7,8,11,87,88]<|iD o89 [1,3,7,8,11,87,88] H fun v75 H=>qD (fun v76=>Z (G1 [p 8 (M i64.sl v23),p 11 (I v71),p 87 (I (a0.2.2.length:Int)),p 88 (I v71)]) ((20,bx 158 [L y92 a0.1,L y94 a0.2.1.1,L Ty.str a0.2.1.2.1,L y149 a0.2.1.2.2,L y111 a0.2.2,AV.os 18 0,AV.os 38 0,AV.os 102 1,AV.os 114 1,nil])::(114,A 33 i64.sl (v73++[v76]) 1)::(113,A 33 i64.sl [v76] 0)::(102,A 2 i64 (v72++[v75.getD (Int.toNat (0:Int)) (0:Int)]) 1)::(101,A 2 i64 [v75.getD (Int.toNat (0:Int)) (0:Int)] 0)::(98,A 2 i64 v75 0)::(50,A 2 i64 v24 0)::W0 v0 a0 v74)) H fun v76 H=>iB [1,3,7,8,11,87,88,120,121,122] H fun H=>vB<|lX (fun((v85,v86):Int×List Y148)=>Z (G1 [p 8 (M i64.sl v23),p 11 (I v71),p 87 (I (a0.2.2.length:Int)),p 88 (I v71),p 120 (M i64 (v23.getD v71.toNat [])),p 121 (I (↑(List.length (v23.getD v71.toNat [])):Int)),p 122 (I v85)]) ((20,bx 158 (Q1 a0))::(114,A 33 i64.sl (v73++[v76]) 0)::(102,A 2 i64 (v72++[v75.getD (Int.toNat (0:Int)) (0:Int)]) 0)::(50,A 2 i64 v24 0)::W0 v0 a0 v86)) (0,v74) H fun _ g8 b8 e8 t8 ⟨v85,v86⟩ H=>iA [1,3,7,8,11,87,88,120,121,122,123]<|vQ<|cD H (fun H=>?_) (fun H=>?_)
    ·refine vK<|fQ<|jN r (fun(v93:List Y148)=>Z (G1 [p 8 (M i64.sl v23),p 11 (I v71),p 87 (I (a0.2.2.length:Int)),p 88 (I v71),p 120 (M i64 (v23.getD v71.toNat [])),p 121 (I (↑(List.length (v23.getD v71.toNat [])):Int)),p 122 (I v85)]) ((20,bx 158 (Q1 a0))::(114,A 33 i64.sl (v73++[v76]) 0)::(102,A 2 i64 (v72++[v75.getD (Int.toNat (0:Int)) (0:Int)]) 0)::(50,A 2 i64 v24 0)::W0 v0 a0 v93)) (u58J9 v85 g8) (fun v93 H=>?_) (fun _ n9 e9 t9=>?_)
     ·refine jB [1,3,7,8,11,87,88,120,121,122] H fun H=>b8 H
     refine vB<|iB [1,3,7,8,11,12,13,87,88,120,121,122] H fun H=>iA [1,3,7,8,11,12,13,87,88,120,121,122,127]<|vB<|lX (fun((v89,v90):Int×List Y148)=>Z (G1 [p 8 (M i64.sl v23),p 11 (I v71),p 12 (I v85),p 13 (I (List.getD (v23.getD v71.toNat []) v85.toNat (0:Int))),p 87 (I (a0.2.2.length:Int)),p 88 (I v71),p 120 (M i64 (v23.getD v71.toNat [])),p 121 (I (↑(List.length (v23.getD v71.toNat [])):Int)),p 122 (I v85),p 127 (I v89)]) ((20,bx 158 (Q1 a0))::(114,A 33 i64.sl (v73++[v76]) 0)::(102,A 2 i64 (v72++[v75.getD (Int.toNat (0:Int)) (0:Int)]) 0)::(50,A 2 i64 v24 0)::W0 v0 a0 v90)) (0,v86) H fun _ g10 b10 e10 t10 ⟨v89,v90⟩ H=>iA [1,3,7,8,11,12,13,87,88,120,121,122,127,128]<|vQ<|cD H (fun H=>?_) (fun H=>?_)
     ·refine vK<|fQ<|vQ<|vB<|iA [1,3,7,8,11,12,13,14,87,88,120,121,122,127]<|zD (fun(v91,v92)=>Z (G1 [p 8 (M i64.sl v23),p 11 (I v71),p 12 (I v85),p 13 (I (List.getD (v23.getD v71.toNat []) v85.toNat (0:Int))),p 87 (I (a0.2.2.length:Int)),p 88 (I v71),p 120 (M i64 (v23.getD v71.toNat [])),p 121 (I (↑(List.length (v23.getD v71.toNat [])):Int)),p 122 (I v85),p 127 (I v89)]) [(20,bx 158 [L y92 a0.1,L y94 a0.2.1.1,L Ty.str a0.2.1.2.1,L y149 a0.2.1.2.2,L y111 a0.2.2,AV.os 18 0,AV.os 38 1,AV.os 102 0,AV.os 114 0,nil]),(38,A 148 y148 v91 1),(148,A 148 y148 v92 0),(114,A 33 i64.sl (v73++[v76]) 0),(102,A 2 i64 (v72++[v75.getD (Int.toNat (0:Int)) (0:Int)]) 0),(50,A 2 i64 v24 0),(18,A 156 y156 v0 0),(1,K 47 y47 a0)]) H fun⟨v91,v92⟩ H =>
       fK<|fQ <|
       jB [1,3,7,8,11,12,13,87,88,120,121,122,127] H fun H =>
       b10 H
     exact vE<|fE<|e10<|fX rfl<|fK<|n9 H
    exact vE<|fE<|e8<|fX rfl<|fK<|n7 H
   exact vE<|fE<|e6<|fX rfl<|n5 H
  refine iA [1,3,7,8,58,59,60]<|vB<|lX (fun((v16,v17,v18):Int×List (List Int)×List Int)=>Z (G1 [p 8 (AV.og 54),p 58 (O 18),p 59 (I (v0.length:Int)),p 60 (I v16)]) ((54,Ob.grd 33 2 true i64 v17 none)::(50,A 2 i64 v18 0)::(20,bx 158 (Q0 a0))::W0 v0 a0 v10)) ((0,List.replicate (a0.2.2.length:Int).toNat [],List.replicate (a0.2.2.length:Int).toNat 0)) H fun _ g3 b3 e3 t3 ⟨v16,v17,v18⟩ H=>iA [1,3,7,8,58,59,60,61]<|vQ<|cD H (fun H=>?_) (fun H=>?_)
  ·refine vK<|fQ<|jN r (fun((v21,v22):List Int×List (List Int))=>Z (G1 [p 8 (AV.og 54),p 58 (O 18),p 59 (I (v0.length:Int)),p 60 (I v16)]) ((50,A 2 i64 v21 0)::(54,Ob.grd 33 2 true i64 v22 none)::(20,bx 158 (Q0 a0))::W0 v0 a0 v10)) (u58J4 v16 g3) (fun⟨v21,v22⟩ H=>?_) (fun _ n4 e4 t4=>?_)
   ·refine jB [1,3,7,8,58,59,60] H fun H=>b3 H
   refine vB<|qD (fun v19=>Z (G1 [p 8 (AV.og 54),p 9 (I v16),p 10 (R 10),p 58 (O 18),p 59 (I (v0.length:Int)),p 60 (I v16)]) ((10,bx 156 (cellsD true y156 v19))::(54,Ob.grd 33 2 true i64 v17 none)::(50,A 2 i64 v18 0)::(20,bx 158 (Q0 a0))::W0 v0 a0 v10)) H fun v19 H=>iA [1,3,7,8,9,10,58,59,60,66]<|cD H (fun H=>jB [1,3,7,8,58,59,60] H fun H=>fK<|n4 H) fun H=>zD (fun v20=>Z (G1 [p 8 (AV.og 54),p 58 (O 18),p 59 (I (v0.length:Int)),p 60 (I v16)]) ((54,Ob.grd 33 2 true i64 v20 none)::(79,A 2 i64 [] 2)::(81,A 2 i64 [v16] 0)::(10,bx 156 (cellsD true y156 v19))::(50,A 2 i64 v18 0)::(20,bx 158 (Q0 a0))::W0 v0 a0 v10)) H fun v20 H=>fK<|n4 H
  exact vE<|fE<|e3<|fX rfl<|n2 H
 refine iA [1,3,4,23,24,25]<|vB<|lX (fun((v4,v5,v6):Int×Int×List Y148)=>Z [p 1 (R 1),p 3 (R 20),p 4 (I v4),p 23 (L y94 a0.2.1.1),p 24 (I (a0.2.1.1.length:Int)),p 25 (I v5)] ((20,bx 158 (Q0 a0))::W0 v0 a0 v6)) (0,0,[]) H fun _ g1 b1 e1 t1 ⟨v4,v5,v6⟩ H=>iA [1,3,4,23,24,25,26]<|vQ<|cD H (fun H=>vK<|fQ<|vQ<|vB<|qD (fun v7=>Z [p 1 (R 1),p 3 (R 20),p 4 (I v4),p 6 (R 6),p 23 (L y94 a0.2.1.1),p 24 (I (a0.2.1.1.length:Int)),p 25 (I v5)] ((6,K 94 y94 v7)::(20,bx 158 (Q0 a0))::W0 v0 a0 v6)) H fun v7 H=>iD o87 [1,3,4,6,23,24,25] H fun _ H=>jD o88 [1,3,4,23,24,25] H fun _ H=>fK<|fQ<|jB [1,3,4,23,24,25] H fun H=>b1 H) fun H=>vE<|fE<|e1<|fX rfl<|n0 H
def u118J0:Unit->Option Bool
 | _ =>
 some true
def u118L1(a0:Y111)(g1:Int->Option Bool):Int->Option Bool
 | v0 =>
 if(decide (v0 < (a0.1.length:Int))) then
  gd (ix v0 a0.1.length/\True) <|
  gd (((a0.1.getD v0.toNat (0:Int) != (-1:Int))=false/\(v0==(0:Int))=true/\True->ix (0:Int) a0.2.1.length)/\(decide ((0:Int)<v0)=true/\(v0==(0:Int)&&(a0.1.getD v0.toNat (0:Int) != (-1:Int)||a0.2.1.getD (Int.toNat (0:Int)) (0:Int) != (0:Int)))=false/\True->in64 (v0-(1:Int)))/\(decide ((0:Int)<v0)=true/\(v0==(0:Int)&&(a0.1.getD v0.toNat (0:Int) != (-1:Int)||a0.2.1.getD (Int.toNat (0:Int)) (0:Int) != (0:Int)))=false/\True->(u117 (a0.1.getD v0.toNat (0:Int)) (0:Int) (v0-(1:Int))).isSome)/\True) <|
  if(v0==(0:Int)&&(a0.1.getD v0.toNat (0:Int) != (-1:Int)||a0.2.1.getD (Int.toNat (0:Int)) (0:Int) != (0:Int))||decide ((0:Int)<v0)&&!vl (u117 (a0.1.getD v0.toNat (0:Int)) (0:Int) (v0-(1:Int)))) then
   some false
  else
   gd (in64 (v0+1)/\True) <|
   g1 (v0+1)
 else
  u118J0 ()
def u118(a0:Y111):Option Bool :=
 lp (u118L1 a0) 0
def k118:Ct:=lct 118 [.agg y111] (fun x=>u118 x.1) (fun r:Bool=>B r) (fun _=>())
theorem o118:Ok prog k118:=by
 refine okM [.tmp 2] func118 ?_;intro y ⟨a0,_⟩ r H Q hn hr;have:=hz (tc o117 tn);refine iA [1]<|jN r (fun(_:Unit)=>Z [] []) (u118J0) (fun _ H=>?_) (fun _ n0 e0 t0=>?_)
 ·refine iA [2]<|vTT<|hr H
 refine iA [1,6,7,8]<|vB<|lX (fun(v0:Int)=>Z [p 1 (R 1),p 6 (L i64 a0.1),p 7 (I (a0.1.length:Int)),p 8 (I v0)] [(1,K 111 y111 a0)]) 0 H fun _ g1 b1 e1 t1 v0 H=>iA [1,6,7,8,9]<|vQ<|cD H (fun H=>?_) (fun H=>?_)
 ·refine vK<|fQ<|vQ<|vB<|iB [1,3,4,6,7,8] H fun H=>iB [1,6,7,8,36] H fun H=>cD H (fun H=>iA [2]<|vTT<|fDD<|fR<|t1<|fDD<|t0<|hr H) fun H=>vK<|fK<|fQ<|jB [1,6,7,8] H fun H=>b1 H
 exact vE<|fE<|e1<|fX rfl<|n0 H
def u86(a0:Y111)(a1:Int):Option Bool :=
 gd ((u88 a0.1).isSome/\True)<|lt (vl (u88 a0.1)) fun v0 =>
 gd ((u117 v0 1 8).isSome/\(vl (u117 v0 1 8)=true/\True->(u88 a0.2.1).isSome)/\((vl (u117 v0 1 8)&&vl (u88 a0.2.1)==v0)=true/\True->(u88 a0.2.2.1).isSome)/\((vl (u117 v0 1 8)&&vl (u88 a0.2.1)==v0&&vl (u88 a0.2.2.1)==v0)=true/\True->(u118 a0).isSome)/\((vl (u117 v0 1 8)&&vl (u88 a0.2.1)==v0&&vl (u88 a0.2.2.1)==v0&&vl (u118 a0))=true/\True->(u91 a0.2.1 0 1000).isSome)/\((vl (u117 v0 1 8)&&vl (u88 a0.2.1)==v0&&vl (u88 a0.2.2.1)==v0&&vl (u118 a0)&&vl (u91 a0.2.1 0 1000))=true/\True->(u91 a0.2.2.1 0 500).isSome)/\((vl (u117 v0 1 8)&&vl (u88 a0.2.1)==v0&&vl (u88 a0.2.2.1)==v0&&vl (u118 a0)&&vl (u91 a0.2.1 0 1000)&&vl (u91 a0.2.2.1 0 500))=true/\True->(u88 a0.2.2.2).isSome)/\((vl (u117 v0 1 8)&&vl (u88 a0.2.1)==v0&&vl (u88 a0.2.2.1)==v0&&vl (u118 a0)&&vl (u91 a0.2.1 0 1000)&&vl (u91 a0.2.2.1 0 500)&&vl (u88 a0.2.2.2)==a1)=true/\True->in64 (v0-1))/\((vl (u117 v0 1 8)&&vl (u88 a0.2.1)==v0&&vl (u88 a0.2.2.1)==v0&&vl (u118 a0)&&vl (u91 a0.2.1 0 1000)&&vl (u91 a0.2.2.1 0 500)&&vl (u88 a0.2.2.2)==a1)=true/\True->(u91 a0.2.2.2 0 (v0-1)).isSome)/\True)<|lt ((vl (u88 a0.2.1),vl (u88 a0.2.2.1),vl (u88 a0.2.2.2))) fun(v1,v2,v3) =>
 some (vl (u117 v0 1 8)&&v1==v0&&v2==v0&&vl (u118 a0)&&vl (u91 a0.2.1 0 1000)&&vl (u91 a0.2.2.1 0 500)&&v3==a1&&vl (u91 a0.2.2.2 0 (v0-1)))
def k86:Ct:=lct 86 [.agg y111,.dat i64] (fun x=>u86 x.1 x.2.1) (fun r:Bool=>B r) (fun _=>())
theorem o86:Ok prog k86:=by
 refine okM [.tmp 4] func86 ?_;intro y ⟨a0,a1,_⟩ r H Q hn hr;have:=hz (tc o91 (tc o88 (tc o118 (tc o117 tn))));refine iA [1,2]<|iD o88 [1,2,5] H fun v0 H=>qD (fun(v1,v2,v3)=>Z [p 4 (B (vl (u117 v0 1 8)&&v1==v0&&v2==v0&&vl (u118 a0)&&vl (u91 a0.2.1 0 1000)&&vl (u91 a0.2.2.1 0 500)&&v3==a1&&vl (u91 a0.2.2.2 0 (v0-1))))] [(2,K 111 y111 a0)]) H fun⟨v1,v2,v3⟩ H =>
  vTT<|hr H
def u116(a0:Int):Option Bool :=
 some (a0 != 1)
def k116:Ct:=lct 116 [.dat i64] (fun x=>u116 x.1) (fun r:Bool=>B r) (fun _=>())
theorem o116:Ok prog k116:=by
 refine okM [.tmp 2] func116 ?_;intro y ⟨_,_⟩ r H Q hn hr;refine iA [0]<|iA [2]<|vTT<|hr H
def u138(a0:List ByteArray):Option Int :=
 some (a0.length:Int)
def k138:Ct:=lct 138 [.dat Ty.str.sl] (fun x=>u138 x.1) (fun r:Int=>I r) (fun _=>())
theorem o138:Ok prog k138:=by
 refine okM [.tmp 2] func138 ?_;intro y ⟨_,_⟩ r H Q hn hr;refine iA [0]<|iA [2]<|vTT<|hr H
def u114(a0:Y44)(a1:Int):Option Bool :=
 gd ((u138 a0.2.1).isSome/\in64 (vl (u138 a0.2.1)-1)/\(u117 a1 0 (vl (u138 a0.2.1)-1)).isSome/\True) <|
 some (vl (u117 a1 0 (vl (u138 a0.2.1)-1)))
def k114:Ct:=lct 114 [.agg y44,.dat i64] (fun x=>u114 x.1 x.2.1) (fun r:Bool=>B r) (fun _=>())
theorem o114:Ok prog k114:=by
 refine okM [.tmp 4] func114 ?_;intro y ⟨_,_,_⟩ r H Q hn hr;have:=hz (tc o117 (tc o138 tn));refine iA [1,2]<|iB [4] H fun H=>vTT<|hr H
def u136(a0:List Y92):Option Int :=
 some (a0.length:Int)
def k136:Ct:=lct 136 [.dat y92.sl] (fun x=>u136 x.1) (fun r:Int=>I r) (fun _=>())
theorem o136:Ok prog k136:=by
 refine okM [.tmp 2] func136 ?_;intro y ⟨_,_⟩ r H Q hn hr;refine iA [0]<|iA [2]<|vTT<|hr H
def u137(a0:Int)(a1:Y44):Option Bool :=
 gd ((u114 a1 a0).isSome/\True) <|
 some (!vl (u114 a1 a0))
def k137:Ct:=lct 137 [.dat i64,.dat (.pt y44)] (fun x=>u137 x.1 x.2.1) (fun r:Bool=>B r) (fun _=>())
theorem o137:Ok prog k137:=by
 refine okM [.tmp 3] func137 ?_;intro y ⟨_,_,_⟩ r H Q hn hr;have:=hz (tc o114 tn);refine iA [0,1]<|iB [3] H fun H=>vTT<|hr H
def u140c137J0:Unit->Option Int
 | _ =>
 some (-1)
def u140c137L1(a0:List Int)(a1:Y44)(g1:Int->Option Int):Int->Option Int
 | v0 =>
 if(decide (v0 < (a0.length:Int))) then
  gd (ix v0 a0.length/\(u137 (a0.getD v0.toNat 0) a1).isSome/\True) <|
  if(vl (u137 (a0.getD v0.toNat 0) a1)) then
   some v0
  else
   gd (in64 (v0+1)/\True) <|
   g1 (v0+1)
 else
  u140c137J0 ()
def u140c137(a0:List Int)(a1:Y44):Option Int :=
 lp (u140c137L1 a0 a1) 0
def k140c137:Ct:=lct 140 [.dat i64.sl,.fn 137 y44.pt] (fun x=>u140c137 x.1 x.2.1) (fun r:Int=>I r) (fun _=>())
theorem o140c137:Ok prog k140c137:=by
 refine okM [.tmp 4] func140 ?_;intro y ⟨a0,a1,_⟩ r H Q hn hr;have:=hz (tc o137 tn);refine iA [0,1]<|jN r (fun(_:Unit)=>Z [] []) (u140c137J0) (fun _ H=>?_) (fun _ n0 e0 t0=>?_)
 ·refine iA [4]<|vTT<|hr H
 refine iA [0,1,7,8]<|vB<|lX (fun(v0:Int)=>Z [p 0 (L i64 a0),p 1 (AV.fn 137 [D y44.pt a1]),p 7 (I (a0.length:Int)),p 8 (I v0)] []) 0 H fun _ g1 b1 e1 t1 v0 H=>iA [0,1,7,8,9]<|vQ<|cD H (fun H=>?_) (fun H=>?_)
 ·refine vK<|fQ<|vQ<|vB<|iA [0,1,5,7,8]<|iB [0,1,5,7,8,16] H fun H=>cD H (fun H=>iA [4]<|vTT<|fDD<|fR<|t1<|fDD<|t0<|hr H) fun H=>vK<|fK<|fQ<|jB [0,1,7,8] H fun H=>b1 H
 exact vE<|fE<|e1<|fX rfl<|n0 H
def u123c137(a0:List Int)(a1:Y44):Option Bool :=
 gd ((u140c137 a0 a1).isSome/\True)<|lt (vl (u140c137 a0 a1)) fun v0 =>
 some (decide (0<=v0))
def k123c137:Ct:=lct 123 [.dat i64.sl,.fn 137 (.pt y44)] (fun x=>u123c137 x.1 x.2.1) (fun r:Bool=>B r) (fun _=>())
theorem o123c137:Ok prog k123c137:=by
 refine okM [.tmp 4] func123 ?_;intro y ⟨_,_,_⟩ r H Q hn hr;have:=hz (tc o140c124 (tc o140c137 (tc o137 tn)));refine iA [0,1]<|iD o140c137 [4] H fun _ H=>vTT<|hr H
def u113(a0:Y44)(a1:List Y92)(a2:Y94):Option Bool :=
 gd ((u136 a1).isSome/\in64 (vl (u136 a1)-1)/\(u117 a2.2.1 0 (vl (u136 a1)-1)).isSome/\(vl (u117 a2.2.1 0 (vl (u136 a1)-1))=true/\True->ix a2.2.1 a1.length)/\((vl (u117 a2.2.1 0 (vl (u136 a1)-1))&&(a2.2.2.length:Int)==(↑(a1.getD a2.2.1.toNat (dflt y92)).2.2.1.length:Int))=true/\True->(u123c137 a2.2.2 a0).isSome)/\True) <|
 some (vl (u117 a2.2.1 0 (vl (u136 a1)-1))&&(a2.2.2.length:Int)==(↑(a1.getD a2.2.1.toNat (dflt y92)).2.2.1.length:Int)&&!vl (u123c137 a2.2.2 a0))
def k113:Ct:=lct 113 [.agg y44,.agg y92.sl,.agg y94] (fun x=>u113 x.1 x.2.1 x.2.2.1) (fun r:Bool=>B r) (fun _=>())
theorem o113:Ok prog k113:=by
 refine okM [.tmp 6] func113 ?_;intro y ⟨_,_,_,_⟩ r H Q hn hr;have:=hz (tc o123c124 (tc o123c137 (tc o137 (tc o117 (tc o136 tn)))));refine iA [3,4,5]<|iB [6] H fun H=>vTT<|hr H
def u165J0:Unit->Option Int
 | _ =>
 some (-1)
def u165L1(a1:ByteArray)(a0:List ByteArray)(g1:Int->Option Int):Int->Option Int
 | v0 =>
 if(decide (v0 < (a0.length:Int))) then
  gd (ix v0 a0.length/\True) <|
  if(decide (a1=a0.getD v0.toNat (dflt Ty.str))) then
   some v0
  else
   gd (in64 (v0+1)/\True) <|
   g1 (v0+1)
 else
  u165J0 ()
def u165(a0:List ByteArray)(a1:ByteArray):Option Int :=
 lp (u165L1 a1 a0) 0
def k165:Ct:=lct 165 [.dat Ty.str.sl,.dat Ty.str] (fun x=>u165 x.1 x.2.1) (fun r:Int=>I r) (fun _=>())
theorem o165:Ok prog k165:=by
 refine okM [.tmp 4] func165 ?_;intro y ⟨a0,a1,_⟩ r H Q hn hr;refine iA [0,1]<|jN r (fun(_:Unit)=>Z [] []) (u165J0) (fun _ H=>?_) (fun _ n0 e0 t0=>?_)
 ·refine iA [4]<|vTT<|hr H
 refine iA [0,1,7,8]<|vB<|lX (fun(v0:Int)=>Z [p 0 (L Ty.str a0),p 1 (U a1),p 7 (I (a0.length:Int)),p 8 (I v0)] []) 0 H fun _ g1 b1 e1 t1 v0 H=>iA [0,1,7,8,9]<|vQ<|cD H (fun H=>?_) (fun H=>?_)
 ·refine vK<|fQ<|vQ<|vB<|iA [0,1,5,7,8]<|iB [0,1,5,7,8,16] H fun H=>cD H (fun H=>iA [4]<|vTT<|fDD<|fR<|t1<|fDD<|t0<|hr H) fun H=>vK<|fK<|fQ<|jB [0,1,7,8] H fun H=>b1 H
 exact vE<|fE<|e1<|fX rfl<|n0 H
def u152(a0:List ByteArray)(a1:ByteArray):Option Bool :=
 gd ((u165 a0 a1).isSome/\True)<|lt (vl (u165 a0 a1)) fun v0 =>
 some (decide (0<=v0))
def k152:Ct:=lct 152 [.dat Ty.str.sl,.dat Ty.str] (fun x=>u152 x.1 x.2.1) (fun r:Bool=>B r) (fun _=>())
theorem o152:Ok prog k152:=by
 refine okM [.tmp 4] func152 ?_;intro y ⟨_,_,_⟩ r H Q hn hr;have:=hz (tc o165 tn);refine iA [0,1]<|iD o165 [4] H fun _ H=>vTT<|hr H
def u148(a0:ByteArray):Option Bool :=
 gd ((u117 (a0.size:Int) (1:Int) (8:Int)).isSome/\(vl (u117 (a0.size:Int) (1:Int) (8:Int))=true/\True->(u157 a0 (ByteArray.mk #[(97:UInt8),(98:UInt8),(99:UInt8),(100:UInt8),(101:UInt8),(102:UInt8),(103:UInt8),(104:UInt8),(105:UInt8),(106:UInt8),(107:UInt8),(108:UInt8),(109:UInt8),(110:UInt8),(111:UInt8),(112:UInt8),(113:UInt8),(114:UInt8),(115:UInt8),(116:UInt8),(117:UInt8),(118:UInt8),(119:UInt8),(120:UInt8),(121:UInt8),(122:UInt8),(48:UInt8),(49:UInt8),(50:UInt8),(51:UInt8),(52:UInt8),(53:UInt8),(54:UInt8),(55:UInt8),(56:UInt8),(57:UInt8)])).isSome)/\((vl (u117 (a0.size:Int) (1:Int) (8:Int))&&decide (vl (u157 a0 (ByteArray.mk #[(97:UInt8),(98:UInt8),(99:UInt8),(100:UInt8),(101:UInt8),(102:UInt8),(103:UInt8),(104:UInt8),(105:UInt8),(106:UInt8),(107:UInt8),(108:UInt8),(109:UInt8),(110:UInt8),(111:UInt8),(112:UInt8),(113:UInt8),(114:UInt8),(115:UInt8),(116:UInt8),(117:UInt8),(118:UInt8),(119:UInt8),(120:UInt8),(121:UInt8),(122:UInt8),(48:UInt8),(49:UInt8),(50:UInt8),(51:UInt8),(52:UInt8),(53:UInt8),(54:UInt8),(55:UInt8),(56:UInt8),(57:UInt8)]))=ByteArray.mk #[]))=true/\True->ix (0:Int) a0.size)/\((vl (u117 (a0.size:Int) (1:Int) (8:Int))&&decide (vl (u157 a0 (ByteArray.mk #[(97:UInt8),(98:UInt8),(99:UInt8),(100:UInt8),(101:UInt8),(102:UInt8),(103:UInt8),(104:UInt8),(105:UInt8),(106:UInt8),(107:UInt8),(108:UInt8),(109:UInt8),(110:UInt8),(111:UInt8),(112:UInt8),(113:UInt8),(114:UInt8),(115:UInt8),(116:UInt8),(117:UInt8),(118:UInt8),(119:UInt8),(120:UInt8),(121:UInt8),(122:UInt8),(48:UInt8),(49:UInt8),(50:UInt8),(51:UInt8),(52:UInt8),(53:UInt8),(54:UInt8),(55:UInt8),(56:UInt8),(57:UInt8)]))=ByteArray.mk #[]))=true/\True->(u158 (ByteArray.mk #[(97:UInt8),(98:UInt8),(99:UInt8),(100:UInt8),(101:UInt8),(102:UInt8),(103:UInt8),(104:UInt8),(105:UInt8),(106:UInt8),(107:UInt8),(108:UInt8),(109:UInt8),(110:UInt8),(111:UInt8),(112:UInt8),(113:UInt8),(114:UInt8),(115:UInt8),(116:UInt8),(117:UInt8),(118:UInt8),(119:UInt8),(120:UInt8),(121:UInt8),(122:UInt8)]) (byteAt a0 (Int.toNat (0:Int)))).isSome)/\True)<|lt ((vl (u157 a0 (ByteArray.mk #[97,98,99,100,101,102,103,104,105,106,107,108,109,110,111,112,113,114,115,116,117,118,119,120,121,122,48,49,50,51,52,53,54,55,56,57])),vl (u158 (ByteArray.mk #[(97:UInt8),(98:UInt8),(99:UInt8),(100:UInt8),(101:UInt8),(102:UInt8),(103:UInt8),(104:UInt8),(105:UInt8),(106:UInt8),(107:UInt8),(108:UInt8),(109:UInt8),(110:UInt8),(111:UInt8),(112:UInt8),(113:UInt8),(114:UInt8),(115:UInt8),(116:UInt8),(117:UInt8),(118:UInt8),(119:UInt8),(120:UInt8),(121:UInt8),(122:UInt8)]) (byteAt a0 (Int.toNat (0:Int)))))) fun(v0,v1) =>
 some (vl (u117 (a0.size:Int) 1 8)&&decide (v0=ByteArray.mk #[])&&decide (0<=v1))
def k148:Ct:=lct 148 [.dat Ty.str] (fun x=>u148 x.1) (fun r:Bool=>B r) (fun _=>())
theorem o148:Ok prog k148:=by
 refine okM [.tmp 2] func148 ?_;intro y ⟨a0,_⟩ r H Q hn hr;have:=hz (tc o158 (tc o157 (tc o117 tn)));refine iA [0]<|qD (fun(v0,v1)=>Z [p 2 (B (vl (u117 (a0.size:Int) 1 8)&&decide (v0=ByteArray.mk #[])&&decide (0<=v1)))] []) H fun⟨v0,v1⟩ H =>
  vTT<|hr H
def u135J0:Unit->Option Bool
 | _ =>
 some true
def u135L1(a0:List ByteArray)(g1:Int->Option Bool):Int->Option Bool
 | v0 =>
 if(decide (v0 < (a0.length:Int))) then
  gd (ix v0 a0.length/\True) <|
  gd ((u148 (a0.getD v0.toNat (dflt Ty.str))).isSome/\((!vl (u148 (a0.getD v0.toNat (dflt Ty.str))))=false/\True->(0:Int)<=(0:Int)/\(0:Int)<=v0/\v0<=(a0.length:Int))/\((!vl (u148 (a0.getD v0.toNat (dflt Ty.str))))=false/\True->(u152 (List.take v0.toNat a0) (a0.getD v0.toNat (dflt Ty.str))).isSome)/\True) <|
  if(!vl (u148 (a0.getD v0.toNat (dflt Ty.str)))||vl (u152 (List.take v0.toNat a0) (a0.getD v0.toNat (dflt Ty.str)))) then
   some false
  else
   gd (in64 (v0+1)/\True) <|
   g1 (v0+1)
 else
  u135J0 ()
def u135(a0:List ByteArray):Option Bool :=
 lp (u135L1 a0) 0
def k135:Ct:=lct 135 [.dat Ty.str.sl] (fun x=>u135 x.1) (fun r:Bool=>B r) (fun _=>())
theorem o135:Ok prog k135:=by
 refine okM [.tmp 2] func135 ?_;intro y ⟨a0,_⟩ r H Q hn hr;have:=hz (tc o152 (tc o148 tn));refine iA [0]<|jN r (fun(_:Unit)=>Z [] []) (u135J0) (fun _ H=>?_) (fun _ n0 e0 t0=>?_)
 ·refine iA [2]<|vTT<|hr H
 refine iA [0,5,6,7]<|vB<|lX (fun(v0:Int)=>Z [p 0 (L Ty.str a0),p 5 (L Ty.str a0),p 6 (I (a0.length:Int)),p 7 (I v0)] []) 0 H fun _ g1 b1 e1 t1 v0 H=>iA [0,5,6,7,8]<|vQ<|cD H (fun H=>?_) (fun H=>?_)
 ·refine vK<|fQ<|vQ<|vB<|iB [0,3,4,5,6,7] H fun H=>iB [0,5,6,7,21] H fun H=>cD H (fun H=>iA [2]<|vTT<|fDD<|fR<|t1<|fDD<|t0<|hr H) fun H=>vK<|fK<|fQ<|jB [0,5,6,7] H fun H=>b1 H
 exact vE<|fE<|e1<|fX rfl<|n0 H
def u112J2(v4:List ByteArray)(a0:Y44):List ByteArray->Option Bool
 | v9 =>
 gd (((decide ((v4.length:Int)<=14)&&decide ((a0.2.1.length:Int)<=30)&&decide ((v9.length:Int)<=8))=true/\True->(u135 v4).isSome)/\((decide ((v4.length:Int)<=14)&&decide ((a0.2.1.length:Int)<=30)&&decide ((v9.length:Int)<=8)&&vl (u135 v4))=true/\True->(u135 a0.2.1).isSome)/\((decide ((v4.length:Int)<=14)&&decide ((a0.2.1.length:Int)<=30)&&decide ((v9.length:Int)<=8)&&vl (u135 v4)&&vl (u135 a0.2.1))=true/\True->(u135 v9).isSome)/\True) <|
 some (decide ((v4.length:Int)<=14)&&decide ((a0.2.1.length:Int)<=30)&&decide ((v9.length:Int)<=8)&&vl (u135 v4)&&vl (u135 a0.2.1)&&vl (u135 v9))
def u112L3(a0:Y44)(v4:List ByteArray)(g3:List ByteArray×Int->Option Bool):List ByteArray×Int->Option Bool
 | (v6,v7) =>
 if(decide (v7 < (a0.2.2.length:Int))) then
  gd (ix v7 a0.2.2.length/\True)<|lt (a0.2.2.getD v7.toNat (dflt y149)) fun v8 =>
  gd ((v6.length+[v8.1].length<=9223372036854775807/\(v6.length+[v8.1].length)*16<=140737488355328)/\True) <|
  gd (in64 (v7+1)/\True) <|
  g3 (v6++[v8.1],v7+1)
 else
  u112J2 v4 a0 v6
def u112J0(a0:Y44):List ByteArray->Option Bool
 | v4 =>
 lp (u112L3 a0 v4) ([],0)
def u112L1(a0:Y44)(g1:List ByteArray×Int->Option Bool):List ByteArray×Int->Option Bool
 | (v1,v2) =>
 if(decide (v2 < (a0.1.length:Int))) then
  gd (ix v2 a0.1.length/\True)<|lt (a0.1.getD v2.toNat (dflt y94)) fun v3 =>
  gd ((v1.length+[v3.1].length<=9223372036854775807/\(v1.length+[v3.1].length)*16<=140737488355328)/\True) <|
  gd (in64 (v2+1)/\True) <|
  g1 (v1++[v3.1],v2+1)
 else
  u112J0 a0 v1
def u112(a0:Y44):Option Bool :=
 lp (u112L1 a0) ([],0)
def k112:Ct:=lct 112 [.agg y44] (fun x=>u112 x.1) (fun r:Bool=>B r) (fun _=>())
theorem o112:Ok prog k112:=by
 refine okM [.tmp 2] func112 ?_;intro y ⟨a0,_⟩ r H Q hn hr;have:=hz (tc o135 tn);refine iA [1]<|iA [1,3,4]<|jN r (fun(v4:List ByteArray)=>Z (G8 [p 4 (nil)]) [(1,K 44 y44 a0),(20,A 9 Ty.str v4 0)]) (u112J0 a0) (fun v4 H=>?_) (fun _ n0 e0 t0=>?_)
 ·refine jN r (fun(v9:List ByteArray)=>Z (G8 [p 4 (O 33)]) [(1,K 44 y44 a0),(20,A 9 Ty.str v4 0),(33,A 9 Ty.str v9 0)]) (u112J2 v4 a0) (fun v9 H=>?_) (fun _ n2 e2 t2=>?_)
  ·refine iB [2] H fun H=>vTT<|hr H
  refine iA [1,3,4,23,24,25]<|vB<|lX (fun((v6,v7):List ByteArray×Int)=>Z (G8 [p 4 (O 33),p 23 (L y149 a0.2.2),p 24 (I (a0.2.2.length:Int)),p 25 (I v7)]) [(1,K 44 y44 a0),(20,A 9 Ty.str v4 0),(33,A 9 Ty.str v6 0)]) ([],0) H fun _ g3 b3 e3 t3 ⟨v6,v7⟩ H=>iA [1,3,4,23,24,25,26]<|vQ<|cD H (fun H=>vK<|fQ<|vQ<|vB<|qD (fun v8=>Z (G8 [p 4 (O 33),p 8 (R 8),p 23 (L y149 a0.2.2),p 24 (I (a0.2.2.length:Int)),p 25 (I v7)]) [(8,K 149 y149 v8),(1,K 44 y44 a0),(20,A 9 Ty.str v4 0),(33,A 9 Ty.str v6 0)]) H fun v8 H=>jB [1,3,4,23,24,25] H fun H=>fK<|fQ<|jB [1,3,4,23,24,25] H fun H=>b3 H) fun H=>vE<|fE<|e3<|fX rfl<|n2 H
 refine iA [1,3,4,10,11,12]<|vB<|lX (fun((v1,v2):List ByteArray×Int)=>Z (G8 [p 4 (nil),p 10 (L y94 a0.1),p 11 (I (a0.1.length:Int)),p 12 (I v2)]) [(1,K 44 y44 a0),(20,A 9 Ty.str v1 0)]) ([],0) H fun _ g1 b1 e1 t1 ⟨v1,v2⟩ H=>iA [1,3,4,10,11,12,13]<|vQ<|cD H (fun H=>vK<|fQ<|vQ<|vB<|qD (fun v3=>Z (G8 [p 4 (nil),p 6 (R 6),p 10 (L y94 a0.1),p 11 (I (a0.1.length:Int)),p 12 (I v2)]) [(6,K 94 y94 v3),(1,K 44 y44 a0),(20,A 9 Ty.str v1 0)]) H fun v3 H=>jB [1,3,4,10,11,12] H fun H=>fK<|fQ<|jB [1,3,4,10,11,12] H fun H=>b1 H) fun H=>vE<|fE<|e1<|fX rfl<|n0 H
def u181(a0:Y97)(a1:Int):Option Bool :=
 some (a0.1==a1)
def k181:Ct:=lct 181 [.agg y97,.dat (.pt i64)] (fun x=>u181 x.1 x.2.1) (fun r:Bool=>B r) (fun _=>())
theorem o181:Ok prog k181:=by
 refine okM [.tmp 3] func181 ?_;intro y ⟨_,_,_⟩ r H Q hn hr;refine iA [1,2]<|iA [3]<|vTT<|hr H
def u180c181J0:Unit->Option Int
 | _ =>
 some (-1)
def u180c181L1(a0:List Y97)(a1:Int)(g1:Int->Option Int):Int->Option Int
 | v0 =>
 if(decide (v0 < (a0.length:Int))) then
  gd (ix v0 a0.length/\(u181 (a0.getD v0.toNat (dflt y97)) a1).isSome/\True) <|
  if(vl (u181 (a0.getD v0.toNat (dflt y97)) a1)) then
   some v0
  else
   gd (in64 (v0+1)/\True) <|
   g1 (v0+1)
 else
  u180c181J0 ()
def u180c181(a0:List Y97)(a1:Int):Option Int :=
 lp (u180c181L1 a0 a1) 0
def k180c181:Ct:=lct 180 [.dat y97.sl,.fn 181 i64.pt] (fun x=>u180c181 x.1 x.2.1) (fun r:Int=>I r) (fun _=>())
theorem o180c181:Ok prog k180c181:=by
 refine okM [.tmp 4] func180 ?_;intro y ⟨a0,a1,_⟩ r H Q hn hr;have:=hz (tc o181 tn);refine iA [0,1]<|jN r (fun(_:Unit)=>Z [] []) (u180c181J0) (fun _ H=>?_) (fun _ n0 e0 t0=>?_)
 ·refine iA [4]<|vTT<|hr H
 refine iA [0,1,7,8]<|vB<|lX (fun(v0:Int)=>Z [p 0 (L y97 a0),p 1 (AV.fn 181 [D i64.pt a1]),p 7 (I (a0.length:Int)),p 8 (I v0)] []) 0 H fun _ g1 b1 e1 t1 v0 H=>iA [0,1,7,8,9]<|vQ<|cD H (fun H=>?_) (fun H=>?_)
 ·refine vK<|fQ<|vQ<|vB<|iA [0,1,5,7,8]<|iB [0,1,5,7,8,16] H fun H=>cD H (fun H=>iA [4]<|vTT<|fDD<|fR<|t1<|fDD<|t0<|hr H) fun H=>vK<|fK<|fQ<|jB [0,1,7,8] H fun H=>b1 H
 exact vE<|fE<|e1<|fX rfl<|n0 H
def u161c181(a0:List Y97)(a1:Int):Option Bool :=
 gd ((u180c181 a0 a1).isSome/\True)<|lt (vl (u180c181 a0 a1)) fun v0 =>
 some (decide (0<=v0))
def k161c181:Ct:=lct 161 [.dat y97.sl,.fn 181 (.pt i64)] (fun x=>u161c181 x.1 x.2.1) (fun r:Bool=>B r) (fun _=>())
theorem o161c181:Ok prog k161c181:=by
 refine okM [.tmp 4] func161 ?_;intro y ⟨_,_,_⟩ r H Q hn hr;have:=hz (tc o180c181 (tc o181 tn));refine iA [0,1]<|iD o180c181 [4] H fun _ H=>vTT<|hr H
def u164(a0:Y92)(a1:Int):Option Bool :=
 gd ((u161c181 a0.2.2.2.1 a1).isSome/\True) <|
 some (vl (u161c181 a0.2.2.2.1 a1))
def k164:Ct:=lct 164 [.agg y92,.dat i64] (fun x=>u164 x.1 x.2.1) (fun r:Bool=>B r) (fun _=>())
theorem o164:Ok prog k164:=by
 refine okM [.tmp 4] func164 ?_;intro y ⟨_,_,_⟩ r H Q hn hr;have:=hz (tc o161c181 (tc o181 tn));refine iA [2,3]<|iB [4] H fun H=>vTT<|hr H
def u159(a0:List Y194):Option Int :=
 some (a0.length:Int)
def k159:Ct:=lct 159 [.dat y194.sl] (fun x=>u159 x.1) (fun r:Int=>I r) (fun _=>())
theorem o159:Ok prog k159:=by
 refine okM [.tmp 2] func159 ?_;intro y ⟨_,_⟩ r H Q hn hr;refine iA [0]<|iA [2]<|vTT<|hr H
def u163(a0:Y92):Option Int :=
 gd ((u159 a0.2.2.1).isSome/\in64 (vl (u159 a0.2.2.1)-1)/\True)<|lt (vl (u159 a0.2.2.1)) fun v0 =>
 some (v0-1)
def k163:Ct:=lct 163 [.agg y92] (fun x=>u163 x.1) (fun r:Int=>I r) (fun _=>())
theorem o163:Ok prog k163:=by
 refine okM [.tmp 2] func163 ?_;intro y ⟨_,_⟩ r H Q hn hr;have:=hz (tc o159 tn);refine iA [1]<|iD o159 [2] H fun _ H=>vTT<|hr H
def u151J0(a0:Y92):Int->Option Bool
 | v6 =>
 if(a0.2.1==1) then
  gd (((v6==(0:Int))=true/\True->(u163 a0).isSome)/\((v6==(0:Int))=true/\True->((0:Int)<=vl (u163 a0)/\vl (u163 a0)<=(62:Int))/\in64 ((1:Int)*(2:Int) ^ (vl (u163 a0)).toNat))/\((v6==(0:Int)&&(a0.2.2.2.2.1.length:Int)==(1:Int)*(2:den i64) ^ (vl (u163 a0)).toNat)=true/\True->(u91 a0.2.2.2.2.1 (0:Int) (1:Int)).isSome)/\True)<|lt (vl (u163 a0)) fun v7 =>
  some (v6==(0:Int)&&(a0.2.2.2.2.1.length:Int)==(1:Int)*(2:den i64) ^ v7.toNat&&vl (u91 a0.2.2.2.2.1 (0:Int) (1:Int)))
 else
  if(a0.2.1==2) then
   gd (((v6==1&&(a0.2.2.2.2.1.length:Int)==0)=true/\True->(u164 a0 1).isSome)/\((v6==1&&(a0.2.2.2.2.1.length:Int)==0&&!vl (u164 a0 1))=true/\True->(u164 a0 2).isSome)/\((v6==1&&(a0.2.2.2.2.1.length:Int)==0&&!vl (u164 a0 1))=true/\True->(u164 a0 3).isSome)/\True) <|
   some (v6==1&&(a0.2.2.2.2.1.length:Int)==0&&!vl (u164 a0 1)&&!vl (u164 a0 2)==vl (u164 a0 3))
  else
   if(a0.2.1==3) then
    gd (((v6==1&&(a0.2.2.2.2.1.length:Int)==0)=true/\True->(u164 a0 1).isSome)/\((v6==1&&(a0.2.2.2.2.1.length:Int)==0&&vl (u164 a0 1))=true/\True->(u164 a0 2).isSome)/\((v6==1&&(a0.2.2.2.2.1.length:Int)==0&&vl (u164 a0 1)&&vl (u164 a0 2))=true/\True->(u164 a0 3).isSome)/\True) <|
    some (v6==1&&(a0.2.2.2.2.1.length:Int)==0&&vl (u164 a0 1)&&vl (u164 a0 2)&&!vl (u164 a0 3))
   else
    some false
def u151J2(v3:Int)(g1:Int×Int->Option Bool):Int->Option Bool
 | v5 =>
 gd (in64 (v3+1)/\True) <|
 g1 (v5,v3+1)
def u151L1(a0:Y92)(g1:Int×Int->Option Bool):Int×Int->Option Bool
 | (v2,v3) =>
 if(decide (v3 < (a0.2.2.1.length:Int))) then
  gd (ix v3 a0.2.2.1.length/\True)<|lt (a0.2.2.1.getD v3.toNat (dflt y194)) fun v4 =>
  if v4.2.2.2 then
   gd (in64 (v2+1)/\True) <|
   u151J2 v3 g1 (v2+1)
  else
   u151J2 v3 g1 v2
 else
  u151J0 a0 v2
def u151(a0:Y92):Option Bool :=
 lp (u151L1 a0) (0,0)
def k151:Ct:=lct 151 [.agg y92] (fun x=>u151 x.1) (fun r:Bool=>B r) (fun _=>())
theorem o151:Ok prog k151:=by
 refine okM [.tmp 2] func151 ?_;intro y ⟨a0,_⟩ r H Q hn hr;have:=hz (tc o164 (tc o91 (tc o163 tn)));refine iA [1]<|iA [1,3]<|jN r (fun(v6:Int)=>Z (G3 v6 []) [(1,K 92 y92 a0)]) (u151J0 a0) (fun v6 H=>?_) (fun _ n0 e0 t0=>?_)
 ·refine vQ<|iA [1,3,19]<|vB<|iA [1,3,19,20]<|cD H (fun H=>iD o163 [2] H fun _ H=>vTT<|fDD<|fR<|hr H) fun H=>iA [1,3,19,38]<|cD H (fun H=>iB [2] H fun H=>vTT<|fDD<|fR<|hr H) fun H=>iA [1,3,60]<|cD H (fun H=>iB [2] H fun H=>vTT<|fDD<|fR<|hr H) fun H=>vK<|fK<|fQ<|iA [2]<|vTT<|hr H
 refine iA [1,3,7,8,9]<|vB<|lX (fun((v2,v3):Int×Int)=>Z (G3 v2 [p 7 (L y194 a0.2.2.1),p 8 (I (a0.2.2.1.length:Int)),p 9 (I v3)]) [(1,K 92 y92 a0)]) (0,0) H fun _ g1 b1 e1 t1 ⟨v2,v3⟩ H=>iA [1,3,7,8,9,10]<|vQ<|cD H (fun H=>?_) (fun H=>?_)
 ·refine vK<|fQ<|jN r (fun(v5:Int)=>Z (G3 v5 [p 7 (L y194 a0.2.2.1),p 8 (I (a0.2.2.1.length:Int)),p 9 (I v3)]) [(1,K 92 y92 a0)]) (u151J2 v3 g1) (fun v5 H=>?_) (fun _ n2 e2 t2=>?_)
  ·refine jB [1,3,7,8,9] H fun H=>b1 H
  refine vB<|qD (fun v4=>Z (G3 v2 [p 5 (R 5),p 7 (L y194 a0.2.2.1),p 8 (I (a0.2.2.1.length:Int)),p 9 (I v3)]) [(5,K 194 y194 v4),(1,K 92 y92 a0)]) H fun v4 H=>iA [1,3,7,8,9,14]<|cD H (fun H=>jB [1,3,7,8,9] H fun H=>fK<|n2 H) fun H=>vK<|fK<|n2 H
 exact vE<|fE<|e1<|fX rfl<|n0 H
def u179(a0:Y92)(a1:Int):Option Bool :=
 gd ((u163 a0).isSome/\in64 (vl (u163 a0)-1)/\(u117 a1 0 (vl (u163 a0)-1)).isSome/\True) <|
 some (vl (u117 a1 0 (vl (u163 a0)-1)))
def k179:Ct:=lct 179 [.agg y92,.dat i64] (fun x=>u179 x.1 x.2.1) (fun r:Bool=>B r) (fun _=>())
theorem o179:Ok prog k179:=by
 refine okM [.tmp 4] func179 ?_;intro y ⟨_,_,_⟩ r H Q hn hr;have:=hz (tc o117 (tc o163 tn));refine iA [1,2]<|iB [4] H fun H=>vTT<|hr H
def u191J1:Int->Option Int
 | v3 =>
 some v3
def u191L2(a0:List Int)(g2:Int×Int->Option Int):Int×Int->Option Int
 | (v1,v2) =>
 if(decide (v2 < (a0.length:Int))) then
  gd (ix v2 a0.length/\True) <|
  gd (in64 (v2+1)/\True) <|
  g2 ((min v1 (a0.getD v2.toNat 0),v2+1))
 else
  u191J1 v1
def u191J0(a0:List Int):Unit->Option Int
 | _ =>
 gd (ix 0 a0.length/\True) <|
 lp (u191L2 a0) ((a0.getD (Int.toNat (0:Int)) (0:Int),1))
def u191(a0:List Int):Option Int :=
 if(decide ((a0.length:Int)<1)) then
  none
 else
  u191J0 a0 ()
def k191:Ct:=lct 191 [.dat i64.sl] (fun x=>u191 x.1) (fun r:Int=>I r) (fun _=>())
theorem o191:Ok prog k191:=by
 refine okM [.tmp 2] func191 ?_;intro y ⟨a0,_⟩ r H Q hn hr;refine iA [0]<|jN r (fun(_:Unit)=>Z [p 0 (L i64 a0)] []) (u191J0 a0) (fun _ H=>?_) (fun _ n0 e0 t0=>?_)
 ·refine iB [0,3] H fun H=>jN r (fun(v3:Int)=>Z [p 3 (J v3)] []) (u191J1) (fun v3 H=>?_) (fun _ n1 e1 t1=>?_)
  ·refine iA [2]<|vTT<|hr H
  refine iA [0,3,4]<|vB<|lX (fun((v1,v2):Int×Int)=>Z [p 0 (L i64 a0),p 3 (J v1),p 4 (I v2)] []) ((a0.getD (Int.toNat (0:Int)) (0:Int),1)) H fun _ g2 b2 e2 t2 ⟨v1,v2⟩ H=>vQ<|iA [0,3,4,15]<|cD H (fun H=>vK<|fQ<|vQ<|vB<|jB [0,3,4] H fun H=>fK<|fQ<|jB [0,3,4] H fun H=>b2 H) fun H=>vE<|fE<|e2<|fX rfl<|n1 H
 refine iA [0,7]<|cD H (fun H=>dead H) fun H=>vK<|n0 H
def u199(a0:List Int):Option Bool :=
 gd ((u88 a0).isSome/\(u117 (vl (u88 a0)) 1 4).isSome/\(vl (u117 (vl (u88 a0)) 1 4)=true/\True->(u91 a0 0 100000).isSome)/\((vl (u117 (vl (u88 a0)) 1 4)&&vl (u91 a0 0 100000))=true/\True->(u93 a0).isSome)/\True) <|
 some (vl (u117 (vl (u88 a0)) 1 4)&&vl (u91 a0 0 100000)&&vl (u93 a0))
def k199:Ct:=lct 199 [.dat i64.sl] (fun x=>u199 x.1) (fun r:Bool=>B r) (fun _=>())
theorem o199:Ok prog k199:=by
 refine okM [.tmp 2] func199 ?_;intro y ⟨_,_⟩ r H Q hn hr;have:=hz (tc o93 (tc o91 (tc o117 (tc o88 tn))));refine iA [0]<|iB [2] H fun H=>vTT<|hr H
def u190(a0:Y213):Option Bool :=
 gd ((u199 a0.1).isSome/\(vl (u199 a0.1)=true/\True->(u199 a0.2.1).isSome)/\((vl (u199 a0.1)&&vl (u199 a0.2.1))=true/\True->in64 ((a0.1.length:Int)*(a0.2.1.length:Int)))/\((vl (u199 a0.1)&&vl (u199 a0.2.1)&&(a0.2.2.length:Int)==(a0.1.length:Int)*(a0.2.1.length:Int))=true/\True->(u91 a0.2.2 (-1000000) 1000000).isSome)/\True) <|
 some (vl (u199 a0.1)&&vl (u199 a0.2.1)&&(a0.2.2.length:Int)==(a0.1.length:Int)*(a0.2.1.length:Int)&&vl (u91 a0.2.2 (-1000000) 1000000))
def k190:Ct:=lct 190 [.agg y213] (fun x=>u190 x.1) (fun r:Bool=>B r) (fun _=>())
theorem o190:Ok prog k190:=by
 refine okM [.tmp 2] func190 ?_;intro y ⟨_,_⟩ r H Q hn hr;have:=hz (tc o91 (tc o199 tn));refine iA [1]<|iB [2] H fun H=>vTT<|hr H
def u189(a0:Y213)(a1:Bool):Option Bool :=
 gd ((u190 a0).isSome/\(a1=true/\(!vl (u190 a0))=false/\True->(u191 a0.2.2).isSome)/\True)<|lt (vl (u191 a0.2.2)) fun v0 =>
 some (!vl (u190 a0)||a1&&decide (v0<0))
def k189:Ct:=lct 189 [.agg y213,.dat (.pt Ty.bool)] (fun x=>u189 x.1 x.2.1) (fun r:Bool=>B r) (fun _=>())
theorem o189:Ok prog k189:=by
 refine okM [.tmp 3] func189 ?_;intro y ⟨_,_,_⟩ r H Q hn hr;have:=hz (tc o191 (tc o190 tn));refine iA [1,2]<|iD o191 [3] H fun _ H=>vTT<|hr H
def u198c189J0:Unit->Option Int
 | _ =>
 some (-1)
def u198c189L1(a0:List Y213)(a1:Bool)(g1:Int->Option Int):Int->Option Int
 | v0 =>
 if(decide (v0 < (a0.length:Int))) then
  gd (ix v0 a0.length/\(u189 (a0.getD v0.toNat (dflt y213)) a1).isSome/\True) <|
  if(vl (u189 (a0.getD v0.toNat (dflt y213)) a1)) then
   some v0
  else
   gd (in64 (v0+1)/\True) <|
   g1 (v0+1)
 else
  u198c189J0 ()
def u198c189(a0:List Y213)(a1:Bool):Option Int :=
 lp (u198c189L1 a0 a1) 0
def k198c189:Ct:=lct 198 [.dat y213.sl,.fn 189 Ty.bool.pt] (fun x=>u198c189 x.1 x.2.1) (fun r:Int=>I r) (fun _=>())
theorem o198c189:Ok prog k198c189:=by
 refine okM [.tmp 4] func198 ?_;intro y ⟨a0,a1,_⟩ r H Q hn hr;have:=hz (tc o189 tn);refine iA [0,1]<|jN r (fun(_:Unit)=>Z [] []) (u198c189J0) (fun _ H=>?_) (fun _ n0 e0 t0=>?_)
 ·refine iA [4]<|vTT<|hr H
 refine iA [0,1,7,8]<|vB<|lX (fun(v0:Int)=>Z [p 0 (L y213 a0),p 1 (AV.fn 189 [D Ty.bool.pt a1]),p 7 (I (a0.length:Int)),p 8 (I v0)] []) 0 H fun _ g1 b1 e1 t1 v0 H=>iA [0,1,7,8,9]<|vQ<|cD H (fun H=>?_) (fun H=>?_)
 ·refine vK<|fQ<|vQ<|vB<|iA [0,1,5,7,8]<|iB [0,1,5,7,8,16] H fun H=>cD H (fun H=>iA [4]<|vTT<|fDD<|fR<|t1<|fDD<|t0<|hr H) fun H=>vK<|fK<|fQ<|jB [0,1,7,8] H fun H=>b1 H
 exact vE<|fE<|e1<|fX rfl<|n0 H
def u188c189(a0:List Y213)(a1:Bool):Option Bool :=
 gd ((u198c189 a0 a1).isSome/\True)<|lt (vl (u198c189 a0 a1)) fun v0 =>
 some (decide (0<=v0))
def k188c189:Ct:=lct 188 [.dat y213.sl,.fn 189 (.pt Ty.bool)] (fun x=>u188c189 x.1 x.2.1) (fun r:Bool=>B r) (fun _=>())
theorem o188c189:Ok prog k188c189:=by
 refine okM [.tmp 4] func188 ?_;intro y ⟨_,_,_⟩ r H Q hn hr;have:=hz (tc o198c189 (tc o189 tn));refine iA [0,1]<|iD o198c189 [4] H fun _ H=>vTT<|hr H
def u177(a0:List Y213)(a1:Bool):Option Bool :=
 gd ((((a0.length:Int)==2)=true/\True->(u188c189 a0 a1).isSome)/\True) <|
 some ((a0.length:Int)==2&&!vl (u188c189 a0 a1))
def k177:Ct:=lct 177 [.dat y213.sl,.dat Ty.bool] (fun x=>u177 x.1 x.2.1) (fun r:Bool=>B r) (fun _=>())
theorem o177:Ok prog k177:=by
 refine okM [.tmp 4] func177 ?_;intro y ⟨_,_,_⟩ r H Q hn hr;have:=hz (tc o188c189 (tc o189 tn));refine iA [0,3]<|iB [4] H fun H=>vTT<|hr H
def u193(a0:Y194):Option Bool :=
 some a0.2.2.2
def k193:Ct:=lct 193 [.agg y194] (fun x=>u193 x.1) (fun r:Bool=>B r) (fun _=>())
theorem o193:Ok prog k193:=by
 refine okM [.tmp 2] func193 ?_;intro y ⟨_,_⟩ r H Q hn hr;refine iA [1]<|iA [2]<|vTT<|hr H
def u192c193J0:Unit->Option Int
 | _ =>
 some (-1)
def u192c193L1(a0:List Y194)(g1:Int->Option Int):Int->Option Int
 | v0 =>
 if(decide (v0 < (a0.length:Int))) then
  gd (ix v0 a0.length/\(u193 (a0.getD v0.toNat (dflt y194))).isSome/\True) <|
  if(vl (u193 (a0.getD v0.toNat (dflt y194)))) then
   some v0
  else
   gd (in64 (v0+1)/\True) <|
   g1 (v0+1)
 else
  u192c193J0 ()
def u192c193(a0:List Y194):Option Int :=
 lp (u192c193L1 a0) 0
def k192c193:Ct:=lct 192 [.dat y194.sl,.nof 193] (fun x=>u192c193 x.1) (fun r:Int=>I r) (fun _=>())
theorem o192c193:Ok prog k192c193:=by
 refine okM [.tmp 4] func192 ?_;intro y ⟨a0,_,_⟩ r H Q hn hr;have:=hz (tc o193 tn);refine iA [0,1]<|jN r (fun(_:Unit)=>Z [] []) (u192c193J0) (fun _ H=>?_) (fun _ n0 e0 t0=>?_)
 ·refine iA [4]<|vTT<|hr H
 refine iA [0,1,7,8]<|vB<|lX (fun(v0:Int)=>Z [p 0 (L y194 a0),p 1 (AV.fn 193 []),p 7 (I (a0.length:Int)),p 8 (I v0)] []) 0 H fun _ g1 b1 e1 t1 v0 H=>iA [0,1,7,8,9]<|vQ<|cD H (fun H=>?_) (fun H=>?_)
 ·refine vK<|fQ<|vQ<|vB<|iA [0,1,5,7,8]<|iB [0,1,5,7,8,16] H fun H=>cD H (fun H=>iA [4]<|vTT<|fDD<|fR<|t1<|fDD<|t0<|hr H) fun H=>vK<|fK<|fQ<|jB [0,1,7,8] H fun H=>b1 H
 exact vE<|fE<|e1<|fX rfl<|n0 H
def u178(a0:Y92):Option Int :=
 gd ((u192c193 a0.2.2.1).isSome/\True)<|lt (vl (u192c193 a0.2.2.1)) fun v0 =>
 some v0
def k178:Ct:=lct 178 [.agg y92] (fun x=>u178 x.1) (fun r:Int=>I r) (fun _=>())
theorem o178:Ok prog k178:=by
 refine okM [.tmp 2] func178 ?_;intro y ⟨_,_⟩ r H Q hn hr;have:=hz (tc o193 (tc o192c193 tn));refine iA [1]<|iD o192c193 [2] H fun _ H=>vTT<|hr H
def u176(a0:Int):Option Bool :=
 some (a0==4||a0==5)
def k176:Ct:=lct 176 [.dat i64] (fun x=>u176 x.1) (fun r:Bool=>B r) (fun _=>())
theorem o176:Ok prog k176:=by
 refine okM [.tmp 2] func176 ?_;intro y ⟨_,_⟩ r H Q hn hr;refine iA [0]<|iA [2]<|vTT<|hr H
def u160J0(a0:Y92)(a1:Y97):Bool->Option Bool
 | v2 =>
 if v2 then
  gd (ix a1.2.1 a0.2.2.1.length/\True) <|
  some ((a0.2.2.1.getD a1.2.1.toNat (dflt y194)).2.2.2&&a1.2.2.2.1==0)
 else
  some false
def u160(a0:Y92)(a1:Y97):Option Bool :=
 gd ((u176 a1.1).isSome/\True) <|
 if(vl (u176 a1.1)) then
  gd (((a1.2.2.2.1==0&&(a1.2.2.2.2.2.length:Int)==0)=true/\True->(u177 a1.2.2.2.2.1 false).isSome)/\((a1.2.2.2.1==0&&(a1.2.2.2.2.2.length:Int)==0&&vl (u177 a1.2.2.2.2.1 false))=true/\True->(u178 a0).isSome)/\((a1.2.2.2.1==0&&(a1.2.2.2.2.2.length:Int)==0&&vl (u177 a1.2.2.2.2.1 false)&&a1.2.1==vl (u178 a0)&&decide (0<=a1.2.1))=true/\True->(u179 a0 a1.2.2.1).isSome)/\True)<|lt (vl (u178 a0)) fun v0 =>
  some (a1.2.2.2.1==0&&(a1.2.2.2.2.2.length:Int)==0&&vl (u177 a1.2.2.2.2.1 false)&&a1.2.1==v0&&decide (0<=a1.2.1)&&vl (u179 a0 a1.2.2.1)&&a1.2.2.1 != a1.2.1)
 else
  gd ((u177 a1.2.2.2.2.1 true).isSome/\((!vl (u177 a1.2.2.2.2.1 true))=false/\True->(u177 a1.2.2.2.2.2 true).isSome)/\((!vl (u177 a1.2.2.2.2.1 true)||!vl (u177 a1.2.2.2.2.2 true))=false/\True->(u163 a0).isSome)/\((!vl (u177 a1.2.2.2.2.1 true)||!vl (u177 a1.2.2.2.2.2 true)||a1.2.2.1 != vl (u163 a0))=false/\True->(u179 a0 a1.2.1).isSome)/\True)<|lt (vl (u163 a0)) fun v1 =>
  if(!vl (u177 a1.2.2.2.2.1 true)||!vl (u177 a1.2.2.2.2.2 true)||a1.2.2.1 != v1||!vl (u179 a0 a1.2.1)) then
   some false
  else
   if(a1.1==1) then
    gd (ix a1.2.1 a0.2.2.1.length/\((!(a0.2.2.1.getD a1.2.1.toNat (dflt y194)).2.2.2)=true/\True->(u117 a1.2.2.2.1 1 3).isSome)/\True) <|
    some (!(a0.2.2.1.getD a1.2.1.toNat (dflt y194)).2.2.2&&vl (u117 a1.2.2.2.1 1 3))
   else
    if(a1.1==2) then
     u160J0 a0 a1 (a1.1==2)
    else
     u160J0 a0 a1 (a1.1==3)
def k160:Ct:=lct 160 [.agg y92,.agg y97] (fun x=>u160 x.1 x.2.1) (fun r:Bool=>B r) (fun _=>())
theorem o160:Ok prog k160:=by
 refine okM [.tmp 4] func160 ?_;intro y ⟨a0,a1,_⟩ r H Q hn hr;have:=hz (tc o117 (tc o179 (tc o163 (tc o177 (tc o178 (tc o176 tn))))));refine iA [2,3]<|vQ<|iB [2,3,7] H fun H=>cD H (fun H=>iD o178 [4] H fun _ H=>vTT<|fR<|hr H) fun H=>vK<|fQ<|vQ<|iD o163 [2,3,70] H fun _ H=>cD H (fun H=>iA [4]<|vTT<|fR<|hr H) fun H=>vK<|fQ<|vQ<|iA [2,3,72]<|vB<|iA [2,3,72,73]<|cD H (fun H=>iB [4] H fun H=>vTT<|fDD<|fR<|hr H) fun H=>jN r (fun(v2:Bool)=>Z (G7 [p 88 (B v2)]) [(3,K 97 y97 a1),(2,K 92 y92 a0)]) (u160J0 a0 a1) (fun v2 H=>?_) (fun _ n0 e0 t0=>?_)
 ·refine cD H (fun H=>iB [4] H fun H=>vTT<|fDD<|fR<|hr H) fun H=>vK<|fK<|fQ<|iA [4]<|vTT<|hr H
 refine iA [2,3,72,88]<|cD H (fun H=>vK<|n0 H) fun H=>jA [2,3,88]<|n0 H
def u162(a0:Y97)(a1:Y97):Option Bool :=
 some (a0.1==a1.1&&a0.2.1==a1.2.1&&a0.2.2.1==a1.2.2.1)
def k162:Ct:=lct 162 [.agg y97,.dat (.pt y97)] (fun x=>u162 x.1 x.2.1) (fun r:Bool=>B r) (fun _=>())
theorem o162:Ok prog k162:=by
 refine okM [.tmp 3] func162 ?_;intro y ⟨_,_,_⟩ r H Q hn hr;refine iA [1,2]<|iA [3]<|vTT<|hr H
def u180c162J0:Unit->Option Int
 | _ =>
 some (-1)
def u180c162L1(a0:List Y97)(a1:Y97)(g1:Int->Option Int):Int->Option Int
 | v0 =>
 if(decide (v0 < (a0.length:Int))) then
  gd (ix v0 a0.length/\(u162 (a0.getD v0.toNat (dflt y97)) a1).isSome/\True) <|
  if(vl (u162 (a0.getD v0.toNat (dflt y97)) a1)) then
   some v0
  else
   gd (in64 (v0+1)/\True) <|
   g1 (v0+1)
 else
  u180c162J0 ()
def u180c162(a0:List Y97)(a1:Y97):Option Int :=
 lp (u180c162L1 a0 a1) 0
def k180c162:Ct:=lct 180 [.dat y97.sl,.fn 162 y97.pt] (fun x=>u180c162 x.1 x.2.1) (fun r:Int=>I r) (fun _=>())
theorem o180c162:Ok prog k180c162:=by
 refine okM [.tmp 4] func180 ?_;intro y ⟨a0,a1,_⟩ r H Q hn hr;have:=hz (tc o162 tn);refine iA [0,1]<|jN r (fun(_:Unit)=>Z [] []) (u180c162J0) (fun _ H=>?_) (fun _ n0 e0 t0=>?_)
 ·refine iA [4]<|vTT<|hr H
 refine iA [0,1,7,8]<|vB<|lX (fun(v0:Int)=>Z [p 0 (L y97 a0),p 1 (AV.fn 162 [D y97.pt a1]),p 7 (I (a0.length:Int)),p 8 (I v0)] []) 0 H fun _ g1 b1 e1 t1 v0 H=>iA [0,1,7,8,9]<|vQ<|cD H (fun H=>?_) (fun H=>?_)
 ·refine vK<|fQ<|vQ<|vB<|iA [0,1,5,7,8]<|iB [0,1,5,7,8,16] H fun H=>cD H (fun H=>iA [4]<|vTT<|fDD<|fR<|t1<|fDD<|t0<|hr H) fun H=>vK<|fK<|fQ<|jB [0,1,7,8] H fun H=>b1 H
 exact vE<|fE<|e1<|fX rfl<|n0 H
def u161c162(a0:List Y97)(a1:Y97):Option Bool :=
 gd ((u180c162 a0 a1).isSome/\True)<|lt (vl (u180c162 a0 a1)) fun v0 =>
 some (decide (0<=v0))
def k161c162:Ct:=lct 161 [.dat y97.sl,.fn 162 (.pt y97)] (fun x=>u161c162 x.1 x.2.1) (fun r:Bool=>B r) (fun _=>())
theorem o161c162:Ok prog k161c162:=by
 refine okM [.tmp 4] func161 ?_;intro y ⟨_,_,_⟩ r H Q hn hr;have:=hz (tc o180c181 (tc o180c162 (tc o162 tn)));refine iA [0,1]<|iD o180c162 [4] H fun _ H=>vTT<|hr H
def u150J0(a0:Y92):Unit->Option Bool
 | _ =>
 some (decide ((a0.2.2.2.1.length:Int)<=8))
def u150L1(a0:Y92)(g1:Int->Option Bool):Int->Option Bool
 | v1 =>
 if(decide (v1 < (a0.2.2.2.1.length:Int))) then
  gd (ix v1 a0.2.2.2.1.length/\True)<|lt (a0.2.2.2.1.getD v1.toNat (dflt y97)) fun v2 =>
  gd ((u160 a0 v2).isSome/\((!vl (u160 a0 v2))=false/\True->(0:Int)<=(0:Int)/\(0:Int)<=v1/\v1<=(a0.2.2.2.1.length:Int))/\((!vl (u160 a0 v2))=false/\True->(u161c162 (List.take v1.toNat a0.2.2.2.1) v2).isSome)/\True) <|
  if(!vl (u160 a0 v2)||vl (u161c162 (List.take v1.toNat a0.2.2.2.1) v2)) then
   some false
  else
   gd (in64 (v1+1)/\True) <|
   g1 (v1+1)
 else
  u150J0 a0 ()
def u150(a0:Y92):Option Bool :=
 lp (u150L1 a0) 0
def k150:Ct:=lct 150 [.agg y92] (fun x=>u150 x.1) (fun r:Bool=>B r) (fun _=>())
theorem o150:Ok prog k150:=by
 refine okM [.tmp 2] func150 ?_;intro y ⟨a0,_⟩ r H Q hn hr;have:=hz (tc o161c181 (tc o161c162 (tc o162 (tc o160 tn))));refine iA [1]<|jN r (fun(_:Unit)=>Z [p 1 (R 1)] [(1,K 92 y92 a0)]) (u150J0 a0) (fun _ H=>?_) (fun _ n0 e0 t0=>?_)
 ·refine iA [2]<|vTT<|hr H
 refine iA [1,6,7,8]<|vB<|lX (fun(v1:Int)=>Z [p 1 (R 1),p 6 (L y97 a0.2.2.2.1),p 7 (I (a0.2.2.2.1.length:Int)),p 8 (I v1)] [(1,K 92 y92 a0)]) 0 H fun _ g1 b1 e1 t1 v1 H=>iA [1,6,7,8,9]<|vQ<|cD H (fun H=>?_) (fun H=>?_)
 ·refine vK<|fQ<|vQ<|vB<|qD (fun v2=>Z (G3 v1 [p 4 (R 4),p 6 (L y97 a0.2.2.2.1),p 7 (I (a0.2.2.2.1.length:Int)),p 8 (I v1)]) [(4,K 97 y97 v2),(1,K 92 y92 a0)]) H fun v2 H=>iB [1,6,7,8,24] H fun H=>cD H (fun H=>iA [2]<|vTT<|fDD<|fR<|t1<|fDD<|t0<|hr H) fun H=>vK<|fK<|fQ<|jB [1,6,7,8] H fun H=>b1 H
 exact vE<|fE<|e1<|fX rfl<|n0 H
def u149J0(a0:List Y194):List ByteArray->Option Bool
 | v6 =>
 gd ((u159 a0).isSome/\(u117 (vl (u159 a0)) 2 5).isSome/\(vl (u117 (vl (u159 a0)) 2 5)=true/\True->(u135 v6).isSome)/\True) <|
 some (vl (u117 (vl (u159 a0)) 2 5)&&vl (u135 v6))
def u149J2(v3:Int)(g1:List ByteArray×Int->Option Bool):List ByteArray->Option Bool
 | v5 =>
 gd (in64 (v3+1)/\True) <|
 g1 (v5,v3+1)
def u149L1(a0:List Y194)(g1:List ByteArray×Int->Option Bool):List ByteArray×Int->Option Bool
 | (v2,v3) =>
 if(decide (v3 < (a0.length:Int))) then
  gd (ix v3 a0.length/\True)<|lt (a0.getD v3.toNat (dflt y194)) fun v4 =>
  gd ((v2.length+[v4.1].length<=9223372036854775807/\(v2.length+[v4.1].length)*16<=140737488355328)/\True) <|
  gd (in64 ((a0.length:Int)-1)/\True) <|
  if(v3==(a0.length:Int)-1) then
   if(v4.2.1 != 2||v4.2.2.1 != 0||v4.2.2.2) then
    some false
   else
    u149J2 v3 g1 (v2++[v4.1])
  else
   gd (((v4.2.1 != 1)=false/\True->(u117 v4.2.2.1 0 500).isSome)/\True) <|
   if(v4.2.1 != 1||!vl (u117 v4.2.2.1 0 500)) then
    some false
   else
    u149J2 v3 g1 (v2++[v4.1])
 else
  u149J0 a0 v2
def u149(a0:List Y194):Option Bool :=
 lp (u149L1 a0) ([],0)
def k149:Ct:=lct 149 [.dat y194.sl] (fun x=>u149 x.1) (fun r:Bool=>B r) (fun _=>())
theorem o149:Ok prog k149:=by
 refine okM [.tmp 2] func149 ?_;intro y ⟨a0,_⟩ r H Q hn hr;have:=hz (tc o135 (tc o117 (tc o159 tn)));refine iA [0]<|iA [0,3]<|jN r (fun(v6:List ByteArray)=>Z [p 0 (L y194 a0),p 3 (O 17)] [(17,A 9 Ty.str v6 0)]) (u149J0 a0) (fun v6 H=>?_) (fun _ n0 e0 t0=>?_)
 ·refine iB [2] H fun H=>vTT<|hr H
 refine iA [0,3,6,7,8]<|vB<|lX (fun((v2,v3):List ByteArray×Int)=>Z [p 0 (L y194 a0),p 3 (O 17),p 6 (L y194 a0),p 7 (I (a0.length:Int)),p 8 (I v3)] [(17,A 9 Ty.str v2 0)]) ([],0) H fun _ g1 b1 e1 t1 ⟨v2,v3⟩ H=>iA [0,3,6,7,8,9]<|vQ<|cD H (fun H=>?_) (fun H=>?_)
 ·refine vK<|fQ<|jN r (fun(v5:List ByteArray)=>Z [p 0 (L y194 a0),p 3 (O 17),p 6 (L y194 a0),p 7 (I (a0.length:Int)),p 8 (I v3)] [(17,A 9 Ty.str v5 0)]) (u149J2 v3 g1) (fun v5 H=>?_) (fun _ n2 e2 t2=>?_)
  ·refine jB [0,3,6,7,8] H fun H=>b1 H
  refine vB<|qD (fun v4=>Z [p 0 (L y194 a0),p 3 (O 17),p 4 (I v3),p 5 (R 5),p 6 (L y194 a0),p 7 (I (a0.length:Int)),p 8 (I v3)] [(5,K 194 y194 v4),(17,A 9 Ty.str v2 0)]) H fun v4 H=>iB [0,3,4,5,6,7,8] H fun H=>iB [0,3,5,6,7,8,22] H fun H=>cD H (fun H=>?_) (fun H=>?_)
  ·refine iA [0,3,6,7,8,34]<|cD H (fun H=>iA [2]<|vTT<|fDD<|t2<|t1<|fDD<|t0<|hr H) fun H=>vK<|fK<|n2 H
  refine iB [0,3,6,7,8,43] H fun H=>cD H (fun H=>iA [2]<|vTT<|fDD<|t2<|t1<|fDD<|t0<|hr H) fun H=>vK<|fK<|n2 H
 exact vE<|fE<|e1<|fX rfl<|n0 H
def u134(a0:Y92):Option Bool :=
 gd ((u148 a0.1).isSome/\(vl (u148 a0.1)=true/\True->(u149 a0.2.2.1).isSome)/\((vl (u148 a0.1)&&vl (u149 a0.2.2.1))=true/\True->(u150 a0).isSome)/\((vl (u148 a0.1)&&vl (u149 a0.2.2.1)&&vl (u150 a0))=true/\True->(u117 a0.2.2.2.2.2.1 0 100000).isSome)/\((vl (u148 a0.1)&&vl (u149 a0.2.2.1)&&vl (u150 a0)&&vl (u117 a0.2.2.2.2.2.1 0 100000))=true/\True->(u117 a0.2.2.2.2.2.2 0 100000).isSome)/\((vl (u148 a0.1)&&vl (u149 a0.2.2.1)&&vl (u150 a0)&&vl (u117 a0.2.2.2.2.2.1 0 100000)&&vl (u117 a0.2.2.2.2.2.2 0 100000))=true/\True->(u151 a0).isSome)/\True) <|
 some (vl (u148 a0.1)&&vl (u149 a0.2.2.1)&&vl (u150 a0)&&vl (u117 a0.2.2.2.2.2.1 0 100000)&&vl (u117 a0.2.2.2.2.2.2 0 100000)&&vl (u151 a0))
def k134:Ct:=lct 134 [.agg y92] (fun x=>u134 x.1) (fun r:Bool=>B r) (fun _=>())
theorem o134:Ok prog k134:=by
 refine okM [.tmp 2] func134 ?_;intro y ⟨_,_⟩ r H Q hn hr;have:=hz (tc o151 (tc o117 (tc o150 (tc o149 (tc o148 tn)))));refine iA [1]<|iB [2] H fun H=>vTT<|hr H
def u111J0(a0:List Y92):List ByteArray->Option Bool
 | v4 =>
 gd ((decide ((a0.length:Int)<=8)=true/\True->(u135 v4).isSome)/\True) <|
 some (decide ((a0.length:Int)<=8)&&vl (u135 v4))
def u111L1(a0:List Y92)(g1:List ByteArray×Int->Option Bool):List ByteArray×Int->Option Bool
 | (v1,v2) =>
 if(decide (v2 < (a0.length:Int))) then
  gd (ix v2 a0.length/\True)<|lt (a0.getD v2.toNat (dflt y92)) fun v3 =>
  gd ((u134 v3).isSome/\True) <|
  if(!vl (u134 v3)) then
   some false
  else
   gd ((v1.length+[v3.1].length<=9223372036854775807/\(v1.length+[v3.1].length)*16<=140737488355328)/\True) <|
   gd (in64 (v2+1)/\True) <|
   g1 (v1++[v3.1],v2+1)
 else
  u111J0 a0 v1
def u111(a0:List Y92):Option Bool :=
 lp (u111L1 a0) ([],0)
def k111:Ct:=lct 111 [.agg y92.sl] (fun x=>u111 x.1) (fun r:Bool=>B r) (fun _=>())
theorem o111:Ok prog k111:=by
 refine okM [.tmp 2] func111 ?_;intro y ⟨a0,_⟩ r H Q hn hr;have:=hz (tc o135 (tc o134 tn));refine iA [1]<|iA [1,3]<|jN r (fun(v4:List ByteArray)=>Z (G8 []) [(1,bx 40 [L y92 a0]),(20,A 9 Ty.str v4 0)]) (u111J0 a0) (fun v4 H=>?_) (fun _ n0 e0 t0=>?_)
 ·refine iB [2] H fun H=>vTT<|hr H
 refine iA [1,3,7,8,9]<|vB<|lX (fun((v1,v2):List ByteArray×Int)=>Z (G8 [p 7 (L y92 a0),p 8 (I (a0.length:Int)),p 9 (I v2)]) [(1,bx 40 [L y92 a0]),(20,A 9 Ty.str v1 0)]) ([],0) H fun _ g1 b1 e1 t1 ⟨v1,v2⟩ H=>iA [1,3,7,8,9,10]<|vQ<|cD H (fun H=>?_) (fun H=>?_)
 ·refine vK<|fQ<|vQ<|vB<|qD (fun v3=>Z (G8 [p 5 (R 5),p 7 (L y92 a0),p 8 (I (a0.length:Int)),p 9 (I v2)]) [(5,K 92 y92 v3),(1,bx 40 [L y92 a0]),(20,A 9 Ty.str v1 0)]) H fun v3 H=>vQ<|iB [1,3,5,7,8,9,15] H fun H=>cD H (fun H=>iA [2]<|vTT<|fR<|fDD<|fR<|t1<|fDD<|t0<|hr H) fun H=>vK<|fQ<|jB [1,3,7,8,9] H fun H=>fK<|fQ<|jB [1,3,7,8,9] H fun H=>b1 H
 exact vE<|fE<|e1<|fX rfl<|n0 H
def u139c116J0:Unit->Option Int
 | _ =>
 some (-1)
def u139c116L1(a0:List Int)(g1:Int->Option Int):Int->Option Int
 | v0 =>
 if(decide (v0 < (a0.length:Int))) then
  gd (ix v0 a0.length/\(u116 (a0.getD v0.toNat 0)).isSome/\True) <|
  if(vl (u116 (a0.getD v0.toNat 0))) then
   some v0
  else
   gd (in64 (v0+1)/\True) <|
   g1 (v0+1)
 else
  u139c116J0 ()
def u139c116(a0:List Int):Option Int :=
 lp (u139c116L1 a0) 0
def k139c116:Ct:=lct 139 [.dat i64.sl,.nof 116] (fun x=>u139c116 x.1) (fun r:Int=>I r) (fun _=>())
theorem o139c116:Ok prog k139c116:=by
 refine okM [.tmp 4] func139 ?_;intro y ⟨a0,_,_⟩ r H Q hn hr;have:=hz (tc o116 tn);refine iA [0,1]<|jN r (fun(_:Unit)=>Z [] []) (u139c116J0) (fun _ H=>?_) (fun _ n0 e0 t0=>?_)
 ·refine iA [4]<|vTT<|hr H
 refine iA [0,1,7,8]<|vB<|lX (fun(v0:Int)=>Z [p 0 (L i64 a0),p 1 (AV.fn 116 []),p 7 (I (a0.length:Int)),p 8 (I v0)] []) 0 H fun _ g1 b1 e1 t1 v0 H=>iA [0,1,7,8,9]<|vQ<|cD H (fun H=>?_) (fun H=>?_)
 ·refine vK<|fQ<|vQ<|vB<|iA [0,1,5,7,8]<|iB [0,1,5,7,8,16] H fun H=>cD H (fun H=>iA [4]<|vTT<|fDD<|fR<|t1<|fDD<|t0<|hr H) fun H=>vK<|fK<|fQ<|jB [0,1,7,8] H fun H=>b1 H
 exact vE<|fE<|e1<|fX rfl<|n0 H
def u115c116(a0:List Int):Option Bool :=
 gd ((u139c116 a0).isSome/\True)<|lt (vl (u139c116 a0)) fun v0 =>
 some (decide (0<=v0))
def k115c116:Ct:=lct 115 [.dat i64.sl,.nof 116] (fun x=>u115c116 x.1) (fun r:Bool=>B r) (fun _=>())
theorem o115c116:Ok prog k115c116:=by
 refine okM [.tmp 4] func115 ?_;intro y ⟨_,_,_⟩ r H Q hn hr;have:=hz (tc o139c116 (tc o116 tn));refine iA [0,1]<|iD o139c116 [4] H fun _ H=>vTT<|hr H
def u84J2:List Int->Option Bool
 | v13 =>
 gd ((u115c116 v13).isSome/\True) <|
 some (!vl (u115c116 v13))
def u84J4(v9:Int)(g3:Int×List Int->Option Bool):List Int->Option Bool
 | v12 =>
 gd (in64 (v9+1)/\True) <|
 g3 (v9+1,v12)
def u84L3(a1:Y44)(g3:Int×List Int->Option Bool):Int×List Int->Option Bool
 | (v9,v10) =>
 if(decide (v9 < (a1.2.2.length:Int))) then
  gd (ix v9 a1.2.2.length/\True)<|lt (a1.2.2.getD v9.toNat (dflt y149)) fun v11 =>
  gd (((v11.2.1 != 1&&v11.2.1 != 2)=false/\True->(u114 a1 v11.2.2).isSome)/\True) <|
  if(v11.2.1 != 1&&v11.2.1 != 2||!vl (u114 a1 v11.2.2)) then
   some false
  else
   if(v11.2.1==1) then
    gd (ix v11.2.2 v10.length/\v11.2.2.toNat<v10.length/\in64 (v10.getD v11.2.2.toNat 0+1)/\ix v11.2.2 v10.length/\v11.2.2.toNat<v10.length/\True) <|
    u84J4 v9 g3 (v10.set v11.2.2.toNat (v10.getD v11.2.2.toNat 0+1))
   else
    u84J4 v9 g3 v10
 else
  u84J2 v10
def u84J0(a1:Y44):List Int->Option Bool
 | v6 =>
 lp (u84L3 a1) (0,v6)
def u84L1(a1:Y44)(a0:List Y92)(g1:Int×List Int->Option Bool):Int×List Int->Option Bool
 | (v2,v3) =>
 if(decide (v2 < (a1.1.length:Int))) then
  gd (ix v2 a1.1.length/\True)<|lt (a1.1.getD v2.toNat (dflt y94)) fun v4 =>
  gd ((u113 a1 a0 v4).isSome/\True) <|
  if(!vl (u113 a1 a0 v4)) then
   some false
  else
   gd (in64 ((v4.2.2.length:Int)-1)/\ix ((v4.2.2.length:Int)-1) v4.2.2.length/\ix (v4.2.2.getD ((v4.2.2.length:Int)-1).toNat 0) v3.length/\Int.toNat (v4.2.2.getD ((v4.2.2.length:Int)-1).toNat 0)<v3.length/\in64 (v3.getD (Int.toNat (v4.2.2.getD ((v4.2.2.length:Int)-1).toNat 0)) 0+1)/\ix (v4.2.2.getD ((v4.2.2.length:Int)-1).toNat 0) v3.length/\Int.toNat (v4.2.2.getD ((v4.2.2.length:Int)-1).toNat 0)<v3.length/\True)<|lt (v3.set (Int.toNat (v4.2.2.getD ((v4.2.2.length:Int)-1).toNat 0)) (v3.getD (Int.toNat (v4.2.2.getD ((v4.2.2.length:Int)-1).toNat 0)) 0+1)) fun v5 =>
   gd (in64 (v2+1)/\True) <|
   g1 (v2+1,v5)
 else
  u84J0 a1 v3
def u84(a0:List Y92)(a1:Y44):Option Bool :=
 gd ((u111 a0).isSome/\((!vl (u111 a0))=false/\True->(u112 a1).isSome)/\True) <|
 if(!vl (u111 a0)||!vl (u112 a1)) then
  some false
 else
  gd ((0<=(a1.2.1.length:Int)/\(a1.2.1.length:Int)=(a1.2.1.length:Int)/\(a1.2.1.length:Int).toNat*8<=281474976710656/\(a1.2.1.length:Int)<=9223372036854775807)/\True) <|
  lp (u84L1 a1 a0) ((0,List.replicate (a1.2.1.length:Int).toNat 0))
def k84:Ct:=lct 84 [.agg y92.sl,.agg y44] (fun x=>u84 x.1 x.2.1) (fun r:Bool=>B r) (fun _=>())
theorem o84:Ok prog k84:=by
 refine okM [.tmp 4] func84 ?_;intro y ⟨a0,a1,_⟩ r H Q hn hr;have:=hz (tc o116 (tc o115c116 (tc o114 (tc o113 (tc o112 (tc o111 tn))))));refine iA [2,3]<|vQ<|iB [2,3,17] H fun H=>cD H (fun H=>iA [4]<|vTT<|fR<|hr H) fun H=>vK<|fQ<|iB [2,3,5] H fun H=>jN r (fun(v6:List Int)=>Z [p 3 (R 3),p 5 (O 21)] [(21,A 3 i64 v6 0),(3,K 44 y44 a1)]) (u84J0 a1) (fun v6 H=>?_) (fun _ n0 e0 t0=>?_)
 ·refine jN r (fun(v13:List Int)=>Z [p 5 (O 21)] [(21,A 3 i64 v13 0)]) (u84J2) (fun v13 H=>?_) (fun _ n2 e2 t2=>?_)
  ·refine iB [4] H fun H=>vTT<|hr H
  refine iA [3,5,49,50,51]<|vB<|lX (fun((v9,v10):Int×List Int)=>Z [p 3 (R 3),p 5 (O 21),p 49 (L y149 a1.2.2),p 50 (I (a1.2.2.length:Int)),p 51 (I v9)] [(21,A 3 i64 v10 0),(3,K 44 y44 a1)]) (0,v6) H fun _ g3 b3 e3 t3 ⟨v9,v10⟩ H=>iA [3,5,49,50,51,52]<|vQ<|cD H (fun H=>?_) (fun H=>?_)
  ·refine vK<|fQ<|jN r (fun(v12:List Int)=>Z [p 3 (R 3),p 5 (O 21),p 49 (L y149 a1.2.2),p 50 (I (a1.2.2.length:Int)),p 51 (I v9)] [(21,A 3 i64 v12 0),(3,K 44 y44 a1)]) (u84J4 v9 g3) (fun v12 H=>?_) (fun _ n4 e4 t4=>?_)
   ·refine jB [3,5,49,50,51] H fun H=>b3 H
   refine vB<|qD (fun v11=>Z [p 3 (R 3),p 5 (O 21),p 9 (R 9),p 49 (L y149 a1.2.2),p 50 (I (a1.2.2.length:Int)),p 51 (I v9)] [(9,K 149 y149 v11),(21,A 3 i64 v10 0),(3,K 44 y44 a1)]) H fun v11 H=>vQ<|iB [3,5,9,49,50,51,69] H fun H=>cD H (fun H=>iA [4]<|vTT<|fR<|fDD<|t4<|t3<|fDD<|t2<|hr H) fun H=>vK<|fQ<|iA [3,5,9,49,50,51,72]<|cD H (fun H=>jB [3,5,49,50,51] H fun H=>fK<|n4 H) fun H=>vK<|fK<|n4 H
  exact vE<|fE<|e3<|fX rfl<|n2 H
 refine iA [2,3,5,23,24,25]<|vB<|lX (fun((v2,v3):Int×List Int)=>Z (G7 [p 5 (O 21),p 23 (L y94 a1.1),p 24 (I (a1.1.length:Int)),p 25 (I v2)]) ((21,A 3 i64 v3 0)::W5 a1 a0)) ((0,List.replicate (a1.2.1.length:Int).toNat 0)) H fun _ g1 b1 e1 t1 ⟨v2,v3⟩ H=>iA [2,3,5,23,24,25,26]<|vQ<|cD H (fun H=>?_) (fun H=>?_)
 ·refine vK<|fQ<|vQ<|vB<|qD (fun v4=>Z (G7 [p 5 (O 21),p 7 (R 7),p 23 (L y94 a1.1),p 24 (I (a1.1.length:Int)),p 25 (I v2)]) ((7,K 94 y94 v4)::(21,A 3 i64 v3 0)::W5 a1 a0)) H fun v4 H=>vQ<|iB [2,3,5,7,23,24,25,33] H fun H=>cD H (fun H=>iA [4]<|vTT<|fR<|fDD<|fR<|t1<|fDD<|t0<|hr H) fun H=>vK<|fQ<|zD (fun v5=>Z (G7 [p 5 (O 21),p 23 (L y94 a1.1),p 24 (I (a1.1.length:Int)),p 25 (I v2)]) ((21,A 3 i64 v5 0)::(7,K 94 y94 v4)::W5 a1 a0)) H fun v5 H=>fK<|fQ<|jB [2,3,5,23,24,25] H fun H=>b1 H
 exact vE<|fE<|e1<|fX rfl<|n0 H
def u57J3:Unit->Option Bool
 | _ =>
 some true
def u57L4(v9:List Int)(a0:Y47)(g4:Int->Option Bool):Int->Option Bool
 | v11 =>
 if(decide (v11 < (a0.2.2.length:Int))) then
  gd (ix v11 a0.2.2.length/\True)<|lt (a0.2.2.getD v11.toNat (dflt y111)) fun v12 =>
  gd (ix v11 v9.length/\v11.toNat<v9.length/\(u86 v12 (v9.getD v11.toNat 0)).isSome/\True) <|
  if(!vl (u86 v12 (v9.getD v11.toNat 0))) then
   some false
  else
   gd (in64 (v11+1)/\True) <|
   g4 (v11+1)
 else
  u57J3 ()
def u57J0(a0:Y47):List Int->Option Bool
 | v9 =>
 lp (u57L4 v9 a0) 0
def u57J2(v4:Int)(g1:Int×List Int->Option Bool):List Int->Option Bool
 | v8 =>
 gd (in64 (v4+1)/\True) <|
 g1 (v4+1,v8)
def u57L1(v0:List Y156)(a0:Y47)(g1:Int×List Int->Option Bool):Int×List Int->Option Bool
 | (v4,v5) =>
 if(decide (v4 < (v0.length:Int))) then
  gd (ix v4 v0.length/\v4.toNat<v0.length/\True)<|lt (v0.getD v4.toNat (dflt y156)) fun v6 =>
  if(!v6.2.2.2) then
   gd (ix v6.2.2.1 v5.length/\v6.2.2.1.toNat<v5.length/\in64 (v5.getD v6.2.2.1.toNat 0+1)/\ix v6.2.2.1 v5.length/\v6.2.2.1.toNat<v5.length/\True)<|lt (v5.set v6.2.2.1.toNat (v5.getD v6.2.2.1.toNat 0+1)) fun v7 =>
   u57J2 v4 g1 v7
  else
   u57J2 v4 g1 v5
 else
  u57J0 a0 v5
def u57(a0:Y47):Option Bool :=
 gd ((u84 a0.1 a0.2.1).isSome/\True) <|
 if(!vl (u84 a0.1 a0.2.1)||(a0.2.2.length:Int) != (a0.2.1.2.1.length:Int)) then
  some false
 else
  gd ((0<=(a0.2.2.length:Int)/\(a0.2.2.length:Int)=(a0.2.2.length:Int)/\(a0.2.2.length:Int).toNat*8<=281474976710656/\(a0.2.2.length:Int)<=9223372036854775807)/\True) <|
  gd ((u85 a0.2.1).isSome/\True)<|lt (vl (u85 a0.2.1)) fun v0 =>
  lp (u57L1 v0 a0) ((0,List.replicate (a0.2.2.length:Int).toNat 0))
def k57:Ct:=lct 57 [.agg y47] (fun x=>u57 x.1) (fun r:Bool=>B r) (fun _=>())
theorem o57:Ok prog k57:=by
 refine okM [.tmp 2] func57 ?_;intro y ⟨a0,_⟩ r H Q hn hr;have:=hz (tc o86 (tc o85 (tc o84 tn)));refine iA [1]<|vQ<|iB [1,23] H fun H=>cD H (fun H=>iA [2]<|vTT<|fR<|hr H) fun H=>vK<|fQ<|iB [1,3] H fun H=>jN r (fun(v9:List Int)=>Z [p 1 (R 1),p 3 (O 27)] [(27,A 2 i64 v9 0),(1,K 47 y47 a0)]) (u57J0 a0) (fun v9 H=>?_) (fun _ n0 e0 t0=>?_)
 ·refine jN r (fun(_:Unit)=>Z [] []) (u57J3) (fun _ H=>?_) (fun _ n3 e3 t3=>?_)
  ·refine iA [2]<|vTT<|hr H
  refine iA [3,48,49,50]<|vB<|lX (fun(v11:Int)=>Z [p 3 (O 27),p 48 (L y111 a0.2.2),p 49 (I (a0.2.2.length:Int)),p 50 (I v11)] [(27,A 2 i64 v9 0)]) 0 H fun _ g4 b4 e4 t4 v11 H=>iA [3,48,49,50,51]<|vQ<|cD H (fun H=>?_) (fun H=>?_)
  ·refine vK<|fQ<|vQ<|vB<|qD (fun v12=>Z [p 3 (O 27),p 6 (I v11),p 7 (R 7),p 48 (L y111 a0.2.2),p 49 (I (a0.2.2.length:Int)),p 50 (I v11)] [(7,K 111 y111 v12),(27,A 2 i64 v9 0)]) H fun v12 H=>iB [3,48,49,50,61] H fun H=>cD H (fun H=>iA [2]<|vTT<|fDD<|fR<|t4<|fDD<|t3<|hr H) fun H=>vK<|fK<|fQ<|jB [3,48,49,50] H fun H=>b4 H
  exact vE<|fE<|e4<|fX rfl<|n3 H
 refine iD o85 [1,3,30,31,32] H fun v0 H=>vB<|lX (fun((v4,v5):Int×List Int)=>Z [p 1 (R 1),p 3 (O 27),p 30 (O 30),p 31 (I (v0.length:Int)),p 32 (I v4)] [(30,A 156 y156 v0 0),(27,A 2 i64 v5 0),(1,K 47 y47 a0)]) ((0,List.replicate (a0.2.2.length:Int).toNat 0)) H fun _ g1 b1 e1 t1 ⟨v4,v5⟩ H=>iA [1,3,30,31,32,33]<|vQ<|cD H (fun H=>?_) (fun H=>?_)
 ·refine vK<|fQ<|jN r (fun(v8:List Int)=>Z [p 1 (R 1),p 3 (O 27),p 30 (O 30),p 31 (I (v0.length:Int)),p 32 (I v4)] [(27,A 2 i64 v8 0),(30,A 156 y156 v0 0),(1,K 47 y47 a0)]) (u57J2 v4 g1) (fun v8 H=>?_) (fun _ n2 e2 t2=>?_)
  ·refine jB [1,3,30,31,32] H fun H=>b1 H
  refine vB<|qD (fun v6=>Z [p 1 (R 1),p 3 (O 27),p 5 (R 5),p 30 (O 30),p 31 (I (v0.length:Int)),p 32 (I v4)] [(5,bx 156 (cellsD true y156 v6)),(30,A 156 y156 v0 0),(27,A 2 i64 v5 0),(1,K 47 y47 a0)]) H fun v6 H=>iA [1,3,5,30,31,32,38]<|cD H (fun H=>zD (fun v7=>Z [p 1 (R 1),p 3 (O 27),p 30 (O 30),p 31 (I (v0.length:Int)),p 32 (I v4)] [(27,A 2 i64 v7 0),(5,bx 156 (cellsD true y156 v6)),(30,A 156 y156 v0 0),(1,K 47 y47 a0)]) H fun v7 H=>fK<|n2 H) fun H=>vK<|fK<|n2 H
 exact vE<|fE<|e1<|fX rfl<|n0 H
def u27(a0:Y47)(a1:List Int):Option (Int ⊕ Y119×Int) :=
 gd ((u57 a0).isSome/\True) <|
 if(!vl (u57 a0)) then
  some (Sum.inl 1)
 else
  gd ((u58 a0).isSome/\True)<|lt (vl (u58 a0)) fun v0 =>
  gd ((u59 v0 a1).isSome/\True) <|
  if(!vl (u59 v0 a1)) then
   some (Sum.inl 2)
  else
   gd ((u60 v0 a1).isSome/\True)<|lt (vl (u60 v0 a1)) fun v1 =>
   some (Sum.inr (v1,(0:Int)))
def k27:Ct:=lct 27 [.agg y47,.dat i64.sl] (fun x=>u27 x.1 x.2.1) (two (fun r:Int=>AV.tup [AV.v (Value.pointer none),I r]) (fun r:Y119×Int=>AV.tup [D y119.pt r.1,I r.2])) (fun _=>())
def k27L:Ct:=lctL 27 [.agg y47,.dat i64.sl] (fun x=>u27 x.1 x.2.1) (fun r:Int=>AV.tup [AV.v (Value.pointer none),I r]) ()
def k27R:Ct:=lctR 27 [.agg y47,.dat i64.sl] (fun x=>u27 x.1 x.2.1) (fun r:Y119×Int=>AV.tup [D y119.pt r.1,I r.2]) ()
theorem o27:Ok prog k27:=by
 refine okM [.tmp 4,.tmp 5] func27 ?_;intro y ⟨_,_,_⟩ r H Q hn hr;have:=hz (tc o60 (tc o59 (tc o58 (tc o57 tn))));refine iA [1,2]<|vQ<|iB [1,2,9] H fun H=>cD H (fun H=>iA [4,5]<|vTT<|fR<|hr H) fun H=>vK<|fQ<|iD o58 [1,6] H fun _ H=>vQ<|iB [1,6,15] H fun H=>cD H (fun H=>iA [4,5]<|vTT<|fR<|hr H) fun H=>vK<|fQ<|iD o60 [4,5] H fun _ H=>vTT<|hr H
theorem o27L:Ok prog k27L:=ok_l o27
theorem o27R:Ok prog k27R:=ok_r o27
def u8(a0:Y47)(a1:List Int):Option (List (List Int)×Int) :=
 if(isL (u27 a0 a1)) then
  gd (isL (u27 a0 a1)=true/\True) <|
  if(vL (u27 a0 a1) != 0) then
   some (([],vL (u27 a0 a1)))
  else
   none
 else
  gd (isR (u27 a0 a1)=true/\True) <|
  if((vR (u27 a0 a1)).2 != 0) then
   some (([],(vR (u27 a0 a1)).2))
  else
   gd ((u28 (vR (u27 a0 a1)).1).isSome/\True)<|lt (vl (u28 (vR (u27 a0 a1)).1)) fun v0 =>
   some ((v0,(0:Int)))
def u11J0:Unit->Option Bool
 | _ =>
 some true
def u11L1(a0:List Int)(a1:List Int)(g1:Int->Option Bool):Int->Option Bool
 | v0 =>
 if(decide (v0 < (a0.length:Int))) then
  gd (ix v0 a0.length/\ix v0 a1.length/\True) <|
  if(a0.getD v0.toNat 0 != a1.getD v0.toNat 0) then
   some false
  else
   gd (in64 (v0+1)/\True) <|
   g1 (v0+1)
 else
  u11J0 ()
def u11(a0:List Int)(a1:List Int):Option Bool :=
 if((a0.length:Int) != (a1.length:Int)) then
  some false
 else
  lp (u11L1 a0 a1) 0
def k11:Ct:=lct 11 [.dat i64.sl,.dat i64.sl] (fun x=>u11 x.1 x.2.1) (fun r:Bool=>B r) (fun _=>())
theorem o11:Ok prog k11:=by
 refine okM [.tmp 4] func11 ?_;intro y ⟨a0,a1,_⟩ r H Q hn hr;refine iA [0,1]<|vQ<|iA [0,1,10]<|cD H (fun H=>iA [4]<|vTT<|fR<|hr H) fun H=>vK<|fQ<|jN r (fun(_:Unit)=>Z [] []) (u11J0) (fun _ H=>?_) (fun _ n0 e0 t0=>?_)
 ·refine iA [4]<|vTT<|hr H
 refine iA [0,1,5]<|vB<|lX (fun(v0:Int)=>Z [p 0 (L i64 a0),p 1 (L i64 a1),p 5 (I v0)] []) 0 H fun _ g1 b1 e1 t1 v0 H=>vQ<|iA [0,1,5,14]<|cD H (fun H=>?_) (fun H=>?_)
 ·refine vK<|fQ<|vQ<|vB<|iB [0,1,5,25] H fun H=>cD H (fun H=>iA [4]<|vTT<|fDD<|fR<|t1<|fDD<|t0<|hr H) fun H=>vK<|fK<|fQ<|jB [0,1,5] H fun H=>b1 H
 exact vE<|fE<|e1<|fX rfl<|n0 H
def u9J0:Unit->Option Bool
 | _ =>
 some true
def u9L1(a0:List (List Int))(a1:List (List Int))(g1:Int->Option Bool):Int->Option Bool
 | v0 =>
 if(decide (v0 < (a0.length:Int))) then
  gd (ix v0 a0.length/\ix v0 a1.length/\(u11 (a0.getD v0.toNat []) (a1.getD v0.toNat [])).isSome/\True) <|
  if(!vl (u11 (a0.getD v0.toNat []) (a1.getD v0.toNat []))) then
   some false
  else
   gd (in64 (v0+1)/\True) <|
   g1 (v0+1)
 else
  u9J0 ()
def u9(a0:List (List Int))(a1:List (List Int)):Option Bool :=
 if((a0.length:Int) != (a1.length:Int)) then
  some false
 else
  lp (u9L1 a0 a1) 0
def k9:Ct:=lct 9 [.dat i64.sl.sl,.dat i64.sl.sl] (fun x=>u9 x.1 x.2.1) (fun r:Bool=>B r) (fun _=>())
theorem o9:Ok prog k9:=by
 refine okM [.tmp 4] func9 ?_;intro y ⟨a0,a1,_⟩ r H Q hn hr;have:=hz (tc o11 tn);refine iA [0,1]<|vQ<|iA [0,1,10]<|cD H (fun H=>iA [4]<|vTT<|fR<|hr H) fun H=>vK<|fQ<|jN r (fun(_:Unit)=>Z [] []) (u9J0) (fun _ H=>?_) (fun _ n0 e0 t0=>?_)
 ·refine iA [4]<|vTT<|hr H
 refine iA [0,1,5]<|vB<|lX (fun(v0:Int)=>Z [p 0 (L i64.sl a0),p 1 (L i64.sl a1),p 5 (I v0)] []) 0 H fun _ g1 b1 e1 t1 v0 H=>vQ<|iA [0,1,5,14]<|cD H (fun H=>?_) (fun H=>?_)
 ·refine vK<|fQ<|vQ<|vB<|iB [0,1,5,26] H fun H=>cD H (fun H=>iA [4]<|vTT<|fDD<|fR<|t1<|fDD<|t0<|hr H) fun H=>vK<|fK<|fQ<|jB [0,1,5] H fun H=>b1 H
 exact vE<|fE<|e1<|fX rfl<|n0 H
def u69(a0:Y111)(a1:Y111):Option Bool :=
 gd ((u11 a0.1 a1.1).isSome/\True) <|
 if(!vl (u11 a0.1 a1.1)) then
  some false
 else
  gd ((u11 a0.2.1 a1.2.1).isSome/\True) <|
  if(!vl (u11 a0.2.1 a1.2.1)) then
   some false
  else
   gd ((u11 a0.2.2.1 a1.2.2.1).isSome/\True) <|
   if(!vl (u11 a0.2.2.1 a1.2.2.1)) then
    some false
   else
    gd ((u11 a0.2.2.2 a1.2.2.2).isSome/\True) <|
    if(!vl (u11 a0.2.2.2 a1.2.2.2)) then
     some false
    else
     some true
def k69:Ct:=lct 69 [.agg y111,.agg y111] (fun x=>u69 x.1 x.2.1) (fun r:Bool=>B r) (fun _=>())
theorem o69:Ok prog k69:=by
 refine okM [.tmp 4] func69 ?_;intro y ⟨_,_,_⟩ r H Q hn hr;have:=hz (tc o11 tn);refine iA [2,3]<|vQ<|iB [2,3,10] H fun H=>cD H (fun H=>iA [4]<|vTT<|fR<|hr H) fun H=>vK<|fQ<|vQ<|iB [2,3,16] H fun H=>cD H (fun H=>iA [4]<|vTT<|fR<|hr H) fun H=>vK<|fQ<|vQ<|iB [2,3,22] H fun H=>cD H (fun H=>iA [4]<|vTT<|fR<|hr H) fun H=>vK<|fQ<|vQ<|iB [28] H fun H=>cD H (fun H=>iA [4]<|vTT<|fR<|hr H) fun H=>vK<|fQ<|iA [4]<|vTT<|hr H
def u31J0:Unit->Option Bool
 | _ =>
 some true
def u31L1(a0:List Y111)(a1:List Y111)(g1:Int->Option Bool):Int->Option Bool
 | v0 =>
 if(decide (v0 < (a0.length:Int))) then
  gd (ix v0 a0.length/\ix v0 a1.length/\(u69 (a0.getD v0.toNat (dflt y111)) (a1.getD v0.toNat (dflt y111))).isSome/\True) <|
  if(!vl (u69 (a0.getD v0.toNat (dflt y111)) (a1.getD v0.toNat (dflt y111)))) then
   some false
  else
   gd (in64 (v0+1)/\True) <|
   g1 (v0+1)
 else
  u31J0 ()
def u31(a0:List Y111)(a1:List Y111):Option Bool :=
 if((a0.length:Int) != (a1.length:Int)) then
  some false
 else
  lp (u31L1 a0 a1) 0
def k31:Ct:=lct 31 [.dat y111.sl,.dat y111.sl] (fun x=>u31 x.1 x.2.1) (fun r:Bool=>B r) (fun _=>())
theorem o31:Ok prog k31:=by
 refine okM [.tmp 4] func31 ?_;intro y ⟨a0,a1,_⟩ r H Q hn hr;have:=hz (tc o69 tn);refine iA [0,1]<|vQ<|iA [0,1,10]<|cD H (fun H=>iA [4]<|vTT<|fR<|hr H) fun H=>vK<|fQ<|jN r (fun(_:Unit)=>Z [] []) (u31J0) (fun _ H=>?_) (fun _ n0 e0 t0=>?_)
 ·refine iA [4]<|vTT<|hr H
 refine iA [0,1,5]<|vB<|lX (fun(v0:Int)=>Z [p 0 (L y111 a0),p 1 (L y111 a1),p 5 (I v0)] []) 0 H fun _ g1 b1 e1 t1 v0 H=>vQ<|iA [0,1,5,14]<|cD H (fun H=>?_) (fun H=>?_)
 ·refine vK<|fQ<|vQ<|vB<|iB [0,1,5,26] H fun H=>cD H (fun H=>iA [4]<|vTT<|fDD<|fR<|t1<|fDD<|t0<|hr H) fun H=>vK<|fK<|fQ<|jB [0,1,5] H fun H=>b1 H
 exact vE<|fE<|e1<|fX rfl<|n0 H
def u100(a0:Y149)(a1:Y149):Option Bool :=
 if(!decide (a0.1=a1.1)) then
  some false
 else
  if(a0.2.1 != a1.2.1) then
   some false
  else
   if(a0.2.2 != a1.2.2) then
    some false
   else
    some true
def k100:Ct:=lct 100 [.agg y149,.agg y149] (fun x=>u100 x.1 x.2.1) (fun r:Bool=>B r) (fun _=>())
theorem o100:Ok prog k100:=by
 refine okM [.tmp 4] func100 ?_;intro y ⟨_,_,_⟩ r H Q hn hr;refine iA [2,3]<|vQ<|iA [2,3,9]<|cD H (fun H=>iA [4]<|vTT<|fR<|hr H) fun H=>vK<|fQ<|vQ<|iA [2,3,14]<|cD H (fun H=>iA [4]<|vTT<|fR<|hr H) fun H=>vK<|fQ<|vQ<|iA [19]<|cD H (fun H=>iA [4]<|vTT<|fR<|hr H) fun H=>vK<|fQ<|iA [4]<|vTT<|hr H
def u68J0:Unit->Option Bool
 | _ =>
 some true
def u68L1(a0:List Y149)(a1:List Y149)(g1:Int->Option Bool):Int->Option Bool
 | v0 =>
 if(decide (v0 < (a0.length:Int))) then
  gd (ix v0 a0.length/\ix v0 a1.length/\(u100 (a0.getD v0.toNat (dflt y149)) (a1.getD v0.toNat (dflt y149))).isSome/\True) <|
  if(!vl (u100 (a0.getD v0.toNat (dflt y149)) (a1.getD v0.toNat (dflt y149)))) then
   some false
  else
   gd (in64 (v0+1)/\True) <|
   g1 (v0+1)
 else
  u68J0 ()
def u68(a0:List Y149)(a1:List Y149):Option Bool :=
 if((a0.length:Int) != (a1.length:Int)) then
  some false
 else
  lp (u68L1 a0 a1) 0
def k68:Ct:=lct 68 [.dat y149.sl,.dat y149.sl] (fun x=>u68 x.1 x.2.1) (fun r:Bool=>B r) (fun _=>())
theorem o68:Ok prog k68:=by
 refine okM [.tmp 4] func68 ?_;intro y ⟨a0,a1,_⟩ r H Q hn hr;have:=hz (tc o100 tn);refine iA [0,1]<|vQ<|iA [0,1,10]<|cD H (fun H=>iA [4]<|vTT<|fR<|hr H) fun H=>vK<|fQ<|jN r (fun(_:Unit)=>Z [] []) (u68J0) (fun _ H=>?_) (fun _ n0 e0 t0=>?_)
 ·refine iA [4]<|vTT<|hr H
 refine iA [0,1,5]<|vB<|lX (fun(v0:Int)=>Z [p 0 (L y149 a0),p 1 (L y149 a1),p 5 (I v0)] []) 0 H fun _ g1 b1 e1 t1 v0 H=>vQ<|iA [0,1,5,14]<|cD H (fun H=>?_) (fun H=>?_)
 ·refine vK<|fQ<|vQ<|vB<|iB [0,1,5,26] H fun H=>cD H (fun H=>iA [4]<|vTT<|fDD<|fR<|t1<|fDD<|t0<|hr H) fun H=>vK<|fK<|fQ<|jB [0,1,5] H fun H=>b1 H
 exact vE<|fE<|e1<|fX rfl<|n0 H
def u67J0:Unit->Option Bool
 | _ =>
 some true
def u67L1(a0:List ByteArray)(a1:List ByteArray)(g1:Int->Option Bool):Int->Option Bool
 | v0 =>
 if(decide (v0 < (a0.length:Int))) then
  gd (ix v0 a0.length/\ix v0 a1.length/\True) <|
  if(!decide (a0.getD v0.toNat (dflt Ty.str)=a1.getD v0.toNat (dflt Ty.str))) then
   some false
  else
   gd (in64 (v0+1)/\True) <|
   g1 (v0+1)
 else
  u67J0 ()
def u67(a0:List ByteArray)(a1:List ByteArray):Option Bool :=
 if((a0.length:Int) != (a1.length:Int)) then
  some false
 else
  lp (u67L1 a0 a1) 0
def k67:Ct:=lct 67 [.dat Ty.str.sl,.dat Ty.str.sl] (fun x=>u67 x.1 x.2.1) (fun r:Bool=>B r) (fun _=>())
theorem o67:Ok prog k67:=by
 refine okM [.tmp 4] func67 ?_;intro y ⟨a0,a1,_⟩ r H Q hn hr;refine iA [0,1]<|vQ<|iA [0,1,10]<|cD H (fun H=>iA [4]<|vTT<|fR<|hr H) fun H=>vK<|fQ<|jN r (fun(_:Unit)=>Z [] []) (u67J0) (fun _ H=>?_) (fun _ n0 e0 t0=>?_)
 ·refine iA [4]<|vTT<|hr H
 refine iA [0,1,5]<|vB<|lX (fun(v0:Int)=>Z [p 0 (L Ty.str a0),p 1 (L Ty.str a1),p 5 (I v0)] []) 0 H fun _ g1 b1 e1 t1 v0 H=>vQ<|iA [0,1,5,14]<|cD H (fun H=>?_) (fun H=>?_)
 ·refine vK<|fQ<|vQ<|vB<|iB [0,1,5,25] H fun H=>cD H (fun H=>iA [4]<|vTT<|fDD<|fR<|t1<|fDD<|t0<|hr H) fun H=>vK<|fK<|fQ<|jB [0,1,5] H fun H=>b1 H
 exact vE<|fE<|e1<|fX rfl<|n0 H
def u99(a0:Y94)(a1:Y94):Option Bool :=
 if(!decide (a0.1=a1.1)) then
  some false
 else
  if(a0.2.1 != a1.2.1) then
   some false
  else
   gd ((u11 a0.2.2 a1.2.2).isSome/\True) <|
   if(!vl (u11 a0.2.2 a1.2.2)) then
    some false
   else
    some true
def k99:Ct:=lct 99 [.agg y94,.agg y94] (fun x=>u99 x.1 x.2.1) (fun r:Bool=>B r) (fun _=>())
theorem o99:Ok prog k99:=by
 refine okM [.tmp 4] func99 ?_;intro y ⟨_,_,_⟩ r H Q hn hr;have:=hz (tc o11 tn);refine iA [2,3]<|vQ<|iA [2,3,9]<|cD H (fun H=>iA [4]<|vTT<|fR<|hr H) fun H=>vK<|fQ<|vQ<|iA [2,3,14]<|cD H (fun H=>iA [4]<|vTT<|fR<|hr H) fun H=>vK<|fQ<|vQ<|iB [20] H fun H=>cD H (fun H=>iA [4]<|vTT<|fR<|hr H) fun H=>vK<|fQ<|iA [4]<|vTT<|hr H
def u66J0:Unit->Option Bool
 | _ =>
 some true
def u66L1(a0:List Y94)(a1:List Y94)(g1:Int->Option Bool):Int->Option Bool
 | v0 =>
 if(decide (v0 < (a0.length:Int))) then
  gd (ix v0 a0.length/\ix v0 a1.length/\(u99 (a0.getD v0.toNat (dflt y94)) (a1.getD v0.toNat (dflt y94))).isSome/\True) <|
  if(!vl (u99 (a0.getD v0.toNat (dflt y94)) (a1.getD v0.toNat (dflt y94)))) then
   some false
  else
   gd (in64 (v0+1)/\True) <|
   g1 (v0+1)
 else
  u66J0 ()
def u66(a0:List Y94)(a1:List Y94):Option Bool :=
 if((a0.length:Int) != (a1.length:Int)) then
  some false
 else
  lp (u66L1 a0 a1) 0
def k66:Ct:=lct 66 [.dat y94.sl,.dat y94.sl] (fun x=>u66 x.1 x.2.1) (fun r:Bool=>B r) (fun _=>())
theorem o66:Ok prog k66:=by
 refine okM [.tmp 4] func66 ?_;intro y ⟨a0,a1,_⟩ r H Q hn hr;have:=hz (tc o99 tn);refine iA [0,1]<|vQ<|iA [0,1,10]<|cD H (fun H=>iA [4]<|vTT<|fR<|hr H) fun H=>vK<|fQ<|jN r (fun(_:Unit)=>Z [] []) (u66J0) (fun _ H=>?_) (fun _ n0 e0 t0=>?_)
 ·refine iA [4]<|vTT<|hr H
 refine iA [0,1,5]<|vB<|lX (fun(v0:Int)=>Z [p 0 (L y94 a0),p 1 (L y94 a1),p 5 (I v0)] []) 0 H fun _ g1 b1 e1 t1 v0 H=>vQ<|iA [0,1,5,14]<|cD H (fun H=>?_) (fun H=>?_)
 ·refine vK<|fQ<|vQ<|vB<|iB [0,1,5,26] H fun H=>cD H (fun H=>iA [4]<|vTT<|fDD<|fR<|t1<|fDD<|t0<|hr H) fun H=>vK<|fK<|fQ<|jB [0,1,5] H fun H=>b1 H
 exact vE<|fE<|e1<|fX rfl<|n0 H
def u30(a0:Y44)(a1:Y44):Option Bool :=
 gd ((u66 a0.1 a1.1).isSome/\True) <|
 if(!vl (u66 a0.1 a1.1)) then
  some false
 else
  gd ((u67 a0.2.1 a1.2.1).isSome/\True) <|
  if(!vl (u67 a0.2.1 a1.2.1)) then
   some false
  else
   gd ((u68 a0.2.2 a1.2.2).isSome/\True) <|
   if(!vl (u68 a0.2.2 a1.2.2)) then
    some false
   else
    some true
def k30:Ct:=lct 30 [.agg y44,.agg y44] (fun x=>u30 x.1 x.2.1) (fun r:Bool=>B r) (fun _=>())
theorem o30:Ok prog k30:=by
 refine okM [.tmp 4] func30 ?_;intro y ⟨_,_,_⟩ r H Q hn hr;have:=hz (tc o68 (tc o67 (tc o66 tn)));refine iA [2,3]<|vQ<|iB [2,3,10] H fun H=>cD H (fun H=>iA [4]<|vTT<|fR<|hr H) fun H=>vK<|fQ<|vQ<|iB [2,3,16] H fun H=>cD H (fun H=>iA [4]<|vTT<|fR<|hr H) fun H=>vK<|fQ<|vQ<|iB [22] H fun H=>cD H (fun H=>iA [4]<|vTT<|fR<|hr H) fun H=>vK<|fQ<|iA [4]<|vTT<|hr H
def u166(a0:Y213)(a1:Y213):Option Bool :=
 gd ((u11 a0.1 a1.1).isSome/\True) <|
 if(!vl (u11 a0.1 a1.1)) then
  some false
 else
  gd ((u11 a0.2.1 a1.2.1).isSome/\True) <|
  if(!vl (u11 a0.2.1 a1.2.1)) then
   some false
  else
   gd ((u11 a0.2.2 a1.2.2).isSome/\True) <|
   if(!vl (u11 a0.2.2 a1.2.2)) then
    some false
   else
    some true
def k166:Ct:=lct 166 [.agg y213,.agg y213] (fun x=>u166 x.1 x.2.1) (fun r:Bool=>B r) (fun _=>())
theorem o166:Ok prog k166:=by
 refine okM [.tmp 4] func166 ?_;intro y ⟨_,_,_⟩ r H Q hn hr;have:=hz (tc o11 tn);refine iA [2,3]<|vQ<|iB [2,3,10] H fun H=>cD H (fun H=>iA [4]<|vTT<|fR<|hr H) fun H=>vK<|fQ<|vQ<|iB [2,3,16] H fun H=>cD H (fun H=>iA [4]<|vTT<|fR<|hr H) fun H=>vK<|fQ<|vQ<|iB [22] H fun H=>cD H (fun H=>iA [4]<|vTT<|fR<|hr H) fun H=>vK<|fQ<|iA [4]<|vTT<|hr H
def u153J0:Unit->Option Bool
 | _ =>
 some true
def u153L1(a0:List Y213)(a1:List Y213)(g1:Int->Option Bool):Int->Option Bool
 | v0 =>
 if(decide (v0 < (a0.length:Int))) then
  gd (ix v0 a0.length/\ix v0 a1.length/\(u166 (a0.getD v0.toNat (dflt y213)) (a1.getD v0.toNat (dflt y213))).isSome/\True) <|
  if(!vl (u166 (a0.getD v0.toNat (dflt y213)) (a1.getD v0.toNat (dflt y213)))) then
   some false
  else
   gd (in64 (v0+1)/\True) <|
   g1 (v0+1)
 else
  u153J0 ()
def u153(a0:List Y213)(a1:List Y213):Option Bool :=
 if((a0.length:Int) != (a1.length:Int)) then
  some false
 else
  lp (u153L1 a0 a1) 0
def k153:Ct:=lct 153 [.dat y213.sl,.dat y213.sl] (fun x=>u153 x.1 x.2.1) (fun r:Bool=>B r) (fun _=>())
theorem o153:Ok prog k153:=by
 refine okM [.tmp 4] func153 ?_;intro y ⟨a0,a1,_⟩ r H Q hn hr;have:=hz (tc o166 tn);refine iA [0,1]<|vQ<|iA [0,1,10]<|cD H (fun H=>iA [4]<|vTT<|fR<|hr H) fun H=>vK<|fQ<|jN r (fun(_:Unit)=>Z [] []) (u153J0) (fun _ H=>?_) (fun _ n0 e0 t0=>?_)
 ·refine iA [4]<|vTT<|hr H
 refine iA [0,1,5]<|vB<|lX (fun(v0:Int)=>Z [p 0 (L y213 a0),p 1 (L y213 a1),p 5 (I v0)] []) 0 H fun _ g1 b1 e1 t1 v0 H=>vQ<|iA [0,1,5,14]<|cD H (fun H=>?_) (fun H=>?_)
 ·refine vK<|fQ<|vQ<|vB<|iB [0,1,5,26] H fun H=>cD H (fun H=>iA [4]<|vTT<|fDD<|fR<|t1<|fDD<|t0<|hr H) fun H=>vK<|fK<|fQ<|jB [0,1,5] H fun H=>b1 H
 exact vE<|fE<|e1<|fX rfl<|n0 H
def u142(a0:Y97)(a1:Y97):Option Bool :=
 if(a0.1 != a1.1) then
  some false
 else
  if(a0.2.1 != a1.2.1) then
   some false
  else
   if(a0.2.2.1 != a1.2.2.1) then
    some false
   else
    if(a0.2.2.2.1 != a1.2.2.2.1) then
     some false
    else
     gd ((u153 a0.2.2.2.2.1 a1.2.2.2.2.1).isSome/\True) <|
     if(!vl (u153 a0.2.2.2.2.1 a1.2.2.2.2.1)) then
      some false
     else
      gd ((u153 a0.2.2.2.2.2 a1.2.2.2.2.2).isSome/\True) <|
      if(!vl (u153 a0.2.2.2.2.2 a1.2.2.2.2.2)) then
       some false
      else
       some true
def k142:Ct:=lct 142 [.agg y97,.agg y97] (fun x=>u142 x.1 x.2.1) (fun r:Bool=>B r) (fun _=>())
theorem o142:Ok prog k142:=by
 refine okM [.tmp 4] func142 ?_;intro y ⟨_,_,_⟩ r H Q hn hr;have:=hz (tc o153 tn);refine iA [2,3]<|vQ<|iA [2,3,9]<|cD H (fun H=>iA [4]<|vTT<|fR<|hr H) fun H=>vK<|fQ<|vQ<|iA [2,3,14]<|cD H (fun H=>iA [4]<|vTT<|fR<|hr H) fun H=>vK<|fQ<|vQ<|iA [2,3,19]<|cD H (fun H=>iA [4]<|vTT<|fR<|hr H) fun H=>vK<|fQ<|vQ<|iA [2,3,24]<|cD H (fun H=>iA [4]<|vTT<|fR<|hr H) fun H=>vK<|fQ<|vQ<|iB [2,3,30] H fun H=>cD H (fun H=>iA [4]<|vTT<|fR<|hr H) fun H=>vK<|fQ<|vQ<|iB [36] H fun H=>cD H (fun H=>iA [4]<|vTT<|fR<|hr H) fun H=>vK<|fQ<|iA [4]<|vTT<|hr H
def u126J0:Unit->Option Bool
 | _ =>
 some true
def u126L1(a0:List Y97)(a1:List Y97)(g1:Int->Option Bool):Int->Option Bool
 | v0 =>
 if(decide (v0 < (a0.length:Int))) then
  gd (ix v0 a0.length/\ix v0 a1.length/\(u142 (a0.getD v0.toNat (dflt y97)) (a1.getD v0.toNat (dflt y97))).isSome/\True) <|
  if(!vl (u142 (a0.getD v0.toNat (dflt y97)) (a1.getD v0.toNat (dflt y97)))) then
   some false
  else
   gd (in64 (v0+1)/\True) <|
   g1 (v0+1)
 else
  u126J0 ()
def u126(a0:List Y97)(a1:List Y97):Option Bool :=
 if((a0.length:Int) != (a1.length:Int)) then
  some false
 else
  lp (u126L1 a0 a1) 0
def k126:Ct:=lct 126 [.dat y97.sl,.dat y97.sl] (fun x=>u126 x.1 x.2.1) (fun r:Bool=>B r) (fun _=>())
theorem o126:Ok prog k126:=by
 refine okM [.tmp 4] func126 ?_;intro y ⟨a0,a1,_⟩ r H Q hn hr;have:=hz (tc o142 tn);refine iA [0,1]<|vQ<|iA [0,1,10]<|cD H (fun H=>iA [4]<|vTT<|fR<|hr H) fun H=>vK<|fQ<|jN r (fun(_:Unit)=>Z [] []) (u126J0) (fun _ H=>?_) (fun _ n0 e0 t0=>?_)
 ·refine iA [4]<|vTT<|hr H
 refine iA [0,1,5]<|vB<|lX (fun(v0:Int)=>Z [p 0 (L y97 a0),p 1 (L y97 a1),p 5 (I v0)] []) 0 H fun _ g1 b1 e1 t1 v0 H=>vQ<|iA [0,1,5,14]<|cD H (fun H=>?_) (fun H=>?_)
 ·refine vK<|fQ<|vQ<|vB<|iB [0,1,5,26] H fun H=>cD H (fun H=>iA [4]<|vTT<|fDD<|fR<|t1<|fDD<|t0<|hr H) fun H=>vK<|fK<|fQ<|jB [0,1,5] H fun H=>b1 H
 exact vE<|fE<|e1<|fX rfl<|n0 H
def u141(a0:Y194)(a1:Y194):Option Bool :=
 if(!decide (a0.1=a1.1)) then
  some false
 else
  if(a0.2.1 != a1.2.1) then
   some false
  else
   if(a0.2.2.1 != a1.2.2.1) then
    some false
   else
    if(!a0.2.2.2==a1.2.2.2) then
     some false
    else
     some true
def k141:Ct:=lct 141 [.agg y194,.agg y194] (fun x=>u141 x.1 x.2.1) (fun r:Bool=>B r) (fun _=>())
theorem o141:Ok prog k141:=by
 refine okM [.tmp 4] func141 ?_;intro y ⟨_,_,_⟩ r H Q hn hr;refine iA [2,3]<|vQ<|iA [2,3,9]<|cD H (fun H=>iA [4]<|vTT<|fR<|hr H) fun H=>vK<|fQ<|vQ<|iA [2,3,14]<|cD H (fun H=>iA [4]<|vTT<|fR<|hr H) fun H=>vK<|fQ<|vQ<|iA [2,3,19]<|cD H (fun H=>iA [4]<|vTT<|fR<|hr H) fun H=>vK<|fQ<|vQ<|iA [24]<|cD H (fun H=>iA [4]<|vTT<|fR<|hr H) fun H=>vK<|fQ<|iA [4]<|vTT<|hr H
def u125J0:Unit->Option Bool
 | _ =>
 some true
def u125L1(a0:List Y194)(a1:List Y194)(g1:Int->Option Bool):Int->Option Bool
 | v0 =>
 if(decide (v0 < (a0.length:Int))) then
  gd (ix v0 a0.length/\ix v0 a1.length/\(u141 (a0.getD v0.toNat (dflt y194)) (a1.getD v0.toNat (dflt y194))).isSome/\True) <|
  if(!vl (u141 (a0.getD v0.toNat (dflt y194)) (a1.getD v0.toNat (dflt y194)))) then
   some false
  else
   gd (in64 (v0+1)/\True) <|
   g1 (v0+1)
 else
  u125J0 ()
def u125(a0:List Y194)(a1:List Y194):Option Bool :=
 if((a0.length:Int) != (a1.length:Int)) then
  some false
 else
  lp (u125L1 a0 a1) 0
def k125:Ct:=lct 125 [.dat y194.sl,.dat y194.sl] (fun x=>u125 x.1 x.2.1) (fun r:Bool=>B r) (fun _=>())
theorem o125:Ok prog k125:=by
 refine okM [.tmp 4] func125 ?_;intro y ⟨a0,a1,_⟩ r H Q hn hr;have:=hz (tc o141 tn);refine iA [0,1]<|vQ<|iA [0,1,10]<|cD H (fun H=>iA [4]<|vTT<|fR<|hr H) fun H=>vK<|fQ<|jN r (fun(_:Unit)=>Z [] []) (u125J0) (fun _ H=>?_) (fun _ n0 e0 t0=>?_)
 ·refine iA [4]<|vTT<|hr H
 refine iA [0,1,5]<|vB<|lX (fun(v0:Int)=>Z [p 0 (L y194 a0),p 1 (L y194 a1),p 5 (I v0)] []) 0 H fun _ g1 b1 e1 t1 v0 H=>vQ<|iA [0,1,5,14]<|cD H (fun H=>?_) (fun H=>?_)
 ·refine vK<|fQ<|vQ<|vB<|iB [0,1,5,26] H fun H=>cD H (fun H=>iA [4]<|vTT<|fDD<|fR<|t1<|fDD<|t0<|hr H) fun H=>vK<|fK<|fQ<|jB [0,1,5] H fun H=>b1 H
 exact vE<|fE<|e1<|fX rfl<|n0 H
def u98(a0:Y92)(a1:Y92):Option Bool :=
 if(!decide (a0.1=a1.1)) then
  some false
 else
  if(a0.2.1 != a1.2.1) then
   some false
  else
   gd ((u125 a0.2.2.1 a1.2.2.1).isSome/\True) <|
   if(!vl (u125 a0.2.2.1 a1.2.2.1)) then
    some false
   else
    gd ((u126 a0.2.2.2.1 a1.2.2.2.1).isSome/\True) <|
    if(!vl (u126 a0.2.2.2.1 a1.2.2.2.1)) then
     some false
    else
     gd ((u11 a0.2.2.2.2.1 a1.2.2.2.2.1).isSome/\True) <|
     if(!vl (u11 a0.2.2.2.2.1 a1.2.2.2.2.1)) then
      some false
     else
      if(a0.2.2.2.2.2.1 != a1.2.2.2.2.2.1) then
       some false
      else
       if(a0.2.2.2.2.2.2 != a1.2.2.2.2.2.2) then
        some false
       else
        some true
def k98:Ct:=lct 98 [.agg y92,.agg y92] (fun x=>u98 x.1 x.2.1) (fun r:Bool=>B r) (fun _=>())
theorem o98:Ok prog k98:=by
 refine okM [.tmp 4] func98 ?_;intro y ⟨_,_,_⟩ r H Q hn hr;have:=hz (tc o11 (tc o126 (tc o125 tn)));refine iA [2,3]<|vQ<|iA [2,3,9]<|cD H (fun H=>iA [4]<|vTT<|fR<|hr H) fun H=>vK<|fQ<|vQ<|iA [2,3,14]<|cD H (fun H=>iA [4]<|vTT<|fR<|hr H) fun H=>vK<|fQ<|vQ<|iB [2,3,20] H fun H=>cD H (fun H=>iA [4]<|vTT<|fR<|hr H) fun H=>vK<|fQ<|vQ<|iB [2,3,26] H fun H=>cD H (fun H=>iA [4]<|vTT<|fR<|hr H) fun H=>vK<|fQ<|vQ<|iB [2,3,32] H fun H=>cD H (fun H=>iA [4]<|vTT<|fR<|hr H) fun H=>vK<|fQ<|vQ<|iA [2,3,37]<|cD H (fun H=>iA [4]<|vTT<|fR<|hr H) fun H=>vK<|fQ<|vQ<|iA [42]<|cD H (fun H=>iA [4]<|vTT<|fR<|hr H) fun H=>vK<|fQ<|iA [4]<|vTT<|hr H
def u65J0:Unit->Option Bool
 | _ =>
 some true
def u65L1(a0:List Y92)(a1:List Y92)(g1:Int->Option Bool):Int->Option Bool
 | v0 =>
 if(decide (v0 < (a0.length:Int))) then
  gd (ix v0 a0.length/\ix v0 a1.length/\(u98 (a0.getD v0.toNat (dflt y92)) (a1.getD v0.toNat (dflt y92))).isSome/\True) <|
  if(!vl (u98 (a0.getD v0.toNat (dflt y92)) (a1.getD v0.toNat (dflt y92)))) then
   some false
  else
   gd (in64 (v0+1)/\True) <|
   g1 (v0+1)
 else
  u65J0 ()
def u65(a0:List Y92)(a1:List Y92):Option Bool :=
 if((a0.length:Int) != (a1.length:Int)) then
  some false
 else
  lp (u65L1 a0 a1) 0
def k65:Ct:=lct 65 [.dat y92.sl,.dat y92.sl] (fun x=>u65 x.1 x.2.1) (fun r:Bool=>B r) (fun _=>())
theorem o65:Ok prog k65:=by
 refine okM [.tmp 4] func65 ?_;intro y ⟨a0,a1,_⟩ r H Q hn hr;have:=hz (tc o98 tn);refine iA [0,1]<|vQ<|iA [0,1,10]<|cD H (fun H=>iA [4]<|vTT<|fR<|hr H) fun H=>vK<|fQ<|jN r (fun(_:Unit)=>Z [] []) (u65J0) (fun _ H=>?_) (fun _ n0 e0 t0=>?_)
 ·refine iA [4]<|vTT<|hr H
 refine iA [0,1,5]<|vB<|lX (fun(v0:Int)=>Z [p 0 (L y92 a0),p 1 (L y92 a1),p 5 (I v0)] []) 0 H fun _ g1 b1 e1 t1 v0 H=>vQ<|iA [0,1,5,14]<|cD H (fun H=>?_) (fun H=>?_)
 ·refine vK<|fQ<|vQ<|vB<|iB [0,1,5,26] H fun H=>cD H (fun H=>iA [4]<|vTT<|fDD<|fR<|t1<|fDD<|t0<|hr H) fun H=>vK<|fK<|fQ<|jB [0,1,5] H fun H=>b1 H
 exact vE<|fE<|e1<|fX rfl<|n0 H
def u29(a0:List Y92)(a1:List Y92):Option Bool :=
 gd ((u65 a0 a1).isSome/\True) <|
 if(!vl (u65 a0 a1)) then
  some false
 else
  some true
def k29:Ct:=lct 29 [.agg y92.sl,.agg y92.sl] (fun x=>u29 x.1 x.2.1) (fun r:Bool=>B r) (fun _=>())
theorem o29:Ok prog k29:=by
 refine okM [.tmp 4] func29 ?_;intro y ⟨_,_,_⟩ r H Q hn hr;have:=hz (tc o65 tn);refine iA [2,3]<|vQ<|iB [10] H fun H=>cD H (fun H=>iA [4]<|vTT<|fR<|hr H) fun H=>vK<|fQ<|iA [4]<|vTT<|hr H
def u10(a0:Y47)(a1:Y47):Option Bool :=
 gd ((u29 a0.1 a1.1).isSome/\True) <|
 if(!vl (u29 a0.1 a1.1)) then
  some false
 else
  gd ((u30 a0.2.1 a1.2.1).isSome/\True) <|
  if(!vl (u30 a0.2.1 a1.2.1)) then
   some false
  else
   gd ((u31 a0.2.2 a1.2.2).isSome/\True) <|
   if(!vl (u31 a0.2.2 a1.2.2)) then
    some false
   else
    some true
def k10:Ct:=lct 10 [.agg y47,.agg y47] (fun x=>u10 x.1 x.2.1) (fun r:Bool=>B r) (fun _=>())
theorem o10:Ok prog k10:=by
 refine okM [.tmp 4] func10 ?_;intro y ⟨_,_,_⟩ r H Q hn hr;have:=hz (tc o31 (tc o30 (tc o29 tn)));refine iA [2,3]<|vQ<|iB [2,3,10] H fun H=>cD H (fun H=>iA [4]<|vTT<|fR<|hr H) fun H=>vK<|fQ<|vQ<|iB [2,3,16] H fun H=>cD H (fun H=>iA [4]<|vTT<|fR<|hr H) fun H=>vK<|fQ<|vQ<|iB [22] H fun H=>cD H (fun H=>iA [4]<|vTT<|fR<|hr H) fun H=>vK<|fQ<|iA [4]<|vTT<|hr H
def u35J0:Int->Option Int
 | v2 =>
 some v2
def u35L1(a0:List Int)(g1:Int×Int->Option Int):Int×Int->Option Int
 | (v0,v1) =>
 if(decide (v1 < (a0.length:Int))) then
  gd (ix v1 a0.length/\True) <|
  if(a0.getD v1.toNat 0 != v0) then
   some (-1)
  else
   gd (in64 (v0+1)/\True) <|
   gd (in64 (v1+1)/\True) <|
   g1 (v0+1,v1+1)
 else
  u35J0 v0
def u35(a0:List Int)(a1:Int):Option Int :=
 lp (u35L1 a0) (a1,0)
def k35:Ct:=lct 35 [.dat i64.sl,.dat i64] (fun x=>u35 x.1 x.2.1) (fun r:Int=>I r) (fun _=>())
theorem o35:Ok prog k35:=by
 refine okM [.tmp 4] func35 ?_;intro y ⟨a0,a1,_⟩ r H Q hn hr;refine iA [0,1]<|jN r (fun(v2:Int)=>Z [p 1 (J v2)] []) (u35J0) (fun v2 H=>?_) (fun _ n0 e0 t0=>?_)
 ·refine iA [4]<|vTT<|hr H
 refine iA [0,1,5]<|vB<|lX (fun((v0,v1):Int×Int)=>Z [p 0 (L i64 a0),p 1 (J v0),p 5 (I v1)] []) (a1,0) H fun _ g1 b1 e1 t1 ⟨v0,v1⟩ H=>vQ<|iA [0,1,5,9]<|cD H (fun H=>?_) (fun H=>?_)
 ·refine vK<|fQ<|vQ<|vB<|vQ<|iB [0,1,5,17] H fun H=>cD H (fun H=>iA [4]<|vTT<|fR<|fDD<|fR<|t1<|fDD<|t0<|hr H) fun H=>vK<|fQ<|jB [0,1,5] H fun H=>fK<|fQ<|jB [0,1,5] H fun H=>b1 H
 exact vE<|fE<|e1<|fX rfl<|n0 H
def u15J0:Int->Option Int
 | v4 =>
 some v4
def u15L1(a0:List (List Int))(g1:Int×Int->Option Int):Int×Int->Option Int
 | (v1,v2) =>
 if(decide (v2 < (a0.length:Int))) then
  gd (ix v2 a0.length/\(u35 (a0.getD v2.toNat []) v1).isSome/\True)<|lt (vl (u35 (a0.getD v2.toNat []) v1)) fun v3 =>
  if(decide (v3<0)) then
   some (-1)
  else
   gd (in64 (v2+1)/\True) <|
   g1 (v3,v2+1)
 else
  u15J0 v1
def u15(a0:List (List Int))(a1:Int):Option Int :=
 lp (u15L1 a0) (a1,0)
def k15:Ct:=lct 15 [.dat i64.sl.sl,.dat i64] (fun x=>u15 x.1 x.2.1) (fun r:Int=>I r) (fun _=>())
theorem o15:Ok prog k15:=by
 refine okM [.tmp 4] func15 ?_;intro y ⟨a0,a1,_⟩ r H Q hn hr;have:=hz (tc o35 tn);refine iA [0,1]<|jN r (fun(v4:Int)=>Z [p 1 (J v4)] []) (u15J0) (fun v4 H=>?_) (fun _ n0 e0 t0=>?_)
 ·refine iA [4]<|vTT<|hr H
 refine iA [0,1,5]<|vB<|lX (fun((v1,v2):Int×Int)=>Z [p 0 (L i64.sl a0),p 1 (J v1),p 5 (I v2)] []) (a1,0) H fun _ g1 b1 e1 t1 ⟨v1,v2⟩ H=>vQ<|iA [0,1,5,9]<|cD H (fun H=>?_) (fun H=>?_)
 ·refine vK<|fQ<|vQ<|vB<|iD o35 [0,1,5] H fun _ H=>iA [0,1,5,19]<|cD H (fun H=>iA [4]<|vTT<|fDD<|fR<|t1<|fDD<|t0<|hr H) fun H=>vK<|fK<|fQ<|jB [0,1,5] H fun H=>b1 H
 exact vE<|fE<|e1<|fX rfl<|n0 H
end Go.Proofs.YtlfeppknkfknhaaGreatDoor
end
