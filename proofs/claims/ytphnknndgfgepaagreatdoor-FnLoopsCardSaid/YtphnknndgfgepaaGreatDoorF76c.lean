/- Functions of this program as plain functions of data, and that they are so: printed by program. -/
import Derived.Test.YtphnknndgfgepaaGreatDoorF76b
section
namespace Go.Proofs.YtphnknndgfgepaaGreatDoor
open Go Go.Proofs Go.Proofs.Sv Go.Proofs.Xv Go.Proofs.Xl Go.RowKit
open Tryz
def A0S:List (List Int)->Option (List (List Int))
 | v31 =>
 some v31
def l0W(v18:Int)(g3:List (List Int)×Int×List Bool->Option (List (List Int))):List Bool×List (List Int)->Option (List (List Int))
 | (v29,v30) =>
 gd (l3 (v18+1)/\True) <|
 g3 (v30,v18+1,v29)
def A0R(v18:Int)(v17:List (List Int))(v24:List Int)(g3:List (List Int)×Int×List Bool->Option (List (List Int))):List Bool->Option (List (List Int))
 | v28 =>
 gd ((v17.length+[v24].length<=9223372036854775807/\(v17.length+[v24].length)*24<=140737488355328)/\True) <|
 l0W v18 g3 (v28,v17++[v24])
def A0O(v24:List Int)(v18:Int)(v17:List (List Int))(g3:List (List Int)×Int×List Bool->Option (List (List Int)))(g9:Int×List Bool->Option (List (List Int))):Int×List Bool->Option (List (List Int))
 | (v26,v27) =>
 if(decide (v26 < (v24.length:Int)))=true then
  gd (ix v26 v24.length/\v26.toNat<v24.length/\True) <|
  gd (ix (v24.getD v26.toNat 0) v27.length/\Int.toNat (v24.getD v26.toNat 0)<v27.length/\True) <|
  gd (l3 (v26+1)/\True) <|
  g9 ((v26+1,v27.set (Int.toNat (v24.getD v26.toNat 0)) true))
 else
  A0R v18 v17 v24 g3 v27
def q0m(v18:Int)(v19:List Bool)(v17:List (List Int))(a0:H2)(g3:List (List Int)×Int×List Bool->Option (List (List Int))):List Int->Option (List (List Int))
 | v24 =>
 gd ((decide ((v24.length:Int)<2)=true/\True->(A0n a0 v18).isSome=true)/\True) <|
 if(decide ((v24.length:Int)<2)&&!vl (A0n a0 v18))=true then
  l0W v18 g3 (v19,v17)
 else
  lp (A0O v24 v18 v17 g3) (0,v19)
def y0o(v22:Int)(g6:List Int×Int->Option (List (List Int))):List Int->Option (List (List Int))
 | v23 =>
 gd (l3 (v22+1)/\True) <|
 g6 (v23,v22+1)
def t0v(v5:List (List Bool))(v18:Int)(v19:List Bool)(v17:List (List Int))(a0:H2)(v0:Int)(g3:List (List Int)×Int×List Bool->Option (List (List Int)))(g6:List Int×Int->Option (List (List Int))):List Int×Int->Option (List (List Int))
 | (v21,v22) =>
 if(decide (v22<v0))=true then
  gd (ix v18 v5.length/\v18.toNat<v5.length/\ix v22 (List.length (v5.getD v18.toNat []))/\(List.getD (v5.getD v18.toNat []) v22.toNat false=true/\True->ix v22 v5.length)/\(List.getD (v5.getD v18.toNat []) v22.toNat false=true/\True->v22.toNat<v5.length)/\(List.getD (v5.getD v18.toNat []) v22.toNat false=true/\True->ix v18 (List.length (v5.getD v22.toNat [])))/\True) <|
  if(List.getD (v5.getD v18.toNat []) v22.toNat false&&List.getD (v5.getD v22.toNat []) v18.toNat false)=true then
   gd ((v21.length+[v22].length<=9223372036854775807/\(v21.length+[v22].length)*8<=140737488355328)/\True) <|
   y0o v22 g6 (v21++[v22])
  else
   y0o v22 g6 v21
 else
  q0m v18 v19 v17 a0 g3 v21
def A0P(v5:List (List Bool))(a0:H2)(v0:Int)(g3:List (List Int)×Int×List Bool->Option (List (List Int))):List (List Int)×Int×List Bool->Option (List (List Int))
 | (v17,v18,v19) =>
 if(decide (v18<v0))=true then
  gd (ix v18 v19.length/\v18.toNat<v19.length/\True) <|
  if(v19.getD v18.toNat false)=true then
   l0W v18 g3 (v19,v17)
  else
   lp (t0v v5 v18 v19 v17 a0 v0 g3) ([],0)
 else
  A0S v17
def q0n(a0:H2)(v0:Int):List (List Bool)->Option (List (List Int))
 | v5 =>
 gd ((0<=v0/\v0=v0/\v0.toNat*1<=281474976710656/\v0<=9223372036854775807)/\True) <|
 lp (A0P v5 a0 v0) ([],0,List.replicate v0.toNat false)
def A0Q(a0:H2)(v0:Int)(g1:List (List Bool)×Int->Option (List (List Int))):List (List Bool)×Int->Option (List (List Int))
 | (v2,v3) =>
 if(decide (v3<v0))=true then
  gd ((e0q a0 [v3]).isSome=true/\(v2.length+[vl (e0q a0 [v3])].length<=9223372036854775807/\(v2.length+[vl (e0q a0 [v3])].length)*24<=140737488355328)/\True)<|lt (vl (e0q a0 [v3])) fun v4 =>
  gd (l3 (v3+1)/\True) <|
  g1 (v2++[v4],v3+1)
 else
  q0n a0 v0 v2
def u81(a0:H2):Option (List (List Int)) :=
 gd ((B1 a0.1).isSome=true/\True)<|lt (vl (B1 a0.1)) fun v0 =>
 lp (A0Q a0 v0) ([],0)
def k81:Ct:=lct 81 [.dat y127.pt] (fun x=>u81 x.1) (fun r:List (List Int)=>AV.ow 35 true i64.sl r) (fun _=>())
theorem o81:Ok prog k81:=by
 refine okL [.tmp 2] func81 ntmps81 results81 ?_;intro y ⟨a0,_⟩ r H Q hn hr;have:HT _ _:=⟨tc I0C (tc o77 (tc y0Z (tc y0Y (tc C0l tn))))⟩;refine qA (Z [p 0 (D y127.pt a0)] [])<|qD (fun v0=>Z (G65 a0 v0 []) []) H fun v0 H=>qA (Z (G65 a0 v0 [p 4 (nil)]) [])<|jN r (fun(v5:List (List Bool))=>Z (G65 a0 v0 [p 4 (O 28)]) [(28,A 94 Ty.bool.sl v5 0)]) (q0n a0 v0) (fun v5 H=>?_) (fun _ n0 e0 t0=>?_)
 ·refine qB (Z (G65 a0 v0 [p 4 (O 28),p 6 (O 31)]) [(31,A 4 Ty.bool (List.replicate v0.toNat false) 0),(28,A 94 Ty.bool.sl v5 0)]) H fun H=>qA (Z (G65 a0 v0 [p 4 (O 28),p 6 (O 31),p 7 (nil)]) [(31,A 4 Ty.bool (List.replicate v0.toNat false) 0),(28,A 94 Ty.bool.sl v5 0)])<|jN r (fun(v31:List (List Int))=>Z [p 7 (O 87)] [(87,A 35 i64.sl v31 0)]) (A0S) (fun v31 H=>?_) (fun _ n2 e2 t2=>?_)
  ·refine qA (Z [p 2 (O 87)] [(87,A 35 i64.sl v31 0)])<|vTT<|hr H
  refine qA (Z (G65 a0 v0 [p 4 (O 28),p 6 (O 31),p 7 (nil),p 32 (I v0),p 33 (I 0)]) [(31,A 4 Ty.bool (List.replicate v0.toNat false) 0),(28,A 94 Ty.bool.sl v5 0)])<|vB<|lX (fun((v17,v18,v19):List (List Int)×Int×List Bool)=>Z (G6 a0 v0 [p 32 (I v0),p 33 (I v18)]) (W22 v19 v5 v17)) ([],0,List.replicate v0.toNat false) H fun _ g3 b3 e3 t3 ⟨v17,v18,v19⟩ H=>qA (Z (G6 a0 v0 [p 32 (I v0),p 33 (I v18),p 34 (B (decide (v18<v0)))]) (W22 v19 v5 v17))<|vQ<|cD H (fun H=>?_) (fun H=>?_)
  ·refine vK<|fQ<|jN r (fun((v29,v30):List Bool×List (List Int))=>Z (G6 a0 v0 [p 32 (I v0),p 33 (I v18)]) (W22 v29 v5 v30)) (l0W v18 g3) (fun⟨v29,v30⟩ H=>?_) (fun _ n4 e4 t4=>?_)
   ·refine zB (Z (G6 a0 v0 [p 32 (I v0),p 33 (I (v18+1))]) (W22 v29 v5 v30)) H fun H=>b3 H
   refine vB<|qA (Z (G6 a0 v0 [p 8 (I v18),p 32 (I v0),p 33 (I v18)]) (W22 v19 v5 v17))<|vQ<|qB (Z (G6 a0 v0 [p 8 (I v18),p 32 (I v0),p 33 (I v18),p 39 (B (v19.getD v18.toNat false))]) (W22 v19 v5 v17)) H fun H=>cD H (fun H=>?_) (fun H=>?_)
   ·exact vE<|fE<|fX rfl<|n4 H
   refine vK<|fQ<|qA (Z (G6 a0 v0 [p 8 (I v18),p 9 (nil),p 32 (I v0),p 33 (I v18)]) (W22 v19 v5 v17))<|jN r (fun(v24:List Int)=>Z (G6 a0 v0 [p 8 (I v18),p 9 (O 63),p 32 (I v0),p 33 (I v18)]) (W12 v19 v5 v17 v24)) (q0m v18 v19 v17 a0 g3) (fun v24 H=>?_) (fun _ n5 e5 t5=>?_)
   ·refine vQ<|qB (Z (G6 a0 v0 [p 9 (O 63),p 32 (I v0),p 33 (I v18),p 73 (B (decide ((v24.length:Int)<2)&&!vl (A0n a0 v18)))]) (W12 v19 v5 v17 v24)) H fun H=>cD H (fun H=>?_) (fun H=>?_)
    ·exact vE<|fE<|fX rfl<|n4 H
    refine vK<|fQ<|jN r (fun(v28:List Bool)=>Z (G6 a0 v0 [p 9 (O 63),p 32 (I v0),p 33 (I v18)]) (W12 v28 v5 v17 v24)) (A0R v18 v17 v24 g3) (fun v28 H=>?_) (fun _ n8 e8 t8=>?_)
    ·refine fZ 63 (Z (G6 a0 v0 [p 9 (M i64 v24),p 32 (I v0),p 33 (I v18)]) (W22 v28 v5 v17))<|zB (Z (G65 a0 v0 [p 4 (O 28),p 6 (O 31),p 7 (AV.os 87 1),p 32 (I v0),p 33 (I v18)]) [(87,A 35 i64.sl (v17++[v24]) 1),(86,A 35 i64.sl [v24] 0),(31,A 4 Ty.bool v28 0),(28,A 94 Ty.bool.sl v5 0)]) H fun H=>fK<|n4 H
    refine qA (Z (G6 a0 v0 [p 9 (O 63),p 32 (I v0),p 33 (I v18),p 74 (O 63),p 75 (I (v24.length:Int)),p 76 (I 0)]) (W12 v19 v5 v17 v24))<|vB<|lX (fun((v26,v27):Int×List Bool)=>Z (G6 a0 v0 [p 9 (O 63),p 32 (I v0),p 33 (I v18),p 74 (O 63),p 75 (I (v24.length:Int)),p 76 (I v26)]) (W12 v27 v5 v17 v24)) (0,v19) H fun _ g9 b9 e9 t9 ⟨v26,v27⟩ H=>qA (Z (G6 a0 v0 [p 9 (O 63),p 32 (I v0),p 33 (I v18),p 74 (O 63),p 75 (I (v24.length:Int)),p 76 (I v26),p 77 (B (decide (v26 < (v24.length:Int))))]) (W12 v27 v5 v17 v24))<|vQ<|cD H (fun H=>?_) (fun H=>?_)
    ·refine vK<|fQ<|vQ<|vB<|qB (Z (G6 a0 v0 [p 9 (O 63),p 12 (I (v24.getD v26.toNat 0)),p 32 (I v0),p 33 (I v18),p 74 (O 63),p 75 (I (v24.length:Int)),p 76 (I v26)]) (W12 v27 v5 v17 v24)) H fun H=>zB (Z (G6 a0 v0 [p 9 (O 63),p 32 (I v0),p 33 (I v18),p 74 (O 63),p 75 (I (v24.length:Int)),p 76 (I v26)]) (W12 (v27.set (Int.toNat (v24.getD v26.toNat 0)) true) v5 v17 v24)) H fun H=>fK<|fQ<|zB (Z (G6 a0 v0 [p 9 (O 63),p 32 (I v0),p 33 (I v18),p 74 (O 63),p 75 (I (v24.length:Int)),p 76 (I (v26+1))]) (W12 (v27.set (Int.toNat (v24.getD v26.toNat 0)) true) v5 v17 v24)) H fun H=>b9 H
    exact vE<|fE<|e9<|fX rfl<|n8 H
   refine qA (Z (G6 a0 v0 [p 8 (I v18),p 9 (nil),p 32 (I v0),p 33 (I v18),p 40 (I v0),p 41 (I 0)]) (W22 v19 v5 v17))<|vB<|lX (fun((v21,v22):List Int×Int)=>Z (G6 a0 v0 [p 8 (I v18),p 9 (O 63),p 32 (I v0),p 33 (I v18),p 40 (I v0),p 41 (I v22)]) (W12 v19 v5 v17 v21)) ([],0) H fun _ g6 b6 e6 t6 ⟨v21,v22⟩ H=>qA (Z (G6 a0 v0 [p 8 (I v18),p 9 (O 63),p 32 (I v0),p 33 (I v18),p 40 (I v0),p 41 (I v22),p 42 (B (decide (v22<v0)))]) (W12 v19 v5 v17 v21))<|vQ<|cD H (fun H=>?_) (fun H=>?_)
   ·refine vK<|fQ<|jN r (fun(v23:List Int)=>Z (G6 a0 v0 [p 8 (I v18),p 9 (O 63),p 32 (I v0),p 33 (I v18),p 40 (I v0),p 41 (I v22)]) ((63,A 2 i64 v23 0)::W22 v19 v5 v17)) (y0o v22 g6) (fun v23 H=>?_) (fun _ n7 e7 t7=>?_)
    ·refine zB (Z (G6 a0 v0 [p 8 (I v18),p 9 (O 63),p 32 (I v0),p 33 (I v18),p 40 (I v0),p 41 (I (v22+1))]) ((63,A 2 i64 v23 0)::W22 v19 v5 v17)) H fun H=>b6 H
    refine vB<|qA (Z (G6 a0 v0 [p 8 (I v18),p 9 (O 63),p 10 (I v22),p 32 (I v0),p 33 (I v18),p 40 (I v0),p 41 (I v22)]) (W12 v19 v5 v17 v21))<|qB (Z (G6 a0 v0 [p 8 (I v18),p 9 (O 63),p 10 (I v22),p 32 (I v0),p 33 (I v18),p 40 (I v0),p 41 (I v22),p 59 (B (List.getD (v5.getD v18.toNat []) v22.toNat false&&List.getD (v5.getD v22.toNat []) v18.toNat false))]) (W12 v19 v5 v17 v21)) H fun H=>cD H (fun H=>?_) (fun H=>?_)
    ·refine zB (Z (G6 a0 v0 [p 8 (I v18),p 9 (AV.os 63 1),p 32 (I v0),p 33 (I v18),p 40 (I v0),p 41 (I v22)]) ((63,A 2 i64 (v21++[v22]) 1)::(62,A 2 i64 [v22] 0)::W22 v19 v5 v17)) H fun H=>fK<|n7 H
    exact vK<|fK<|n7 H
   exact vE<|fE<|e6<|fX rfl<|n5 H
  exact vE<|fE<|e3<|fX rfl<|n2 H
 refine qA (Z (G65 a0 v0 [p 4 (nil),p 18 (I v0),p 19 (I 0)]) [])<|vB<|lX (fun((v2,v3):List (List Bool)×Int)=>Z (G65 a0 v0 [p 4 (O 28),p 18 (I v0),p 19 (I v3)]) [(28,A 94 Ty.bool.sl v2 0)]) ([],0) H fun _ g1 b1 e1 t1 ⟨v2,v3⟩ H=>qA (Z (G65 a0 v0 [p 4 (O 28),p 18 (I v0),p 19 (I v3),p 20 (B (decide (v3<v0)))]) [(28,A 94 Ty.bool.sl v2 0)])<|vQ<|cD H (fun H=>?_) (fun H=>?_)
 ·refine vK<|fQ<|vQ<|vB<|qA (Z (G65 a0 v0 [p 4 (O 28),p 5 (I v3),p 18 (I v0),p 19 (I v3)]) [(28,A 94 Ty.bool.sl v2 0)])<|zD (fun v4=>Z (G65 a0 v0 [p 4 (AV.os 28 1),p 18 (I v0),p 19 (I v3)]) [(28,A 94 Ty.bool.sl (v2++[v4]) 1),(27,A 94 Ty.bool.sl [v4] 0),(25,A 2 i64 [v3] 0)]) H fun v4 H=>fK<|fQ<|zB (Z (G65 a0 v0 [p 4 (AV.os 28 1),p 18 (I v0),p 19 (I (v3+1))]) [(28,A 94 Ty.bool.sl (v2++[v4]) 1),(27,A 94 Ty.bool.sl [v4] 0),(25,A 2 i64 [v3] 0)]) H fun H=>b1 H
 exact vE<|fE<|e1<|fX rfl<|n0 H
def u33(a0:Y34)(a1:List Int):Option (List (List Int)×Int) :=
 if(isL (u56 a0 a1))=true then
  gd (isL (u56 a0 a1)=true/\True) <|
  if(vL (u56 a0 a1) != 0)=true then
   some (([],vL (u56 a0 a1)))
  else
   none
 else
  gd (isR (u56 a0 a1)=true/\True) <|
  if((vR (u56 a0 a1)).2 != 0)=true then
   some (([],(vR (u56 a0 a1)).2))
  else
   gd ((u81 (vR (u56 a0 a1)).1).isSome=true/\True)<|lt (vl (u81 (vR (u56 a0 a1)).1)) fun v0 =>
   some ((v0,(0:Int)))
def k33:Ct:=lct 33 [.agg y34,.dat i64.sl] (fun x=>u33 x.1 x.2.1) (fun r:List (List Int)×Int=>AV.tup [AV.ow 35 true i64.sl r.1,I r.2]) (fun _=>())
theorem o33:Ok prog k33:=by
 refine okL [.tmp 4,.tmp 5] func33 ntmps33 results33 ?_;intro y ⟨a0,a1,_⟩ r H Q hn hr;have:HT _ _:=⟨tc o81 tn⟩;refine qA (Z [p 1 (L i64 a1),p 2 (R 2)] [(2,K 34 y34 a0)])<|sp H (fun H=>?_) (fun H=>?_)
 ·have:HT _ _:=⟨tc F0E (HT.h)⟩;refine qB (Z [p 6 (AV.v (Value.pointer none)),p 7 (I (vL (u56 a0 a1)))] [(2,K 34 y34 a0)]) H fun H=>vQ<|qA (Z [p 6 (AV.v (Value.pointer none)),p 7 (I (vL (u56 a0 a1))),p 15 (B (vL (u56 a0 a1) != 0))] [(2,K 34 y34 a0)])<|cD H (fun H=>?_) (fun H=>?_)
  ·refine qA (Z [p 4 (nil),p 5 (I (vL (u56 a0 a1)))] [(2,K 34 y34 a0)])<|vTT<|fR<|hr H
  exact vK<|fQ<|D0R H
 have:HT _ _:=⟨tc F0D (HT.h)⟩;refine qB (Z [p 6 (R 1011),p 7 (I (vR (u56 a0 a1)).2)] (W80 (vR (u56 a0 a1)).1.1 (vR (u56 a0 a1)).1.2 a0)) H fun H=>vQ<|qA (Z [p 6 (R 1011),p 7 (I (vR (u56 a0 a1)).2),p 15 (B ((vR (u56 a0 a1)).2 != 0))] (W80 (vR (u56 a0 a1)).1.1 (vR (u56 a0 a1)).1.2 a0))<|cD H (fun H=>?_) (fun H=>?_)
 ·refine qA (Z [p 4 (nil),p 5 (I (vR (u56 a0 a1)).2)] (W80 (vR (u56 a0 a1)).1.1 (vR (u56 a0 a1)).1.2 a0))<|vTT<|fR<|hr H
 refine vK<|fQ<|qD (fun v0=>Z [p 4 (O 18),p 5 (I 0)] ((18,A 35 i64.sl v0 0)::W80 (vR (u56 a0 a1)).1.1 (vR (u56 a0 a1)).1.2 a0)) H fun v0 H=>vTT<|hr H
def w0R:Unit->Option (Bool)
 | _ =>
 some false
def w0Q(a1:List Bool)(a0:List Y48)(a2:Int)(g1:Int->Option (Bool)):Int->Option (Bool)
 | v0 =>
 if(decide (v0 < (a0.length:Int)))=true then
  gd (ix v0 a1.length/\(a1.getD v0.toNat false=true/\True->ix v0 a0.length)/\((a1.getD v0.toNat false&&(a0.getD v0.toNat (d6 y48)).1==a2)=true/\True->ix v0 a0.length)/\True) <|
  if(a1.getD v0.toNat false&&(a0.getD v0.toNat (d6 y48)).1==a2&&(a0.getD v0.toNat (d6 y48)).2.1==a2)=true then
   some true
  else
   gd (l3 (v0+1)/\True) <|
   g1 (v0+1)
 else
  w0R ()
def A0m(a0:List Y48)(a1:List Bool)(a2:Int):Option (Bool) :=
 lp (w0Q a1 a0 a2) 0
def K0n:Ct:=lct 143 [.dat y48.sl,.dat Ty.bool.sl,.dat i64] (fun x=>A0m x.1 x.2.1 x.2.2.1) (fun r:Bool=>B r) (fun _=>())
theorem I0B:Ok prog K0n:=by
 refine okL [.tmp 6] func143 ntmps143 results143 ?_;intro y ⟨a0,a1,a2,_⟩ r H Q hn hr;have:HT _ _:=⟨@tn prog⟩;refine qA (Z [p 0 (L y48 a0),p 1 (L Ty.bool a1),p 2 (J a2)] [])<|jN r (fun(_:Unit)=>Z [] []) (w0R) (fun _ H=>?_) (fun _ n0 e0 t0=>?_)
 ·refine qA (Z [p 6 (B false)] [])<|vTT<|hr H
 refine qA (Z [p 0 (L y48 a0),p 1 (L Ty.bool a1),p 2 (J a2),p 7 (I 0)] [])<|vB<|lX (fun(v0:Int)=>Z [p 0 (L y48 a0),p 1 (L Ty.bool a1),p 2 (J a2),p 7 (I v0)] []) 0 H fun _ g1 b1 e1 t1 v0 H=>vQ<|qA (Z [p 0 (L y48 a0),p 1 (L Ty.bool a1),p 2 (J a2),p 7 (I v0),p 11 (B (decide (v0 < (a0.length:Int))))] [])<|cD H (fun H=>?_) (fun H=>?_)
 ·refine vK<|fQ<|vQ<|vB<|qB (Z [p 0 (L y48 a0),p 1 (L Ty.bool a1),p 2 (J a2),p 7 (I v0),p 35 (B (a1.getD v0.toNat false&&(a0.getD v0.toNat (d6 y48)).1==a2&&(a0.getD v0.toNat (d6 y48)).2.1==a2))] []) H fun H=>cD H (fun H=>?_) (fun H=>?_)
  ·refine qA (Z [p 6 (B true)] [])<|vTT<|fDD<|fR<|t1<|fDD<|t0<|hr H
  refine vK<|fK<|fQ<|zB (Z [p 0 (L y48 a0),p 1 (L Ty.bool a1),p 2 (J a2),p 7 (I (v0+1))] []) H fun H=>b1 H
 exact vE<|fE<|e1<|fX rfl<|n0 H
def A0N:List (List Int)->Option (List (List Int))
 | v30 =>
 some v30
def o0X(v14:Int)(g1:Int×List Bool×List (List Int)->Option (List (List Int))):List Bool×List (List Int)->Option (List (List Int))
 | (v28,v29) =>
 gd (l3 (v14+1)/\True) <|
 g1 (v14+1,v28,v29)
def q0l(v14:Int)(v16:List (List Int))(a1:List Y48)(a2:List Bool)(g1:Int×List Bool×List (List Int)->Option (List (List Int))):List Int×List Bool->Option (List (List Int))
 | (v26,v27) =>
 gd ((decide (1 < (v26.length:Int))=false/\True->(A0m a1 a2 v14).isSome=true)/\True) <|
 if(decide (1 < (v26.length:Int))||vl (A0m a1 a2 v14))=true then
  gd ((v16.length+[v26].length<=9223372036854775807/\(v16.length+[v26].length)*24<=140737488355328)/\True) <|
  o0X v14 g1 (v27,v16++[v26])
 else
  o0X v14 g1 (v27,v16)
def y0n(v21:Int)(g4:Int×List Int×List Bool->Option (List (List Int))):List Bool×List Int->Option (List (List Int))
 | (v24,v25) =>
 gd (l3 (v21+1)/\True) <|
 g4 (v21+1,v25,v24)
def y0l(v18:List Bool)(v17:List Bool)(v14:Int)(v16:List (List Int))(a1:List Y48)(a2:List Bool)(a0:Int)(g1:Int×List Bool×List (List Int)->Option (List (List Int)))(g4:Int×List Int×List Bool->Option (List (List Int))):Int×List Int×List Bool->Option (List (List Int))
 | (v21,v22,v23) =>
 if(decide (v21<a0))=true then
  gd (ix v21 v18.length/\v21.toNat<v18.length/\(v18.getD v21.toNat false=true/\True->ix v21 v17.length)/\(v18.getD v21.toNat false=true/\True->v21.toNat<v17.length)/\True) <|
  if(v18.getD v21.toNat false&&v17.getD v21.toNat false)=true then
   gd ((v22.length+[v21].length<=9223372036854775807/\(v22.length+[v21].length)*8<=140737488355328)/\True) <|
   gd (ix v21 v23.length/\v21.toNat<v23.length/\True) <|
   y0n v21 g4 (v23.set v21.toNat true,v22++[v21])
  else
   y0n v21 g4 (v23,v22)
 else
  q0l v14 v16 a1 a2 g1 (v22,v23)
def y0m(a1:List Y48)(a2:List Bool)(a0:Int)(g1:Int×List Bool×List (List Int)->Option (List (List Int))):Int×List Bool×List (List Int)->Option (List (List Int))
 | (v14,v15,v16) =>
 if(decide (v14<a0))=true then
  gd (ix v14 v15.length/\v14.toNat<v15.length/\True) <|
  if(v15.getD v14.toNat false)=true then
   o0X v14 g1 (v15,v16)
  else
   gd ((y0F a0 a1 a2 v14 true).isSome=true/\(y0F a0 a1 a2 v14 false).isSome=true/\True)<|lt ((vl (y0F a0 a1 a2 v14 false),vl (y0F a0 a1 a2 v14 true))) fun(v17,v18) =>
   lp (y0l v18 v17 v14 v16 a1 a2 a0 g1) (0,[],v15)
 else
  A0N v16
def u82(a0:Int)(a1:List Y48)(a2:List Bool):Option (List (List Int)) :=
 gd ((0<=a0/\a0=a0/\a0.toNat*1<=281474976710656/\a0<=9223372036854775807)/\True) <|
 lp (y0m a1 a2 a0) (0,List.replicate a0.toNat false,[])
def k82:Ct:=lct 82 [.dat i64,.dat y48.sl,.dat Ty.bool.sl] (fun x=>u82 x.1 x.2.1 x.2.2.1) (fun r:List (List Int)=>AV.ow 35 true i64.sl r) (fun _=>())
theorem o82:Ok prog k82:=by
 refine okL [.tmp 6] func82 ntmps82 results82 ?_;intro y ⟨a0,a1,a2,_⟩ r H Q hn hr;have:HT _ _:=⟨tc I0B (tc I0D tn)⟩;refine qA (Z [p 0 (J a0),p 1 (L y48 a1),p 2 (L Ty.bool a2)] [])<|qA (Z [p 0 (J a0),p 1 (L y48 a1),p 2 (L Ty.bool a2),p 7 (O 14)] [(14,A 35 i64.sl [] 0)])<|qB (Z [p 0 (J a0),p 1 (L y48 a1),p 2 (L Ty.bool a2),p 7 (O 14),p 8 (O 16)] [(16,A 4 Ty.bool (List.replicate a0.toNat false) 0),(14,A 35 i64.sl [] 0)]) H fun H=>jN r (fun(v30:List (List Int))=>Z [p 7 (O 14)] [(14,A 35 i64.sl v30 0)]) (A0N) (fun v30 H=>?_) (fun _ n0 e0 t0=>?_)
 ·refine qA (Z [p 6 (O 14)] [(14,A 35 i64.sl v30 0)])<|vTT<|hr H
 refine qA (Z [p 0 (J a0),p 1 (L y48 a1),p 2 (L Ty.bool a2),p 7 (O 14),p 8 (O 16),p 9 (I 0)] [(16,A 4 Ty.bool (List.replicate a0.toNat false) 0),(14,A 35 i64.sl [] 0)])<|vB<|lX (fun((v14,v15,v16):Int×List Bool×List (List Int))=>Z (G9 a0 a1 a2 v14 []) (W27 v15 v16)) (0,List.replicate a0.toNat false,[]) H fun _ g1 b1 e1 t1 ⟨v14,v15,v16⟩ H=>vQ<|qA (Z (G9 a0 a1 a2 v14 [p 19 (B (decide (v14<a0)))]) (W27 v15 v16))<|cD H (fun H=>?_) (fun H=>?_)
 ·refine vK<|fQ<|jN r (fun((v28,v29):List Bool×List (List Int))=>Z (G9 a0 a1 a2 v14 []) (W27 v28 v29)) (o0X v14 g1) (fun⟨v28,v29⟩ H=>?_) (fun _ n2 e2 t2=>?_)
  ·refine zB (Z (G9 a0 a1 a2 (v14+1) []) (W27 v28 v29)) H fun H=>b1 H
  refine vB<|vQ<|qB (Z (G9 a0 a1 a2 v14 [p 25 (B (v15.getD v14.toNat false))]) (W27 v15 v16)) H fun H=>cD H (fun H=>?_) (fun H=>?_)
  ·exact vE<|fE<|fX rfl<|n2 H
  refine vK<|fQ<|qD (fun(v17,v18)=>Z (G9 a0 a1 a2 v14 [p 10 (O 30),p 11 (O 35)]) ((35,A 4 Ty.bool v17 0)::(30,A 4 Ty.bool v18 0)::W27 v15 v16)) H fun w H=>?_
  obtain⟨v17,v18⟩:=w;refine qA (Z (G9 a0 a1 a2 v14 [p 10 (O 30),p 11 (O 35),p 12 (O 36)]) ((36,A 2 i64 [] 0)::(35,A 4 Ty.bool v17 0)::(30,A 4 Ty.bool v18 0)::W27 v15 v16))<|jN r (fun((v26,v27):List Int×List Bool)=>Z (G9 a0 a1 a2 v14 [p 12 (O 36)]) ((36,A 2 i64 v26 0)::W27 v27 v16)) (q0l v14 v16 a1 a2 g1) (fun⟨v26,v27⟩ H=>?_) (fun _ n3 e3 t3=>?_)
  ·refine qB (Z (G9 a0 a1 a2 v14 [p 12 (O 36),p 67 (B (decide (1 < (v26.length:Int))||vl (A0m a1 a2 v14)))]) ((36,A 2 i64 v26 0)::W27 v27 v16)) H fun H=>cD H (fun H=>?_) (fun H=>?_)
   ·refine fZ 36 (Z (G9 a0 a1 a2 v14 [p 12 (M i64 v26),p 67 (B (decide (1 < (v26.length:Int))||vl (A0m a1 a2 v14)))]) (W27 v27 v16))<|zB (Z [p 0 (J a0),p 1 (L y48 a1),p 2 (L Ty.bool a2),p 7 (AV.os 14 1),p 8 (O 16),p 9 (I v14)] [(14,A 35 i64.sl (v16++[v26]) 1),(70,A 35 i64.sl [v26] 0),(16,A 4 Ty.bool v27 0)]) H fun H=>fK<|n2 H
   exact vK<|fK<|n2 H
  refine qA (Z (G9 a0 a1 a2 v14 [p 10 (O 30),p 11 (O 35),p 12 (O 36),p 13 (I 0)]) ((36,A 2 i64 [] 0)::(35,A 4 Ty.bool v17 0)::(30,A 4 Ty.bool v18 0)::W27 v15 v16))<|vB<|lX (fun((v21,v22,v23):Int×List Int×List Bool)=>Z (G9 a0 a1 a2 v14 [p 10 (O 30),p 11 (O 35),p 12 (O 36),p 13 (I v21)]) ((36,A 2 i64 v22 0)::(35,A 4 Ty.bool v17 0)::(30,A 4 Ty.bool v18 0)::W27 v23 v16)) (0,[],v15) H fun _ g4 b4 e4 t4 ⟨v21,v22,v23⟩ H=>vQ<|qA (Z (G9 a0 a1 a2 v14 [p 10 (O 30),p 11 (O 35),p 12 (O 36),p 13 (I v21),p 39 (B (decide (v21<a0)))]) ((36,A 2 i64 v22 0)::(35,A 4 Ty.bool v17 0)::(30,A 4 Ty.bool v18 0)::W27 v23 v16))<|cD H (fun H=>?_) (fun H=>?_)
  ·refine vK<|fQ<|jN r (fun((v24,v25):List Bool×List Int)=>Z (G9 a0 a1 a2 v14 [p 10 (O 30),p 11 (O 35),p 12 (O 36),p 13 (I v21)]) [(16,A 4 Ty.bool v24 0),(36,A 2 i64 v25 0),(35,A 4 Ty.bool v17 0),(30,A 4 Ty.bool v18 0),(14,A 35 i64.sl v16 0)]) (y0n v21 g4) (fun⟨v24,v25⟩ H=>?_) (fun _ n5 e5 t5=>?_)
   ·refine zB (Z (G9 a0 a1 a2 v14 [p 10 (O 30),p 11 (O 35),p 12 (O 36),p 13 (I (v21+1))]) [(16,A 4 Ty.bool v24 0),(36,A 2 i64 v25 0),(35,A 4 Ty.bool v17 0),(30,A 4 Ty.bool v18 0),(14,A 35 i64.sl v16 0)]) H fun H=>b4 H
   refine vB<|qB (Z (G9 a0 a1 a2 v14 [p 10 (O 30),p 11 (O 35),p 12 (O 36),p 13 (I v21),p 51 (B (v18.getD v21.toNat false&&v17.getD v21.toNat false))]) ((36,A 2 i64 v22 0)::(35,A 4 Ty.bool v17 0)::(30,A 4 Ty.bool v18 0)::W27 v23 v16)) H fun H=>cD H (fun H=>?_) (fun H=>?_)
   ·refine qB (Z (G9 a0 a1 a2 v14 [p 10 (O 30),p 11 (O 35),p 12 (AV.os 36 1),p 13 (I v21)]) ((36,A 2 i64 (v22++[v21]) 1)::(54,A 2 i64 [v21] 0)::(35,A 4 Ty.bool v17 0)::(30,A 4 Ty.bool v18 0)::W27 v23 v16)) H fun H=>zB (Z (G9 a0 a1 a2 v14 [p 10 (O 30),p 11 (O 35),p 12 (AV.os 36 1),p 13 (I v21)]) [(16,A 4 Ty.bool (v23.set v21.toNat true) 0),(36,A 2 i64 (v22++[v21]) 1),(54,A 2 i64 [v21] 0),(35,A 4 Ty.bool v17 0),(30,A 4 Ty.bool v18 0),(14,A 35 i64.sl v16 0)]) H fun H=>fK<|n5 H
   exact vK<|fK<|n5 H
  exact vE<|fE<|e4<|fX rfl<|n3 H
 exact vE<|fE<|e1<|fX rfl<|n0 H
def u34(a0:Y34)(a1:List Int):Option (List (List Int)×Int) :=
 gd ((u58 a0 a1).isSome=true/\True)<|lt (vl (u58 a0 a1)) fun v0 =>
 if(v0 != 0)=true then
  some ([],v0)
 else
  gd ((u59 a0).isSome=true/\True)<|lt (vl (u59 a0)) fun v1 =>
  gd ((u61 a0).isSome=true/\(u62 v1 a1).isSome=true/\(u82 (vl (u61 a0)) v1 (vl (u62 v1 a1))).isSome=true/\True)<|lt ((vl (u82 (vl (u61 a0)) v1 (vl (u62 v1 a1))),vl (u62 v1 a1))) fun(v2,_v3) =>
  some ((v2,(0:Int)))
def k34:Ct:=lct 34 [.agg y34,.dat i64.sl] (fun x=>u34 x.1 x.2.1) (fun r:List (List Int)×Int=>AV.tup [AV.ow 35 true i64.sl r.1,I r.2]) (fun _=>())
theorem o34:Ok prog k34:=by
 refine okL [.tmp 4,.tmp 5] func34 ntmps34 results34 ?_;intro y ⟨a0,a1,_⟩ r H Q hn hr;have:HT _ _:=⟨tc o82 (tc o62 (tc o61 (tc o59 (tc o58 tn))))⟩;refine qA (Z [p 1 (L i64 a1),p 2 (R 2)] [(2,K 34 y34 a0)])<|vQ<|qD (fun v0=>Z [p 1 (L i64 a1),p 2 (R 2),p 6 (I v0)] [(2,K 34 y34 a0)]) H fun v0 H=>qA (Z [p 1 (L i64 a1),p 2 (R 2),p 6 (I v0),p 12 (B (v0 != 0))] [(2,K 34 y34 a0)])<|cD H (fun H=>?_) (fun H=>?_)
 ·refine qA (Z [p 4 (O 13),p 5 (I v0)] [(13,A 35 i64.sl [] 0),(2,K 34 y34 a0)])<|vTT<|fR<|hr H
 refine vK<|fQ<|qD (fun v1=>Z [p 1 (L i64 a1),p 2 (R 2),p 7 (O 16)] [(16,A 48 y48 v1 0),(2,K 34 y34 a0)]) H fun v1 H=>qD (fun(v2,v3)=>Z [p 4 (O 23),p 5 (I 0)] [(23,A 35 i64.sl v2 0),(22,A 4 Ty.bool v3 0),(16,A 48 y48 v1 0),(2,K 34 y34 a0)]) H fun⟨v2,v3⟩ H =>
  vTT<|hr H
def w0P:List Int->Option (List Int)
 | v35 =>
 some v35
def q0M(g3:List Int×List Int->Option (List Int)):List Int×List Int->Option (List Int)
 | (v33,v34) =>
 gd (((0:Int)<=(1:Int)/\(1:Int)<=(v33.length:Int)/\(v33.length:Int)<=(v33.length:Int))/\True) <|
 g3 ((List.drop (Int.toNat (1:Int)) v33,v34))
def q0L(v26:Int)(g5:Int×List Int×List Int->Option (List Int)):List Int×List Int->Option (List Int)
 | (v31,v32) =>
 gd (l3 (v26+1)/\True) <|
 g5 (v26+1,v31,v32)
def w0N(a0:H2)(v21:List Int)(g3:List Int×List Int->Option (List Int))(g5:Int×List Int×List Int->Option (List Int)):Int×List Int×List Int->Option (List Int)
 | (v26,v27,v28) =>
 if(decide (v26 < (v21.length:Int)))=true then
  gd (ix v26 v21.length/\v26.toNat<v21.length/\True) <|
  gd (ix (v21.getD v26.toNat 0) a0.1.2.2.1.length/\True)<|lt (a0.1.2.2.1.getD (Int.toNat (v21.getD v26.toNat 0)) (d6 y48)) fun v29 =>
  gd (ix v29.1 v28.length/\v29.1.toNat<v28.length/\True) <|
  if(decide (v28.getD v29.1.toNat 0<0))=true then
   gd (ix (0:Int) v27.length/\Int.toNat (0:Int)<v27.length/\ix (v27.getD (Int.toNat (0:Int)) (0:Int)) v28.length/\Int.toNat (v27.getD (Int.toNat (0:Int)) (0:Int))<v28.length/\l3 (v28.getD (Int.toNat (v27.getD (Int.toNat (0:Int)) (0:Int))) (0:Int)+(1:Int))/\ix v29.1 v28.length/\v29.1.toNat<v28.length/\True)<|lt (v28.set v29.1.toNat (v28.getD (Int.toNat (v27.getD (Int.toNat (0:Int)) (0:Int))) (0:Int)+(1:Int))) fun v30 =>
   gd ((v27.length+[v29.1].length<=9223372036854775807/\(v27.length+[v29.1].length)*8<=140737488355328)/\True) <|
   q0L v26 g5 (v27++[v29.1],v30)
  else
   q0L v26 g5 (v27,v28)
 else
  q0M g3 (v27,v28)
def q0K(a0:H2)(g3:List Int×List Int->Option (List Int)):List Int×List Int->Option (List Int)
 | (v19,v20) =>
 if(decide (0 < (v19.length:Int)))=true then
  gd (ix (0:Int) v19.length/\Int.toNat (0:Int)<v19.length/\(u74 a0 (v19.getD (Int.toNat (0:Int)) (0:Int))).isSome=true/\True)<|lt (vl (u74 a0 (v19.getD (Int.toNat (0:Int)) (0:Int)))) fun v21 =>
  lp (w0N a0 v21 g3) (0,v19,v20)
 else
  w0P v20
def q0N(a0:H2)(a1:Int):List Int->Option (List Int)
 | v4 =>
 gd (ix a1 v4.length/\a1.toNat<v4.length/\True) <|
 lp (q0K a0) ([a1],v4.set a1.toNat 0)
def w0O(a0:H2)(a1:Int)(v0:Int)(g1:Int×List Int->Option (List Int)):Int×List Int->Option (List Int)
 | (v2,v3) =>
 if(decide (v2 < (↑(List.replicate v0.toNat (0:Int)).length:Int)))=true then
  gd (ix v2 v3.length/\v2.toNat<v3.length/\True) <|
  gd (l3 (v2+1)/\True) <|
  g1 ((v2+1,v3.set v2.toNat (-1)))
 else
  q0N a0 a1 v3
def B0N(a0:H2)(a1:Int):Option (List Int) :=
 gd ((B1 a0.1).isSome=true/\(0<=vl (B1 a0.1)/\vl (B1 a0.1)=vl (B1 a0.1)/\(vl (B1 a0.1)).toNat*8<=281474976710656/\vl (B1 a0.1)<=9223372036854775807)/\True)<|lt (vl (B1 a0.1)) fun v0 =>
 lp (w0O a0 a1 v0) (0,List.replicate v0.toNat 0)
def K0m:Ct:=lct 144 [.dat y127.pt,.dat i64] (fun x=>B0N x.1 x.2.1) (fun r:List Int=>AV.ow 2 true i64 r) (fun _=>())
theorem I0A:Ok prog K0m:=by
 refine okL [.tmp 4] func144 ntmps144 results144 ?_;intro y ⟨a0,a1,_⟩ r H Q hn hr;have:HT _ _:=⟨tc o74 (tc C0l tn)⟩;refine qA (Z [p 0 (D y127.pt a0),p 1 (J a1)] [])<|qD (fun v0=>Z (G61 a0 a1 []) [(16,A 2 i64 (List.replicate v0.toNat 0) 0)]) H fun v0 H=>jN r (fun(v4:List Int)=>Z (G61 a0 a1 []) [(16,A 2 i64 v4 0)]) (q0N a0 a1) (fun v4 H=>?_) (fun _ n0 e0 t0=>?_)
 ·refine qB (Z (G61 a0 a1 []) [(16,A 2 i64 (v4.set a1.toNat 0) 0)]) H fun H=>jN r (fun(v35:List Int)=>Z [p 5 (O 16)] [(16,A 2 i64 v35 0)]) (w0P) (fun v35 H=>?_) (fun _ n2 e2 t2=>?_)
  ·refine qA (Z [p 4 (O 16)] [(16,A 2 i64 v35 0)])<|vTT<|hr H
  refine qA (Z (G32 a0 []) (W60 [a1] (v4.set a1.toNat 0)))<|vB<|lX (fun((v19,v20):List Int×List Int)=>Z (G32 a0 []) (W60 v19 v20)) ([a1],v4.set a1.toNat 0) H fun _ g3 b3 e3 t3 ⟨v19,v20⟩ H=>vQ<|qA (Z (G32 a0 [p 33 (B (decide (0 < (v19.length:Int))))]) (W60 v19 v20))<|cD H (fun H=>?_) (fun H=>?_)
  ·refine vK<|fQ<|jN r (fun((v33,v34):List Int×List Int)=>Z (G32 a0 []) (W60 v33 v34)) (q0M g3) (fun⟨v33,v34⟩ H=>?_) (fun _ n4 e4 t4=>?_)
   ·refine zB (Z [p 0 (D y127.pt a0),p 5 (O 16),p 7 (AV.os 30 1)] [(30,A 2 i64 (List.drop (Int.toNat (1:Int)) v33) 1),(16,A 2 i64 v34 0)]) H fun H=>b3 H
   refine vB<|qD (fun v21=>Z (G32 a0 [p 40 (O 40),p 41 (I (v21.length:Int)),p 42 (I 0)]) ((40,A 2 i64 v21 0)::W60 v19 v20)) H fun v21 H=>vB<|lX (fun((v26,v27,v28):Int×List Int×List Int)=>Z (G32 a0 [p 40 (O 40),p 41 (I (v21.length:Int)),p 42 (I v26)]) ((40,A 2 i64 v21 0)::W60 v27 v28)) (0,v19,v20) H fun _ g5 b5 e5 t5 ⟨v26,v27,v28⟩ H=>qA (Z (G32 a0 [p 40 (O 40),p 41 (I (v21.length:Int)),p 42 (I v26),p 43 (B (decide (v26 < (v21.length:Int))))]) ((40,A 2 i64 v21 0)::W60 v27 v28))<|vQ<|cD H (fun H=>?_) (fun H=>?_)
   ·refine vK<|fQ<|jN r (fun((v31,v32):List Int×List Int)=>Z (G32 a0 [p 40 (O 40),p 41 (I (v21.length:Int)),p 42 (I v26)]) [(30,A 2 i64 v31 0),(16,A 2 i64 v32 0),(40,A 2 i64 v21 0)]) (q0L v26 g5) (fun⟨v31,v32⟩ H=>?_) (fun _ n6 e6 t6=>?_)
    ·refine zB (Z (G32 a0 [p 40 (O 40),p 41 (I (v21.length:Int)),p 42 (I (v26+1))]) [(30,A 2 i64 v31 0),(16,A 2 i64 v32 0),(40,A 2 i64 v21 0)]) H fun H=>b5 H
    refine vB<|qB (Z (G32 a0 [p 9 (I (v21.getD v26.toNat 0)),p 40 (O 40),p 41 (I (v21.length:Int)),p 42 (I v26)]) ((40,A 2 i64 v21 0)::W60 v27 v28)) H fun H=>qD (fun v29=>Z (G32 a0 [p 10 (J v29.1),p 40 (O 40),p 41 (I (v21.length:Int)),p 42 (I v26)]) ((40,A 2 i64 v21 0)::W60 v27 v28)) H fun v29 H=>qB (Z (G32 a0 [p 10 (J v29.1),p 40 (O 40),p 41 (I (v21.length:Int)),p 42 (I v26),p 61 (B (decide (v28.getD v29.1.toNat 0<0)))]) ((40,A 2 i64 v21 0)::W60 v27 v28)) H fun H=>cD H (fun H=>?_) (fun H=>?_)
    ·refine qD (fun v30=>Z (G32 a0 [p 10 (J v29.1),p 40 (O 40),p 41 (I (v21.length:Int)),p 42 (I v26)]) [(16,A 2 i64 v30 0),(40,A 2 i64 v21 0),(30,A 2 i64 v27 0)]) H fun v30 H=>zB (Z [p 0 (D y127.pt a0),p 5 (O 16),p 7 (AV.os 30 1),p 40 (O 40),p 41 (I (v21.length:Int)),p 42 (I v26)] [(30,A 2 i64 (v27++[v29.1]) 1),(74,A 2 i64 [v29.1] 0),(16,A 2 i64 v30 0),(40,A 2 i64 v21 0)]) H fun H=>fK<|n6 H
    exact vK<|fK<|n6 H
   exact vE<|fE<|e5<|fX rfl<|fK<|n4 H
  exact vE<|fE<|e3<|fX rfl<|n2 H
 refine qA (Z (G61 a0 a1 [p 18 (I (↑(List.replicate v0.toNat (0:Int)).length:Int)),p 19 (I (0:Int))]) [(16,A 2 i64 (List.replicate v0.toNat (0:Int)) 0)])<|vB<|lX (fun((v2,v3):Int×List Int)=>Z (G61 a0 a1 [p 18 (I (↑(List.replicate v0.toNat (0:Int)).length:Int)),p 19 (I v2)]) [(16,A 2 i64 v3 0)]) (0,List.replicate v0.toNat 0) H fun _ g1 b1 e1 t1 ⟨v2,v3⟩ H=>qA (Z (G61 a0 a1 [p 18 (I (↑(List.replicate v0.toNat (0:Int)).length:Int)),p 19 (I v2),p 20 (B (decide (v2 < (↑(List.replicate v0.toNat (0:Int)).length:Int))))]) [(16,A 2 i64 v3 0)])<|vQ<|cD H (fun H=>?_) (fun H=>?_)
 ·refine vK<|fQ<|vQ<|vB<|qA (Z (G61 a0 a1 [p 6 (I v2),p 18 (I (↑(List.replicate v0.toNat (0:Int)).length:Int)),p 19 (I v2)]) [(16,A 2 i64 v3 0)])<|zB (Z (G61 a0 a1 [p 18 (I (↑(List.replicate v0.toNat (0:Int)).length:Int)),p 19 (I v2)]) [(16,A 2 i64 (v3.set v2.toNat (-1:Int)) 0)]) H fun H=>fK<|fQ<|zB (Z (G61 a0 a1 [p 18 (I (↑(List.replicate v0.toNat (0:Int)).length:Int)),p 19 (I (v2+(1:Int)))]) [(16,A 2 i64 (v3.set v2.toNat (-1:Int)) 0)]) H fun H=>b1 H
 exact vE<|fE<|e1<|fX rfl<|n0 H
def w0M:Int->Option (Int×Bool)
 | v7 =>
 some ((v7,decide (0<=v7)))
def q0J(v4:Int)(g1:Int×Int->Option (Int×Bool)):Int->Option (Int×Bool)
 | v6 =>
 gd (l3 (v4+1)/\True) <|
 g1 (v6,v4+1)
def w0L(v0:List Int)(a2:List Int)(a1:H2)(g1:Int×Int->Option (Int×Bool)):Int×Int->Option (Int×Bool)
 | (v3,v4) =>
 if(decide (v4 < (v0.length:Int)))=true then
  gd (ix v4 v0.length/\v4.toNat<v0.length/\True) <|
  gd (ix (v0.getD v4.toNat 0) a1.1.2.2.1.length/\ix (a1.1.2.2.1.getD (Int.toNat (v0.getD v4.toNat 0)) (d6 y48)).2.1 a2.length/\True)<|lt (a2.getD (a1.1.2.2.1.getD (Int.toNat (v0.getD v4.toNat 0)) (d6 y48)).2.1.toNat 0) fun v5 =>
  gd ((decide (v3<0)=false/\decide (0<=v5)=true/\True->ix v3 a1.1.2.2.1.length)/\(decide (v3<0)=false/\decide (0<=v5)=true/\True->ix (a1.1.2.2.1.getD v3.toNat (d6 y48)).2.1 a2.length)/\True) <|
  if(decide (0<=v5)&&(decide (v3<0)||decide (v5<a2.getD (a1.1.2.2.1.getD v3.toNat (d6 y48)).2.1.toNat 0)))=true then
   q0J v4 g1 (v0.getD v4.toNat 0)
  else
   q0J v4 g1 v3
 else
  w0M v3
def B0M(a0:Int)(a1:H2)(a2:List Int):Option (Int×Bool) :=
 gd ((u73 a1 a0).isSome=true/\True)<|lt (vl (u73 a1 a0)) fun v0 =>
 lp (w0L v0 a2 a1) (-1,0)
def K0l:Ct:=lct 145 [.dat i64,.dat (.pt y127.pt),.dat (.pt i64.sl)] (fun x=>B0M x.1 x.2.1 x.2.2.1) (fun r:Int×Bool=>AV.tup [I r.1,B r.2]) (fun _=>())
theorem I0z:Ok prog K0l:=by
 refine okL [.tmp 4,.tmp 5] func145 ntmps145 results145 ?_;intro y ⟨a0,a1,a2,_⟩ r H Q hn hr;have:HT _ _:=⟨tc o73 tn⟩;refine qA (Z [p 0 (J a0),p 1 (D y127.pt.pt a1),p 2 (D i64.sl.pt a2)] [])<|qA (Z [p 0 (J a0),p 1 (D y127.pt.pt a1),p 2 (D i64.sl.pt a2),p 6 (I (-1))] [])<|jN r (fun(v7:Int)=>Z [p 6 (I v7)] []) (w0M) (fun v7 H=>?_) (fun _ n0 e0 t0=>?_)
 ·refine qA (Z [p 4 (I v7),p 5 (B (decide (0<=v7)))] [])<|vTT<|hr H
 refine qD (fun v0=>Z [p 1 (D y127.pt.pt a1),p 2 (D i64.sl.pt a2),p 6 (I (-1)),p 12 (O 12),p 13 (I (v0.length:Int)),p 14 (I 0)] [(12,A 2 i64 v0 0)]) H fun v0 H=>vB<|lX (fun((v3,v4):Int×Int)=>Z (G58 a1 a2 v3 [p 12 (O 12),p 13 (I (v0.length:Int)),p 14 (I v4)]) [(12,A 2 i64 v0 0)]) (-1,0) H fun _ g1 b1 e1 t1 ⟨v3,v4⟩ H=>qA (Z (G58 a1 a2 v3 [p 12 (O 12),p 13 (I (v0.length:Int)),p 14 (I v4),p 15 (B (decide (v4 < (v0.length:Int))))]) [(12,A 2 i64 v0 0)])<|vQ<|cD H (fun H=>?_) (fun H=>?_)
 ·refine vK<|fQ<|jN r (fun(v6:Int)=>Z (G58 a1 a2 v6 [p 12 (O 12),p 13 (I (v0.length:Int)),p 14 (I v4)]) [(12,A 2 i64 v0 0)]) (q0J v4 g1) (fun v6 H=>?_) (fun _ n2 e2 t2=>?_)
  ·refine zB (Z (G58 a1 a2 v6 [p 12 (O 12),p 13 (I (v0.length:Int)),p 14 (I (v4+1))]) [(12,A 2 i64 v0 0)]) H fun H=>b1 H
  refine vB<|qB (Z (G58 a1 a2 v3 [p 8 (I (v0.getD v4.toNat 0)),p 12 (O 12),p 13 (I (v0.length:Int)),p 14 (I v4)]) [(12,A 2 i64 v0 0)]) H fun H=>qD (fun v5=>Z (G58 a1 a2 v3 [p 8 (I (v0.getD v4.toNat 0)),p 9 (J v5),p 12 (O 12),p 13 (I (v0.length:Int)),p 14 (I v4)]) [(12,A 2 i64 v0 0)]) H fun v5 H=>qB (Z (G58 a1 a2 v3 [p 8 (I (v0.getD v4.toNat 0)),p 12 (O 12),p 13 (I (v0.length:Int)),p 14 (I v4),p 55 (B (decide (0<=v5)&&(decide (v3<0)||decide (v5<a2.getD (a1.1.2.2.1.getD v3.toNat (d6 y48)).2.1.toNat 0))))]) [(12,A 2 i64 v0 0)]) H fun H=>cD H (fun H=>?_) (fun H=>?_)
  ·refine zA (Z (G58 a1 a2 (v0.getD v4.toNat 0) [p 12 (O 12),p 13 (I (v0.length:Int)),p 14 (I v4)]) [(12,A 2 i64 v0 0)])<|fK<|n2 H
  exact vK<|fK<|n2 H
 exact vE<|fE<|e1<|fX rfl<|n0 H
def o0W(a1:Int)(a0:H2)(v0:List Int)(g0:List Int×Int->Option (Unit ⊕ List Int)):List Int×Int->Option (Unit ⊕ List Int)
 | (v3,v4) =>
 gd ((B0M v4 a0 v0).isSome=true/\True)<|lt (vl (B0M v4 a0 v0)) fun v5 =>
 if(!v5.2)=true then
  some (Sum.inl ())
 else
  gd ((v3.length+[v5.1].length<=9223372036854775807/\(v3.length+[v5.1].length)*8<=140737488355328)/\True) <|
  gd (ix v5.1 a0.1.2.2.1.length/\True)<|lt (a0.1.2.2.1.getD v5.1.toNat (d6 y48)) fun v6 =>
  if(v6.2.1==a1)=true then
   some (Sum.inr (v3++[v5.1]))
  else
   g0 (v3++[v5.1],v6.2.1)
def u83(a0:H2)(a1:Int):Option (Unit ⊕ List Int) :=
 gd ((B0N a0 a1).isSome=true/\True)<|lt (vl (B0N a0 a1)) fun v0 =>
 lp (o0W a1 a0 v0) ([],a1)
def k83:Ct:=lct 83 [.dat y127.pt,.dat i64] (fun x=>u83 x.1 x.2.1) (two (fun _r:Unit=>AV.v (Value.slice none 0 0)) (fun r:List Int=>AV.ow 2 true i64 r)) (fun _=>())
def I0V:Ct:=C0w 83 [.dat y127.pt,.dat i64] (fun x=>u83 x.1 x.2.1) (fun _r:Unit=>AV.v (Value.slice none 0 0)) ()
def I0U:Ct:=C0v 83 [.dat y127.pt,.dat i64] (fun x=>u83 x.1 x.2.1) (fun r:List Int=>AV.ow 2 true i64 r) ()
theorem o83:Ok prog k83:=by
 refine okL [.tmp 4] func83 ntmps83 results83 ?_;intro y ⟨a0,a1,_⟩ r H Q hn hr;have:HT _ _:=⟨tc I0z (tc I0A tn)⟩;refine qA (Z (G33 a1 []) [(2,bx 86 [D y127.pt a0])])<|qD (fun v0=>Z (G33 a1 [p 5 (R 5)]) (W29 v0 a0)) H fun v0 H=>qA (Z (G33 a1 [p 6 (AV.fn 145 [AV.ptr 2 0,AV.ptr 5 0])]) (W29 v0 a0))<|qA (Z (G33 a1 [p 6 (AV.fn 145 [AV.ptr 2 0,AV.ptr 5 0]),p 7 (nil)]) (W29 v0 a0))<|qA (Z (G33 a1 [p 6 (AV.fn 145 [AV.ptr 2 0,AV.ptr 5 0]),p 7 (nil),p 8 (J a1)]) (W29 v0 a0))<|vB<|lX (fun((v3,v4):List Int×Int)=>Z (G33 a1 [p 6 (AV.fn 145 [AV.ptr 2 0,AV.ptr 5 0]),p 7 (O 27),p 8 (J v4)]) (W67 v0 a0 v3)) ([],a1) H fun _ g0 b0 e0 t0 ⟨v3,v4⟩ H=>vB<|qD (fun v5=>Z (G33 a1 [p 6 (AV.fn 145 [AV.ptr 2 0,AV.ptr 5 0]),p 7 (O 27),p 9 (I v5.1),p 10 (B v5.2)]) (W67 v0 a0 v3)) H fun v5 H=>vQ<|?_
 refine qA (Z (G33 a1 [p 6 (AV.fn 145 [AV.ptr 2 0,AV.ptr 5 0]),p 7 (O 27),p 9 (I v5.1),p 23 (B !v5.2)]) (W67 v0 a0 v3))<|cD H (fun H=>?_) (fun H=>?_)
 ·refine qA (Z [p 4 (nil)] (W67 v0 a0 v3))<|vTT<|fR<|fDD<|t0<|fDD<|hr H
 refine vK<|fQ<|qB (Z (G33 a1 [p 6 (AV.fn 145 [AV.ptr 2 0,AV.ptr 5 0]),p 7 (AV.os 27 1),p 9 (I v5.1)]) ((27,A 2 i64 (v3++[v5.1]) 1)::(26,A 2 i64 [v5.1] 0)::W29 v0 a0)) H fun H=>qD (fun v6=>Z (G33 a1 [p 6 (AV.fn 145 [AV.ptr 2 0,AV.ptr 5 0]),p 7 (AV.os 27 1),p 8 (J v6.2.1)]) ((27,A 2 i64 (v3++[v5.1]) 1)::(26,A 2 i64 [v5.1] 0)::W29 v0 a0)) H fun v6 H=>qA (Z (G33 a1 [p 6 (AV.fn 145 [AV.ptr 2 0,AV.ptr 5 0]),p 7 (AV.os 27 1),p 8 (J v6.2.1),p 41 (B (v6.2.1==a1))]) ((27,A 2 i64 (v3++[v5.1]) 1)::(26,A 2 i64 [v5.1] 0)::W29 v0 a0))<|cD H (fun H=>?_) (fun H=>?_)
 ·refine qA (Z [p 4 (AV.os 27 1)] ((27,A 2 i64 (v3++[v5.1]) 1)::(26,A 2 i64 [v5.1] 0)::W29 v0 a0))<|vTT<|fDD<|t0<|fDD<|hr H
 exact vK<|fK<|b0 H
theorem H0D:Ok prog I0V:=E0v o83
theorem H0C:Ok prog I0U:=E0t o83
def u35(a0:Y34)(a1:List Int)(a2:Int):Option (List Int×Int) :=
 if(isL (u72 a0 a1 a2))=true then
  gd (isL (u72 a0 a1 a2)=true/\True) <|
  if(vL (u72 a0 a1 a2) != 0)=true then
   some (([],vL (u72 a0 a1 a2)))
  else
   none
 else
  gd (isR (u72 a0 a1 a2)=true/\True)<|lt (vR (u72 a0 a1 a2)) fun v0 =>
  if(v0.2 != 0)=true then
   some ([],v0.2)
  else
   if(isL (u83 v0.1 a2))=true then
    gd (isL (u83 v0.1 a2)=true/\True) <|
    some (([],(5:Int)))
   else
    gd (isR (u83 v0.1 a2)=true/\True) <|
    gd (0 < (vR (u83 v0.1 a2)).length/\True) <|
    some ((vR (u83 v0.1 a2),(0:Int)))
def k35:Ct:=lct 35 [.agg y34,.dat i64.sl,.dat i64] (fun x=>u35 x.1 x.2.1 x.2.2.1) (fun r:List Int×Int=>AV.tup [M i64 r.1,I r.2]) (fun _=>())
theorem o35:Ok prog k35:=by
 refine okL [.tmp 6,.tmp 7] func35 ntmps35 results35 ?_;intro y ⟨a0,a1,a2,_⟩ r H Q hn hr;have:HT _ _:=⟨@tn prog⟩;refine qA (Z [p 1 (L i64 a1),p 2 (J a2),p 3 (R 3)] [(3,K 34 y34 a0)])<|sp H (fun H=>?_) (fun H=>?_)
 ·have:HT _ _:=⟨tc H0F (HT.h)⟩;refine qB (Z [p 2 (J a2),p 8 (AV.v (Value.pointer none)),p 9 (I (vL (u72 a0 a1 a2)))] [(3,K 34 y34 a0)]) H fun H=>vQ<|qA (Z [p 2 (J a2),p 8 (AV.v (Value.pointer none)),p 9 (I (vL (u72 a0 a1 a2))),p 19 (B (vL (u72 a0 a1 a2) != 0))] [(3,K 34 y34 a0)])<|cD H (fun H=>?_) (fun H=>?_)
  ·refine qA (Z [p 6 (nil),p 7 (I (vL (u72 a0 a1 a2)))] [(3,K 34 y34 a0)])<|vTT<|fR<|hr H
  exact vK<|fQ<|D0R H
 have:HT _ _:=⟨tc H0E (HT.h)⟩;refine qD (fun v0=>Z [p 2 (J a2),p 8 (R 1015),p 9 (I v0.2)] (W41 v0.1.1 v0.1.2 a0)) H fun v0 H=>vQ<|qA (Z [p 2 (J a2),p 8 (R 1015),p 9 (I v0.2),p 19 (B (v0.2 != 0))] (W41 v0.1.1 v0.1.2 a0))<|cD H (fun H=>?_) (fun H=>?_)
 ·refine qA (Z [p 6 (nil),p 7 (I v0.2)] (W41 v0.1.1 v0.1.2 a0))<|vTT<|fR<|hr H
 refine vK<|fQ<|sp H (fun H=>?_) (fun H=>?_)
 ·have:HT _ _:=⟨tc H0D (HT.h)⟩;refine qB (Z [p 10 (nil)] (W41 v0.1.1 v0.1.2 a0)) H fun H=>vQ<|vQ<|y0g (T:=35) (tok 35 i35 rfl).2.2.2.2.2 rfl rfl rfl rfl<|fQ<|ct (by kernel_rfl)<|qA (Z [p 6 (nil),p 7 (I 5)] (W41 v0.1.1 v0.1.2 a0))<|vTT<|fR<|hr H
 have:HT _ _:=⟨tc H0C (HT.h)⟩;refine qB (Z [p 10 (O 23)] ((23,A 2 i64 (vR (u83 v0.1 a2)) 0)::W41 v0.1.1 v0.1.2 a0)) H fun H=>vQ<|fZ 23 (Z [p 10 (M i64 (vR (u83 v0.1 a2)))] (W41 v0.1.1 v0.1.2 a0))<|vQ<|nlG (T:=35) (tok 35 i35 rfl).2.2.2.2.2 rfl rfl rfl rfl H fun H=>fQ<|cf (by kernel_rfl)<|vK<|fQ<|qA (Z [p 6 (M i64 (vR (u83 v0.1 a2))),p 7 (I 0)] (W41 v0.1.1 v0.1.2 a0))<|vTT<|hr H
def J9(a0:List Int):Option (List Int) :=
 gd ((0+a0.length<=9223372036854775807/\(0+a0.length)*8<=140737488355328)/\True) <|
 some ([]++a0)
def K0h:Ct:=lct 169 [.dat i64.sl] (fun x=>J9 x.1) (fun r:List Int=>AV.ow 2 true i64 r) (fun _=>())
theorem F0K:Ok prog K0h:=by
 refine okL [.tmp 2] func169 ntmps169 results169 ?_;intro y ⟨a0,_⟩ r H Q hn hr;have:HT _ _:=⟨@tn prog⟩;refine qA (Z [p 0 (L i64 a0)] [])<|qB (Z [p 2 (AV.os 3 1)] [(3,A 2 i64 ([]++a0) 1)]) H fun H=>vTT<|hr H
def B0t(a0:List Int):Int->Option (List Int×Int×Int)
 | v3 =>
 some ((a0,(0:Int),v3))
def B0s(a0:List Int)(g1:Int×Int->Option (List Int×Int×Int)):Int×Int->Option (List Int×Int×Int)
 | (v1,v2) =>
 if(decide (v1 < (a0.length:Int))&&decide (v1<64))=true then
  gd (l3 (v2*(31:Int))/\ix v1 a0.length/\True/\l3 (v2*(31:Int)+a0.getD v1.toNat (0:Int))/\(0:Int) < (2147483647:Int)/\True) <|
  gd (l3 (v1+1)/\True) <|
  g1 ((v1+1,(v2*31+a0.getD v1.toNat 0).tmod 2147483647))
 else
  B0t a0 v2
def u53(a0:List Int):Option (List Int×Int×Int) :=
 lp (B0s a0) (0,12345)
def k53:Ct:=lct 53 [.dat (b8.sl)] (fun x=>u53 x.1) (fun r:List Int×Int×Int=>AV.ob 152 [L b8 r.1,I r.2.1,I r.2.2]) (fun _=>())
theorem o53:Ok prog k53:=by
 refine okL [.tmp 2] func53 ntmps53 results53 ?_;intro y ⟨a0,_⟩ r H Q hn hr;have:HT _ _:=⟨@tn prog⟩;refine qA (Z [p 0 (L b8 a0)] [])<|qA (Z [p 0 (L b8 a0),p 3 (R 7)] [(7,bx 152 [L b8 a0,I 0,I 12345])])<|jN r (fun(v3:Int)=>Z [p 3 (R 7)] [(7,bx 152 [L b8 a0,I 0,I v3])]) (B0t a0) (fun v3 H=>?_) (fun _ n0 e0 t0=>?_)
 ·refine qA (Z [p 2 (R 7)] [(7,bx 152 [L b8 a0,I 0,I v3])])<|vTT<|hr H
 refine qA (Z [p 0 (L b8 a0),p 3 (R 7),p 4 (I 0)] [(7,bx 152 [L b8 a0,I 0,I 12345])])<|vB<|lX (fun((v1,v2):Int×Int)=>Z [p 0 (L b8 a0),p 3 (R 7),p 4 (I v1)] [(7,bx 152 [L b8 a0,I 0,I v2])]) (0,12345) H fun _ g1 b1 e1 t1 ⟨v1,v2⟩ H=>vQ<|qA (Z [p 0 (L b8 a0),p 3 (R 7),p 4 (I v1),p 15 (B (decide (v1 < (a0.length:Int))&&decide (v1<64)))] [(7,bx 152 [L b8 a0,I 0,I v2])])<|cD H (fun H=>?_) (fun H=>?_)
 ·refine vK<|fQ<|vQ<|vB<|zB (Z [p 0 (L b8 a0),p 3 (R 7),p 4 (I v1)] [(7,bx 152 [L b8 a0,I 0,I ((v2*31+a0.getD v1.toNat 0).tmod 2147483647)])]) H fun H=>fK<|fQ<|zB (Z [p 0 (L b8 a0),p 3 (R 7),p 4 (I (v1+1))] [(7,bx 152 [L b8 a0,I 0,I ((v2*31+a0.getD v1.toNat 0).tmod 2147483647)])]) H fun H=>b1 H
 exact vE<|fE<|e1<|fX rfl<|n0 H
def u88(a0:l8)(a1:Int):Option (Int×l8) :=
 if(decide (a1<=1))=true then
  some (((0:Int),a0))
 else
  if(decide (a0.2.1 < (a0.1.length:Int)))=true then
   gd (ix a0.2.1 a0.1.length/\True/\True) <|
   gd (l3 (a0.2.1+1)/\True) <|
   if(decide (a1<=256))=true then
    gd (0<a1/\True) <|
    some ((Int.tmod (a0.1.getD a0.2.1.toNat 0) a1,a0.1,a0.2.1+1,a0.2.2))
   else
    gd (l3 (a0.2.2*(48271:Int))/\l3 (a0.2.2*(48271:Int)+a0.1.getD a0.2.1.toNat (0:Int))/\l3 (a0.2.2*(48271:Int)+a0.1.getD a0.2.1.toNat (0:Int)+(1:Int))/\(0:Int) < (2147483647:Int)/\True)<|lt ((a0.2.2*48271+a0.1.getD a0.2.1.toNat 0+1).tmod 2147483647) fun v0 =>
    gd (0<a1/\True) <|
    some (v0.tmod a1,a0.1,a0.2.1+1,v0)
  else
   gd (l3 (a0.2.2*(48271:Int))/\l3 (a0.2.2*(48271:Int)+(11:Int))/\(0:Int) < (2147483647:Int)/\True) <|
   gd ((0:Int) < (7:Int)/\(0:Int)<a1/\True) <|
   some (((((a0.2.2*48271+11).tmod 2147483647).tdiv 7).tmod a1,a0.1,a0.2.1,(a0.2.2*48271+11).tmod 2147483647))
def k88:Ct:=lct 88 [.io 152 l7,.dat i64] (fun x=>u88 x.1 x.2.1) (fun r:Int×l8=>I r.1) (fun r=>r.2)
theorem o88:Ok prog k88:=by
 refine okL [.tmp 4] func88 ntmps88 results88 ?_;intro y ⟨a0,a1,_⟩ r H Q hn hr;have:HT _ _:=⟨@tn prog⟩;refine qA (Z (G14 a1 []) [(500000,K 152 l7 a0)])<|vQ<|qA (Z (G14 a1 [p 7 (B (decide (a1<=1)))]) [(500000,K 152 l7 a0)])<|cD H (fun H=>?_) (fun H=>?_)
 ·refine qA (Z [p 4 (I 0)] [(500000,K 152 l7 a0)])<|vTT<|fR<|hr H
 refine vK<|fQ<|vQ<|qA (Z (G14 a1 [p 17 (B (decide (a0.2.1 < (a0.1.length:Int))))]) [(500000,K 152 l7 a0)])<|cD H (fun H=>?_) (fun H=>?_)
 ·refine qB (Z (G14 a1 [p 5 (I (a0.1.getD a0.2.1.toNat 0))]) [(500000,K 152 l7 a0)]) H fun H=>qB (Z (G14 a1 [p 5 (I (a0.1.getD a0.2.1.toNat 0))]) [(500000,bx 152 [L b8 a0.1,I (a0.2.1+1),J a0.2.2])]) H fun H=>vQ<|qA (Z (G14 a1 [p 5 (I (a0.1.getD a0.2.1.toNat 0)),p 37 (B (decide (a1<=256)))]) [(500000,bx 152 [L b8 a0.1,I (a0.2.1+1),J a0.2.2])])<|cD H (fun H=>?_) (fun H=>?_)
  ·refine qB (Z [p 4 (I (Int.tmod (a0.1.getD a0.2.1.toNat 0) a1))] [(500000,bx 152 [L b8 a0.1,I (a0.2.1+1),J a0.2.2])]) H fun H=>vTT<|fR<|fR<|hr H
  refine vK<|fQ<|qD (fun v0=>Z (G14 a1 []) [(500000,bx 152 [L b8 a0.1,I (a0.2.1+1),I v0])]) H fun v0 H=>qB (Z [p 4 (I (v0.tmod a1))] [(500000,bx 152 [L b8 a0.1,I (a0.2.1+1),I v0])]) H fun H=>vTT<|fR<|hr H
 refine vK<|fQ<|qB (Z (G14 a1 []) [(500000,bx 152 [L b8 a0.1,J a0.2.1,I ((a0.2.2*48271+11).tmod 2147483647)])]) H fun H=>qB (Z [p 4 (I ((((a0.2.2*48271+11).tmod 2147483647).tdiv 7).tmod a1))] [(500000,bx 152 [L b8 a0.1,J a0.2.1,I ((a0.2.2*48271+11).tmod 2147483647)])]) H fun H=>vTT<|hr H
def y0A:List Int×List Int×Int×Int->Option (List Int×l8)
 | (v16,v17,v18,v19) =>
 some (v16,v17,v18,v19)
def t0F(v0:List Y48):List Int×Int×Int×List Int->Option (List Int×l8)
 | (v10,v11,v12,v13) =>
 gd ((u88 (v10,v11,v12) 12).isSome=true/\True)<|lt (vl (u88 (v10,v11,v12) 12)) fun v14 =>
 if(v14.1==0)=true then
  gd ((u88 v14.2 2).isSome=true/\l3 ((v0.length:Int)*(vl (u88 v14.2 2)).1)/\(v13.length+[(v0.length:Int)*(vl (u88 v14.2 2)).1].length<=9223372036854775807/\(v13.length+[(v0.length:Int)*(vl (u88 v14.2 2)).1].length)*8<=140737488355328)/\True)<|lt (vl (u88 v14.2 2)) fun v15 =>
  y0A ((v13++[(v0.length:Int)*v15.1],v15.2.1,v15.2.2.1,v15.2.2.2))
 else
  y0A (v13,v14.2.1,v14.2.2.1,v14.2.2.2)
def E0j(v1:Int×l8)(v0:List Y48)(g1:Int×List Int×Int×Int×List Int->Option (List Int×l8)):Int×List Int×Int×Int×List Int->Option (List Int×l8)
 | (v4,v5,v6,v7,v8) =>
 if(decide (v4 < (v0.length:Int)))=true then
  gd ((v8.length+[v4].length<=9223372036854775807/\(v8.length+[v4].length)*8<=140737488355328)/\True) <|
  gd ((u88 (v5,v6,v7) (1+v1.1)).isSome=true/\l3 (1+(vl (u88 (v5,v6,v7) (1+v1.1))).1)/\l3 (v4+(1+(vl (u88 (v5,v6,v7) (1+v1.1))).1))/\True)<|lt (vl (u88 (v5,v6,v7) (1+v1.1))) fun v9 =>
  g1 ((v4+(1+v9.1),v9.2.1,v9.2.2.1,v9.2.2.2,v8++[v4]))
 else
  t0F v0 (v5,v6,v7,v8)
def y0z:List Int×List Int×Int×Int->Option (List Int×l8)
 | (v38,v39,v40,v41) =>
 some (v38,v39,v40,v41)
def t0E(v21:List Y48):List Int×Int×Int×List Int->Option (List Int×l8)
 | (v32,v33,v34,v35) =>
 gd ((u88 (v32,v33,v34) 12).isSome=true/\True)<|lt (vl (u88 (v32,v33,v34) 12)) fun v36 =>
 if(v36.1==0)=true then
  gd ((u88 v36.2 2).isSome=true/\l3 ((v21.length:Int)*(vl (u88 v36.2 2)).1)/\(v35.length+[(v21.length:Int)*(vl (u88 v36.2 2)).1].length<=9223372036854775807/\(v35.length+[(v21.length:Int)*(vl (u88 v36.2 2)).1].length)*8<=140737488355328)/\True)<|lt (vl (u88 v36.2 2)) fun v37 =>
  y0z ((v35++[(v21.length:Int)*v37.1],v37.2.1,v37.2.2.1,v37.2.2.2))
 else
  y0z (v35,v36.2.1,v36.2.2.1,v36.2.2.2)
def B0r(v23:Int×l8)(v21:List Y48)(g4:Int×List Int×Int×Int×List Int->Option (List Int×l8)):Int×List Int×Int×Int×List Int->Option (List Int×l8)
 | (v26,v27,v28,v29,v30) =>
 if(decide (v26 < (v21.length:Int)))=true then
  gd ((v30.length+[v26].length<=9223372036854775807/\(v30.length+[v26].length)*8<=140737488355328)/\True) <|
  gd ((u88 (v27,v28,v29) (1+v23.1)).isSome=true/\l3 (1+(vl (u88 (v27,v28,v29) (1+v23.1))).1)/\l3 (v26+(1+(vl (u88 (v27,v28,v29) (1+v23.1))).1))/\True)<|lt (vl (u88 (v27,v28,v29) (1+v23.1))) fun v31 =>
  g4 ((v26+(1+v31.1),v31.2.1,v31.2.2.1,v31.2.2.2,v30++[v26]))
 else
  t0E v21 (v27,v28,v29,v30)
def u55(a0:l8)(a1:Y34):Option (List Int×l8) :=
 gd ((u23 a1).isSome=true/\True)<|if(!vl (u23 a1))=true then
  gd (True)<|if(true||false)=true then
   some ([],a0)
  else
   gd ((u59 a1).isSome=true/\True)<|lt (vl (u59 a1)) fun v0 =>
   gd ((u88 a0 8).isSome=true/\l3 (1+(vl (u88 a0 8)).1)/\True)<|lt (vl (u88 a0 8)) fun v1 =>
   gd ((u88 v1.2 (1+v1.1)).isSome=true/\True)<|lt (vl (u88 v1.2 (1+v1.1))) fun v2 =>
   lp (E0j v1 v0) (v2.1,v2.2.1,v2.2.2.1,v2.2.2.2,[])
 else
  gd (((u88 a0 3).isSome=true/\True)/\True)<|if(false||decide (0 < (vl (u88 a0 3)).1))=true then
   lt (vl (u88 a0 3)) fun v20 =>
   some ([],v20.2)
  else
   gd ((u59 a1).isSome=true/\True)<|lt ((vl (u59 a1),vl (u88 a0 3))) fun(v21,v22) =>
   gd ((u88 v22.2 8).isSome=true/\l3 (1+(vl (u88 v22.2 8)).1)/\True)<|lt (vl (u88 v22.2 8)) fun v23 =>
   gd ((u88 v23.2 (1+v23.1)).isSome=true/\True)<|lt (vl (u88 v23.2 (1+v23.1))) fun v24 =>
   lp (B0r v23 v21) (v24.1,v24.2.1,v24.2.2.1,v24.2.2.2,[])
def k55:Ct:=lct 55 [.io 152 l7,.agg y34] (fun x=>u55 x.1 x.2.1) (fun r:List Int×l8=>AV.ow 2 true i64 r.1) (fun r=>r.2)
theorem o55:Ok prog k55:=by
 refine okL [.tmp 4] func55 ntmps55 results55 ?_;intro y ⟨a0,a1,_⟩ r H Q hn hr;have:HT _ _:=⟨tc o88 (tc o59 (tc o23 tn))⟩;refine qA (Z [p 0 (R 500000),p 3 (R 3)] [(3,K 34 y34 a1),(500000,K 152 l7 a0)])<|qA (Z [p 0 (R 500000),p 3 (R 3),p 5 (O 9)] (W74 a1 a0))<|vQ<|vQ<|zG tok (HT.h) 4 3 [0,3,5,17] [(14,AV.ptr 500000 0),(15,I 0),(16,B false)] (Z [p 13 (B !vl (u23 a1)),p 12 (B !vl (u23 a1)),p 11 (B (vl (u23 a1))),p 10 (AV.agg [L y163 a1.1,L y165 a1.2.1.1,L Ty.str a1.2.1.2.1,L y175 a1.2.1.2.2,L l6 a1.2.2]),p 0 (R 500000),p 3 (R 3),p 5 (O 9)] (W74 a1 a0)) 3 false 13 (Z [p 0 (R 500000),p 3 (R 3),p 5 (O 9),p 17 (B (true||false))] (W74 a1 a0)) (Z [p 0 (R 500000),p 3 (R 3),p 5 (O 9),p 17 (B (false||decide (0 < (vl (u88 a0 3)).1)))] ((500000,bx 152 (u1 false l7 (vl (u88 a0 3)).2))::W83 a1)) (True) (((u88 a0 3).isSome=true/\True)/\True) H (by kernel_rfl) (by kernel_rfl) (by kernel_rfl) (fun H=>gdC H fun H=>fQ ?_) (fun H=>gdC H fun H=>fQ ?_)
 ·refine cD H (fun H=>?_) (fun H=>?_)
  ·refine qA (Z [p 4 (O 9)] (W74 a1 a0))<|vTT<|fR<|hr H
  refine vK<|fQ<|qD (fun v0=>Z (G35 (v0.length:Int) []) ((20,A 48 y48 v0 0)::W74 a1 a0)) H fun v0 H=>qD (fun v1=>Z (G35 (v0.length:Int) [p 7 (I (1+v1.1))]) ((500000,K 152 l7 v1.2)::(20,A 48 y48 v0 0)::W83 a1)) H fun v1 H=>jN r (fun((v10,v11,v12,v13):List Int×Int×Int×List Int)=>Z (G35 (v0.length:Int) []) [(500000,bx 152 (Q63 v10 v11 v12)),(9,A 2 i64 v13 0)]) (t0F v0) (fun⟨v10,v11,v12,v13⟩ H=>?_) (fun _ n0 e0 t0=>?_)
  ·refine jN r (fun((v16,v17,v18,v19):List Int×List Int×Int×Int)=>Z [p 5 (O 9)] [(9,A 2 i64 v16 0),(500000,bx 152 (Q63 v17 v18 v19))]) (y0A) (fun⟨v16,v17,v18,v19⟩ H=>?_) (fun _ n2 e2 t2=>?_)
   ·refine qA (Z [p 4 (O 9)] [(9,A 2 i64 v16 0),(500000,bx 152 (Q63 v17 v18 v19))])<|vTT<|hr H
   refine qD (fun v14=>Z (G35 (v0.length:Int) [p 43 (B (v14.1==0))]) [(500000,K 152 l7 v14.2),(9,A 2 i64 v13 0)]) H fun v14 H=>cD H (fun H=>?_) (fun H=>?_)
   ·refine zD (fun v15=>Z [p 5 (AV.os 9 1)] [(9,A 2 i64 (v13++[(v0.length:Int)*v15.1]) 1),(49,A 2 i64 [(v0.length:Int)*v15.1] 0),(500000,K 152 l7 v15.2)]) H fun v15 H=>n2 H
   exact vK<|n2 H
  refine qD (fun v2=>Z (G35 (v0.length:Int) [p 7 (I (1+v1.1)),p 8 (I v2.1)]) ((500000,K 152 l7 v2.2)::(20,A 48 y48 v0 0)::W83 a1)) H fun v2 H=>vB<|lX (fun((v4,v5,v6,v7,v8):Int×List Int×Int×Int×List Int)=>Z (G35 (v0.length:Int) [p 7 (I (1+v1.1)),p 8 (I v4)]) [(500000,bx 152 [L b8 v5,J v6,J v7]),(9,A 2 i64 v8 0)]) (v2.1,v2.2.1,v2.2.2.1,v2.2.2.2,[]) H fun _ g1 b1 e1 t1 ⟨v4,v5,v6,v7,v8⟩ H=>vQ<|qA (Z (G35 (v0.length:Int) [p 7 (I (1+v1.1)),p 8 (I v4),p 30 (B (decide (v4 < (v0.length:Int))))]) [(500000,bx 152 [L b8 v5,J v6,J v7]),(9,A 2 i64 v8 0)])<|cD H (fun H=>?_) (fun H=>?_)
  ·refine vK<|fQ<|vQ<|vB<|zB (Z [p 0 (R 500000),p 5 (AV.os 9 1),p 6 (I (v0.length:Int)),p 7 (I (1+v1.1)),p 8 (I v4)] [(9,A 2 i64 (v8++[v4]) 1),(39,A 2 i64 [v4] 0),(500000,bx 152 [L b8 v5,J v6,J v7])]) H fun H=>fK<|fQ<|zD (fun v9=>Z [p 0 (R 500000),p 5 (AV.os 9 1),p 6 (I (v0.length:Int)),p 7 (I (1+v1.1)),p 8 (I (v4+(1+v9.1)))] [(500000,K 152 l7 v9.2),(9,A 2 i64 (v8++[v4]) 1),(39,A 2 i64 [v4] 0)]) H fun v9 H=>b1 H
  exact vE<|fE<|e1<|fX rfl<|n0 H
 refine cD H (fun H=>?_) (fun H=>?_)
 ·refine qC (fun v20=>Z [p 4 (O 9)] ((500000,K 152 l7 v20.2)::W83 a1)) H fun v20 H=>vTT<|fR<|hr H
 refine vK<|fQ<|qD (fun(v21,v22)=>Z (G35 (v21.length:Int) []) ((20,A 48 y48 v21 0)::(500000,K 152 l7 v22.2)::W83 a1)) H fun w H=>?_
 obtain⟨v21,v22⟩:=w;refine qD (fun v23=>Z (G35 (v21.length:Int) [p 7 (I (1+v23.1))]) ((500000,K 152 l7 v23.2)::(20,A 48 y48 v21 0)::W83 a1)) H fun v23 H=>jN r (fun((v32,v33,v34,v35):List Int×Int×Int×List Int)=>Z (G35 (v21.length:Int) []) [(500000,bx 152 (Q63 v32 v33 v34)),(9,A 2 i64 v35 0)]) (t0E v21) (fun⟨v32,v33,v34,v35⟩ H=>?_) (fun _ n3 e3 t3=>?_)
 ·refine jN r (fun((v38,v39,v40,v41):List Int×List Int×Int×Int)=>Z [p 5 (O 9)] [(9,A 2 i64 v38 0),(500000,bx 152 (Q63 v39 v40 v41))]) (y0z) (fun⟨v38,v39,v40,v41⟩ H=>?_) (fun _ n5 e5 t5=>?_)
  ·refine qA (Z [p 4 (O 9)] [(9,A 2 i64 v38 0),(500000,bx 152 (Q63 v39 v40 v41))])<|vTT<|hr H
  refine qD (fun v36=>Z (G35 (v21.length:Int) [p 43 (B (v36.1==0))]) [(500000,K 152 l7 v36.2),(9,A 2 i64 v35 0)]) H fun v36 H=>cD H (fun H=>?_) (fun H=>?_)
  ·refine zD (fun v37=>Z [p 5 (AV.os 9 1)] [(9,A 2 i64 (v35++[(v21.length:Int)*v37.1]) 1),(49,A 2 i64 [(v21.length:Int)*v37.1] 0),(500000,K 152 l7 v37.2)]) H fun v37 H=>n5 H
  exact vK<|n5 H
 refine qD (fun v24=>Z (G35 (v21.length:Int) [p 7 (I (1+v23.1)),p 8 (I v24.1)]) ((500000,K 152 l7 v24.2)::(20,A 48 y48 v21 0)::W83 a1)) H fun v24 H=>vB<|lX (fun((v26,v27,v28,v29,v30):Int×List Int×Int×Int×List Int)=>Z (G35 (v21.length:Int) [p 7 (I (1+v23.1)),p 8 (I v26)]) [(500000,bx 152 (Q63 v27 v28 v29)),(9,A 2 i64 v30 0)]) (v24.1,v24.2.1,v24.2.2.1,v24.2.2.2,[]) H fun _ g4 b4 e4 t4 ⟨v26,v27,v28,v29,v30⟩ H=>vQ<|qA (Z (G35 (v21.length:Int) [p 7 (I (1+v23.1)),p 8 (I v26),p 30 (B (decide (v26 < (v21.length:Int))))]) [(500000,bx 152 (Q63 v27 v28 v29)),(9,A 2 i64 v30 0)])<|cD H (fun H=>?_) (fun H=>?_)
 ·refine vK<|fQ<|vQ<|vB<|zB (Z [p 0 (R 500000),p 5 (AV.os 9 1),p 6 (I (v21.length:Int)),p 7 (I (1+v23.1)),p 8 (I v26)] [(9,A 2 i64 (v30++[v26]) 1),(39,A 2 i64 [v26] 0),(500000,bx 152 (Q63 v27 v28 v29))]) H fun H=>fK<|fQ<|zD (fun v31=>Z [p 0 (R 500000),p 5 (AV.os 9 1),p 6 (I (v21.length:Int)),p 7 (I (1+v23.1)),p 8 (I (v26+(1+v31.1)))] [(500000,K 152 l7 v31.2),(9,A 2 i64 (v30++[v26]) 1),(39,A 2 i64 [v26] 0)]) H fun v31 H=>b4 H
 exact vE<|fE<|e4<|fX rfl<|n3 H
def v0R:List Int×Int×Int×List Int->Option (List Int×l8)
 | (v10,v11,v12,v13) =>
 some (v13,v10,v11,v12)
def v0Q(a1:Int)(g1:Int×Int×List Int×Int×Int×List Int->Option (List Int×l8)):Int×Int×List Int×Int×Int×List Int->Option (List Int×l8)
 | (v3,v4,v5,v6,v7,v8) =>
 if(decide (0<v4))=true then
  gd ((v8.length+[v3].length<=9223372036854775807/\(v8.length+[v3].length)*8<=140737488355328)/\True) <|
  gd (l3 (v3+1)/\(u88 (v5,v6,v7) a1).isSome=true/\l3 (v3+1+(vl (u88 (v5,v6,v7) a1)).1)/\True)<|lt (vl (u88 (v5,v6,v7) a1)) fun v9 =>
  gd (l3 (v4-1)/\True) <|
  g1 (v3+1+v9.1,v4-1,v9.2.1,v9.2.2.1,v9.2.2.2,v8++[v3])
 else
  v0R (v5,v6,v7,v8)
def y0C(a0:l8)(a1:Int):Option (List Int×l8) :=
 gd ((u88 a0 a1).isSome=true/\True)<|lt (vl (u88 a0 a1)) fun v0 =>
 gd ((u88 v0.2 3).isSome=true/\l3 (1+(vl (u88 v0.2 3)).1)/\True)<|lt (vl (u88 v0.2 3)) fun v1 =>
 lp (v0Q a1) (v0.1,1+v1.1,v1.2.1,v1.2.2.1,v1.2.2.2,[])
def J0g:Ct:=lct 278 [.io 152 l7,.dat i64] (fun x=>y0C x.1 x.2.1) (fun r:List Int×l8=>AV.ow 2 true i64 r.1) (fun r=>r.2)
theorem H0K:Ok prog J0g:=by
 refine okL [.tmp 4] func278 ntmps278 results278 ?_;intro y ⟨a0,a1,_⟩ r H Q hn hr;have:HT _ _:=⟨tc o88 tn⟩;refine qA (Z (G14 a1 []) [(500000,K 152 l7 a0)])<|qA (Z (G14 a1 [p 5 (O 8)]) [(8,A 2 i64 [] 0),(500000,K 152 l7 a0)])<|qD (fun v0=>Z (G14 a1 [p 5 (O 8),p 6 (I v0.1)]) [(500000,K 152 l7 v0.2),(8,A 2 i64 [] 0)]) H fun v0 H=>jN r (fun((v10,v11,v12,v13):List Int×Int×Int×List Int)=>Z [p 5 (O 8)] [(500000,bx 152 (Q63 v10 v11 v12)),(8,A 2 i64 v13 0)]) (v0R) (fun⟨v10,v11,v12,v13⟩ H=>?_) (fun _ n0 e0 t0=>?_)
 ·refine qA (Z [p 4 (O 8)] [(500000,bx 152 (Q63 v10 v11 v12)),(8,A 2 i64 v13 0)])<|vTT<|hr H
 refine qD (fun v1=>Z (G14 a1 [p 5 (O 8),p 6 (I v0.1),p 7 (I (1+v1.1))]) [(500000,K 152 l7 v1.2),(8,A 2 i64 [] 0)]) H fun v1 H=>vB<|lX (fun((v3,v4,v5,v6,v7,v8):Int×Int×List Int×Int×Int×List Int)=>Z (G14 a1 [p 5 (O 8),p 6 (I v3),p 7 (I v4)]) [(500000,bx 152 [L b8 v5,J v6,J v7]),(8,A 2 i64 v8 0)]) (v0.1,1+v1.1,v1.2.1,v1.2.2.1,v1.2.2.2,[]) H fun _ g1 b1 e1 t1 ⟨v3,v4,v5,v6,v7,v8⟩ H=>vQ<|qA (Z (G14 a1 [p 5 (O 8),p 6 (I v3),p 7 (I v4),p 16 (B (decide (0<v4)))]) [(500000,bx 152 [L b8 v5,J v6,J v7]),(8,A 2 i64 v8 0)])<|cD H (fun H=>?_) (fun H=>?_)
 ·refine vK<|fQ<|vQ<|vB<|qB (Z (G14 a1 [p 5 (AV.os 8 1),p 6 (I v3),p 7 (I v4)]) [(8,A 2 i64 (v8++[v3]) 1),(21,A 2 i64 [v3] 0),(500000,bx 152 [L b8 v5,J v6,J v7])]) H fun H=>zD (fun v9=>Z (G14 a1 [p 5 (AV.os 8 1),p 6 (I (v3+1+v9.1)),p 7 (I v4)]) [(500000,K 152 l7 v9.2),(8,A 2 i64 (v8++[v3]) 1),(21,A 2 i64 [v3] 0)]) H fun v9 H=>fK<|fQ<|zB (Z (G14 a1 [p 5 (AV.os 8 1),p 6 (I (v3+1+v9.1)),p 7 (I (v4-1))]) [(500000,K 152 l7 v9.2),(8,A 2 i64 (v8++[v3]) 1),(21,A 2 i64 [v3] 0)]) H fun H=>b1 H
 exact vE<|fE<|e1<|fX rfl<|n0 H
def v0V(v0:List Int×l8)(v1:List Int×l8):List Int×List Int×Int×Int->Option (D2×l8)
 | (v31,v32,v33,v34) =>
 some (((v0.1,v1.1,v31),v32,v33,v34))
def k0d(v14:Int)(v15:List Int)(g1:Int×List Int×List Int×Int×Int->Option (D2×l8)):Int×List Int×Int×Int->Option (D2×l8)
 | (v27,v28,v29,v30) =>
 gd ((v15.length+[v27].length<=9223372036854775807/\(v15.length+[v27].length)*8<=140737488355328)/\True) <|
 gd (l3 (v14+1)/\True) <|
 g1 (v14+1,v15++[v27],v28,v29,v30)
def k0e(v14:Int)(v15:List Int)(v1:List Int×l8)(g1:Int×List Int×List Int×Int×Int->Option (D2×l8)):Int×List Int×Int×Int->Option (D2×l8)
 | (v21,v22,v23,v24) =>
 if(decide ((v1.1.length:Int)<=v14))=true then
  gd (l3 (v14-(v1.1.length:Int))/\ix (v14-(v1.1.length:Int)) v15.length/\(v14-(v1.1.length:Int)).toNat<v15.length/\(u88 (v22,v23,v24) 20).isSome=true/\l3 (v15.getD (v14-(v1.1.length:Int)).toNat 0+(vl (u88 (v22,v23,v24) 20)).1)/\True)<|lt ((vl (u88 (v22,v23,v24) 20),max v21 (v15.getD (v14-(v1.1.length:Int)).toNat 0+(vl (u88 (v22,v23,v24) 20)).1))) fun(v25,v26) =>
  k0d v14 v15 g1 (v26,v25.2.1,v25.2.2.1,v25.2.2.2)
 else
  k0d v14 v15 g1 (v21,v22,v23,v24)
def v0U(v1:List Int×l8)(a1:Int)(v0:List Int×l8)(g1:Int×List Int×List Int×Int×Int->Option (D2×l8)):Int×List Int×List Int×Int×Int->Option (D2×l8)
 | (v14,v15,v16,v17,v18) =>
 gd (l3 ((v0.1.length:Int)*(v1.1.length:Int))/\True) <|
 if(decide (v14 < (v0.1.length:Int)*(v1.1.length:Int)))=true then
  gd ((u88 (v16,v17,v18) 10).isSome=true/\l3 (a1+(vl (u88 (v16,v17,v18) 10)).1)/\True)<|lt (vl (u88 (v16,v17,v18) 10)) fun v19 =>
  gd (0 < (v1.1.length:Int)/\True) <|
  if(decide (0<v14.tmod (v1.1.length:Int)))=true then
   gd (l3 (v14-1)/\ix (v14-1) v15.length/\(v14-1).toNat<v15.length/\(u88 v19.2 20).isSome=true/\l3 (v15.getD (v14-1).toNat 0+(vl (u88 v19.2 20)).1)/\True)<|lt (vl (u88 v19.2 20)) fun v20 =>
   k0e v14 v15 v1 g1 ((max (a1+v19.1) (v15.getD (v14-1).toNat 0+v20.1),v20.2.1,v20.2.2.1,v20.2.2.2))
  else
   k0e v14 v15 v1 g1 (a1+v19.1,v19.2.1,v19.2.2.1,v19.2.2.2)
 else
  v0V v0 v1 (v15,v16,v17,v18)
def v0W(a0:l8)(a1:Int):Option (D2×l8) :=
 gd ((y0C a0 60).isSome=true/\True)<|lt (vl (y0C a0 60)) fun v0 =>
 gd ((y0C v0.2 40).isSome=true/\True)<|lt (vl (y0C v0.2 40)) fun v1 =>
 lp (v0U v1 a1 v0) (0,[],v1.2.1,v1.2.2.1,v1.2.2.2)
def J0n:Ct:=lct 270 [.io 152 l7,.dat i64] (fun x=>v0W x.1 x.2.1) (fun r:D2×l8=>AV.agg [AV.ow 2 true i64 r.1.1,AV.ow 2 true i64 r.1.2.1,AV.ow 2 true i64 r.1.2.2]) (fun r=>r.2)
theorem H0Q:Ok prog J0n:=by
 refine okL [.cell 4 140] func270 ntmps270 results270 ?_;intro y ⟨a0,a1,_⟩ r H Q hn hr;have:HT _ _:=⟨tc o88 (tc H0K tn)⟩;refine qA (Z (G14 a1 [p 4 (R 4)]) [(4,bx 140 [nil,nil,nil]),(500000,K 152 l7 a0)])<|qD (fun v0=>Z (G14 a1 [p 4 (R 4),p 5 (O 12)]) [(12,A 2 i64 v0.1 0),(500000,K 152 l7 v0.2),(4,bx 140 [nil,nil,nil])]) H fun v0 H=>qD (fun v1=>Z (G14 a1 [p 4 (R 4),p 5 (O 12),p 6 (O 14)]) ((14,A 2 i64 v1.1 0)::(500000,K 152 l7 v1.2)::W20 v0.1)) H fun v1 H=>qA (Z (G14 a1 [p 4 (R 4),p 5 (O 12),p 6 (O 14),p 7 (O 15)]) ((15,A 2 i64 [] 0)::(14,A 2 i64 v1.1 0)::(500000,K 152 l7 v1.2)::W20 v0.1))<|qA (Z (G14 a1 [p 4 (R 4),p 5 (O 12),p 6 (O 14),p 7 (O 15),p 8 (I (v1.1.length:Int))]) ((15,A 2 i64 [] 0)::(14,A 2 i64 v1.1 0)::(500000,K 152 l7 v1.2)::W20 v0.1))<|jN r (fun((v31,v32,v33,v34):List Int×List Int×Int×Int)=>Z [p 4 (R 4),p 5 (O 12),p 6 (O 14),p 7 (O 15)] ((15,A 2 i64 v31 0)::(14,A 2 i64 v1.1 0)::(500000,bx 152 (Q63 v32 v33 v34))::W20 v0.1)) (v0V v0 v1) (fun⟨v31,v32,v33,v34⟩ H=>?_) (fun _ n0 e0 t0=>?_)
 ·refine qA (Z [p 4 (R 4)] [(4,bx 140 [AV.os 12 0,AV.os 14 0,AV.os 15 0]),(15,A 2 i64 v31 0),(14,A 2 i64 v1.1 0),(500000,bx 152 (Q63 v32 v33 v34)),(12,A 2 i64 v0.1 0)])<|vTT<|hr H
 refine qA (Z (G14 a1 [p 4 (R 4),p 5 (O 12),p 6 (O 14),p 7 (O 15),p 8 (I (v1.1.length:Int)),p 9 (I 0)]) ((15,A 2 i64 [] 0)::(14,A 2 i64 v1.1 0)::(500000,K 152 l7 v1.2)::W20 v0.1))<|vB<|lX (fun((v14,v15,v16,v17,v18):Int×List Int×List Int×Int×Int)=>Z (G14 a1 [p 4 (R 4),p 5 (O 12),p 6 (O 14),p 7 (O 15),p 8 (I (v1.1.length:Int)),p 9 (I v14)]) ((15,A 2 i64 v15 0)::(14,A 2 i64 v1.1 0)::(500000,bx 152 (Q63 v16 v17 v18))::W20 v0.1)) (0,[],v1.2.1,v1.2.2.1,v1.2.2.2) H fun _ g1 b1 e1 t1 ⟨v14,v15,v16,v17,v18⟩ H=>vQ<|qB (Z (G14 a1 [p 4 (R 4),p 5 (O 12),p 6 (O 14),p 7 (O 15),p 8 (I (v1.1.length:Int)),p 9 (I v14),p 23 (B (decide (v14 < (v0.1.length:Int)*(v1.1.length:Int))))]) ((15,A 2 i64 v15 0)::(14,A 2 i64 v1.1 0)::(500000,bx 152 (Q63 v16 v17 v18))::W20 v0.1)) H fun H=>cD H (fun H=>?_) (fun H=>?_)
 ·refine vK<|fQ<|vQ<|vB<|qD (fun v19=>Z (G14 a1 [p 4 (R 4),p 5 (O 12),p 6 (O 14),p 7 (O 15),p 8 (I (v1.1.length:Int)),p 9 (I v14),p 10 (I (a1+v19.1))]) ((500000,K 152 l7 v19.2)::(15,A 2 i64 v15 0)::(14,A 2 i64 v1.1 0)::W20 v0.1)) H fun v19 H=>jN r (fun((v21,v22,v23,v24):Int×List Int×Int×Int)=>Z (G14 a1 [p 4 (R 4),p 5 (O 12),p 6 (O 14),p 7 (O 15),p 8 (I (v1.1.length:Int)),p 9 (I v14),p 10 (I v21)]) ((500000,bx 152 (Q63 v22 v23 v24))::(15,A 2 i64 v15 0)::(14,A 2 i64 v1.1 0)::W20 v0.1)) (k0e v14 v15 v1 g1) (fun⟨v21,v22,v23,v24⟩ H=>?_) (fun _ n2 e2 t2=>?_)
  ·refine jN r (fun((v27,v28,v29,v30):Int×List Int×Int×Int)=>Z (G14 a1 [p 4 (R 4),p 5 (O 12),p 6 (O 14),p 7 (O 15),p 8 (I (v1.1.length:Int)),p 9 (I v14),p 10 (I v27)]) ((500000,bx 152 (Q63 v28 v29 v30))::(15,A 2 i64 v15 0)::(14,A 2 i64 v1.1 0)::W20 v0.1)) (k0d v14 v15 g1) (fun⟨v27,v28,v29,v30⟩ H=>?_) (fun _ n3 e3 t3=>?_)
   ·refine zB (Z (G14 a1 [p 4 (R 4),p 5 (O 12),p 6 (O 14),p 7 (AV.os 15 1),p 8 (I (v1.1.length:Int)),p 9 (I v14)]) ((15,A 2 i64 (v15++[v27]) 1)::(60,A 2 i64 [v27] 0)::(500000,bx 152 (Q63 v28 v29 v30))::(14,A 2 i64 v1.1 0)::W20 v0.1)) H fun H=>fK<|fQ<|zB (Z (G14 a1 [p 4 (R 4),p 5 (O 12),p 6 (O 14),p 7 (AV.os 15 1),p 8 (I (v1.1.length:Int)),p 9 (I (v14+1))]) ((15,A 2 i64 (v15++[v27]) 1)::(60,A 2 i64 [v27] 0)::(500000,bx 152 (Q63 v28 v29 v30))::(14,A 2 i64 v1.1 0)::W20 v0.1)) H fun H=>b1 H
   refine qA (Z (G14 a1 [p 4 (R 4),p 5 (O 12),p 6 (O 14),p 7 (O 15),p 8 (I (v1.1.length:Int)),p 9 (I v14),p 10 (I v21),p 46 (B (decide ((v1.1.length:Int)<=v14)))]) ((500000,bx 152 (Q63 v22 v23 v24))::(15,A 2 i64 v15 0)::(14,A 2 i64 v1.1 0)::W20 v0.1))<|cD H (fun H=>?_) (fun H=>?_)
   ·refine zD (fun(v25,v26)=>Z (G14 a1 [p 4 (R 4),p 5 (O 12),p 6 (O 14),p 7 (O 15),p 8 (I (v1.1.length:Int)),p 9 (I v14),p 10 (I v26)]) ((500000,K 152 l7 v25.2)::(15,A 2 i64 v15 0)::(14,A 2 i64 v1.1 0)::W20 v0.1)) H fun⟨v25,v26⟩ H =>
     n3 H
   exact vK<|n3 H
  refine qB (Z (G14 a1 [p 4 (R 4),p 5 (O 12),p 6 (O 14),p 7 (O 15),p 8 (I (v1.1.length:Int)),p 9 (I v14),p 10 (I (a1+v19.1)),p 33 (B (decide (0<v14.tmod (v1.1.length:Int))))]) ((500000,K 152 l7 v19.2)::(15,A 2 i64 v15 0)::(14,A 2 i64 v1.1 0)::W20 v0.1)) H fun H=>cD H (fun H=>?_) (fun H=>?_)
  ·refine zD (fun v20=>Z (G14 a1 [p 4 (R 4),p 5 (O 12),p 6 (O 14),p 7 (O 15),p 8 (I (v1.1.length:Int)),p 9 (I v14),p 10 (I (max (a1+v19.1) (v15.getD (v14-1).toNat 0+v20.1)))]) ((500000,K 152 l7 v20.2)::(15,A 2 i64 v15 0)::(14,A 2 i64 v1.1 0)::W20 v0.1)) H fun v20 H=>n2 H
  exact vK<|n2 H
 exact vE<|fE<|e1<|fX rfl<|n0 H
def E0T:Ct:=lct 270 [.io 152 l7,.dat i64] (fun x=>v0W x.1 x.2.1) (fun r=>frz ((fun r:D2×l8=>AV.agg [AV.ow 2 true i64 r.1.1,AV.ow 2 true i64 r.1.2.1,AV.ow 2 true i64 r.1.2.2]) r)) (fun r=>r.2)
theorem E0y:Ok prog E0T:=k0S H0Q
def t0H(a0:l8)(a1:Int):Option (List D2×l8) :=
 gd ((v0W a0 a1).isSome=true/\True)<|lt (vl (v0W a0 a1)) fun v0 =>
 gd ((v0W v0.2 a1).isSome=true/\True)<|lt (vl (v0W v0.2 a1)) fun v1 =>
 some ([v0.1,v1.1],v1.2)
def J0v:Ct:=lct 257 [.io 152 l7,.dat i64] (fun x=>t0H x.1 x.2.1) (fun r:List D2×l8=>AV.ow 140 true y140 r.1) (fun r=>r.2)
theorem H0V:Ok prog J0v:=by
 refine okL [.tmp 4] func257 ntmps257 results257 ?_;intro y ⟨a0,a1,_⟩ r H Q hn hr;have:HT _ _:=⟨tc E0y tn⟩;refine qA (Z (G14 a1 []) [(500000,K 152 l7 a0)])<|qD (fun v0=>Z (G14 a1 [p 5 (R 5)]) [(5,bx 140 (u1 true y140 v0.1)),(500000,K 152 l7 v0.2)]) H fun v0 H=>qD (fun v1=>Z [p 4 (O 13)] [(13,A 140 y140 [v0.1,v1.1] 0),(500000,K 152 l7 v1.2),(5,bx 140 (u1 true y140 v0.1))]) H fun v1 H=>vTT<|hr H
def J2(a0:l8)(a1:Int)(a2:Int)(a3:Int)(a4:Int):Option (A5×l8) :=
 if(decide (4<=a1))=true then
  gd ((u88 a0 10).isSome=true/\l3 (5-(vl (u88 a0 10)).1)/\(t0H (vl (u88 a0 10)).2 (5-(vl (u88 a0 10)).1)).isSome=true/\True)<|lt (vl (t0H (vl (u88 a0 10)).2 (5-(vl (u88 a0 10)).1))) fun v0 =>
  some (((a1,a2,a3,(0:Int),v0.1,[]),v0.2))
 else
  gd ((u88 a0 20).isSome=true/\l3 (5+(vl (u88 a0 20)).1)/\(t0H (vl (u88 a0 20)).2 (5+(vl (u88 a0 20)).1)).isSome=true/\True)<|lt (vl (t0H (vl (u88 a0 20)).2 (5+(vl (u88 a0 20)).1))) fun v1 =>
  gd ((t0H v1.2 10).isSome=true/\True)<|lt (vl (t0H v1.2 10)) fun v2 =>
  some (((a1,a2,a3,a4,v1.1,v2.1),v2.2))
def J0B:Ct:=lct 240 [.io 152 l7,.dat i64,.dat i64,.dat i64,.dat i64] (fun x=>J2 x.1 x.2.1 x.2.2.1 x.2.2.2.1 x.2.2.2.2.1) (fun r:A5×l8=>AV.agg [I r.1.1,I r.1.2.1,I r.1.2.2.1,I r.1.2.2.2.1,AV.ow 140 true y140 r.1.2.2.2.2.1,AV.ow 140 true y140 r.1.2.2.2.2.2]) (fun r=>r.2)
theorem I0b:Ok prog J0B:=by
 refine okL [.cell 10 143] func240 ntmps240 results240 ?_;intro y ⟨a0,a1,a2,a3,a4,_⟩ r H Q hn hr;have:HT _ _:=⟨tc H0V (tc o88 tn)⟩;refine qA (Z (G14 a1 [p 2 (J a2),p 3 (J a3),p 4 (J a4),p 10 (R 10)]) [(10,bx 143 [I 0,I 0,I 0,I 0,nil,nil]),(500000,K 152 l7 a0)])<|vQ<|qA (Z (G14 a1 [p 2 (J a2),p 3 (J a3),p 4 (J a4),p 10 (R 10),p 13 (B (decide (4<=a1)))]) [(10,bx 143 [I 0,I 0,I 0,I 0,nil,nil]),(500000,K 152 l7 a0)])<|cD H (fun H=>?_) (fun H=>?_)
 ·refine qD (fun v0=>Z [p 10 (R 10)] [(10,bx 143 [J a1,J a2,J a3,I 0,AV.os 21 0,nil]),(21,A 140 y140 v0.1 0),(500000,K 152 l7 v0.2)]) H fun v0 H=>vTT<|fR<|hr H
 refine vK<|fQ<|qD (fun v1=>Z (G14 a1 [p 2 (J a2),p 3 (J a3),p 4 (J a4),p 10 (R 10),p 11 (O 27)]) [(27,A 140 y140 v1.1 0),(500000,K 152 l7 v1.2),(10,bx 143 [I 0,I 0,I 0,I 0,nil,nil])]) H fun v1 H=>qD (fun v2=>Z [p 10 (R 10)] [(10,bx 143 [J a1,J a2,J a3,J a4,AV.os 27 0,AV.os 34 0]),(34,A 140 y140 v2.1 0),(500000,K 152 l7 v2.2),(27,A 140 y140 v1.1 0)]) H fun v2 H=>vTT<|hr H
def E0U:Ct:=lct 240 [.io 152 l7,.dat i64,.dat i64,.dat i64,.dat i64] (fun x=>J2 x.1 x.2.1 x.2.2.1 x.2.2.2.1 x.2.2.2.2.1) (fun r=>frz ((fun r:A5×l8=>AV.agg [I r.1.1,I r.1.2.1,I r.1.2.2.1,I r.1.2.2.2.1,AV.ow 140 true y140 r.1.2.2.2.2.1,AV.ow 140 true y140 r.1.2.2.2.2.2]) r)) (fun r=>r.2)
theorem C0i:Ok prog E0U:=k0S I0b
def k0k(a1:ByteArray)(a2:Int)(v4:List I2)(v0:Int×l8)(v1:Int×l8):List A5×List Int×Int×Int->Option ((ByteArray×Int×List I2×List A5×Int×Int)×l8)
 | (v9,v10,v11,v12) =>
 some (((a1,a2,v4,v9,v0.1,v1.1),v10,v11,v12))
def t0L(a0:l8)(a1:ByteArray)(a2:Int)(a3:Int):Option ((ByteArray×Int×List I2×List A5×Int×Int)×l8) :=
 gd ((u88 a0 50).isSome=true/\(u88 (vl (u88 a0 50)).2 80).isSome=true/\True)<|lt ((vl (u88 a0 50),vl (u88 (vl (u88 a0 50)).2 80))) fun(v0,v1) =>
 gd ((u88 v1.2 9).isSome=true/\l3 (1+(vl (u88 v1.2 9)).1)/\(u88 (vl (u88 v1.2 9)).2 9).isSome=true/\l3 (1+(vl (u88 (vl (u88 v1.2 9)).2 9)).1)/\True)<|lt ((vl (u88 v1.2 9),vl (u88 (vl (u88 v1.2 9)).2 9),[(ByteArray.mk #[(100:UInt8)],(1:Int),(1:Int)+(vl (u88 v1.2 (9:Int))).1,false),(ByteArray.mk #[(99:UInt8),(107:UInt8)],(1:Int),(1:Int)+(vl (u88 (vl (u88 v1.2 (9:Int))).2 (9:Int))).1,true),(ByteArray.mk #[(113:UInt8)],(2:Int),(0:Int),false)])) fun(_v2,v3,v4) =>
 gd ((J2 v3.2 a3 1 2 0).isSome=true/\(J2 (vl (J2 v3.2 a3 1 2 0)).2 4 1 0 0).isSome=true/\(J2 (vl (J2 (vl (J2 v3.2 a3 1 2 0)).2 4 1 0 0)).2 5 1 0 0).isSome=true/\True)<|lt ((vl (J2 v3.2 a3 1 2 0),vl (J2 (vl (J2 v3.2 a3 1 2 0)).2 4 1 0 0),vl (J2 (vl (J2 (vl (J2 v3.2 a3 1 2 0)).2 4 1 0 0)).2 5 1 0 0))) fun(v5,v6,v7) =>
 if(a2==3)=true then
  gd ((J2 v7.2 1 0 2 1).isSome=true/\([v5.1,v6.1,v7.1].length+[(vl (J2 v7.2 1 0 2 1)).1].length<=9223372036854775807/\([v5.1,v6.1,v7.1].length+[(vl (J2 v7.2 1 0 2 1)).1].length)*80<=140737488355328)/\True)<|lt (vl (J2 v7.2 1 0 2 1)) fun v8 =>
  k0k a1 a2 v4 v0 v1 ([v5.1,v6.1,v7.1]++[v8.1],v8.2.1,v8.2.2.1,v8.2.2.2)
 else
  k0k a1 a2 v4 v0 v1 ([v5.1,v6.1,v7.1],v7.2.1,v7.2.2.1,v7.2.2.2)
def J0O:Ct:=lct 207 [.io 152 l7,.dat Ty.str,.dat i64,.dat i64] (fun x=>t0L x.1 x.2.1 x.2.2.1 x.2.2.2.1) (fun r:(ByteArray×Int×List I2×List A5×Int×Int)×l8=>AV.agg [S r.1.1,I r.1.2.1,AV.ow 217 true y217 r.1.2.2.1,AV.ow 143 true y143 r.1.2.2.2.1,AV.v (Value.slice none 0 0),I r.1.2.2.2.2.1,I r.1.2.2.2.2.2]) (fun r=>r.2)
theorem I0k:Ok prog J0O:=by
 refine okL [.cell 8 163] func207 ntmps207 results207 ?_;intro y ⟨a0,a1,a2,a3,_⟩ r H Q hn hr;have:HT _ _:=⟨tc C0i (tc o88 tn)⟩;refine qA (Z [p 0 (R 500000),p 1 (U a1),p 2 (J a2),p 3 (J a3),p 8 (R 8)] [(8,bx 163 (Q62 (ByteArray.mk #[]) 0 0 0)),(500000,K 152 l7 a0)])<|qD (fun(v0,v1)=>Z [p 0 (R 500000),p 2 (J a2),p 3 (J a3),p 8 (R 8),p 9 (R 9)] [(9,bx 163 [U a1,J a2,nil,nil,nil,I v0.1,I v1.1]),(500000,K 152 l7 v1.2),(8,bx 163 (Q62 (ByteArray.mk #[]) 0 0 0))]) H fun⟨v0,v1⟩ H =>
  qD (fun(v2,v3,v4)=>Z [p 0 (R 500000),p 2 (J a2),p 3 (J a3),p 8 (R 8),p 9 (R 9)] [(9,bx 163 [U a1,J a2,AV.os 27 0,nil,nil,I v0.1,I v1.1]),(27,A 217 y217 v4 0),(500000,K 152 l7 v3.2),(8,bx 163 (Q62 (ByteArray.mk #[]) 0 0 0))]) H fun⟨v2,v3,v4⟩ H =>
  qD (fun(v5,v6,v7)=>Z [p 0 (R 500000),p 2 (J a2),p 8 (R 8),p 9 (R 9),p 10 (O 36)] ((36,A 143 y143 [v5.1,v6.1,v7.1] 0)::(500000,K 152 l7 v7.2)::W52 a1 a2 v0.1 v1.1 v4)) H fun⟨v5,v6,v7⟩ H =>
  jN r (fun((v9,v10,v11,v12):List A5×List Int×Int×Int)=>Z [p 8 (R 8),p 9 (R 9),p 10 (O 36)] ((36,A 143 y143 v9 0)::(500000,bx 152 (Q63 v10 v11 v12))::W52 a1 a2 v0.1 v1.1 v4)) (k0k a1 a2 v4 v0 v1) (fun⟨v9,v10,v11,v12⟩ H=>?_) (fun _ n0 e0 t0=>?_)
 ·refine qA (Z [p 8 (R 8),p 9 (R 9)] [(9,bx 163 [U a1,J a2,AV.os 27 0,AV.os 36 0,nil,I v0.1,I v1.1]),(36,A 143 y143 v9 0),(500000,bx 152 (Q63 v10 v11 v12)),(27,A 217 y217 v4 0),(8,bx 163 (Q62 (ByteArray.mk #[]) 0 0 0))])<|qA (Z [p 8 (R 8)] [(8,bx 163 [U a1,J a2,AV.os 27 0,AV.os 36 0,nil,I v0.1,I v1.1]),(9,bx 163 [U a1,J a2,AV.os 27 0,AV.os 36 0,nil,I v0.1,I v1.1]),(36,A 143 y143 v9 0),(500000,bx 152 (Q63 v10 v11 v12)),(27,A 217 y217 v4 0)])<|vTT<|hr H
 refine qA (Z [p 0 (R 500000),p 8 (R 8),p 9 (R 9),p 10 (O 36),p 38 (B (a2==3))] ((36,A 143 y143 [v5.1,v6.1,v7.1] 0)::(500000,K 152 l7 v7.2)::W52 a1 a2 v0.1 v1.1 v4))<|cD H (fun H=>?_) (fun H=>?_)
 ·refine zD (fun v8=>Z [p 8 (R 8),p 9 (R 9),p 10 (AV.os 36 1)] ((36,A 143 y143 ([v5.1,v6.1,v7.1]++[v8.1]) 1)::(42,A 143 y143 [v8.1] 0)::(500000,K 152 l7 v8.2)::W52 a1 a2 v0.1 v1.1 v4)) H fun v8 H=>n0 H
 exact vK<|n0 H
def q0C:Bool×Bool->Option (Int)
 | (v7,v8) =>
 if(v7&&v8)=true then
  some 3
 else
  if v7=true then
   some 1
  else
   if v8=true then
    some 2
   else
    some 0
def k0i(v4:Int)(g1:Bool×Bool×Int->Option (Int)):Bool×Bool->Option (Int)
 | (v5,v6) =>
 gd (l3 (v4+1)/\True) <|
 g1 (v5,v6,v4+1)
def w0f(a0:m4)(a1:Int)(g1:Bool×Bool×Int->Option (Int)):Bool×Bool×Int->Option (Int)
 | (v2,v3,v4) =>
 if(decide (v4 < (a0.2.2.2.2.1.length:Int)))=true then
  gd (((0:Int)<=v4/\(0:Int)<=(1:Int)*(2:den i64) ^ a1.toNat)/\True) <|
  if((↑(v4.toNat &&& ((1:Int)*(2:den i64) ^ a1.toNat).toNat):Int) != (0:Int))=true then
   k0i v4 g1 (v2,v3)
  else
   gd ((v2=false/\True->ix v4 a0.2.2.2.2.1.length)/\(v2=false/\True->l3 (v4+(1:Int)*(2:den i64) ^ a1.toNat))/\(v2=false/\True->ix (v4+(1:Int)*(2:den i64) ^ a1.toNat) a0.2.2.2.2.1.length)/\True) <|
   gd ((v3=false/\True->ix v4 a0.2.2.2.2.1.length)/\(v3=false/\True->l3 (v4+(1:Int)*(2:den i64) ^ a1.toNat))/\(v3=false/\True->ix (v4+(1:Int)*(2:den i64) ^ a1.toNat) a0.2.2.2.2.1.length)/\True) <|
   k0i v4 g1 ((v2||decide (a0.2.2.2.2.1.getD v4.toNat (0:Int)<a0.2.2.2.2.1.getD (v4+(1:Int)*(2:den i64) ^ a1.toNat).toNat (0:Int)),v3||decide (a0.2.2.2.2.1.getD (v4+(1:Int)*(2:den i64) ^ a1.toNat).toNat (0:Int)<a0.2.2.2.2.1.getD v4.toNat (0:Int))))
 else
  q0C (v2,v3)
def B0B(a0:m4)(a1:Int):Option (Int) :=
 gd (((0:Int)<=a1/\a1<=(18446744073709551615:Int))/\(((0:Int)<=a1/\a1<=(62:Int))/\l3 ((1:Int)*(2:Int) ^ a1.toNat))/\True) <|
 lp (w0f a0 a1) (false,false,0)
def J0C:Ct:=lct 239 [.agg y163,.dat i64] (fun x=>B0B x.1 x.2.1) (fun r:Int=>I r) (fun _=>())
theorem I0c:Ok prog J0C:=by
 refine okL [.tmp 4] func239 ntmps239 results239 ?_;intro y ⟨a0,a1,_⟩ r H Q hn hr;have:HT _ _:=⟨@tn prog⟩;refine qA (Z (G33 a1 []) [(2,K 163 y163 a0)])<|qA (Z (G33 a1 [p 5 (B false),p 6 (B false)]) [(2,K 163 y163 a0)])<|qB (Z [p 2 (R 2),p 5 (B false),p 6 (B false),p 7 (I ((1:Int)*(2:den i64) ^ a1.toNat))] [(2,K 163 y163 a0)]) H fun H=>jN r (fun((v7,v8):Bool×Bool)=>Z [p 5 (B v7),p 6 (B v8)] []) (q0C) (fun⟨v7,v8⟩ H=>?_) (fun _ n0 e0 t0=>?_)
 ·refine vQ<|vB<|qA (Z [p 5 (B v7),p 6 (B v8),p 55 (B (v7&&v8))] [])<|cD H (fun H=>?_) (fun H=>?_)
  ·refine qA (Z [p 4 (I 3)] [])<|vTT<|fDD<|fR<|hr H
  refine qA (Z [p 6 (B v8),p 60 (B v7)] [])<|cD H (fun H=>?_) (fun H=>?_)
  ·refine qA (Z [p 4 (I 1)] [])<|vTT<|fDD<|fR<|hr H
  refine qA (Z [p 62 (B v8)] [])<|cD H (fun H=>?_) (fun H=>?_)
  ·refine qA (Z [p 4 (I 2)] [])<|vTT<|fDD<|fR<|hr H
  refine vK<|fK<|fQ<|qA (Z [p 4 (I 0)] [])<|vTT<|hr H
 refine qA (Z [p 2 (R 2),p 5 (B false),p 6 (B false),p 7 (I ((1:Int)*(2:den i64) ^ a1.toNat)),p 8 (I (0:Int))] [(2,K 163 y163 a0)])<|vB<|lX (fun((v2,v3,v4):Bool×Bool×Int)=>Z (G77 v2 v3 ((1:Int)*(2:den i64) ^ a1.toNat) v4 []) [(2,K 163 y163 a0)]) (false,false,0) H fun _ g1 b1 e1 t1 ⟨v2,v3,v4⟩ H=>vQ<|qA (Z (G77 v2 v3 ((1:Int)*(2:den i64) ^ a1.toNat) v4 [p 16 (B (decide (v4 < (a0.2.2.2.2.1.length:Int))))]) [(2,K 163 y163 a0)])<|cD H (fun H=>?_) (fun H=>?_)
 ·refine vK<|fQ<|jN r (fun((v5,v6):Bool×Bool)=>Z (G77 v5 v6 ((1:Int)*(2:den i64) ^ a1.toNat) v4 []) [(2,K 163 y163 a0)]) (k0i v4 g1) (fun⟨v5,v6⟩ H=>?_) (fun _ n2 e2 t2=>?_)
  ·refine zB (Z (G77 v5 v6 ((1:Int)*(2:den i64) ^ a1.toNat) (v4+(1:Int)) []) [(2,K 163 y163 a0)]) H fun H=>b1 H
  refine vB<|vQ<|qB (Z (G77 v2 v3 ((1:Int)*(2:den i64) ^ a1.toNat) v4 [p 22 (B ((↑(v4.toNat &&& ((1:Int)*(2:den i64) ^ a1.toNat).toNat):Int) != (0:Int)))]) [(2,K 163 y163 a0)]) H fun H=>cD H (fun H=>?_) (fun H=>?_)
  ·exact vE<|fE<|fX rfl<|n2 H
  refine vK<|fQ<|qB (Z (G77 (v2||decide (a0.2.2.2.2.1.getD v4.toNat (0:Int)<a0.2.2.2.2.1.getD (v4+(1:Int)*(2:den i64) ^ a1.toNat).toNat (0:Int))) v3 ((1:Int)*(2:den i64) ^ a1.toNat) v4 []) [(2,K 163 y163 a0)]) H fun H=>zB (Z (G77 (v2||decide (a0.2.2.2.2.1.getD v4.toNat (0:Int)<a0.2.2.2.2.1.getD (v4+(1:Int)*(2:den i64) ^ a1.toNat).toNat (0:Int))) (v3||decide (a0.2.2.2.2.1.getD (v4+(1:Int)*(2:den i64) ^ a1.toNat).toNat (0:Int)<a0.2.2.2.2.1.getD v4.toNat (0:Int))) ((1:Int)*(2:den i64) ^ a1.toNat) v4 []) [(2,K 163 y163 a0)]) H fun H=>fK<|n2 H
 exact vE<|fE<|e1<|fX rfl<|n0 H
def q0E(a1:ByteArray)(v18:List I2)(a2:List Int)(v1:Int×l8)(v2:Int×l8):List A5×List Int×Int×Int->Option (m4×l8)
 | (v37,v38,v39,v40) =>
 some (((a1,(1:Int),v18,v37,a2,v1.1,v2.1),v38,v39,v40))
def k0l(v26:Int)(g3:Int×List A5×List Int×Int×Int->Option (m4×l8)):List A5×List Int×Int×Int->Option (m4×l8)
 | (v33,v34,v35,v36) =>
 gd (l3 (v26+1)/\True) <|
 g3 (v26+1,v33,v34,v35,v36)
def w0m(v14:List I2)(a1:ByteArray)(v18:List I2)(a2:List Int)(v1:Int×l8)(v2:Int×l8)(g3:Int×List A5×List Int×Int×Int->Option (m4×l8)):Int×List A5×List Int×Int×Int->Option (m4×l8)
 | (v26,v27,v28,v29,v30) =>
 if(decide (v26 < (v14.length:Int)))=true then
  gd ((B0B (a1,(1:Int),v18,[],a2,v1.1,v2.1) v26).isSome=true/\True)<|lt (vl (B0B (a1,(1:Int),v18,[],a2,v1.1,v2.1) v26)) fun v31 =>
  if(v31 != 0)=true then
   gd ((J2 (v28,v29,v30) 1 v26 (v14.length:Int) v31).isSome=true/\(v27.length+[(vl (J2 (v28,v29,v30) 1 v26 (v14.length:Int) v31)).1].length<=9223372036854775807/\(v27.length+[(vl (J2 (v28,v29,v30) 1 v26 (v14.length:Int) v31)).1].length)*80<=140737488355328)/\True)<|lt (vl (J2 (v28,v29,v30) 1 v26 (v14.length:Int) v31)) fun v32 =>
   k0l v26 g3 (v27++[v32.1],v32.2.1,v32.2.2.1,v32.2.2.2)
  else
   k0l v26 g3 (v27,v28,v29,v30)
 else
  q0E a1 v18 a2 v1 v2 (v27,v28,v29,v30)
def n0j(a1:ByteArray)(a2:List Int)(v1:Int×l8)(v2:Int×l8):List I2×List Int×Int×Int->Option (m4×l8)
 | (v14,v15,v16,v17) =>
 gd ((v14.length+[(ByteArray.mk #[(121:UInt8)],(2:Int),(0:Int),false)].length<=9223372036854775807/\(v14.length+[(ByteArray.mk #[(121:UInt8)],(2:Int),(0:Int),false)].length)*40<=140737488355328)/\True)<|lt ((v14++[(ByteArray.mk #[(121:UInt8)],(2:Int),(0:Int),false)],[(ByteArray.mk #[(121:UInt8)],(2:Int),(0:Int),false)])) fun(v18,_v19) =>
 lp (w0m v14 a1 v18 a2 v1 v2) (0,[],v15,v16,v17)
def w0n(v0:List ByteArray)(a1:ByteArray)(a2:List Int)(v1:Int×l8)(v2:Int×l8)(g1:Int×List I2×List Int×Int×Int->Option (m4×l8)):Int×List I2×List Int×Int×Int->Option (m4×l8)
 | (v6,v7,v8,v9,v10) =>
 if(decide (v6 < (a2.length:Int)))=true then
  gd (ix (v7.length:Int) v0.length/\(v7.length:Int).toNat<v0.length/\(u88 (v8,v9,v10) (9:Int)).isSome=true/\l3 ((1:Int)+(vl (u88 (v8,v9,v10) (9:Int))).1)/\(v7.length+[(v0.getD (v7.length:Int).toNat (d6 Ty.str),(1:Int),(1:Int)+(vl (u88 (v8,v9,v10) (9:Int))).1,false)].length<=9223372036854775807/\(v7.length+[(v0.getD (v7.length:Int).toNat (d6 Ty.str),(1:Int),(1:Int)+(vl (u88 (v8,v9,v10) (9:Int))).1,false)].length)*40<=140737488355328)/\True)<|lt ((vl (u88 (v8,v9,v10) 9),v7++[(v0.getD (v7.length:Int).toNat (d6 Ty.str),(1:Int),(1:Int)+(vl (u88 (v8,v9,v10) (9:Int))).1,false)],[(v0.getD (v7.length:Int).toNat (d6 Ty.str),(1:Int),(1:Int)+(vl (u88 (v8,v9,v10) (9:Int))).1,false)])) fun(v11,v12,_v13) =>
  gd (l3 (2*v6)/\True) <|
  g1 (2*v6,v12,v11.2.1,v11.2.2.1,v11.2.2.2)
 else
  n0j a1 a2 v1 v2 (v7,v8,v9,v10)
def l9(a0:l8)(a1:ByteArray)(a2:List Int):Option (m4×l8) :=
 lt ([ByteArray.mk #[97],ByteArray.mk #[98],ByteArray.mk #[99],ByteArray.mk #[100]]) fun v0 =>
 gd ((u88 a0 50).isSome=true/\(u88 (vl (u88 a0 50)).2 80).isSome=true/\True)<|lt ((vl (u88 a0 50),vl (u88 (vl (u88 a0 50)).2 80))) fun(v1,v2) =>
 lp (w0n v0 a1 a2 v1 v2) (1,[],v2.2.1,v2.2.2.1,v2.2.2.2)
def J0P:Ct:=lct 206 [.io 152 l7,.dat Ty.str,.dat i64.sl] (fun x=>l9 x.1 x.2.1 x.2.2.1) (fun r:m4×l8=>AV.agg [S r.1.1,I r.1.2.1,AV.ow 217 true y217 r.1.2.2.1,AV.ow 143 true y143 r.1.2.2.2.1,L i64 r.1.2.2.2.2.1,I r.1.2.2.2.2.2.1,I r.1.2.2.2.2.2.2]) (fun r=>r.2)
theorem I0l:Ok prog J0P:=by
 refine okL [.cell 6 163] func206 ntmps206 results206 ?_;intro y ⟨a0,a1,a2,_⟩ r H Q hn hr;have:HT _ _:=⟨tc C0i (tc I0c (tc o88 tn))⟩;refine qA (Z [p 0 (R 500000),p 1 (U a1),p 2 (L i64 a2),p 6 (R 6)] [(6,bx 163 (Q62 (ByteArray.mk #[]) 0 0 0)),(500000,K 152 l7 a0)])<|qC (fun v0=>Z [p 0 (R 500000),p 1 (U a1),p 2 (L i64 a2),p 6 (R 6),p 7 (O 15)] [(15,A 9 Ty.str v0 0),(6,bx 163 (Q62 (ByteArray.mk #[]) 0 0 0)),(500000,K 152 l7 a0)]) H fun v0 H=>qD (fun(v1,v2)=>Z (G44 a2 []) ((8,bx 163 [U a1,I 1,nil,nil,L i64 a2,I v1.1,I v2.1])::(500000,K 152 l7 v2.2)::W37 v0)) H fun w H=>?_
 obtain⟨v1,v2⟩:=w;refine qA (Z (G44 a2 [p 9 (O 23)]) ((23,A 217 y217 [] 0)::(8,bx 163 [U a1,I 1,nil,nil,L i64 a2,I v1.1,I v2.1])::(500000,K 152 l7 v2.2)::W37 v0))<|jN r (fun((v14,v15,v16,v17):List I2×List Int×Int×Int)=>Z (G28 [p 8 (R 8),p 9 (O 23)]) ((23,A 217 y217 v14 0)::(8,bx 163 [U a1,I 1,nil,nil,L i64 a2,I v1.1,I v2.1])::W17 v15 v16 v17)) (n0j a1 a2 v1 v2) (fun⟨v14,v15,v16,v17⟩ H=>?_) (fun _ n0 e0 t0=>?_)
 ·refine qA (Z (G28 [p 8 (R 8),p 9 (O 23),p 11 (I (v14.length:Int))]) ((23,A 217 y217 v14 0)::(8,bx 163 [U a1,I 1,nil,nil,L i64 a2,I v1.1,I v2.1])::W17 v15 v16 v17))<|qD (fun(v18,v19)=>Z (G28 [p 8 (R 8),p 11 (I (v14.length:Int))]) ((8,bx 163 [U a1,I 1,AV.os 23 1,nil,L i64 a2,I v1.1,I v2.1])::(23,A 217 y217 v18 1)::(46,A 217 y217 v19 0)::W17 v15 v16 v17)) H fun w H=>?_
  obtain⟨v18,v19⟩:=w;refine qA (Z (G28 [p 8 (R 8),p 11 (I (v14.length:Int)),p 12 (O 49)]) ((49,A 143 y143 [] 0)::(8,bx 163 [U a1,I 1,AV.os 23 1,nil,L i64 a2,I v1.1,I v2.1])::(23,A 217 y217 v18 1)::(46,A 217 y217 v19 0)::W17 v15 v16 v17))<|jN r (fun((v37,v38,v39,v40):List A5×List Int×Int×Int)=>Z [p 6 (R 6),p 8 (R 8),p 12 (O 49)] ((49,A 143 y143 v37 0)::(8,bx 163 [U a1,I 1,AV.os 23 0,nil,L i64 a2,I v1.1,I v2.1])::(23,A 217 y217 v18 0)::W17 v38 v39 v40)) (q0E a1 v18 a2 v1 v2) (fun⟨v37,v38,v39,v40⟩ H=>?_) (fun _ n2 e2 t2=>?_)
  ·refine qA (Z [p 6 (R 6),p 8 (R 8)] ((8,bx 163 [U a1,I 1,AV.os 23 0,AV.os 49 0,L i64 a2,I v1.1,I v2.1])::(49,A 143 y143 v37 0)::(23,A 217 y217 v18 0)::W17 v38 v39 v40))<|qA (Z [p 6 (R 6)] [(6,bx 163 [U a1,I 1,AV.os 23 0,AV.os 49 0,L i64 a2,I v1.1,I v2.1]),(8,bx 163 [U a1,I 1,AV.os 23 0,AV.os 49 0,L i64 a2,I v1.1,I v2.1]),(49,A 143 y143 v37 0),(23,A 217 y217 v18 0),(500000,bx 152 (Q63 v38 v39 v40))])<|vTT<|hr H
  refine qA (Z (G28 [p 8 (R 8),p 11 (I (v14.length:Int)),p 12 (O 49),p 13 (I 0)]) ((49,A 143 y143 [] 0)::(8,bx 163 [U a1,I 1,AV.os 23 1,nil,L i64 a2,I v1.1,I v2.1])::(23,A 217 y217 v18 1)::(46,A 217 y217 v19 0)::W17 v15 v16 v17))<|vB<|lX (fun((v26,v27,v28,v29,v30):Int×List A5×List Int×Int×Int)=>Z (G28 [p 8 (R 8),p 11 (I (v14.length:Int)),p 12 (O 49),p 13 (I v26)]) ((49,A 143 y143 v27 0)::(8,bx 163 [U a1,I 1,AV.os 23 0,nil,L i64 a2,I v1.1,I v2.1])::(23,A 217 y217 v18 0)::W17 v28 v29 v30)) (0,[],v15,v16,v17) H fun _ g3 b3 e3 t3 ⟨v26,v27,v28,v29,v30⟩ H=>vQ<|qA (Z (G28 [p 8 (R 8),p 11 (I (v14.length:Int)),p 12 (O 49),p 13 (I v26),p 52 (B (decide (v26 < (v14.length:Int))))]) ((49,A 143 y143 v27 0)::(8,bx 163 [U a1,I 1,AV.os 23 0,nil,L i64 a2,I v1.1,I v2.1])::(23,A 217 y217 v18 0)::W17 v28 v29 v30))<|cD H (fun H=>?_) (fun H=>?_)
  ·refine vK<|fQ<|jN r (fun((v33,v34,v35,v36):List A5×List Int×Int×Int)=>Z (G28 [p 8 (R 8),p 11 (I (v14.length:Int)),p 12 (O 49),p 13 (I v26)]) ((49,A 143 y143 v33 0)::(500000,bx 152 (Q63 v34 v35 v36))::W96 a1 a2 v1.1 v2.1 v18)) (k0l v26 g3) (fun⟨v33,v34,v35,v36⟩ H=>?_) (fun _ n4 e4 t4=>?_)
   ·refine zB (Z (G28 [p 8 (R 8),p 11 (I (v14.length:Int)),p 12 (O 49),p 13 (I (v26+1))]) ((49,A 143 y143 v33 0)::(500000,bx 152 (Q63 v34 v35 v36))::W96 a1 a2 v1.1 v2.1 v18)) H fun H=>b3 H
   refine vB<|qD (fun v31=>Z (G28 [p 8 (R 8),p 11 (I (v14.length:Int)),p 12 (O 49),p 13 (I v26),p 14 (I v31)]) ((49,A 143 y143 v27 0)::(8,bx 163 [U a1,I 1,AV.os 23 0,nil,L i64 a2,I v1.1,I v2.1])::(23,A 217 y217 v18 0)::W17 v28 v29 v30)) H fun v31 H=>qA (Z (G28 [p 8 (R 8),p 11 (I (v14.length:Int)),p 12 (O 49),p 13 (I v26),p 14 (I v31),p 59 (B (v31 != 0))]) ((49,A 143 y143 v27 0)::(8,bx 163 [U a1,I 1,AV.os 23 0,nil,L i64 a2,I v1.1,I v2.1])::(23,A 217 y217 v18 0)::W17 v28 v29 v30))<|cD H (fun H=>?_) (fun H=>?_)
   ·refine zD (fun v32=>Z (G28 [p 8 (R 8),p 11 (I (v14.length:Int)),p 12 (AV.os 49 1),p 13 (I v26)]) ((49,A 143 y143 (v27++[v32.1]) 1)::(66,A 143 y143 [v32.1] 0)::(500000,K 152 l7 v32.2)::W96 a1 a2 v1.1 v2.1 v18)) H fun v32 H=>fK<|n4 H
   exact vK<|fK<|n4 H
  exact vE<|fE<|e3<|fX rfl<|n2 H
 refine qA (Z (G44 a2 [p 9 (O 23),p 10 (I 1)]) ((23,A 217 y217 [] 0)::(8,bx 163 [U a1,I 1,nil,nil,L i64 a2,I v1.1,I v2.1])::(500000,K 152 l7 v2.2)::W37 v0))<|vB<|lX (fun((v6,v7,v8,v9,v10):Int×List I2×List Int×Int×Int)=>Z (G44 a2 [p 9 (O 23),p 10 (I v6)]) ((23,A 217 y217 v7 0)::(8,bx 163 [U a1,I 1,nil,nil,L i64 a2,I v1.1,I v2.1])::(500000,bx 152 [L b8 v8,J v9,J v10])::W37 v0)) (1,[],v2.2.1,v2.2.2.1,v2.2.2.2) H fun _ g1 b1 e1 t1 ⟨v6,v7,v8,v9,v10⟩ H=>vQ<|qA (Z (G44 a2 [p 9 (O 23),p 10 (I v6),p 27 (B (decide (v6 < (a2.length:Int))))]) ((23,A 217 y217 v7 0)::(8,bx 163 [U a1,I 1,nil,nil,L i64 a2,I v1.1,I v2.1])::(500000,bx 152 [L b8 v8,J v9,J v10])::W37 v0))<|cD H (fun H=>?_) (fun H=>?_)
 ·refine vK<|fQ<|vQ<|vB<|zD (fun(v11,v12,v13)=>Z (G44 a2 [p 9 (AV.os 23 1),p 10 (I v6)]) ((23,A 217 y217 v12 1)::(40,A 217 y217 v13 0)::(500000,K 152 l7 v11.2)::(8,bx 163 [U a1,I 1,nil,nil,L i64 a2,I v1.1,I v2.1])::W37 v0)) H fun⟨v11,v12,v13⟩ H =>
   fK<|fQ <|
   zB (Z (G44 a2 [p 9 (AV.os 23 1),p 10 (I (2*v6))]) ((23,A 217 y217 v12 1)::(40,A 217 y217 v13 0)::(500000,K 152 l7 v11.2)::(8,bx 163 [U a1,I 1,nil,nil,L i64 a2,I v1.1,I v2.1])::W37 v0)) H fun H =>
   b1 H
 exact vE<|fE<|e1<|fX rfl<|n0 H
def B0L(a0:l8):Option (List m4×l8) :=
 gd (True/\(l9 a0 (ByteArray.mk #[105,110,118]) [1,0]).isSome=true/\True) <|
 gd (True/\(l9 (vl (l9 a0 (ByteArray.mk #[105,110,118]) [1,0])).2 (ByteArray.mk #[98,117,102]) [0,1]).isSome=true/\True) <|
 gd (True/\(l9 (vl (l9 (vl (l9 a0 (ByteArray.mk #[105,110,118]) [1,0])).2 (ByteArray.mk #[98,117,102]) [0,1])).2 (ByteArray.mk #[110,97,110,100]) [1,1,1,0]).isSome=true/\True) <|
 gd (True/\(l9 (vl (l9 (vl (l9 (vl (l9 a0 (ByteArray.mk #[105,110,118]) [1,0])).2 (ByteArray.mk #[98,117,102]) [0,1])).2 (ByteArray.mk #[110,97,110,100]) [1,1,1,0])).2 (ByteArray.mk #[120,111,114]) [0,1,1,0]).isSome=true/\True) <|
 gd (True/\(l9 (vl (l9 (vl (l9 (vl (l9 (vl (l9 a0 (ByteArray.mk #[105,110,118]) [1,0])).2 (ByteArray.mk #[98,117,102]) [0,1])).2 (ByteArray.mk #[110,97,110,100]) [1,1,1,0])).2 (ByteArray.mk #[120,111,114]) [0,1,1,0])).2 (ByteArray.mk #[109,117,120]) [0,1,0,1,0,0,1,1]).isSome=true/\True) <|
 gd ((t0L (vl (l9 (vl (l9 (vl (l9 (vl (l9 (vl (l9 a0 (ByteArray.mk #[105,110,118]) [1,0])).2 (ByteArray.mk #[98,117,102]) [0,1])).2 (ByteArray.mk #[110,97,110,100]) [1,1,1,0])).2 (ByteArray.mk #[120,111,114]) [0,1,1,0])).2 (ByteArray.mk #[109,117,120]) [0,1,0,1,0,0,1,1])).2 (ByteArray.mk #[102,108,111,112]) 2 2).isSome=true/\True)<|lt ((vl (t0L (vl (l9 (vl (l9 (vl (l9 (vl (l9 (vl (l9 a0 (ByteArray.mk #[105,110,118]) [1,0])).2 (ByteArray.mk #[98,117,102]) [0,1])).2 (ByteArray.mk #[110,97,110,100]) [1,1,1,0])).2 (ByteArray.mk #[120,111,114]) [0,1,1,0])).2 (ByteArray.mk #[109,117,120]) [0,1,0,1,0,0,1,1])).2 (ByteArray.mk #[102,108,111,112]) 2 2),vl (l9 (vl (l9 (vl (l9 (vl (l9 (vl (l9 a0 (ByteArray.mk #[105,110,118]) [1,0])).2 (ByteArray.mk #[98,117,102]) [0,1])).2 (ByteArray.mk #[110,97,110,100]) [1,1,1,0])).2 (ByteArray.mk #[120,111,114]) [0,1,1,0])).2 (ByteArray.mk #[109,117,120]) [0,1,0,1,0,0,1,1]),vl (l9 (vl (l9 (vl (l9 (vl (l9 a0 (ByteArray.mk #[105,110,118]) [1,0])).2 (ByteArray.mk #[98,117,102]) [0,1])).2 (ByteArray.mk #[110,97,110,100]) [1,1,1,0])).2 (ByteArray.mk #[120,111,114]) [0,1,1,0]),vl (l9 (vl (l9 (vl (l9 a0 (ByteArray.mk #[105,110,118]) [1,0])).2 (ByteArray.mk #[98,117,102]) [0,1])).2 (ByteArray.mk #[110,97,110,100]) [1,1,1,0]),vl (l9 (vl (l9 a0 (ByteArray.mk #[105,110,118]) [1,0])).2 (ByteArray.mk #[98,117,102]) [0,1]),vl (l9 a0 (ByteArray.mk #[105,110,118]) [1,0]))) fun(v0,v1,v2,v3,v4,v5) =>
 gd ((t0L v0.2 (ByteArray.mk #[102,108,111,112,110]) 2 3).isSome=true/\True)<|lt (vl (t0L v0.2 (ByteArray.mk #[102,108,111,112,110]) 2 3)) fun v6 =>
 gd ((t0L v6.2 (ByteArray.mk #[108,97,116,99,104]) 3 2).isSome=true/\True)<|lt (vl (t0L v6.2 (ByteArray.mk #[108,97,116,99,104]) 3 2)) fun v7 =>
 lt ([v5.1,v4.1,v3.1,v2.1,v1.1,(v0.1.1,v0.1.2.1,v0.1.2.2.1,v0.1.2.2.2.1,[],v0.1.2.2.2.2),(v6.1.1,v6.1.2.1,v6.1.2.2.1,v6.1.2.2.2.1,[],v6.1.2.2.2.2),(v7.1.1,v7.1.2.1,v7.1.2.2.1,v7.1.2.2.2.1,[],v7.1.2.2.2.2)]) fun v8 =>
 some (v8,v7.2)
def K0g:Ct:=lct 170 [.io 152 l7] (fun x=>B0L x.1) (fun r:List m4×l8=>AV.agg [AV.ow 163 false y163 r.1]) (fun r=>r.2)
theorem I0v:Ok prog K0g:=by
 refine okL [.cell 2 26] func170 ntmps170 results170 ?_;intro y ⟨a0,_⟩ r H Q hn hr;have:HT _ _:=⟨tc I0k (tc I0l tn)⟩;refine qA (Z (G24 []) [(2,bx 26 [nil]),(500000,K 152 l7 a0)])<|qA (Z (G24 [p 3 (R 3)]) [(3,bx 26 [nil]),(2,bx 26 [nil]),(500000,K 152 l7 a0)])<|vQ<|zF tok (HT.h) 2 [14] [0,2,3,4] (Z (G24 [p 3 (R 3),p 4 (R 4)]) [(4,bx 163 (Q6 (vl (l9 a0 (ByteArray.mk #[105,110,118]) [1,0])).1)),(1015,A 143 y143 (vl (l9 a0 (ByteArray.mk #[105,110,118]) [1,0])).1.2.2.2.1 0),(15,A 217 y217 (vl (l9 a0 (ByteArray.mk #[105,110,118]) [1,0])).1.2.2.1 0),(500000,bx 152 (u1 false l7 (vl (l9 a0 (ByteArray.mk #[105,110,118]) [1,0])).2)),(3,bx 26 [nil]),(2,bx 26 [nil])]) H (by kernel_rfl) fun H=>fQ<|vQ<|zF tok (HT.h) 2 [17] [0,2,3,4,5] (Z (G24 [p 3 (R 3),p 4 (R 4),p 5 (R 5)]) ((5,bx 163 (Q2 (vl (l9 (vl (l9 a0 (ByteArray.mk #[105,110,118]) [1,0])).2 (ByteArray.mk #[98,117,102]) [0,1])).1))::(1018,A 143 y143 (vl (l9 (vl (l9 a0 (ByteArray.mk #[105,110,118]) [1,0])).2 (ByteArray.mk #[98,117,102]) [0,1])).1.2.2.2.1 0)::(18,A 217 y217 (vl (l9 (vl (l9 a0 (ByteArray.mk #[105,110,118]) [1,0])).2 (ByteArray.mk #[98,117,102]) [0,1])).1.2.2.1 0)::(500000,bx 152 (u1 false l7 (vl (l9 (vl (l9 a0 (ByteArray.mk #[105,110,118]) [1,0])).2 (ByteArray.mk #[98,117,102]) [0,1])).2))::(4,bx 163 (Q6 (vl (l9 a0 (ByteArray.mk #[105,110,118]) [1,0])).1))::W38 (vl (l9 a0 (ByteArray.mk #[105,110,118]) [1,0])).1.2.2.2.1 (vl (l9 a0 (ByteArray.mk #[105,110,118]) [1,0])).1.2.2.1)) H (by kernel_rfl) fun H=>fQ<|vQ<|zF tok (HT.h) 2 [20] [0,2,3,4,5,6] (Z (G24 [p 3 (R 3),p 4 (R 4),p 5 (R 5),p 6 (R 6)]) ((6,bx 163 (Q1 (vl (l9 (vl (l9 (vl (l9 a0 (ByteArray.mk #[105,110,118]) [1,0])).2 (ByteArray.mk #[98,117,102]) [0,1])).2 (ByteArray.mk #[110,97,110,100]) [1,1,1,0])).1))::(1021,A 143 y143 (vl (l9 (vl (l9 (vl (l9 a0 (ByteArray.mk #[105,110,118]) [1,0])).2 (ByteArray.mk #[98,117,102]) [0,1])).2 (ByteArray.mk #[110,97,110,100]) [1,1,1,0])).1.2.2.2.1 0)::(21,A 217 y217 (vl (l9 (vl (l9 (vl (l9 a0 (ByteArray.mk #[105,110,118]) [1,0])).2 (ByteArray.mk #[98,117,102]) [0,1])).2 (ByteArray.mk #[110,97,110,100]) [1,1,1,0])).1.2.2.1 0)::(500000,bx 152 (u1 false l7 (vl (l9 (vl (l9 (vl (l9 a0 (ByteArray.mk #[105,110,118]) [1,0])).2 (ByteArray.mk #[98,117,102]) [0,1])).2 (ByteArray.mk #[110,97,110,100]) [1,1,1,0])).2))::(5,bx 163 (Q2 (vl (l9 (vl (l9 a0 (ByteArray.mk #[105,110,118]) [1,0])).2 (ByteArray.mk #[98,117,102]) [0,1])).1))::(1018,A 143 y143 (vl (l9 (vl (l9 a0 (ByteArray.mk #[105,110,118]) [1,0])).2 (ByteArray.mk #[98,117,102]) [0,1])).1.2.2.2.1 0)::(18,A 217 y217 (vl (l9 (vl (l9 a0 (ByteArray.mk #[105,110,118]) [1,0])).2 (ByteArray.mk #[98,117,102]) [0,1])).1.2.2.1 0)::(4,bx 163 (Q6 (vl (l9 a0 (ByteArray.mk #[105,110,118]) [1,0])).1))::W38 (vl (l9 a0 (ByteArray.mk #[105,110,118]) [1,0])).1.2.2.2.1 (vl (l9 a0 (ByteArray.mk #[105,110,118]) [1,0])).1.2.2.1)) H (by kernel_rfl) fun H=>fQ<|vQ<|zF tok (HT.h) 2 [23] [0,2,3,4,5,6,7] (Z (G24 [p 3 (R 3),p 4 (R 4),p 5 (R 5),p 6 (R 6),p 7 (R 7)]) ((7,bx 163 (Q3 (vl (l9 (vl (l9 (vl (l9 (vl (l9 a0 (ByteArray.mk #[105,110,118]) [1,0])).2 (ByteArray.mk #[98,117,102]) [0,1])).2 (ByteArray.mk #[110,97,110,100]) [1,1,1,0])).2 (ByteArray.mk #[120,111,114]) [0,1,1,0])).1))::(1024,A 143 y143 (vl (l9 (vl (l9 (vl (l9 (vl (l9 a0 (ByteArray.mk #[105,110,118]) [1,0])).2 (ByteArray.mk #[98,117,102]) [0,1])).2 (ByteArray.mk #[110,97,110,100]) [1,1,1,0])).2 (ByteArray.mk #[120,111,114]) [0,1,1,0])).1.2.2.2.1 0)::(24,A 217 y217 (vl (l9 (vl (l9 (vl (l9 (vl (l9 a0 (ByteArray.mk #[105,110,118]) [1,0])).2 (ByteArray.mk #[98,117,102]) [0,1])).2 (ByteArray.mk #[110,97,110,100]) [1,1,1,0])).2 (ByteArray.mk #[120,111,114]) [0,1,1,0])).1.2.2.1 0)::(500000,bx 152 (u1 false l7 (vl (l9 (vl (l9 (vl (l9 (vl (l9 a0 (ByteArray.mk #[105,110,118]) [1,0])).2 (ByteArray.mk #[98,117,102]) [0,1])).2 (ByteArray.mk #[110,97,110,100]) [1,1,1,0])).2 (ByteArray.mk #[120,111,114]) [0,1,1,0])).2))::(6,bx 163 (Q1 (vl (l9 (vl (l9 (vl (l9 a0 (ByteArray.mk #[105,110,118]) [1,0])).2 (ByteArray.mk #[98,117,102]) [0,1])).2 (ByteArray.mk #[110,97,110,100]) [1,1,1,0])).1))::(1021,A 143 y143 (vl (l9 (vl (l9 (vl (l9 a0 (ByteArray.mk #[105,110,118]) [1,0])).2 (ByteArray.mk #[98,117,102]) [0,1])).2 (ByteArray.mk #[110,97,110,100]) [1,1,1,0])).1.2.2.2.1 0)::(21,A 217 y217 (vl (l9 (vl (l9 (vl (l9 a0 (ByteArray.mk #[105,110,118]) [1,0])).2 (ByteArray.mk #[98,117,102]) [0,1])).2 (ByteArray.mk #[110,97,110,100]) [1,1,1,0])).1.2.2.1 0)::(5,bx 163 (Q2 (vl (l9 (vl (l9 a0 (ByteArray.mk #[105,110,118]) [1,0])).2 (ByteArray.mk #[98,117,102]) [0,1])).1))::(1018,A 143 y143 (vl (l9 (vl (l9 a0 (ByteArray.mk #[105,110,118]) [1,0])).2 (ByteArray.mk #[98,117,102]) [0,1])).1.2.2.2.1 0)::(18,A 217 y217 (vl (l9 (vl (l9 a0 (ByteArray.mk #[105,110,118]) [1,0])).2 (ByteArray.mk #[98,117,102]) [0,1])).1.2.2.1 0)::(4,bx 163 (Q6 (vl (l9 a0 (ByteArray.mk #[105,110,118]) [1,0])).1))::W38 (vl (l9 a0 (ByteArray.mk #[105,110,118]) [1,0])).1.2.2.2.1 (vl (l9 a0 (ByteArray.mk #[105,110,118]) [1,0])).1.2.2.1)) H (by kernel_rfl) fun H=>fQ<|vQ<|zF tok (HT.h) 2 [26] [0,2,3,4,5,6,7,8] (Z (G24 [p 3 (R 3),p 4 (R 4),p 5 (R 5),p 6 (R 6),p 7 (R 7),p 8 (R 8)]) ((8,bx 163 (Q8 (vl (l9 (vl (l9 (vl (l9 (vl (l9 (vl (l9 a0 (ByteArray.mk #[105,110,118]) [1,0])).2 (ByteArray.mk #[98,117,102]) [0,1])).2 (ByteArray.mk #[110,97,110,100]) [1,1,1,0])).2 (ByteArray.mk #[120,111,114]) [0,1,1,0])).2 (ByteArray.mk #[109,117,120]) [0,1,0,1,0,0,1,1])).1))::(1027,A 143 y143 (vl (l9 (vl (l9 (vl (l9 (vl (l9 (vl (l9 a0 (ByteArray.mk #[105,110,118]) [1,0])).2 (ByteArray.mk #[98,117,102]) [0,1])).2 (ByteArray.mk #[110,97,110,100]) [1,1,1,0])).2 (ByteArray.mk #[120,111,114]) [0,1,1,0])).2 (ByteArray.mk #[109,117,120]) [0,1,0,1,0,0,1,1])).1.2.2.2.1 0)::(27,A 217 y217 (vl (l9 (vl (l9 (vl (l9 (vl (l9 (vl (l9 a0 (ByteArray.mk #[105,110,118]) [1,0])).2 (ByteArray.mk #[98,117,102]) [0,1])).2 (ByteArray.mk #[110,97,110,100]) [1,1,1,0])).2 (ByteArray.mk #[120,111,114]) [0,1,1,0])).2 (ByteArray.mk #[109,117,120]) [0,1,0,1,0,0,1,1])).1.2.2.1 0)::(500000,bx 152 (u1 false l7 (vl (l9 (vl (l9 (vl (l9 (vl (l9 (vl (l9 a0 (ByteArray.mk #[105,110,118]) [1,0])).2 (ByteArray.mk #[98,117,102]) [0,1])).2 (ByteArray.mk #[110,97,110,100]) [1,1,1,0])).2 (ByteArray.mk #[120,111,114]) [0,1,1,0])).2 (ByteArray.mk #[109,117,120]) [0,1,0,1,0,0,1,1])).2))::(7,bx 163 (Q3 (vl (l9 (vl (l9 (vl (l9 (vl (l9 a0 (ByteArray.mk #[105,110,118]) [1,0])).2 (ByteArray.mk #[98,117,102]) [0,1])).2 (ByteArray.mk #[110,97,110,100]) [1,1,1,0])).2 (ByteArray.mk #[120,111,114]) [0,1,1,0])).1))::(1024,A 143 y143 (vl (l9 (vl (l9 (vl (l9 (vl (l9 a0 (ByteArray.mk #[105,110,118]) [1,0])).2 (ByteArray.mk #[98,117,102]) [0,1])).2 (ByteArray.mk #[110,97,110,100]) [1,1,1,0])).2 (ByteArray.mk #[120,111,114]) [0,1,1,0])).1.2.2.2.1 0)::(24,A 217 y217 (vl (l9 (vl (l9 (vl (l9 (vl (l9 a0 (ByteArray.mk #[105,110,118]) [1,0])).2 (ByteArray.mk #[98,117,102]) [0,1])).2 (ByteArray.mk #[110,97,110,100]) [1,1,1,0])).2 (ByteArray.mk #[120,111,114]) [0,1,1,0])).1.2.2.1 0)::(6,bx 163 (Q1 (vl (l9 (vl (l9 (vl (l9 a0 (ByteArray.mk #[105,110,118]) [1,0])).2 (ByteArray.mk #[98,117,102]) [0,1])).2 (ByteArray.mk #[110,97,110,100]) [1,1,1,0])).1))::(1021,A 143 y143 (vl (l9 (vl (l9 (vl (l9 a0 (ByteArray.mk #[105,110,118]) [1,0])).2 (ByteArray.mk #[98,117,102]) [0,1])).2 (ByteArray.mk #[110,97,110,100]) [1,1,1,0])).1.2.2.2.1 0)::(21,A 217 y217 (vl (l9 (vl (l9 (vl (l9 a0 (ByteArray.mk #[105,110,118]) [1,0])).2 (ByteArray.mk #[98,117,102]) [0,1])).2 (ByteArray.mk #[110,97,110,100]) [1,1,1,0])).1.2.2.1 0)::(5,bx 163 (Q2 (vl (l9 (vl (l9 a0 (ByteArray.mk #[105,110,118]) [1,0])).2 (ByteArray.mk #[98,117,102]) [0,1])).1))::(1018,A 143 y143 (vl (l9 (vl (l9 a0 (ByteArray.mk #[105,110,118]) [1,0])).2 (ByteArray.mk #[98,117,102]) [0,1])).1.2.2.2.1 0)::(18,A 217 y217 (vl (l9 (vl (l9 a0 (ByteArray.mk #[105,110,118]) [1,0])).2 (ByteArray.mk #[98,117,102]) [0,1])).1.2.2.1 0)::(4,bx 163 (Q6 (vl (l9 a0 (ByteArray.mk #[105,110,118]) [1,0])).1))::W38 (vl (l9 a0 (ByteArray.mk #[105,110,118]) [1,0])).1.2.2.2.1 (vl (l9 a0 (ByteArray.mk #[105,110,118]) [1,0])).1.2.2.1)) H (by kernel_rfl) fun H=>fQ<|qD (fun(v0,v1,v2,v3,v4,v5)=>Z (G24 [p 3 (R 3),p 4 (R 4),p 5 (R 5),p 6 (R 6),p 7 (R 7),p 8 (R 8),p 9 (R 9)]) ((9,bx 163 (Q13 v0.1))::(1029,A 143 y143 v0.1.2.2.2.1 0)::(29,A 217 y217 v0.1.2.2.1 0)::(500000,K 152 l7 v0.2)::(8,bx 163 (Q8 v1.1))::(1027,A 143 y143 v1.1.2.2.2.1 0)::(27,A 217 y217 v1.1.2.2.1 0)::(7,bx 163 (Q3 v2.1))::(1024,A 143 y143 v2.1.2.2.2.1 0)::(24,A 217 y217 v2.1.2.2.1 0)::(6,bx 163 (Q1 v3.1))::(1021,A 143 y143 v3.1.2.2.2.1 0)::(21,A 217 y217 v3.1.2.2.1 0)::(5,bx 163 (Q2 v4.1))::(1018,A 143 y143 v4.1.2.2.2.1 0)::(18,A 217 y217 v4.1.2.2.1 0)::(4,bx 163 (Q6 v5.1))::W38 v5.1.2.2.2.1 v5.1.2.2.1)) H fun⟨v0,v1,v2,v3,v4,v5⟩ H =>
  qD (fun v6=>Z (G24 [p 3 (R 3),p 4 (R 4),p 5 (R 5),p 6 (R 6),p 7 (R 7),p 8 (R 8),p 9 (R 9),p 10 (R 10)]) ((10,bx 163 [S v6.1.1,I v6.1.2.1,AV.os 31 0,AV.os 1031 0,nil,I v6.1.2.2.2.2.1,I v6.1.2.2.2.2.2])::(1031,A 143 y143 v6.1.2.2.2.1 0)::(31,A 217 y217 v6.1.2.2.1 0)::(500000,K 152 l7 v6.2)::(9,bx 163 (Q13 v0.1))::(1029,A 143 y143 v0.1.2.2.2.1 0)::(29,A 217 y217 v0.1.2.2.1 0)::(8,bx 163 (Q8 v1.1))::(1027,A 143 y143 v1.1.2.2.2.1 0)::(27,A 217 y217 v1.1.2.2.1 0)::(7,bx 163 (Q3 v2.1))::(1024,A 143 y143 v2.1.2.2.2.1 0)::(24,A 217 y217 v2.1.2.2.1 0)::(6,bx 163 (Q1 v3.1))::(1021,A 143 y143 v3.1.2.2.2.1 0)::(21,A 217 y217 v3.1.2.2.1 0)::(5,bx 163 (Q2 v4.1))::(1018,A 143 y143 v4.1.2.2.2.1 0)::(18,A 217 y217 v4.1.2.2.1 0)::(4,bx 163 (Q6 v5.1))::W38 v5.1.2.2.2.1 v5.1.2.2.1)) H fun v6 H =>
  qD (fun v7=>Z (G13 [p 4 (R 4),p 5 (R 5),p 6 (R 6),p 7 (R 7),p 8 (R 8),p 9 (R 9),p 10 (R 10),p 11 (R 11)]) ((11,bx 163 [S v7.1.1,I v7.1.2.1,AV.os 33 0,AV.os 1033 0,nil,I v7.1.2.2.2.2.1,I v7.1.2.2.2.2.2])::(1033,A 143 y143 v7.1.2.2.2.1 0)::(33,A 217 y217 v7.1.2.2.1 0)::(500000,K 152 l7 v7.2)::(10,bx 163 [S v6.1.1,I v6.1.2.1,AV.os 31 0,AV.os 1031 0,nil,I v6.1.2.2.2.2.1,I v6.1.2.2.2.2.2])::(1031,A 143 y143 v6.1.2.2.2.1 0)::(31,A 217 y217 v6.1.2.2.1 0)::(9,bx 163 (Q13 v0.1))::(1029,A 143 y143 v0.1.2.2.2.1 0)::(29,A 217 y217 v0.1.2.2.1 0)::(8,bx 163 (Q8 v1.1))::(1027,A 143 y143 v1.1.2.2.2.1 0)::(27,A 217 y217 v1.1.2.2.1 0)::(7,bx 163 (Q3 v2.1))::(1024,A 143 y143 v2.1.2.2.2.1 0)::(24,A 217 y217 v2.1.2.2.1 0)::(6,bx 163 (Q1 v3.1))::(1021,A 143 y143 v3.1.2.2.2.1 0)::(21,A 217 y217 v3.1.2.2.1 0)::(5,bx 163 (Q2 v4.1))::(1018,A 143 y143 v4.1.2.2.2.1 0)::(18,A 217 y217 v4.1.2.2.1 0)::(4,bx 163 (Q6 v5.1))::W38 v5.1.2.2.2.1 v5.1.2.2.1)) H fun v7 H=>?_
 refine fZs [33,1033,31,1031,29,1029,27,1027,24,1024,21,1021,18,1018,15,1015] (Z (G13 [p 4 (R 4),p 5 (R 5),p 6 (R 6),p 7 (R 7),p 8 (R 8),p 9 (R 9),p 10 (R 10),p 11 (R 11)]) [(11,bx 163 (Q10 v7.1)),(500000,K 152 l7 v7.2),(10,bx 163 (Q10 v6.1)),(9,bx 163 (Q10 v0.1)),(8,bx 163 (Q7 v1.1)),(7,bx 163 (Q7 v2.1)),(6,bx 163 (Q7 v3.1)),(5,bx 163 (Q7 v4.1)),(4,bx 163 (Q7 v5.1)),(3,bx 26 [nil]),(2,bx 26 [nil])])<|qC (fun v8=>Z (G13 []) [(3,bx 26 [AV.os 42 0]),(42,Ob.arr 163 false y163 v8 0),(11,bx 163 (Q10 v7.1)),(500000,K 152 l7 v7.2),(10,bx 163 (Q10 v6.1)),(9,bx 163 (Q10 v0.1)),(8,bx 163 (Q7 v1.1)),(7,bx 163 (Q7 v2.1)),(6,bx 163 (Q7 v3.1)),(5,bx 163 (Q7 v4.1)),(4,bx 163 (Q7 v5.1)),(2,bx 26 [nil])]) H fun v8 H=>qA (Z [p 2 (R 2)] [(2,bx 26 [AV.os 42 0]),(3,bx 26 [AV.os 42 0]),(42,Ob.arr 163 false y163 v8 0),(11,bx 163 (Q10 v7.1)),(500000,K 152 l7 v7.2),(10,bx 163 (Q10 v6.1)),(9,bx 163 (Q10 v0.1)),(8,bx 163 (Q7 v1.1)),(7,bx 163 (Q7 v2.1)),(6,bx 163 (Q7 v3.1)),(5,bx 163 (Q7 v4.1)),(4,bx 163 (Q7 v5.1))])<|vTT<|hr H
def B0E(a0:Int)(a1:Int):Option (x9) :=
 gd ((0<=a0/\a0=a0/\a0.toNat*8<=281474976710656/\a0<=9223372036854775807)/\True) <|
 some ([-1],[0],[a1],List.replicate a0.toNat 0)
def J0M:Ct:=lct 209 [.dat i64,.dat i64] (fun x=>B0E x.1 x.2.1) (fun r:x9=>AV.agg [AV.ow 2 true i64 r.1,AV.ow 2 true i64 r.2.1,AV.ow 2 true i64 r.2.2.1,AV.ow 2 true i64 r.2.2.2]) (fun _=>())
theorem I0j:Ok prog J0M:=by
 refine okL [.cell 4 110] func209 ntmps209 results209 ?_;intro y ⟨a0,a1,_⟩ r H Q hn hr;have:HT _ _:=⟨@tn prog⟩;refine qA (Z [p 0 (J a0),p 1 (J a1),p 4 (R 4)] [(4,bx 110 [nil,nil,nil,nil])])<|qB (Z [p 4 (R 4)] [(4,bx 110 [AV.os 5 0,AV.os 6 0,AV.os 8 0,AV.os 10 0]),(10,A 2 i64 (List.replicate a0.toNat 0) 0),(8,A 2 i64 [a1] 0),(6,A 2 i64 [0] 0),(5,A 2 i64 [-1] 0)]) H fun H=>vTT<|hr H
def t0K(g208:Int->Option ByteArray)(a0:Int):Option (ByteArray) :=
 if(decide (a0<0))=true then
  gd (l3 (-a0)/\(g208 (-a0)).isSome=true/\(ByteArray.mk #[45]).size+(vl (g208 (-a0))).size<=9223372036854775807/\True)<|lt (vl (g208 (-a0))) fun v0 =>
  some (ByteArray.mk #[45]++v0)
 else
  if(decide (a0<10))=true then
   gd (l3 (48+a0)/\True/\0<[(48+a0) % 256].length/\True) <|
   some (strOfNums [(48+a0) % 256])
  else
   gd ((0:Int) < (10:Int)/\(g208 (a0.tdiv (10:Int))).isSome=true/\(0:Int) < (10:Int)/\l3 ((48:Int)+a0.tmod (10:Int))/\True/\0<[((48:Int)+a0.tmod (10:Int)) % (256:Int)].length/\(vl (g208 (a0.tdiv (10:Int)))).size+(strOfNums [((48:Int)+a0.tmod (10:Int)) % (256:Int)]).size<=9223372036854775807/\True)<|lt (vl (g208 (a0.tdiv 10))) fun v1 =>
   some (v1++strOfNums [(48+a0.tmod 10) % 256])
theorem E0E(g208:Int->Option ByteArray)(E0F:Ok prog (lct 208 [.dat i64] (fun x=>g208 x.1) (fun r=>S r) (fun _=>()))):Ok prog (lct 208 [.dat i64] (fun x=>t0K g208 x.1) (fun r:ByteArray=>S r) (fun _=>())):=by
 refine okL [.tmp 2] func208 ntmps208 results208 ?_;intro y ⟨a0,_⟩ r H Q hn hr;have:HT _ _:=⟨tc E0F tn⟩;refine qA (Z [p 0 (J a0)] [])<|vQ<|qA (Z [p 0 (J a0),p 4 (B (decide (a0<0)))] [])<|cD H (fun H=>?_) (fun H=>?_)
 ·refine qD (fun v0=>Z [p 2 (S (ByteArray.mk #[45]++v0))] []) H fun v0 H=>vTT<|fR<|hr H
 refine vK<|fQ<|vQ<|qA (Z [p 0 (J a0),p 10 (B (decide (a0<10)))] [])<|cD H (fun H=>?_) (fun H=>?_)
 ·refine qB (Z [p 2 (S (strOfNums [(48+a0) % 256]))] [(14,A 5 b8 [(48+a0) % 256] 0)]) H fun H=>vTT<|fR<|hr H
 refine vK<|fQ<|qD (fun v1=>Z [p 2 (S (v1++strOfNums [(48+a0.tmod 10) % 256]))] [(23,A 5 b8 [(48+a0.tmod 10) % 256] 0)]) H fun v1 H=>vTT<|hr H
def p0g:Nat->Int->Option ByteArray
 | 0,_=>none
 | m+1,n=>t0K (p0g m) n
theorem C0j:∀m,Ok prog (lct 208 [.dat i64] (fun x=>p0g m x.1) (fun r=>S r) (fun _=>()))
 | 0=>⟨by kernel_rfl,fun _ hq=>by cases hq⟩
 | m+1=>E0E (p0g m) (C0j m)
def t0j(n:Int):Option ByteArray:=p0g 25 n
def J0N:Ct:=lct 208 [.dat i64] (fun x=>t0j x.1) (fun r=>S r) (fun _=>())
theorem E0F:Ok prog J0N:=C0j 25
abbrev sd(s:l8):Prop:=0<=s.2.1/\0<=s.2.2/\s.2.2<2147483647
abbrev E0a(x:w9 [.io 152 l7,.dat i64,.dat .bool]):Prop:=sd x.1/\2<=x.2.1/\x.2.1<=6
abbrev D0Y(r:Y31×l8):Prop:=sd r.2/\(r.1.1.length<=6/\∀i∈r.1.1,i.2.2.length<=4)/\(1<=r.1.2.1.length/\r.1.2.1.length<=20)/\(1<=r.1.2.2.length/\r.1.2.2.length<=5)/\Xd.cnt y31 r.1<=2000
abbrev D0c(x:w9 [.io 152 l7,.dat i64]):Prop:=sd x.1/\0<=x.2.1/\x.2.1<=40
abbrev D0X(r:x9×l8):Prop:=sd r.2/\1<=r.1.1.length/\1<=r.1.2.1.length/\1<=r.1.2.2.1.length/\Xd.cnt l6 r.1<=60
abbrev y0d(x:w9 [.io 152 l7,.dat i64,.dat .bool]):Prop:=sd x.1/\2<=x.2.1/\x.2.1<=6
abbrev z0W(r:Y34×l8):Prop:=sd r.2/\1<=r.1.2.2.length/\(∀w∈r.1.2.2,1<=w.1.length/\1<=w.2.1.length/\1<=w.2.2.1.length)/\1<=r.1.2.1.2.2.length/\Xd.cnt y34 r.1<=10000
abbrev D0Z(r:Y34×l8):Prop:=sd r.2/\Xd.cnt y34 r.1<=20000
abbrev T54(r:Y34×l8):Prop:=sd r.2/\Xd.cnt y34 r.1<=20000
abbrev T80(r:Y34×l8):Prop:=sd r.2/\Xd.cnt y34 r.1<=20000
abbrev T32(r:Y34×List Int):Prop:=Xd.cnt y34 r.1<=20000/\r.2.length<=20000
end Go.Proofs.YtphnknndgfgepaaGreatDoor
end
