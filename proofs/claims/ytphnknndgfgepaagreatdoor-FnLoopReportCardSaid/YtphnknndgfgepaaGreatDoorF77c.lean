/- Functions of this program as plain functions of data, and that they are so: printed by program. -/
import Derived.Test.YtphnknndgfgepaaGreatDoorF77b
section
namespace Go.Proofs.YtphnknndgfgepaaGreatDoor
open Go Go.Proofs Go.Proofs.Sv Go.Proofs.Xv Go.Proofs.Xl Go.RowKit
open Tryz
def A0X:List (List Int)->Option (List (List Int))
 | v31 =>
 some v31
def m0m(v18:Int)(g3:List (List Int)×Int×List Bool->Option (List (List Int))):List Bool×List (List Int)->Option (List (List Int))
 | (v29,v30) =>
 gd (a0f (v18+1)/\True) <|
 g3 (v30,v18+1,v29)
def A0W(v18:Int)(v17:List (List Int))(v24:List Int)(g3:List (List Int)×Int×List Bool->Option (List (List Int))):List Bool->Option (List (List Int))
 | v28 =>
 gd ((v17.length+[v24].length<=9223372036854775807/\(v17.length+[v24].length)*24<=140737488355328)/\True) <|
 m0m v18 g3 (v28,v17++[v24])
def A0T(v24:List Int)(v18:Int)(v17:List (List Int))(g3:List (List Int)×Int×List Bool->Option (List (List Int)))(g9:Int×List Bool->Option (List (List Int))):Int×List Bool->Option (List (List Int))
 | (v26,v27) =>
 if(decide (v26 < (v24.length:Int)))=true then
  gd (ix v26 v24.length/\v26.toNat<v24.length/\True) <|
  gd (ix (v24.getD v26.toNat 0) v27.length/\Int.toNat (v24.getD v26.toNat 0)<v27.length/\True) <|
  gd (a0f (v26+1)/\True) <|
  g9 ((v26+1,v27.set (Int.toNat (v24.getD v26.toNat 0)) true))
 else
  A0W v18 v17 v24 g3 v27
def q0x(v18:Int)(v19:List Bool)(v17:List (List Int))(a0:e0K)(g3:List (List Int)×Int×List Bool->Option (List (List Int))):List Int->Option (List (List Int))
 | v24 =>
 gd ((decide ((v24.length:Int)<2)=true/\True->(A0p a0 v18).isSome=true)/\True) <|
 if(decide ((v24.length:Int)<2)&&!vl (A0p a0 v18))=true then
  m0m v18 g3 (v19,v17)
 else
  lp (A0T v24 v18 v17 g3) (0,v19)
def y0w(v22:Int)(g6:List Int×Int->Option (List (List Int))):List Int->Option (List (List Int))
 | v23 =>
 gd (a0f (v22+1)/\True) <|
 g6 (v23,v22+1)
def t0E(v5:List (List Bool))(v18:Int)(v19:List Bool)(v17:List (List Int))(a0:e0K)(v0:Int)(g3:List (List Int)×Int×List Bool->Option (List (List Int)))(g6:List Int×Int->Option (List (List Int))):List Int×Int->Option (List (List Int))
 | (v21,v22) =>
 if(decide (v22<v0))=true then
  gd (ix v18 v5.length/\v18.toNat<v5.length/\ix v22 (List.length (v5.getD v18.toNat []))/\(List.getD (v5.getD v18.toNat []) v22.toNat false=true/\True->ix v22 v5.length)/\(List.getD (v5.getD v18.toNat []) v22.toNat false=true/\True->v22.toNat<v5.length)/\(List.getD (v5.getD v18.toNat []) v22.toNat false=true/\True->ix v18 (List.length (v5.getD v22.toNat [])))/\True) <|
  if(List.getD (v5.getD v18.toNat []) v22.toNat false&&List.getD (v5.getD v22.toNat []) v18.toNat false)=true then
   gd ((v21.length+[v22].length<=9223372036854775807/\(v21.length+[v22].length)*8<=140737488355328)/\True) <|
   y0w v22 g6 (v21++[v22])
  else
   y0w v22 g6 v21
 else
  q0x v18 v19 v17 a0 g3 v21
def A0U(v5:List (List Bool))(a0:e0K)(v0:Int)(g3:List (List Int)×Int×List Bool->Option (List (List Int))):List (List Int)×Int×List Bool->Option (List (List Int))
 | (v17,v18,v19) =>
 if(decide (v18<v0))=true then
  gd (ix v18 v19.length/\v18.toNat<v19.length/\True) <|
  if(v19.getD v18.toNat false)=true then
   m0m v18 g3 (v19,v17)
  else
   lp (t0E v5 v18 v19 v17 a0 v0 g3) ([],0)
 else
  A0X v17
def q0y(a0:e0K)(v0:Int):List (List Bool)->Option (List (List Int))
 | v5 =>
 gd ((0<=v0/\v0=v0/\v0.toNat*1<=281474976710656/\v0<=9223372036854775807)/\True) <|
 lp (A0U v5 a0 v0) ([],0,List.replicate v0.toNat false)
def A0V(a0:e0K)(v0:Int)(g1:List (List Bool)×Int->Option (List (List Int))):List (List Bool)×Int->Option (List (List Int))
 | (v2,v3) =>
 if(decide (v3<v0))=true then
  gd ((e0j a0 [v3]).isSome=true/\(v2.length+[vl (e0j a0 [v3])].length<=9223372036854775807/\(v2.length+[vl (e0j a0 [v3])].length)*24<=140737488355328)/\True)<|lt (vl (e0j a0 [v3])) fun v4 =>
  gd (a0f (v3+1)/\True) <|
  g1 (v2++[v4],v3+1)
 else
  q0y a0 v0 v2
def u81(a0:e0K):Option (List (List Int)) :=
 gd ((c0M a0.1).isSome=true/\True)<|lt (vl (c0M a0.1)) fun v0 =>
 lp (A0V a0 v0) ([],0)
def k81:Ct:=lct 81 [.dat y127.pt] (fun x=>u81 x.1) (fun r:List (List Int)=>AV.ow 35 true i64.sl r) (fun _=>())
theorem o81:Ok prog k81:=by
 refine okL [.tmp 2] func81 ntmps81 results81 ?_;intro y ⟨a0,_⟩ r H Q hn hr;have:HT _ _:=⟨tc I0u (tc o77 (tc z0d (tc z0c (tc D0R tn))))⟩;refine qA (Z [p 0 (D y127.pt a0)] [])<|qD (fun v0=>Z (G61 a0 v0 []) []) H fun v0 H=>qA (Z (G61 a0 v0 [p 4 (nil)]) [])<|jN r (fun(v5:List (List Bool))=>Z (G61 a0 v0 [p 4 (O 28)]) [(28,A 94 Ty.bool.sl v5 0)]) (q0y a0 v0) (fun v5 H=>?_) (fun _ n0 e0 t0=>?_)
 ·refine qB (Z (G61 a0 v0 [p 4 (O 28),p 6 (O 31)]) [(31,A 4 Ty.bool (List.replicate v0.toNat false) 0),(28,A 94 Ty.bool.sl v5 0)]) H fun H=>qA (Z (G61 a0 v0 [p 4 (O 28),p 6 (O 31),p 7 (nil)]) [(31,A 4 Ty.bool (List.replicate v0.toNat false) 0),(28,A 94 Ty.bool.sl v5 0)])<|jN r (fun(v31:List (List Int))=>Z [p 7 (O 87)] [(87,A 35 i64.sl v31 0)]) (A0X) (fun v31 H=>?_) (fun _ n2 e2 t2=>?_)
  ·refine qA (Z [p 2 (O 87)] [(87,A 35 i64.sl v31 0)])<|vTT<|hr H
  refine qA (Z (G61 a0 v0 [p 4 (O 28),p 6 (O 31),p 7 (nil),p 32 (I v0),p 33 (I 0)]) [(31,A 4 Ty.bool (List.replicate v0.toNat false) 0),(28,A 94 Ty.bool.sl v5 0)])<|vB<|lX (fun((v17,v18,v19):List (List Int)×Int×List Bool)=>Z (G5 a0 v0 [p 32 (I v0),p 33 (I v18)]) (W20 v19 v5 v17)) ([],0,List.replicate v0.toNat false) H fun _ g3 b3 e3 t3 ⟨v17,v18,v19⟩ H=>qA (Z (G5 a0 v0 [p 32 (I v0),p 33 (I v18),p 34 (B (decide (v18<v0)))]) (W20 v19 v5 v17))<|vQ<|cD H (fun H=>?_) (fun H=>?_)
  ·refine vK<|fQ<|jN r (fun((v29,v30):List Bool×List (List Int))=>Z (G5 a0 v0 [p 32 (I v0),p 33 (I v18)]) (W20 v29 v5 v30)) (m0m v18 g3) (fun⟨v29,v30⟩ H=>?_) (fun _ n4 e4 t4=>?_)
   ·refine zB (Z (G5 a0 v0 [p 32 (I v0),p 33 (I (v18+1))]) (W20 v29 v5 v30)) H fun H=>b3 H
   refine vB<|qA (Z (G5 a0 v0 [p 8 (I v18),p 32 (I v0),p 33 (I v18)]) (W20 v19 v5 v17))<|vQ<|qB (Z (G5 a0 v0 [p 8 (I v18),p 32 (I v0),p 33 (I v18),p 39 (B (v19.getD v18.toNat false))]) (W20 v19 v5 v17)) H fun H=>cD H (fun H=>?_) (fun H=>?_)
   ·exact vE<|fE<|fX rfl<|n4 H
   refine vK<|fQ<|qA (Z (G5 a0 v0 [p 8 (I v18),p 9 (nil),p 32 (I v0),p 33 (I v18)]) (W20 v19 v5 v17))<|jN r (fun(v24:List Int)=>Z (G5 a0 v0 [p 8 (I v18),p 9 (O 63),p 32 (I v0),p 33 (I v18)]) (W10 v19 v5 v17 v24)) (q0x v18 v19 v17 a0 g3) (fun v24 H=>?_) (fun _ n5 e5 t5=>?_)
   ·refine vQ<|qB (Z (G5 a0 v0 [p 9 (O 63),p 32 (I v0),p 33 (I v18),p 73 (B (decide ((v24.length:Int)<2)&&!vl (A0p a0 v18)))]) (W10 v19 v5 v17 v24)) H fun H=>cD H (fun H=>?_) (fun H=>?_)
    ·exact vE<|fE<|fX rfl<|n4 H
    refine vK<|fQ<|jN r (fun(v28:List Bool)=>Z (G5 a0 v0 [p 9 (O 63),p 32 (I v0),p 33 (I v18)]) (W10 v28 v5 v17 v24)) (A0W v18 v17 v24 g3) (fun v28 H=>?_) (fun _ n8 e8 t8=>?_)
    ·refine fZ 63 (Z (G5 a0 v0 [p 9 (M i64 v24),p 32 (I v0),p 33 (I v18)]) (W20 v28 v5 v17))<|zB (Z (G61 a0 v0 [p 4 (O 28),p 6 (O 31),p 7 (AV.os 87 1),p 32 (I v0),p 33 (I v18)]) [(87,A 35 i64.sl (v17++[v24]) 1),(86,A 35 i64.sl [v24] 0),(31,A 4 Ty.bool v28 0),(28,A 94 Ty.bool.sl v5 0)]) H fun H=>fK<|n4 H
    refine qA (Z (G5 a0 v0 [p 9 (O 63),p 32 (I v0),p 33 (I v18),p 74 (O 63),p 75 (I (v24.length:Int)),p 76 (I 0)]) (W10 v19 v5 v17 v24))<|vB<|lX (fun((v26,v27):Int×List Bool)=>Z (G5 a0 v0 [p 9 (O 63),p 32 (I v0),p 33 (I v18),p 74 (O 63),p 75 (I (v24.length:Int)),p 76 (I v26)]) (W10 v27 v5 v17 v24)) (0,v19) H fun _ g9 b9 e9 t9 ⟨v26,v27⟩ H=>qA (Z (G5 a0 v0 [p 9 (O 63),p 32 (I v0),p 33 (I v18),p 74 (O 63),p 75 (I (v24.length:Int)),p 76 (I v26),p 77 (B (decide (v26 < (v24.length:Int))))]) (W10 v27 v5 v17 v24))<|vQ<|cD H (fun H=>?_) (fun H=>?_)
    ·refine vK<|fQ<|vQ<|vB<|qB (Z (G5 a0 v0 [p 9 (O 63),p 12 (I (v24.getD v26.toNat 0)),p 32 (I v0),p 33 (I v18),p 74 (O 63),p 75 (I (v24.length:Int)),p 76 (I v26)]) (W10 v27 v5 v17 v24)) H fun H=>zB (Z (G5 a0 v0 [p 9 (O 63),p 32 (I v0),p 33 (I v18),p 74 (O 63),p 75 (I (v24.length:Int)),p 76 (I v26)]) (W10 (v27.set (Int.toNat (v24.getD v26.toNat 0)) true) v5 v17 v24)) H fun H=>fK<|fQ<|zB (Z (G5 a0 v0 [p 9 (O 63),p 32 (I v0),p 33 (I v18),p 74 (O 63),p 75 (I (v24.length:Int)),p 76 (I (v26+1))]) (W10 (v27.set (Int.toNat (v24.getD v26.toNat 0)) true) v5 v17 v24)) H fun H=>b9 H
    exact vE<|fE<|e9<|fX rfl<|n8 H
   refine qA (Z (G5 a0 v0 [p 8 (I v18),p 9 (nil),p 32 (I v0),p 33 (I v18),p 40 (I v0),p 41 (I 0)]) (W20 v19 v5 v17))<|vB<|lX (fun((v21,v22):List Int×Int)=>Z (G5 a0 v0 [p 8 (I v18),p 9 (O 63),p 32 (I v0),p 33 (I v18),p 40 (I v0),p 41 (I v22)]) (W10 v19 v5 v17 v21)) ([],0) H fun _ g6 b6 e6 t6 ⟨v21,v22⟩ H=>qA (Z (G5 a0 v0 [p 8 (I v18),p 9 (O 63),p 32 (I v0),p 33 (I v18),p 40 (I v0),p 41 (I v22),p 42 (B (decide (v22<v0)))]) (W10 v19 v5 v17 v21))<|vQ<|cD H (fun H=>?_) (fun H=>?_)
   ·refine vK<|fQ<|jN r (fun(v23:List Int)=>Z (G5 a0 v0 [p 8 (I v18),p 9 (O 63),p 32 (I v0),p 33 (I v18),p 40 (I v0),p 41 (I v22)]) ((63,A 2 i64 v23 0)::W20 v19 v5 v17)) (y0w v22 g6) (fun v23 H=>?_) (fun _ n7 e7 t7=>?_)
    ·refine zB (Z (G5 a0 v0 [p 8 (I v18),p 9 (O 63),p 32 (I v0),p 33 (I v18),p 40 (I v0),p 41 (I (v22+1))]) ((63,A 2 i64 v23 0)::W20 v19 v5 v17)) H fun H=>b6 H
    refine vB<|qA (Z (G5 a0 v0 [p 8 (I v18),p 9 (O 63),p 10 (I v22),p 32 (I v0),p 33 (I v18),p 40 (I v0),p 41 (I v22)]) (W10 v19 v5 v17 v21))<|qB (Z (G5 a0 v0 [p 8 (I v18),p 9 (O 63),p 10 (I v22),p 32 (I v0),p 33 (I v18),p 40 (I v0),p 41 (I v22),p 59 (B (List.getD (v5.getD v18.toNat []) v22.toNat false&&List.getD (v5.getD v22.toNat []) v18.toNat false))]) (W10 v19 v5 v17 v21)) H fun H=>cD H (fun H=>?_) (fun H=>?_)
    ·refine zB (Z (G5 a0 v0 [p 8 (I v18),p 9 (AV.os 63 1),p 32 (I v0),p 33 (I v18),p 40 (I v0),p 41 (I v22)]) ((63,A 2 i64 (v21++[v22]) 1)::(62,A 2 i64 [v22] 0)::W20 v19 v5 v17)) H fun H=>fK<|n7 H
    exact vK<|fK<|n7 H
   exact vE<|fE<|e6<|fX rfl<|n5 H
  exact vE<|fE<|e3<|fX rfl<|n2 H
 refine qA (Z (G61 a0 v0 [p 4 (nil),p 18 (I v0),p 19 (I 0)]) [])<|vB<|lX (fun((v2,v3):List (List Bool)×Int)=>Z (G61 a0 v0 [p 4 (O 28),p 18 (I v0),p 19 (I v3)]) [(28,A 94 Ty.bool.sl v2 0)]) ([],0) H fun _ g1 b1 e1 t1 ⟨v2,v3⟩ H=>qA (Z (G61 a0 v0 [p 4 (O 28),p 18 (I v0),p 19 (I v3),p 20 (B (decide (v3<v0)))]) [(28,A 94 Ty.bool.sl v2 0)])<|vQ<|cD H (fun H=>?_) (fun H=>?_)
 ·refine vK<|fQ<|vQ<|vB<|qA (Z (G61 a0 v0 [p 4 (O 28),p 5 (I v3),p 18 (I v0),p 19 (I v3)]) [(28,A 94 Ty.bool.sl v2 0)])<|zD (fun v4=>Z (G61 a0 v0 [p 4 (AV.os 28 1),p 18 (I v0),p 19 (I v3)]) [(28,A 94 Ty.bool.sl (v2++[v4]) 1),(27,A 94 Ty.bool.sl [v4] 0),(25,A 2 i64 [v3] 0)]) H fun v4 H=>fK<|fQ<|zB (Z (G61 a0 v0 [p 4 (AV.os 28 1),p 18 (I v0),p 19 (I (v3+1))]) [(28,A 94 Ty.bool.sl (v2++[v4]) 1),(27,A 94 Ty.bool.sl [v4] 0),(25,A 2 i64 [v3] 0)]) H fun H=>b1 H
 exact vE<|fE<|e1<|fX rfl<|n0 H
def w0Z:Unit->Option (Bool)
 | _ =>
 some false
def w0Y(a1:List Bool)(a0:List Y48)(a2:Int)(g1:Int->Option (Bool)):Int->Option (Bool)
 | v0 =>
 if(decide (v0 < (a0.length:Int)))=true then
  gd (ix v0 a1.length/\(a1.getD v0.toNat false=true/\True->ix v0 a0.length)/\((a1.getD v0.toNat false&&(a0.getD v0.toNat (a0a y48)).1==a2)=true/\True->ix v0 a0.length)/\True) <|
  if(a1.getD v0.toNat false&&(a0.getD v0.toNat (a0a y48)).1==a2&&(a0.getD v0.toNat (a0a y48)).2.1==a2)=true then
   some true
  else
   gd (a0f (v0+1)/\True) <|
   g1 (v0+1)
 else
  w0Z ()
def A0o(a0:List Y48)(a1:List Bool)(a2:Int):Option (Bool) :=
 lp (w0Y a1 a0 a2) 0
def J0X:Ct:=lct 143 [.dat y48.sl,.dat Ty.bool.sl,.dat i64] (fun x=>A0o x.1 x.2.1 x.2.2.1) (fun r:Bool=>B r) (fun _=>())
theorem I0t:Ok prog J0X:=by
 refine okL [.tmp 6] func143 ntmps143 results143 ?_;intro y ⟨a0,a1,a2,_⟩ r H Q hn hr;have:HT _ _:=⟨@tn prog⟩;refine qA (Z [p 0 (L y48 a0),p 1 (L Ty.bool a1),p 2 (J a2)] [])<|jN r (fun(_:Unit)=>Z [] []) (w0Z) (fun _ H=>?_) (fun _ n0 e0 t0=>?_)
 ·refine qA (Z [p 6 (B false)] [])<|vTT<|hr H
 refine qA (Z [p 0 (L y48 a0),p 1 (L Ty.bool a1),p 2 (J a2),p 7 (I 0)] [])<|vB<|lX (fun(v0:Int)=>Z [p 0 (L y48 a0),p 1 (L Ty.bool a1),p 2 (J a2),p 7 (I v0)] []) 0 H fun _ g1 b1 e1 t1 v0 H=>vQ<|qA (Z [p 0 (L y48 a0),p 1 (L Ty.bool a1),p 2 (J a2),p 7 (I v0),p 11 (B (decide (v0 < (a0.length:Int))))] [])<|cD H (fun H=>?_) (fun H=>?_)
 ·refine vK<|fQ<|vQ<|vB<|qB (Z [p 0 (L y48 a0),p 1 (L Ty.bool a1),p 2 (J a2),p 7 (I v0),p 35 (B (a1.getD v0.toNat false&&(a0.getD v0.toNat (a0a y48)).1==a2&&(a0.getD v0.toNat (a0a y48)).2.1==a2))] []) H fun H=>cD H (fun H=>?_) (fun H=>?_)
  ·refine qA (Z [p 6 (B true)] [])<|vTT<|fDD<|fR<|t1<|fDD<|t0<|hr H
  refine vK<|fK<|fQ<|zB (Z [p 0 (L y48 a0),p 1 (L Ty.bool a1),p 2 (J a2),p 7 (I (v0+1))] []) H fun H=>b1 H
 exact vE<|fE<|e1<|fX rfl<|n0 H
def A0S:List (List Int)->Option (List (List Int))
 | v30 =>
 some v30
def p0f(v14:Int)(g1:Int×List Bool×List (List Int)->Option (List (List Int))):List Bool×List (List Int)->Option (List (List Int))
 | (v28,v29) =>
 gd (a0f (v14+1)/\True) <|
 g1 (v14+1,v28,v29)
def q0w(v14:Int)(v16:List (List Int))(a1:List Y48)(a2:List Bool)(g1:Int×List Bool×List (List Int)->Option (List (List Int))):List Int×List Bool->Option (List (List Int))
 | (v26,v27) =>
 gd ((decide (1 < (v26.length:Int))=false/\True->(A0o a1 a2 v14).isSome=true)/\True) <|
 if(decide (1 < (v26.length:Int))||vl (A0o a1 a2 v14))=true then
  gd ((v16.length+[v26].length<=9223372036854775807/\(v16.length+[v26].length)*24<=140737488355328)/\True) <|
  p0f v14 g1 (v27,v16++[v26])
 else
  p0f v14 g1 (v27,v16)
def y0v(v21:Int)(g4:Int×List Int×List Bool->Option (List (List Int))):List Bool×List Int->Option (List (List Int))
 | (v24,v25) =>
 gd (a0f (v21+1)/\True) <|
 g4 (v21+1,v25,v24)
def y0t(v18:List Bool)(v17:List Bool)(v14:Int)(v16:List (List Int))(a1:List Y48)(a2:List Bool)(a0:Int)(g1:Int×List Bool×List (List Int)->Option (List (List Int)))(g4:Int×List Int×List Bool->Option (List (List Int))):Int×List Int×List Bool->Option (List (List Int))
 | (v21,v22,v23) =>
 if(decide (v21<a0))=true then
  gd (ix v21 v18.length/\v21.toNat<v18.length/\(v18.getD v21.toNat false=true/\True->ix v21 v17.length)/\(v18.getD v21.toNat false=true/\True->v21.toNat<v17.length)/\True) <|
  if(v18.getD v21.toNat false&&v17.getD v21.toNat false)=true then
   gd ((v22.length+[v21].length<=9223372036854775807/\(v22.length+[v21].length)*8<=140737488355328)/\True) <|
   gd (ix v21 v23.length/\v21.toNat<v23.length/\True) <|
   y0v v21 g4 (v23.set v21.toNat true,v22++[v21])
  else
   y0v v21 g4 (v23,v22)
 else
  q0w v14 v16 a1 a2 g1 (v22,v23)
def y0u(a1:List Y48)(a2:List Bool)(a0:Int)(g1:Int×List Bool×List (List Int)->Option (List (List Int))):Int×List Bool×List (List Int)->Option (List (List Int))
 | (v14,v15,v16) =>
 if(decide (v14<a0))=true then
  gd (ix v14 v15.length/\v14.toNat<v15.length/\True) <|
  if(v15.getD v14.toNat false)=true then
   p0f v14 g1 (v15,v16)
  else
   gd ((y0M a0 a1 a2 v14 true).isSome=true/\(y0M a0 a1 a2 v14 false).isSome=true/\True)<|lt ((vl (y0M a0 a1 a2 v14 false),vl (y0M a0 a1 a2 v14 true))) fun(v17,v18) =>
   lp (y0t v18 v17 v14 v16 a1 a2 a0 g1) (0,[],v15)
 else
  A0S v16
def u82(a0:Int)(a1:List Y48)(a2:List Bool):Option (List (List Int)) :=
 gd ((0<=a0/\a0=a0/\a0.toNat*1<=281474976710656/\a0<=9223372036854775807)/\True) <|
 lp (y0u a1 a2 a0) (0,List.replicate a0.toNat false,[])
def k82:Ct:=lct 82 [.dat i64,.dat y48.sl,.dat Ty.bool.sl] (fun x=>u82 x.1 x.2.1 x.2.2.1) (fun r:List (List Int)=>AV.ow 35 true i64.sl r) (fun _=>())
theorem o82:Ok prog k82:=by
 refine okL [.tmp 6] func82 ntmps82 results82 ?_;intro y ⟨a0,a1,a2,_⟩ r H Q hn hr;have:HT _ _:=⟨tc I0t (tc I0v tn)⟩;refine qA (Z [p 0 (J a0),p 1 (L y48 a1),p 2 (L Ty.bool a2)] [])<|qA (Z [p 0 (J a0),p 1 (L y48 a1),p 2 (L Ty.bool a2),p 7 (O 14)] [(14,A 35 i64.sl [] 0)])<|qB (Z [p 0 (J a0),p 1 (L y48 a1),p 2 (L Ty.bool a2),p 7 (O 14),p 8 (O 16)] [(16,A 4 Ty.bool (List.replicate a0.toNat false) 0),(14,A 35 i64.sl [] 0)]) H fun H=>jN r (fun(v30:List (List Int))=>Z [p 7 (O 14)] [(14,A 35 i64.sl v30 0)]) (A0S) (fun v30 H=>?_) (fun _ n0 e0 t0=>?_)
 ·refine qA (Z [p 6 (O 14)] [(14,A 35 i64.sl v30 0)])<|vTT<|hr H
 refine qA (Z [p 0 (J a0),p 1 (L y48 a1),p 2 (L Ty.bool a2),p 7 (O 14),p 8 (O 16),p 9 (I 0)] [(16,A 4 Ty.bool (List.replicate a0.toNat false) 0),(14,A 35 i64.sl [] 0)])<|vB<|lX (fun((v14,v15,v16):Int×List Bool×List (List Int))=>Z (G7 a0 a1 a2 v14 []) (W26 v15 v16)) (0,List.replicate a0.toNat false,[]) H fun _ g1 b1 e1 t1 ⟨v14,v15,v16⟩ H=>vQ<|qA (Z (G7 a0 a1 a2 v14 [p 19 (B (decide (v14<a0)))]) (W26 v15 v16))<|cD H (fun H=>?_) (fun H=>?_)
 ·refine vK<|fQ<|jN r (fun((v28,v29):List Bool×List (List Int))=>Z (G7 a0 a1 a2 v14 []) (W26 v28 v29)) (p0f v14 g1) (fun⟨v28,v29⟩ H=>?_) (fun _ n2 e2 t2=>?_)
  ·refine zB (Z (G7 a0 a1 a2 (v14+1) []) (W26 v28 v29)) H fun H=>b1 H
  refine vB<|vQ<|qB (Z (G7 a0 a1 a2 v14 [p 25 (B (v15.getD v14.toNat false))]) (W26 v15 v16)) H fun H=>cD H (fun H=>?_) (fun H=>?_)
  ·exact vE<|fE<|fX rfl<|n2 H
  refine vK<|fQ<|qD (fun(v17,v18)=>Z (G7 a0 a1 a2 v14 [p 10 (O 30),p 11 (O 35)]) ((35,A 4 Ty.bool v17 0)::(30,A 4 Ty.bool v18 0)::W26 v15 v16)) H fun w H=>?_
  obtain⟨v17,v18⟩:=w;refine qA (Z (G7 a0 a1 a2 v14 [p 10 (O 30),p 11 (O 35),p 12 (O 36)]) ((36,A 2 i64 [] 0)::(35,A 4 Ty.bool v17 0)::(30,A 4 Ty.bool v18 0)::W26 v15 v16))<|jN r (fun((v26,v27):List Int×List Bool)=>Z (G7 a0 a1 a2 v14 [p 12 (O 36)]) ((36,A 2 i64 v26 0)::W26 v27 v16)) (q0w v14 v16 a1 a2 g1) (fun⟨v26,v27⟩ H=>?_) (fun _ n3 e3 t3=>?_)
  ·refine qB (Z (G7 a0 a1 a2 v14 [p 12 (O 36),p 67 (B (decide (1 < (v26.length:Int))||vl (A0o a1 a2 v14)))]) ((36,A 2 i64 v26 0)::W26 v27 v16)) H fun H=>cD H (fun H=>?_) (fun H=>?_)
   ·refine fZ 36 (Z (G7 a0 a1 a2 v14 [p 12 (M i64 v26),p 67 (B (decide (1 < (v26.length:Int))||vl (A0o a1 a2 v14)))]) (W26 v27 v16))<|zB (Z [p 0 (J a0),p 1 (L y48 a1),p 2 (L Ty.bool a2),p 7 (AV.os 14 1),p 8 (O 16),p 9 (I v14)] [(14,A 35 i64.sl (v16++[v26]) 1),(70,A 35 i64.sl [v26] 0),(16,A 4 Ty.bool v27 0)]) H fun H=>fK<|n2 H
   exact vK<|fK<|n2 H
  refine qA (Z (G7 a0 a1 a2 v14 [p 10 (O 30),p 11 (O 35),p 12 (O 36),p 13 (I 0)]) ((36,A 2 i64 [] 0)::(35,A 4 Ty.bool v17 0)::(30,A 4 Ty.bool v18 0)::W26 v15 v16))<|vB<|lX (fun((v21,v22,v23):Int×List Int×List Bool)=>Z (G7 a0 a1 a2 v14 [p 10 (O 30),p 11 (O 35),p 12 (O 36),p 13 (I v21)]) ((36,A 2 i64 v22 0)::(35,A 4 Ty.bool v17 0)::(30,A 4 Ty.bool v18 0)::W26 v23 v16)) (0,[],v15) H fun _ g4 b4 e4 t4 ⟨v21,v22,v23⟩ H=>vQ<|qA (Z (G7 a0 a1 a2 v14 [p 10 (O 30),p 11 (O 35),p 12 (O 36),p 13 (I v21),p 39 (B (decide (v21<a0)))]) ((36,A 2 i64 v22 0)::(35,A 4 Ty.bool v17 0)::(30,A 4 Ty.bool v18 0)::W26 v23 v16))<|cD H (fun H=>?_) (fun H=>?_)
  ·refine vK<|fQ<|jN r (fun((v24,v25):List Bool×List Int)=>Z (G7 a0 a1 a2 v14 [p 10 (O 30),p 11 (O 35),p 12 (O 36),p 13 (I v21)]) [(16,A 4 Ty.bool v24 0),(36,A 2 i64 v25 0),(35,A 4 Ty.bool v17 0),(30,A 4 Ty.bool v18 0),(14,A 35 i64.sl v16 0)]) (y0v v21 g4) (fun⟨v24,v25⟩ H=>?_) (fun _ n5 e5 t5=>?_)
   ·refine zB (Z (G7 a0 a1 a2 v14 [p 10 (O 30),p 11 (O 35),p 12 (O 36),p 13 (I (v21+1))]) [(16,A 4 Ty.bool v24 0),(36,A 2 i64 v25 0),(35,A 4 Ty.bool v17 0),(30,A 4 Ty.bool v18 0),(14,A 35 i64.sl v16 0)]) H fun H=>b4 H
   refine vB<|qB (Z (G7 a0 a1 a2 v14 [p 10 (O 30),p 11 (O 35),p 12 (O 36),p 13 (I v21),p 51 (B (v18.getD v21.toNat false&&v17.getD v21.toNat false))]) ((36,A 2 i64 v22 0)::(35,A 4 Ty.bool v17 0)::(30,A 4 Ty.bool v18 0)::W26 v23 v16)) H fun H=>cD H (fun H=>?_) (fun H=>?_)
   ·refine qB (Z (G7 a0 a1 a2 v14 [p 10 (O 30),p 11 (O 35),p 12 (AV.os 36 1),p 13 (I v21)]) ((36,A 2 i64 (v22++[v21]) 1)::(54,A 2 i64 [v21] 0)::(35,A 4 Ty.bool v17 0)::(30,A 4 Ty.bool v18 0)::W26 v23 v16)) H fun H=>zB (Z (G7 a0 a1 a2 v14 [p 10 (O 30),p 11 (O 35),p 12 (AV.os 36 1),p 13 (I v21)]) [(16,A 4 Ty.bool (v23.set v21.toNat true) 0),(36,A 2 i64 (v22++[v21]) 1),(54,A 2 i64 [v21] 0),(35,A 4 Ty.bool v17 0),(30,A 4 Ty.bool v18 0),(14,A 35 i64.sl v16 0)]) H fun H=>fK<|n5 H
   exact vK<|fK<|n5 H
  exact vE<|fE<|e4<|fX rfl<|n3 H
 exact vE<|fE<|e1<|fX rfl<|n0 H
def A0Q:List Int->Option (List Int)
 | v22 =>
 some v22
def y0s(v19:Int)(g6:Int×List Int->Option (List Int)):List Int->Option (List Int)
 | v21 =>
 gd (a0f (v19+1)/\True) <|
 g6 (v19+1,v21)
def A0N(v17:List Bool)(g6:Int×List Int->Option (List Int)):Int×List Int->Option (List Int)
 | (v19,v20) =>
 if(decide (v19 < (v17.length:Int)))=true then
  gd (ix v19 v17.length/\v19.toNat<v17.length/\True) <|
  if(!v17.getD v19.toNat false)=true then
   gd ((v20.length+[v19].length<=9223372036854775807/\(v20.length+[v19].length)*8<=140737488355328)/\True) <|
   y0s v19 g6 (v20++[v19])
  else
   y0s v19 g6 v20
 else
  A0Q v20
def q0u:List Bool->Option (List Int)
 | v17 =>
 lp (A0N v17) (0,[])
def q0t(v9:List Bool)(g1:List Bool->Option (List Int)):Int->Option (List Int)
 | v16 =>
 gd (ix v16 v9.length/\v16.toNat<v9.length/\True) <|
 g1 (v9.set v16.toNat false)
def t0D(v14:Int)(g3:Int×Int->Option (List Int)):Int->Option (List Int)
 | v15 =>
 gd (a0f (v14+1)/\True) <|
 g3 (v15,v14+1)
def A0O(v9:List Bool)(v0:List Y48)(v10:List (List Int))(g1:List Bool->Option (List Int))(g3:Int×Int->Option (List Int)):Int×Int->Option (List Int)
 | (v13,v14) =>
 if(decide (v14 < (v0.length:Int)))=true then
  gd (ix v14 v9.length/\v14.toNat<v9.length/\(v9.getD v14.toNat false=true/\True->ix v14 v0.length)/\(v9.getD v14.toNat false=true/\True->v14.toNat<v0.length)/\((v9.getD v14.toNat false&&(v0.getD v14.toNat (a0a y48)).2.2.1==(1:Int))=true/\True->ix (0:Int) v10.length)/\((v9.getD v14.toNat false&&(v0.getD v14.toNat (a0a y48)).2.2.1==(1:Int))=true/\True->Int.toNat (0:Int)<v10.length)/\((v9.getD v14.toNat false&&(v0.getD v14.toNat (a0a y48)).2.2.1==(1:Int))=true/\True->ix v14 v0.length)/\((v9.getD v14.toNat false&&(v0.getD v14.toNat (a0a y48)).2.2.1==(1:Int))=true/\True->v14.toNat<v0.length)/\((v9.getD v14.toNat false&&(v0.getD v14.toNat (a0a y48)).2.2.1==(1:Int))=true/\True->(g0R (v10.getD (Int.toNat (0:Int)) []) (v0.getD v14.toNat (a0a y48)).1).isSome=true)/\((v9.getD v14.toNat false&&(v0.getD v14.toNat (a0a y48)).2.2.1==(1:Int)&&vl (g0R (v10.getD (Int.toNat (0:Int)) []) (v0.getD v14.toNat (a0a y48)).1))=true/\True->ix (0:Int) v10.length)/\((v9.getD v14.toNat false&&(v0.getD v14.toNat (a0a y48)).2.2.1==(1:Int)&&vl (g0R (v10.getD (Int.toNat (0:Int)) []) (v0.getD v14.toNat (a0a y48)).1))=true/\True->Int.toNat (0:Int)<v10.length)/\((v9.getD v14.toNat false&&(v0.getD v14.toNat (a0a y48)).2.2.1==(1:Int)&&vl (g0R (v10.getD (Int.toNat (0:Int)) []) (v0.getD v14.toNat (a0a y48)).1))=true/\True->ix v14 v0.length)/\((v9.getD v14.toNat false&&(v0.getD v14.toNat (a0a y48)).2.2.1==(1:Int)&&vl (g0R (v10.getD (Int.toNat (0:Int)) []) (v0.getD v14.toNat (a0a y48)).1))=true/\True->v14.toNat<v0.length)/\((v9.getD v14.toNat false&&(v0.getD v14.toNat (a0a y48)).2.2.1==(1:Int)&&vl (g0R (v10.getD (Int.toNat (0:Int)) []) (v0.getD v14.toNat (a0a y48)).1))=true/\True->(g0R (v10.getD (Int.toNat (0:Int)) []) (v0.getD v14.toNat (a0a y48)).2.1).isSome=true)/\True) <|
  if(v9.getD v14.toNat false&&(v0.getD v14.toNat (a0a y48)).2.2.1==(1:Int)&&vl (g0R (v10.getD (Int.toNat (0:Int)) []) (v0.getD v14.toNat (a0a y48)).1)&&vl (g0R (v10.getD (Int.toNat (0:Int)) []) (v0.getD v14.toNat (a0a y48)).2.1))=true then
   t0D v14 g3 v14
  else
   t0D v14 g3 v13
 else
  q0t v9 g1 v13
def A0P(v0:List Y48)(v2:Int)(g1:List Bool->Option (List Int)):List Bool->Option (List Int)
 | v9 =>
 gd ((u82 v2 v0 v9).isSome=true/\True)<|lt (vl (u82 v2 v0 v9)) fun v10 =>
 if((v10.length:Int)==0)=true then
  q0u v9
 else
  lp (A0O v9 v0 v10 g1) (-1,0)
def u86(a0:Y34):Option (List Int) :=
 gd ((u59 a0).isSome=true/\True)<|lt (vl (u59 a0)) fun v0 =>
 gd ((u62 v0 []).isSome=true/\True)<|lt (vl (u62 v0 [])) fun v1 =>
 gd ((u61 a0).isSome=true/\True)<|lt (vl (u61 a0)) fun v2 =>
 lp (A0P v0 v2) v1
def k86:Ct:=lct 86 [.agg y34] (fun x=>u86 x.1) (fun r:List Int=>AV.ow 2 true i64 r) (fun _=>())
theorem o86:Ok prog k86:=by
 refine okL [.tmp 2] func86 ntmps86 results86 ?_;intro y ⟨a0,_⟩ r H Q hn hr;have:HT _ _:=⟨tc F0L (tc o82 (tc o61 (tc o62 (tc o59 tn))))⟩;refine qA (Z [p 1 (R 1)] [(1,K 34 y34 a0)])<|qD (fun v0=>Z [p 1 (R 1),p 3 (O 12)] [(12,A 48 y48 v0 0),(1,K 34 y34 a0)]) H fun v0 H=>qD (fun v1=>Z [p 1 (R 1),p 3 (O 12),p 4 (O 15)] [(15,A 4 Ty.bool v1 0),(14,A 2 i64 [] 0),(12,A 48 y48 v0 0),(1,K 34 y34 a0)]) H fun v1 H=>qD (fun v2=>Z [p 3 (O 12),p 4 (O 15),p 5 (I v2)] [(15,A 4 Ty.bool v1 0),(14,A 2 i64 [] 0),(12,A 48 y48 v0 0),(1,K 34 y34 a0)]) H fun v2 H=>jN r (fun(v17:List Bool)=>Z [p 4 (O 15)] [(15,A 4 Ty.bool v17 0)]) (q0u) (fun v17 H=>?_) (fun _ n0 e0 t0=>?_)
 ·refine qA (Z [p 4 (O 15),p 9 (O 69)] [(69,A 2 i64 [] 0),(15,A 4 Ty.bool v17 0)])<|jN r (fun(v22:List Int)=>Z [p 9 (O 69)] [(69,A 2 i64 v22 0)]) (A0Q) (fun v22 H=>?_) (fun _ n5 e5 t5=>?_)
  ·refine qA (Z [p 2 (O 69)] [(69,A 2 i64 v22 0)])<|vTT<|hr H
  refine qA (Z [p 4 (O 15),p 9 (O 69),p 10 (I 0)] [(69,A 2 i64 [] 0),(15,A 4 Ty.bool v17 0)])<|vB<|lX (fun((v19,v20):Int×List Int)=>Z [p 4 (O 15),p 9 (O 69),p 10 (I v19)] [(69,A 2 i64 v20 0),(15,A 4 Ty.bool v17 0)]) (0,[]) H fun _ g6 b6 e6 t6 ⟨v19,v20⟩ H=>vQ<|qA (Z [p 4 (O 15),p 9 (O 69),p 10 (I v19),p 73 (B (decide (v19 < (v17.length:Int))))] [(69,A 2 i64 v20 0),(15,A 4 Ty.bool v17 0)])<|cD H (fun H=>?_) (fun H=>?_)
  ·refine vK<|fQ<|jN r (fun(v21:List Int)=>Z [p 4 (O 15),p 9 (O 69),p 10 (I v19)] [(69,A 2 i64 v21 0),(15,A 4 Ty.bool v17 0)]) (y0s v19 g6) (fun v21 H=>?_) (fun _ n7 e7 t7=>?_)
   ·refine zB (Z [p 4 (O 15),p 9 (O 69),p 10 (I (v19+1))] [(69,A 2 i64 v21 0),(15,A 4 Ty.bool v17 0)]) H fun H=>b6 H
   refine vB<|qB (Z [p 4 (O 15),p 9 (O 69),p 10 (I v19),p 80 (B !v17.getD v19.toNat false)] [(69,A 2 i64 v20 0),(15,A 4 Ty.bool v17 0)]) H fun H=>cD H (fun H=>?_) (fun H=>?_)
   ·refine zB (Z [p 4 (O 15),p 9 (AV.os 69 1),p 10 (I v19)] [(69,A 2 i64 (v20++[v19]) 1),(83,A 2 i64 [v19] 0),(15,A 4 Ty.bool v17 0)]) H fun H=>fK<|n7 H
   exact vK<|fK<|n7 H
  exact vE<|fE<|e6<|fX rfl<|n5 H
 refine vB<|lX (fun(v9:List Bool)=>Z [p 3 (O 12),p 4 (O 15),p 5 (I v2)] [(15,A 4 Ty.bool v9 0),(12,A 48 y48 v0 0)]) v1 H fun _ g1 b1 e1 t1 v9 H=>vB<|qD (fun v10=>Z (G40 v2 []) (W29 v10 v9 v0)) H fun v10 H=>vQ<|qA (Z (G40 v2 [p 24 (B ((v10.length:Int)==0))]) (W29 v10 v9 v0))<|cD H (fun H=>?_) (fun H=>?_)
 ·exact vE<|fE<|l0C rfl<|e1<|fX rfl<|n0 H
 refine vK<|fQ<|qA (Z (G40 v2 [p 7 (I (-1))]) (W29 v10 v9 v0))<|jN r (fun(v16:Int)=>Z [p 3 (O 12),p 4 (O 15),p 5 (I v2),p 7 (I v16)] [(15,A 4 Ty.bool v9 0),(12,A 48 y48 v0 0)]) (q0t v9 g1) (fun v16 H=>?_) (fun _ n2 e2 t2=>?_)
 ·refine zB (Z [p 3 (O 12),p 4 (O 15),p 5 (I v2)] [(15,A 4 Ty.bool (v9.set v16.toNat false) 0),(12,A 48 y48 v0 0)]) H fun H=>fK<|b1 H
 refine qA (Z (G40 v2 [p 7 (I (-1)),p 8 (I 0)]) (W29 v10 v9 v0))<|vB<|lX (fun((v13,v14):Int×Int)=>Z (G40 v2 [p 7 (I v13),p 8 (I v14)]) (W29 v10 v9 v0)) (-1,0) H fun _ g3 b3 e3 t3 ⟨v13,v14⟩ H=>vQ<|qA (Z (G40 v2 [p 7 (I v13),p 8 (I v14),p 28 (B (decide (v14 < (v0.length:Int))))]) (W29 v10 v9 v0))<|cD H (fun H=>?_) (fun H=>?_)
 ·refine vK<|fQ<|jN r (fun(v15:Int)=>Z (G40 v2 [p 7 (I v15),p 8 (I v14)]) (W29 v10 v9 v0)) (t0D v14 g3) (fun v15 H=>?_) (fun _ n4 e4 t4=>?_)
  ·refine zB (Z (G40 v2 [p 7 (I v15),p 8 (I (v14+1))]) (W29 v10 v9 v0)) H fun H=>b3 H
  refine vB<|qB (Z (G40 v2 [p 7 (I v13),p 8 (I v14),p 64 (B (v9.getD v14.toNat false&&(v0.getD v14.toNat (a0a y48)).2.2.1==(1:Int)&&vl (g0R (v10.getD (Int.toNat (0:Int)) []) (v0.getD v14.toNat (a0a y48)).1)&&vl (g0R (v10.getD (Int.toNat (0:Int)) []) (v0.getD v14.toNat (a0a y48)).2.1)))]) (W29 v10 v9 v0)) H fun H=>cD H (fun H=>?_) (fun H=>?_)
  ·refine zA (Z (G40 v2 [p 7 (I v14),p 8 (I v14)]) (W29 v10 v9 v0))<|fK<|n4 H
  exact vK<|fK<|n4 H
 exact vE<|fE<|e3<|fX rfl<|n2 H
def u39(a0:Y34):Option (List Int×Int) :=
 gd ((u23 a0).isSome=true/\True) <|
 if(!vl (u23 a0))=true then
  some (([],(1:Int)))
 else
  gd ((u86 a0).isSome=true/\True)<|lt (vl (u86 a0)) fun v0 =>
  some ((v0,(0:Int)))
def k39:Ct:=lct 39 [.agg y34] (fun x=>u39 x.1) (fun r:List Int×Int=>AV.tup [AV.ow 2 true i64 r.1,I r.2]) (fun _=>())
theorem o39:Ok prog k39:=by
 refine okL [.tmp 2,.tmp 3] func39 ntmps39 results39 ?_;intro y ⟨a0,_⟩ r H Q hn hr;have:HT _ _:=⟨tc o86 (tc o23 tn)⟩;refine qA (Z [p 1 (R 1)] [(1,K 34 y34 a0)])<|vQ<|qB (Z [p 1 (R 1),p 6 (B !vl (u23 a0))] [(1,K 34 y34 a0)]) H fun H=>cD H (fun H=>?_) (fun H=>?_)
 ·refine qA (Z [p 2 (O 7),p 3 (I 1)] [(7,A 2 i64 [] 0),(1,K 34 y34 a0)])<|vTT<|fR<|hr H
 refine vK<|fQ<|qD (fun v0=>Z [p 2 (O 9),p 3 (I 0)] [(9,A 2 i64 v0 0),(1,K 34 y34 a0)]) H fun v0 H=>vTT<|hr H
def h0V(a0:List Int):Option (List Int) :=
 gd ((0+a0.length<=9223372036854775807/\(0+a0.length)*8<=140737488355328)/\True) <|
 some ([]++a0)
def J0R:Ct:=lct 169 [.dat i64.sl] (fun x=>h0V x.1) (fun r:List Int=>AV.ow 2 true i64 r) (fun _=>())
theorem F0H:Ok prog J0R:=by
 refine okL [.tmp 2] func169 ntmps169 results169 ?_;intro y ⟨a0,_⟩ r H Q hn hr;have:HT _ _:=⟨@tn prog⟩;refine qA (Z [p 0 (L i64 a0)] [])<|qB (Z [p 2 (AV.os 3 1)] [(3,A 2 i64 ([]++a0) 1)]) H fun H=>vTT<|hr H
def B0z(a0:List Int):Int->Option (List Int×Int×Int)
 | v3 =>
 some ((a0,(0:Int),v3))
def B0y(a0:List Int)(g1:Int×Int->Option (List Int×Int×Int)):Int×Int->Option (List Int×Int×Int)
 | (v1,v2) =>
 if(decide (v1 < (a0.length:Int))&&decide (v1<64))=true then
  gd (a0f (v2*(31:Int))/\ix v1 a0.length/\True/\a0f (v2*(31:Int)+a0.getD v1.toNat (0:Int))/\(0:Int) < (2147483647:Int)/\True) <|
  gd (a0f (v1+1)/\True) <|
  g1 ((v1+1,(v2*31+a0.getD v1.toNat 0).tmod 2147483647))
 else
  B0z a0 v2
def u53(a0:List Int):Option (List Int×Int×Int) :=
 lp (B0y a0) (0,12345)
def k53:Ct:=lct 53 [.dat (b8.sl)] (fun x=>u53 x.1) (fun r:List Int×Int×Int=>AV.ob 152 [L b8 r.1,I r.2.1,I r.2.2]) (fun _=>())
theorem o53:Ok prog k53:=by
 refine okL [.tmp 2] func53 ntmps53 results53 ?_;intro y ⟨a0,_⟩ r H Q hn hr;have:HT _ _:=⟨@tn prog⟩;refine qA (Z [p 0 (L b8 a0)] [])<|qA (Z [p 0 (L b8 a0),p 3 (R 7)] [(7,bx 152 [L b8 a0,I 0,I 12345])])<|jN r (fun(v3:Int)=>Z [p 3 (R 7)] [(7,bx 152 [L b8 a0,I 0,I v3])]) (B0z a0) (fun v3 H=>?_) (fun _ n0 e0 t0=>?_)
 ·refine qA (Z [p 2 (R 7)] [(7,bx 152 [L b8 a0,I 0,I v3])])<|vTT<|hr H
 refine qA (Z [p 0 (L b8 a0),p 3 (R 7),p 4 (I 0)] [(7,bx 152 [L b8 a0,I 0,I 12345])])<|vB<|lX (fun((v1,v2):Int×Int)=>Z [p 0 (L b8 a0),p 3 (R 7),p 4 (I v1)] [(7,bx 152 [L b8 a0,I 0,I v2])]) (0,12345) H fun _ g1 b1 e1 t1 ⟨v1,v2⟩ H=>vQ<|qA (Z [p 0 (L b8 a0),p 3 (R 7),p 4 (I v1),p 15 (B (decide (v1 < (a0.length:Int))&&decide (v1<64)))] [(7,bx 152 [L b8 a0,I 0,I v2])])<|cD H (fun H=>?_) (fun H=>?_)
 ·refine vK<|fQ<|vQ<|vB<|zB (Z [p 0 (L b8 a0),p 3 (R 7),p 4 (I v1)] [(7,bx 152 [L b8 a0,I 0,I ((v2*31+a0.getD v1.toNat 0).tmod 2147483647)])]) H fun H=>fK<|fQ<|zB (Z [p 0 (L b8 a0),p 3 (R 7),p 4 (I (v1+1))] [(7,bx 152 [L b8 a0,I 0,I ((v2*31+a0.getD v1.toNat 0).tmod 2147483647)])]) H fun H=>b1 H
 exact vE<|fE<|e1<|fX rfl<|n0 H
def u88(a0:a0u)(a1:Int):Option (Int×a0u) :=
 if(decide (a1<=1))=true then
  some (((0:Int),a0))
 else
  if(decide (a0.2.1 < (a0.1.length:Int)))=true then
   gd (ix a0.2.1 a0.1.length/\True/\True) <|
   gd (a0f (a0.2.1+1)/\True) <|
   if(decide (a1<=256))=true then
    gd (0<a1/\True) <|
    some ((Int.tmod (a0.1.getD a0.2.1.toNat 0) a1,a0.1,a0.2.1+1,a0.2.2))
   else
    gd (a0f (a0.2.2*(48271:Int))/\a0f (a0.2.2*(48271:Int)+a0.1.getD a0.2.1.toNat (0:Int))/\a0f (a0.2.2*(48271:Int)+a0.1.getD a0.2.1.toNat (0:Int)+(1:Int))/\(0:Int) < (2147483647:Int)/\True)<|lt ((a0.2.2*48271+a0.1.getD a0.2.1.toNat 0+1).tmod 2147483647) fun v0 =>
    gd (0<a1/\True) <|
    some (v0.tmod a1,a0.1,a0.2.1+1,v0)
  else
   gd (a0f (a0.2.2*(48271:Int))/\a0f (a0.2.2*(48271:Int)+(11:Int))/\(0:Int) < (2147483647:Int)/\True) <|
   gd ((0:Int) < (7:Int)/\(0:Int)<a1/\True) <|
   some (((((a0.2.2*48271+11).tmod 2147483647).tdiv 7).tmod a1,a0.1,a0.2.1,(a0.2.2*48271+11).tmod 2147483647))
def k88:Ct:=lct 88 [.io 152 a0n,.dat i64] (fun x=>u88 x.1 x.2.1) (fun r:Int×a0u=>I r.1) (fun r=>r.2)
theorem o88:Ok prog k88:=by
 refine okL [.tmp 4] func88 ntmps88 results88 ?_;intro y ⟨a0,a1,_⟩ r H Q hn hr;have:HT _ _:=⟨@tn prog⟩;refine qA (Z (G12 a1 []) [(500000,K 152 a0n a0)])<|vQ<|qA (Z (G12 a1 [p 7 (B (decide (a1<=1)))]) [(500000,K 152 a0n a0)])<|cD H (fun H=>?_) (fun H=>?_)
 ·refine qA (Z [p 4 (I 0)] [(500000,K 152 a0n a0)])<|vTT<|fR<|hr H
 refine vK<|fQ<|vQ<|qA (Z (G12 a1 [p 17 (B (decide (a0.2.1 < (a0.1.length:Int))))]) [(500000,K 152 a0n a0)])<|cD H (fun H=>?_) (fun H=>?_)
 ·refine qB (Z (G12 a1 [p 5 (I (a0.1.getD a0.2.1.toNat 0))]) [(500000,K 152 a0n a0)]) H fun H=>qB (Z (G12 a1 [p 5 (I (a0.1.getD a0.2.1.toNat 0))]) [(500000,bx 152 [L b8 a0.1,I (a0.2.1+1),J a0.2.2])]) H fun H=>vQ<|qA (Z (G12 a1 [p 5 (I (a0.1.getD a0.2.1.toNat 0)),p 37 (B (decide (a1<=256)))]) [(500000,bx 152 [L b8 a0.1,I (a0.2.1+1),J a0.2.2])])<|cD H (fun H=>?_) (fun H=>?_)
  ·refine qB (Z [p 4 (I (Int.tmod (a0.1.getD a0.2.1.toNat 0) a1))] [(500000,bx 152 [L b8 a0.1,I (a0.2.1+1),J a0.2.2])]) H fun H=>vTT<|fR<|fR<|hr H
  refine vK<|fQ<|qD (fun v0=>Z (G12 a1 []) [(500000,bx 152 [L b8 a0.1,I (a0.2.1+1),I v0])]) H fun v0 H=>qB (Z [p 4 (I (v0.tmod a1))] [(500000,bx 152 [L b8 a0.1,I (a0.2.1+1),I v0])]) H fun H=>vTT<|fR<|hr H
 refine vK<|fQ<|qB (Z (G12 a1 []) [(500000,bx 152 [L b8 a0.1,J a0.2.1,I ((a0.2.2*48271+11).tmod 2147483647)])]) H fun H=>qB (Z [p 4 (I ((((a0.2.2*48271+11).tmod 2147483647).tdiv 7).tmod a1))] [(500000,bx 152 [L b8 a0.1,J a0.2.1,I ((a0.2.2*48271+11).tmod 2147483647)])]) H fun H=>vTT<|hr H
def w0b:List Int×Int×Int×List Int->Option (List Int×a0u)
 | (v10,v11,v12,v13) =>
 some (v13,v10,v11,v12)
def w0a(a1:Int)(g1:Int×Int×List Int×Int×Int×List Int->Option (List Int×a0u)):Int×Int×List Int×Int×Int×List Int->Option (List Int×a0u)
 | (v3,v4,v5,v6,v7,v8) =>
 if(decide (0<v4))=true then
  gd ((v8.length+[v3].length<=9223372036854775807/\(v8.length+[v3].length)*8<=140737488355328)/\True) <|
  gd (a0f (v3+1)/\(u88 (v5,v6,v7) a1).isSome=true/\a0f (v3+1+(vl (u88 (v5,v6,v7) a1)).1)/\True)<|lt (vl (u88 (v5,v6,v7) a1)) fun v9 =>
  gd (a0f (v4-1)/\True) <|
  g1 (v3+1+v9.1,v4-1,v9.2.1,v9.2.2.1,v9.2.2.2,v8++[v3])
 else
  w0b (v5,v6,v7,v8)
def y0J(a0:a0u)(a1:Int):Option (List Int×a0u) :=
 gd ((u88 a0 a1).isSome=true/\True)<|lt (vl (u88 a0 a1)) fun v0 =>
 gd ((u88 v0.2 3).isSome=true/\a0f (1+(vl (u88 v0.2 3)).1)/\True)<|lt (vl (u88 v0.2 3)) fun v1 =>
 lp (w0a a1) (v0.1,1+v1.1,v1.2.1,v1.2.2.1,v1.2.2.2,[])
def I0P:Ct:=lct 278 [.io 152 a0n,.dat i64] (fun x=>y0J x.1 x.2.1) (fun r:List Int×a0u=>AV.ow 2 true i64 r.1) (fun r=>r.2)
theorem H0B:Ok prog I0P:=by
 refine okL [.tmp 4] func278 ntmps278 results278 ?_;intro y ⟨a0,a1,_⟩ r H Q hn hr;have:HT _ _:=⟨tc o88 tn⟩;refine qA (Z (G12 a1 []) [(500000,K 152 a0n a0)])<|qA (Z (G12 a1 [p 5 (O 8)]) [(8,A 2 i64 [] 0),(500000,K 152 a0n a0)])<|qD (fun v0=>Z (G12 a1 [p 5 (O 8),p 6 (I v0.1)]) [(500000,K 152 a0n v0.2),(8,A 2 i64 [] 0)]) H fun v0 H=>jN r (fun((v10,v11,v12,v13):List Int×Int×Int×List Int)=>Z [p 5 (O 8)] [(500000,bx 152 (Q63 v10 v11 v12)),(8,A 2 i64 v13 0)]) (w0b) (fun⟨v10,v11,v12,v13⟩ H=>?_) (fun _ n0 e0 t0=>?_)
 ·refine qA (Z [p 4 (O 8)] [(500000,bx 152 (Q63 v10 v11 v12)),(8,A 2 i64 v13 0)])<|vTT<|hr H
 refine qD (fun v1=>Z (G12 a1 [p 5 (O 8),p 6 (I v0.1),p 7 (I (1+v1.1))]) [(500000,K 152 a0n v1.2),(8,A 2 i64 [] 0)]) H fun v1 H=>vB<|lX (fun((v3,v4,v5,v6,v7,v8):Int×Int×List Int×Int×Int×List Int)=>Z (G12 a1 [p 5 (O 8),p 6 (I v3),p 7 (I v4)]) [(500000,bx 152 [L b8 v5,J v6,J v7]),(8,A 2 i64 v8 0)]) (v0.1,1+v1.1,v1.2.1,v1.2.2.1,v1.2.2.2,[]) H fun _ g1 b1 e1 t1 ⟨v3,v4,v5,v6,v7,v8⟩ H=>vQ<|qA (Z (G12 a1 [p 5 (O 8),p 6 (I v3),p 7 (I v4),p 16 (B (decide (0<v4)))]) [(500000,bx 152 [L b8 v5,J v6,J v7]),(8,A 2 i64 v8 0)])<|cD H (fun H=>?_) (fun H=>?_)
 ·refine vK<|fQ<|vQ<|vB<|qB (Z (G12 a1 [p 5 (AV.os 8 1),p 6 (I v3),p 7 (I v4)]) [(8,A 2 i64 (v8++[v3]) 1),(21,A 2 i64 [v3] 0),(500000,bx 152 [L b8 v5,J v6,J v7])]) H fun H=>zD (fun v9=>Z (G12 a1 [p 5 (AV.os 8 1),p 6 (I (v3+1+v9.1)),p 7 (I v4)]) [(500000,K 152 a0n v9.2),(8,A 2 i64 (v8++[v3]) 1),(21,A 2 i64 [v3] 0)]) H fun v9 H=>fK<|fQ<|zB (Z (G12 a1 [p 5 (AV.os 8 1),p 6 (I (v3+1+v9.1)),p 7 (I (v4-1))]) [(500000,K 152 a0n v9.2),(8,A 2 i64 (v8++[v3]) 1),(21,A 2 i64 [v3] 0)]) H fun H=>b1 H
 exact vE<|fE<|e1<|fX rfl<|n0 H
def w0f(v0:List Int×a0u)(v1:List Int×a0u):List Int×List Int×Int×Int->Option (d0O×a0u)
 | (v31,v32,v33,v34) =>
 some (((v0.1,v1.1,v31),v32,v33,v34))
def k0m(v14:Int)(v15:List Int)(g1:Int×List Int×List Int×Int×Int->Option (d0O×a0u)):Int×List Int×Int×Int->Option (d0O×a0u)
 | (v27,v28,v29,v30) =>
 gd ((v15.length+[v27].length<=9223372036854775807/\(v15.length+[v27].length)*8<=140737488355328)/\True) <|
 gd (a0f (v14+1)/\True) <|
 g1 (v14+1,v15++[v27],v28,v29,v30)
def k0n(v14:Int)(v15:List Int)(v1:List Int×a0u)(g1:Int×List Int×List Int×Int×Int->Option (d0O×a0u)):Int×List Int×Int×Int->Option (d0O×a0u)
 | (v21,v22,v23,v24) =>
 if(decide ((v1.1.length:Int)<=v14))=true then
  gd (a0f (v14-(v1.1.length:Int))/\ix (v14-(v1.1.length:Int)) v15.length/\(v14-(v1.1.length:Int)).toNat<v15.length/\(u88 (v22,v23,v24) 20).isSome=true/\a0f (v15.getD (v14-(v1.1.length:Int)).toNat 0+(vl (u88 (v22,v23,v24) 20)).1)/\True)<|lt ((vl (u88 (v22,v23,v24) 20),max v21 (v15.getD (v14-(v1.1.length:Int)).toNat 0+(vl (u88 (v22,v23,v24) 20)).1))) fun(v25,v26) =>
  k0m v14 v15 g1 (v26,v25.2.1,v25.2.2.1,v25.2.2.2)
 else
  k0m v14 v15 g1 (v21,v22,v23,v24)
def w0e(v1:List Int×a0u)(a1:Int)(v0:List Int×a0u)(g1:Int×List Int×List Int×Int×Int->Option (d0O×a0u)):Int×List Int×List Int×Int×Int->Option (d0O×a0u)
 | (v14,v15,v16,v17,v18) =>
 gd (a0f ((v0.1.length:Int)*(v1.1.length:Int))/\True) <|
 if(decide (v14 < (v0.1.length:Int)*(v1.1.length:Int)))=true then
  gd ((u88 (v16,v17,v18) 10).isSome=true/\a0f (a1+(vl (u88 (v16,v17,v18) 10)).1)/\True)<|lt (vl (u88 (v16,v17,v18) 10)) fun v19 =>
  gd (0 < (v1.1.length:Int)/\True) <|
  if(decide (0<v14.tmod (v1.1.length:Int)))=true then
   gd (a0f (v14-1)/\ix (v14-1) v15.length/\(v14-1).toNat<v15.length/\(u88 v19.2 20).isSome=true/\a0f (v15.getD (v14-1).toNat 0+(vl (u88 v19.2 20)).1)/\True)<|lt (vl (u88 v19.2 20)) fun v20 =>
   k0n v14 v15 v1 g1 ((max (a1+v19.1) (v15.getD (v14-1).toNat 0+v20.1),v20.2.1,v20.2.2.1,v20.2.2.2))
  else
   k0n v14 v15 v1 g1 (a1+v19.1,v19.2.1,v19.2.2.1,v19.2.2.2)
 else
  w0f v0 v1 (v15,v16,v17,v18)
def w0g(a0:a0u)(a1:Int):Option (d0O×a0u) :=
 gd ((y0J a0 60).isSome=true/\True)<|lt (vl (y0J a0 60)) fun v0 =>
 gd ((y0J v0.2 40).isSome=true/\True)<|lt (vl (y0J v0.2 40)) fun v1 =>
 lp (w0e v1 a1 v0) (0,[],v1.2.1,v1.2.2.1,v1.2.2.2)
def I0W:Ct:=lct 270 [.io 152 a0n,.dat i64] (fun x=>w0g x.1 x.2.1) (fun r:d0O×a0u=>AV.agg [AV.ow 2 true i64 r.1.1,AV.ow 2 true i64 r.1.2.1,AV.ow 2 true i64 r.1.2.2]) (fun r=>r.2)
theorem H0H:Ok prog I0W:=by
 refine okL [.cell 4 140] func270 ntmps270 results270 ?_;intro y ⟨a0,a1,_⟩ r H Q hn hr;have:HT _ _:=⟨tc o88 (tc H0B tn)⟩;refine qA (Z (G12 a1 [p 4 (R 4)]) [(4,bx 140 [nil,nil,nil]),(500000,K 152 a0n a0)])<|qD (fun v0=>Z (G12 a1 [p 4 (R 4),p 5 (O 12)]) [(12,A 2 i64 v0.1 0),(500000,K 152 a0n v0.2),(4,bx 140 [nil,nil,nil])]) H fun v0 H=>qD (fun v1=>Z (G12 a1 [p 4 (R 4),p 5 (O 12),p 6 (O 14)]) ((14,A 2 i64 v1.1 0)::(500000,K 152 a0n v1.2)::W18 v0.1)) H fun v1 H=>qA (Z (G12 a1 [p 4 (R 4),p 5 (O 12),p 6 (O 14),p 7 (O 15)]) ((15,A 2 i64 [] 0)::(14,A 2 i64 v1.1 0)::(500000,K 152 a0n v1.2)::W18 v0.1))<|qA (Z (G12 a1 [p 4 (R 4),p 5 (O 12),p 6 (O 14),p 7 (O 15),p 8 (I (v1.1.length:Int))]) ((15,A 2 i64 [] 0)::(14,A 2 i64 v1.1 0)::(500000,K 152 a0n v1.2)::W18 v0.1))<|jN r (fun((v31,v32,v33,v34):List Int×List Int×Int×Int)=>Z [p 4 (R 4),p 5 (O 12),p 6 (O 14),p 7 (O 15)] ((15,A 2 i64 v31 0)::(14,A 2 i64 v1.1 0)::(500000,bx 152 (Q63 v32 v33 v34))::W18 v0.1)) (w0f v0 v1) (fun⟨v31,v32,v33,v34⟩ H=>?_) (fun _ n0 e0 t0=>?_)
 ·refine qA (Z [p 4 (R 4)] [(4,bx 140 [AV.os 12 0,AV.os 14 0,AV.os 15 0]),(15,A 2 i64 v31 0),(14,A 2 i64 v1.1 0),(500000,bx 152 (Q63 v32 v33 v34)),(12,A 2 i64 v0.1 0)])<|vTT<|hr H
 refine qA (Z (G12 a1 [p 4 (R 4),p 5 (O 12),p 6 (O 14),p 7 (O 15),p 8 (I (v1.1.length:Int)),p 9 (I 0)]) ((15,A 2 i64 [] 0)::(14,A 2 i64 v1.1 0)::(500000,K 152 a0n v1.2)::W18 v0.1))<|vB<|lX (fun((v14,v15,v16,v17,v18):Int×List Int×List Int×Int×Int)=>Z (G12 a1 [p 4 (R 4),p 5 (O 12),p 6 (O 14),p 7 (O 15),p 8 (I (v1.1.length:Int)),p 9 (I v14)]) ((15,A 2 i64 v15 0)::(14,A 2 i64 v1.1 0)::(500000,bx 152 (Q63 v16 v17 v18))::W18 v0.1)) (0,[],v1.2.1,v1.2.2.1,v1.2.2.2) H fun _ g1 b1 e1 t1 ⟨v14,v15,v16,v17,v18⟩ H=>vQ<|qB (Z (G12 a1 [p 4 (R 4),p 5 (O 12),p 6 (O 14),p 7 (O 15),p 8 (I (v1.1.length:Int)),p 9 (I v14),p 23 (B (decide (v14 < (v0.1.length:Int)*(v1.1.length:Int))))]) ((15,A 2 i64 v15 0)::(14,A 2 i64 v1.1 0)::(500000,bx 152 (Q63 v16 v17 v18))::W18 v0.1)) H fun H=>cD H (fun H=>?_) (fun H=>?_)
 ·refine vK<|fQ<|vQ<|vB<|qD (fun v19=>Z (G12 a1 [p 4 (R 4),p 5 (O 12),p 6 (O 14),p 7 (O 15),p 8 (I (v1.1.length:Int)),p 9 (I v14),p 10 (I (a1+v19.1))]) ((500000,K 152 a0n v19.2)::(15,A 2 i64 v15 0)::(14,A 2 i64 v1.1 0)::W18 v0.1)) H fun v19 H=>jN r (fun((v21,v22,v23,v24):Int×List Int×Int×Int)=>Z (G12 a1 [p 4 (R 4),p 5 (O 12),p 6 (O 14),p 7 (O 15),p 8 (I (v1.1.length:Int)),p 9 (I v14),p 10 (I v21)]) ((500000,bx 152 (Q63 v22 v23 v24))::(15,A 2 i64 v15 0)::(14,A 2 i64 v1.1 0)::W18 v0.1)) (k0n v14 v15 v1 g1) (fun⟨v21,v22,v23,v24⟩ H=>?_) (fun _ n2 e2 t2=>?_)
  ·refine jN r (fun((v27,v28,v29,v30):Int×List Int×Int×Int)=>Z (G12 a1 [p 4 (R 4),p 5 (O 12),p 6 (O 14),p 7 (O 15),p 8 (I (v1.1.length:Int)),p 9 (I v14),p 10 (I v27)]) ((500000,bx 152 (Q63 v28 v29 v30))::(15,A 2 i64 v15 0)::(14,A 2 i64 v1.1 0)::W18 v0.1)) (k0m v14 v15 g1) (fun⟨v27,v28,v29,v30⟩ H=>?_) (fun _ n3 e3 t3=>?_)
   ·refine zB (Z (G12 a1 [p 4 (R 4),p 5 (O 12),p 6 (O 14),p 7 (AV.os 15 1),p 8 (I (v1.1.length:Int)),p 9 (I v14)]) ((15,A 2 i64 (v15++[v27]) 1)::(60,A 2 i64 [v27] 0)::(500000,bx 152 (Q63 v28 v29 v30))::(14,A 2 i64 v1.1 0)::W18 v0.1)) H fun H=>fK<|fQ<|zB (Z (G12 a1 [p 4 (R 4),p 5 (O 12),p 6 (O 14),p 7 (AV.os 15 1),p 8 (I (v1.1.length:Int)),p 9 (I (v14+1))]) ((15,A 2 i64 (v15++[v27]) 1)::(60,A 2 i64 [v27] 0)::(500000,bx 152 (Q63 v28 v29 v30))::(14,A 2 i64 v1.1 0)::W18 v0.1)) H fun H=>b1 H
   refine qA (Z (G12 a1 [p 4 (R 4),p 5 (O 12),p 6 (O 14),p 7 (O 15),p 8 (I (v1.1.length:Int)),p 9 (I v14),p 10 (I v21),p 46 (B (decide ((v1.1.length:Int)<=v14)))]) ((500000,bx 152 (Q63 v22 v23 v24))::(15,A 2 i64 v15 0)::(14,A 2 i64 v1.1 0)::W18 v0.1))<|cD H (fun H=>?_) (fun H=>?_)
   ·refine zD (fun(v25,v26)=>Z (G12 a1 [p 4 (R 4),p 5 (O 12),p 6 (O 14),p 7 (O 15),p 8 (I (v1.1.length:Int)),p 9 (I v14),p 10 (I v26)]) ((500000,K 152 a0n v25.2)::(15,A 2 i64 v15 0)::(14,A 2 i64 v1.1 0)::W18 v0.1)) H fun⟨v25,v26⟩ H =>
     n3 H
   exact vK<|n3 H
  refine qB (Z (G12 a1 [p 4 (R 4),p 5 (O 12),p 6 (O 14),p 7 (O 15),p 8 (I (v1.1.length:Int)),p 9 (I v14),p 10 (I (a1+v19.1)),p 33 (B (decide (0<v14.tmod (v1.1.length:Int))))]) ((500000,K 152 a0n v19.2)::(15,A 2 i64 v15 0)::(14,A 2 i64 v1.1 0)::W18 v0.1)) H fun H=>cD H (fun H=>?_) (fun H=>?_)
  ·refine zD (fun v20=>Z (G12 a1 [p 4 (R 4),p 5 (O 12),p 6 (O 14),p 7 (O 15),p 8 (I (v1.1.length:Int)),p 9 (I v14),p 10 (I (max (a1+v19.1) (v15.getD (v14-1).toNat 0+v20.1)))]) ((500000,K 152 a0n v20.2)::(15,A 2 i64 v15 0)::(14,A 2 i64 v1.1 0)::W18 v0.1)) H fun v20 H=>n2 H
  exact vK<|n2 H
 exact vE<|fE<|e1<|fX rfl<|n0 H
def E0R:Ct:=lct 270 [.io 152 a0n,.dat i64] (fun x=>w0g x.1 x.2.1) (fun r=>frz ((fun r:d0O×a0u=>AV.agg [AV.ow 2 true i64 r.1.1,AV.ow 2 true i64 r.1.2.1,AV.ow 2 true i64 r.1.2.2]) r)) (fun r=>r.2)
theorem E0w:Ok prog E0R:=l0d H0H
def t0Q(a0:a0u)(a1:Int):Option (List d0O×a0u) :=
 gd ((w0g a0 a1).isSome=true/\True)<|lt (vl (w0g a0 a1)) fun v0 =>
 gd ((w0g v0.2 a1).isSome=true/\True)<|lt (vl (w0g v0.2 a1)) fun v1 =>
 some ([v0.1,v1.1],v1.2)
def J0e:Ct:=lct 257 [.io 152 a0n,.dat i64] (fun x=>t0Q x.1 x.2.1) (fun r:List d0O×a0u=>AV.ow 140 true y140 r.1) (fun r=>r.2)
theorem H0M:Ok prog J0e:=by
 refine okL [.tmp 4] func257 ntmps257 results257 ?_;intro y ⟨a0,a1,_⟩ r H Q hn hr;have:HT _ _:=⟨tc E0w tn⟩;refine qA (Z (G12 a1 []) [(500000,K 152 a0n a0)])<|qD (fun v0=>Z (G12 a1 [p 5 (R 5)]) [(5,bx 140 (a0i true y140 v0.1)),(500000,K 152 a0n v0.2)]) H fun v0 H=>qD (fun v1=>Z [p 4 (O 13)] [(13,A 140 y140 [v0.1,v1.1] 0),(500000,K 152 a0n v1.2),(5,bx 140 (a0i true y140 v0.1))]) H fun v1 H=>vTT<|hr H
def g0z(a0:a0u)(a1:Int)(a2:Int)(a3:Int)(a4:Int):Option (c0f×a0u) :=
 if(decide (4<=a1))=true then
  gd ((u88 a0 10).isSome=true/\a0f (5-(vl (u88 a0 10)).1)/\(t0Q (vl (u88 a0 10)).2 (5-(vl (u88 a0 10)).1)).isSome=true/\True)<|lt (vl (t0Q (vl (u88 a0 10)).2 (5-(vl (u88 a0 10)).1))) fun v0 =>
  some (((a1,a2,a3,(0:Int),v0.1,[]),v0.2))
 else
  gd ((u88 a0 20).isSome=true/\a0f (5+(vl (u88 a0 20)).1)/\(t0Q (vl (u88 a0 20)).2 (5+(vl (u88 a0 20)).1)).isSome=true/\True)<|lt (vl (t0Q (vl (u88 a0 20)).2 (5+(vl (u88 a0 20)).1))) fun v1 =>
  gd ((t0Q v1.2 10).isSome=true/\True)<|lt (vl (t0Q v1.2 10)) fun v2 =>
  some (((a1,a2,a3,a4,v1.1,v2.1),v2.2))
def J0k:Ct:=lct 240 [.io 152 a0n,.dat i64,.dat i64,.dat i64,.dat i64] (fun x=>g0z x.1 x.2.1 x.2.2.1 x.2.2.2.1 x.2.2.2.2.1) (fun r:c0f×a0u=>AV.agg [I r.1.1,I r.1.2.1,I r.1.2.2.1,I r.1.2.2.2.1,AV.ow 140 true y140 r.1.2.2.2.2.1,AV.ow 140 true y140 r.1.2.2.2.2.2]) (fun r=>r.2)
theorem H0S:Ok prog J0k:=by
 refine okL [.cell 10 143] func240 ntmps240 results240 ?_;intro y ⟨a0,a1,a2,a3,a4,_⟩ r H Q hn hr;have:HT _ _:=⟨tc H0M (tc o88 tn)⟩;refine qA (Z (G12 a1 [p 2 (J a2),p 3 (J a3),p 4 (J a4),p 10 (R 10)]) [(10,bx 143 [I 0,I 0,I 0,I 0,nil,nil]),(500000,K 152 a0n a0)])<|vQ<|qA (Z (G12 a1 [p 2 (J a2),p 3 (J a3),p 4 (J a4),p 10 (R 10),p 13 (B (decide (4<=a1)))]) [(10,bx 143 [I 0,I 0,I 0,I 0,nil,nil]),(500000,K 152 a0n a0)])<|cD H (fun H=>?_) (fun H=>?_)
 ·refine qD (fun v0=>Z [p 10 (R 10)] [(10,bx 143 [J a1,J a2,J a3,I 0,AV.os 21 0,nil]),(21,A 140 y140 v0.1 0),(500000,K 152 a0n v0.2)]) H fun v0 H=>vTT<|fR<|hr H
 refine vK<|fQ<|qD (fun v1=>Z (G12 a1 [p 2 (J a2),p 3 (J a3),p 4 (J a4),p 10 (R 10),p 11 (O 27)]) [(27,A 140 y140 v1.1 0),(500000,K 152 a0n v1.2),(10,bx 143 [I 0,I 0,I 0,I 0,nil,nil])]) H fun v1 H=>qD (fun v2=>Z [p 10 (R 10)] [(10,bx 143 [J a1,J a2,J a3,J a4,AV.os 27 0,AV.os 34 0]),(34,A 140 y140 v2.1 0),(500000,K 152 a0n v2.2),(27,A 140 y140 v1.1 0)]) H fun v2 H=>vTT<|hr H
def E0S:Ct:=lct 240 [.io 152 a0n,.dat i64,.dat i64,.dat i64,.dat i64] (fun x=>g0z x.1 x.2.1 x.2.2.1 x.2.2.2.1 x.2.2.2.2.1) (fun r=>frz ((fun r:c0f×a0u=>AV.agg [I r.1.1,I r.1.2.1,I r.1.2.2.1,I r.1.2.2.2.1,AV.ow 140 true y140 r.1.2.2.2.2.1,AV.ow 140 true y140 r.1.2.2.2.2.2]) r)) (fun r=>r.2)
theorem C0k:Ok prog E0S:=l0d H0S
def k0t(a1:ByteArray)(a2:Int)(v4:List f0v)(v0:Int×a0u)(v1:Int×a0u):List c0f×List Int×Int×Int->Option ((ByteArray×Int×List f0v×List c0f×Int×Int)×a0u)
 | (v9,v10,v11,v12) =>
 some (((a1,a2,v4,v9,v0.1,v1.1),v10,v11,v12))
def t0U(a0:a0u)(a1:ByteArray)(a2:Int)(a3:Int):Option ((ByteArray×Int×List f0v×List c0f×Int×Int)×a0u) :=
 gd ((u88 a0 50).isSome=true/\(u88 (vl (u88 a0 50)).2 80).isSome=true/\True)<|lt ((vl (u88 a0 50),vl (u88 (vl (u88 a0 50)).2 80))) fun(v0,v1) =>
 gd ((u88 v1.2 9).isSome=true/\a0f (1+(vl (u88 v1.2 9)).1)/\(u88 (vl (u88 v1.2 9)).2 9).isSome=true/\a0f (1+(vl (u88 (vl (u88 v1.2 9)).2 9)).1)/\True)<|lt ((vl (u88 v1.2 9),vl (u88 (vl (u88 v1.2 9)).2 9),[(ByteArray.mk #[(100:UInt8)],(1:Int),(1:Int)+(vl (u88 v1.2 (9:Int))).1,false),(ByteArray.mk #[(99:UInt8),(107:UInt8)],(1:Int),(1:Int)+(vl (u88 (vl (u88 v1.2 (9:Int))).2 (9:Int))).1,true),(ByteArray.mk #[(113:UInt8)],(2:Int),(0:Int),false)])) fun(_v2,v3,v4) =>
 gd ((g0z v3.2 a3 1 2 0).isSome=true/\(g0z (vl (g0z v3.2 a3 1 2 0)).2 4 1 0 0).isSome=true/\(g0z (vl (g0z (vl (g0z v3.2 a3 1 2 0)).2 4 1 0 0)).2 5 1 0 0).isSome=true/\True)<|lt ((vl (g0z v3.2 a3 1 2 0),vl (g0z (vl (g0z v3.2 a3 1 2 0)).2 4 1 0 0),vl (g0z (vl (g0z (vl (g0z v3.2 a3 1 2 0)).2 4 1 0 0)).2 5 1 0 0))) fun(v5,v6,v7) =>
 if(a2==3)=true then
  gd ((g0z v7.2 1 0 2 1).isSome=true/\([v5.1,v6.1,v7.1].length+[(vl (g0z v7.2 1 0 2 1)).1].length<=9223372036854775807/\([v5.1,v6.1,v7.1].length+[(vl (g0z v7.2 1 0 2 1)).1].length)*80<=140737488355328)/\True)<|lt (vl (g0z v7.2 1 0 2 1)) fun v8 =>
  k0t a1 a2 v4 v0 v1 ([v5.1,v6.1,v7.1]++[v8.1],v8.2.1,v8.2.2.1,v8.2.2.2)
 else
  k0t a1 a2 v4 v0 v1 ([v5.1,v6.1,v7.1],v7.2.1,v7.2.2.1,v7.2.2.2)
def J0x:Ct:=lct 207 [.io 152 a0n,.dat Ty.str,.dat i64,.dat i64] (fun x=>t0U x.1 x.2.1 x.2.2.1 x.2.2.2.1) (fun r:(ByteArray×Int×List f0v×List c0f×Int×Int)×a0u=>AV.agg [S r.1.1,I r.1.2.1,AV.ow 217 true y217 r.1.2.2.1,AV.ow 143 true y143 r.1.2.2.2.1,AV.v (Value.slice none 0 0),I r.1.2.2.2.2.1,I r.1.2.2.2.2.2]) (fun r=>r.2)
theorem I0b:Ok prog J0x:=by
 refine okL [.cell 8 163] func207 ntmps207 results207 ?_;intro y ⟨a0,a1,a2,a3,_⟩ r H Q hn hr;have:HT _ _:=⟨tc C0k (tc o88 tn)⟩;refine qA (Z [p 0 (R 500000),p 1 (U a1),p 2 (J a2),p 3 (J a3),p 8 (R 8)] [(8,bx 163 (Q62 (ByteArray.mk #[]) 0 0 0)),(500000,K 152 a0n a0)])<|qD (fun(v0,v1)=>Z [p 0 (R 500000),p 2 (J a2),p 3 (J a3),p 8 (R 8),p 9 (R 9)] [(9,bx 163 [U a1,J a2,nil,nil,nil,I v0.1,I v1.1]),(500000,K 152 a0n v1.2),(8,bx 163 (Q62 (ByteArray.mk #[]) 0 0 0))]) H fun⟨v0,v1⟩ H =>
  qD (fun(v2,v3,v4)=>Z [p 0 (R 500000),p 2 (J a2),p 3 (J a3),p 8 (R 8),p 9 (R 9)] [(9,bx 163 [U a1,J a2,AV.os 27 0,nil,nil,I v0.1,I v1.1]),(27,A 217 y217 v4 0),(500000,K 152 a0n v3.2),(8,bx 163 (Q62 (ByteArray.mk #[]) 0 0 0))]) H fun⟨v2,v3,v4⟩ H =>
  qD (fun(v5,v6,v7)=>Z [p 0 (R 500000),p 2 (J a2),p 8 (R 8),p 9 (R 9),p 10 (O 36)] ((36,A 143 y143 [v5.1,v6.1,v7.1] 0)::(500000,K 152 a0n v7.2)::W50 a1 a2 v0.1 v1.1 v4)) H fun⟨v5,v6,v7⟩ H =>
  jN r (fun((v9,v10,v11,v12):List c0f×List Int×Int×Int)=>Z [p 8 (R 8),p 9 (R 9),p 10 (O 36)] ((36,A 143 y143 v9 0)::(500000,bx 152 (Q63 v10 v11 v12))::W50 a1 a2 v0.1 v1.1 v4)) (k0t a1 a2 v4 v0 v1) (fun⟨v9,v10,v11,v12⟩ H=>?_) (fun _ n0 e0 t0=>?_)
 ·refine qA (Z [p 8 (R 8),p 9 (R 9)] [(9,bx 163 [U a1,J a2,AV.os 27 0,AV.os 36 0,nil,I v0.1,I v1.1]),(36,A 143 y143 v9 0),(500000,bx 152 (Q63 v10 v11 v12)),(27,A 217 y217 v4 0),(8,bx 163 (Q62 (ByteArray.mk #[]) 0 0 0))])<|qA (Z [p 8 (R 8)] [(8,bx 163 [U a1,J a2,AV.os 27 0,AV.os 36 0,nil,I v0.1,I v1.1]),(9,bx 163 [U a1,J a2,AV.os 27 0,AV.os 36 0,nil,I v0.1,I v1.1]),(36,A 143 y143 v9 0),(500000,bx 152 (Q63 v10 v11 v12)),(27,A 217 y217 v4 0)])<|vTT<|hr H
 refine qA (Z [p 0 (R 500000),p 8 (R 8),p 9 (R 9),p 10 (O 36),p 38 (B (a2==3))] ((36,A 143 y143 [v5.1,v6.1,v7.1] 0)::(500000,K 152 a0n v7.2)::W50 a1 a2 v0.1 v1.1 v4))<|cD H (fun H=>?_) (fun H=>?_)
 ·refine zD (fun v8=>Z [p 8 (R 8),p 9 (R 9),p 10 (AV.os 36 1)] ((36,A 143 y143 ([v5.1,v6.1,v7.1]++[v8.1]) 1)::(42,A 143 y143 [v8.1] 0)::(500000,K 152 a0n v8.2)::W50 a1 a2 v0.1 v1.1 v4)) H fun v8 H=>n0 H
 exact vK<|n0 H
def q0O:Bool×Bool->Option (Int)
 | (v7,v8) =>
 if(v7&&v8)=true then
  some 3
 else
  if v7=true then
   some 1
  else
   if v8=true then
    some 2
   else
    some 0
def k0r(v4:Int)(g1:Bool×Bool×Int->Option (Int)):Bool×Bool->Option (Int)
 | (v5,v6) =>
 gd (a0f (v4+1)/\True) <|
 g1 (v5,v6,v4+1)
def w0p(a0:a0y)(a1:Int)(g1:Bool×Bool×Int->Option (Int)):Bool×Bool×Int->Option (Int)
 | (v2,v3,v4) =>
 if(decide (v4 < (a0.2.2.2.2.1.length:Int)))=true then
  gd (((0:Int)<=v4/\(0:Int)<=(1:Int)*(2:den i64) ^ a1.toNat)/\True) <|
  if((↑(v4.toNat &&& ((1:Int)*(2:den i64) ^ a1.toNat).toNat):Int) != (0:Int))=true then
   k0r v4 g1 (v2,v3)
  else
   gd ((v2=false/\True->ix v4 a0.2.2.2.2.1.length)/\(v2=false/\True->a0f (v4+(1:Int)*(2:den i64) ^ a1.toNat))/\(v2=false/\True->ix (v4+(1:Int)*(2:den i64) ^ a1.toNat) a0.2.2.2.2.1.length)/\True) <|
   gd ((v3=false/\True->ix v4 a0.2.2.2.2.1.length)/\(v3=false/\True->a0f (v4+(1:Int)*(2:den i64) ^ a1.toNat))/\(v3=false/\True->ix (v4+(1:Int)*(2:den i64) ^ a1.toNat) a0.2.2.2.2.1.length)/\True) <|
   k0r v4 g1 ((v2||decide (a0.2.2.2.2.1.getD v4.toNat (0:Int)<a0.2.2.2.2.1.getD (v4+(1:Int)*(2:den i64) ^ a1.toNat).toNat (0:Int)),v3||decide (a0.2.2.2.2.1.getD (v4+(1:Int)*(2:den i64) ^ a1.toNat).toNat (0:Int)<a0.2.2.2.2.1.getD v4.toNat (0:Int))))
 else
  q0O (v2,v3)
def B0J(a0:a0y)(a1:Int):Option (Int) :=
 gd (((0:Int)<=a1/\a1<=(18446744073709551615:Int))/\(((0:Int)<=a1/\a1<=(62:Int))/\a0f ((1:Int)*(2:Int) ^ a1.toNat))/\True) <|
 lp (w0p a0 a1) (false,false,0)
def J0l:Ct:=lct 239 [.agg y163,.dat i64] (fun x=>B0J x.1 x.2.1) (fun r:Int=>I r) (fun _=>())
theorem H0T:Ok prog J0l:=by
 refine okL [.tmp 4] func239 ntmps239 results239 ?_;intro y ⟨a0,a1,_⟩ r H Q hn hr;have:HT _ _:=⟨@tn prog⟩;refine qA (Z (G52 a1 []) [(2,K 163 y163 a0)])<|qA (Z (G52 a1 [p 5 (B false),p 6 (B false)]) [(2,K 163 y163 a0)])<|qB (Z [p 2 (R 2),p 5 (B false),p 6 (B false),p 7 (I ((1:Int)*(2:den i64) ^ a1.toNat))] [(2,K 163 y163 a0)]) H fun H=>jN r (fun((v7,v8):Bool×Bool)=>Z [p 5 (B v7),p 6 (B v8)] []) (q0O) (fun⟨v7,v8⟩ H=>?_) (fun _ n0 e0 t0=>?_)
 ·refine vQ<|vB<|qA (Z [p 5 (B v7),p 6 (B v8),p 55 (B (v7&&v8))] [])<|cD H (fun H=>?_) (fun H=>?_)
  ·refine qA (Z [p 4 (I 3)] [])<|vTT<|fDD<|fR<|hr H
  refine qA (Z [p 6 (B v8),p 60 (B v7)] [])<|cD H (fun H=>?_) (fun H=>?_)
  ·refine qA (Z [p 4 (I 1)] [])<|vTT<|fDD<|fR<|hr H
  refine qA (Z [p 62 (B v8)] [])<|cD H (fun H=>?_) (fun H=>?_)
  ·refine qA (Z [p 4 (I 2)] [])<|vTT<|fDD<|fR<|hr H
  refine vK<|fK<|fQ<|qA (Z [p 4 (I 0)] [])<|vTT<|hr H
 refine qA (Z [p 2 (R 2),p 5 (B false),p 6 (B false),p 7 (I ((1:Int)*(2:den i64) ^ a1.toNat)),p 8 (I (0:Int))] [(2,K 163 y163 a0)])<|vB<|lX (fun((v2,v3,v4):Bool×Bool×Int)=>Z (G72 v2 v3 ((1:Int)*(2:den i64) ^ a1.toNat) v4 []) [(2,K 163 y163 a0)]) (false,false,0) H fun _ g1 b1 e1 t1 ⟨v2,v3,v4⟩ H=>vQ<|qA (Z (G72 v2 v3 ((1:Int)*(2:den i64) ^ a1.toNat) v4 [p 16 (B (decide (v4 < (a0.2.2.2.2.1.length:Int))))]) [(2,K 163 y163 a0)])<|cD H (fun H=>?_) (fun H=>?_)
 ·refine vK<|fQ<|jN r (fun((v5,v6):Bool×Bool)=>Z (G72 v5 v6 ((1:Int)*(2:den i64) ^ a1.toNat) v4 []) [(2,K 163 y163 a0)]) (k0r v4 g1) (fun⟨v5,v6⟩ H=>?_) (fun _ n2 e2 t2=>?_)
  ·refine zB (Z (G72 v5 v6 ((1:Int)*(2:den i64) ^ a1.toNat) (v4+(1:Int)) []) [(2,K 163 y163 a0)]) H fun H=>b1 H
  refine vB<|vQ<|qB (Z (G72 v2 v3 ((1:Int)*(2:den i64) ^ a1.toNat) v4 [p 22 (B ((↑(v4.toNat &&& ((1:Int)*(2:den i64) ^ a1.toNat).toNat):Int) != (0:Int)))]) [(2,K 163 y163 a0)]) H fun H=>cD H (fun H=>?_) (fun H=>?_)
  ·exact vE<|fE<|fX rfl<|n2 H
  refine vK<|fQ<|qB (Z (G72 (v2||decide (a0.2.2.2.2.1.getD v4.toNat (0:Int)<a0.2.2.2.2.1.getD (v4+(1:Int)*(2:den i64) ^ a1.toNat).toNat (0:Int))) v3 ((1:Int)*(2:den i64) ^ a1.toNat) v4 []) [(2,K 163 y163 a0)]) H fun H=>zB (Z (G72 (v2||decide (a0.2.2.2.2.1.getD v4.toNat (0:Int)<a0.2.2.2.2.1.getD (v4+(1:Int)*(2:den i64) ^ a1.toNat).toNat (0:Int))) (v3||decide (a0.2.2.2.2.1.getD (v4+(1:Int)*(2:den i64) ^ a1.toNat).toNat (0:Int)<a0.2.2.2.2.1.getD v4.toNat (0:Int))) ((1:Int)*(2:den i64) ^ a1.toNat) v4 []) [(2,K 163 y163 a0)]) H fun H=>fK<|n2 H
 exact vE<|fE<|e1<|fX rfl<|n0 H
def q0Q(a1:ByteArray)(v18:List f0v)(a2:List Int)(v1:Int×a0u)(v2:Int×a0u):List c0f×List Int×Int×Int->Option (a0y×a0u)
 | (v37,v38,v39,v40) =>
 some (((a1,(1:Int),v18,v37,a2,v1.1,v2.1),v38,v39,v40))
def k0u(v26:Int)(g3:Int×List c0f×List Int×Int×Int->Option (a0y×a0u)):List c0f×List Int×Int×Int->Option (a0y×a0u)
 | (v33,v34,v35,v36) =>
 gd (a0f (v26+1)/\True) <|
 g3 (v26+1,v33,v34,v35,v36)
def w0w(v14:List f0v)(a1:ByteArray)(v18:List f0v)(a2:List Int)(v1:Int×a0u)(v2:Int×a0u)(g3:Int×List c0f×List Int×Int×Int->Option (a0y×a0u)):Int×List c0f×List Int×Int×Int->Option (a0y×a0u)
 | (v26,v27,v28,v29,v30) =>
 if(decide (v26 < (v14.length:Int)))=true then
  gd ((B0J (a1,(1:Int),v18,[],a2,v1.1,v2.1) v26).isSome=true/\True)<|lt (vl (B0J (a1,(1:Int),v18,[],a2,v1.1,v2.1) v26)) fun v31 =>
  if(v31 != 0)=true then
   gd ((g0z (v28,v29,v30) 1 v26 (v14.length:Int) v31).isSome=true/\(v27.length+[(vl (g0z (v28,v29,v30) 1 v26 (v14.length:Int) v31)).1].length<=9223372036854775807/\(v27.length+[(vl (g0z (v28,v29,v30) 1 v26 (v14.length:Int) v31)).1].length)*80<=140737488355328)/\True)<|lt (vl (g0z (v28,v29,v30) 1 v26 (v14.length:Int) v31)) fun v32 =>
   k0u v26 g3 (v27++[v32.1],v32.2.1,v32.2.2.1,v32.2.2.2)
  else
   k0u v26 g3 (v27,v28,v29,v30)
 else
  q0Q a1 v18 a2 v1 v2 (v27,v28,v29,v30)
def n0w(a1:ByteArray)(a2:List Int)(v1:Int×a0u)(v2:Int×a0u):List f0v×List Int×Int×Int->Option (a0y×a0u)
 | (v14,v15,v16,v17) =>
 gd ((v14.length+[(ByteArray.mk #[(121:UInt8)],(2:Int),(0:Int),false)].length<=9223372036854775807/\(v14.length+[(ByteArray.mk #[(121:UInt8)],(2:Int),(0:Int),false)].length)*40<=140737488355328)/\True)<|lt ((v14++[(ByteArray.mk #[(121:UInt8)],(2:Int),(0:Int),false)],[(ByteArray.mk #[(121:UInt8)],(2:Int),(0:Int),false)])) fun(v18,_v19) =>
 lp (w0w v14 a1 v18 a2 v1 v2) (0,[],v15,v16,v17)
def w0x(v0:List ByteArray)(a1:ByteArray)(a2:List Int)(v1:Int×a0u)(v2:Int×a0u)(g1:Int×List f0v×List Int×Int×Int->Option (a0y×a0u)):Int×List f0v×List Int×Int×Int->Option (a0y×a0u)
 | (v6,v7,v8,v9,v10) =>
 if(decide (v6 < (a2.length:Int)))=true then
  gd (ix (v7.length:Int) v0.length/\(v7.length:Int).toNat<v0.length/\(u88 (v8,v9,v10) (9:Int)).isSome=true/\a0f ((1:Int)+(vl (u88 (v8,v9,v10) (9:Int))).1)/\(v7.length+[(v0.getD (v7.length:Int).toNat (a0a Ty.str),(1:Int),(1:Int)+(vl (u88 (v8,v9,v10) (9:Int))).1,false)].length<=9223372036854775807/\(v7.length+[(v0.getD (v7.length:Int).toNat (a0a Ty.str),(1:Int),(1:Int)+(vl (u88 (v8,v9,v10) (9:Int))).1,false)].length)*40<=140737488355328)/\True)<|lt ((vl (u88 (v8,v9,v10) 9),v7++[(v0.getD (v7.length:Int).toNat (a0a Ty.str),(1:Int),(1:Int)+(vl (u88 (v8,v9,v10) (9:Int))).1,false)],[(v0.getD (v7.length:Int).toNat (a0a Ty.str),(1:Int),(1:Int)+(vl (u88 (v8,v9,v10) (9:Int))).1,false)])) fun(v11,v12,_v13) =>
  gd (a0f (2*v6)/\True) <|
  g1 (2*v6,v12,v11.2.1,v11.2.2.1,v11.2.2.2)
 else
  n0w a1 a2 v1 v2 (v7,v8,v9,v10)
def a0q(a0:a0u)(a1:ByteArray)(a2:List Int):Option (a0y×a0u) :=
 lt ([ByteArray.mk #[97],ByteArray.mk #[98],ByteArray.mk #[99],ByteArray.mk #[100]]) fun v0 =>
 gd ((u88 a0 50).isSome=true/\(u88 (vl (u88 a0 50)).2 80).isSome=true/\True)<|lt ((vl (u88 a0 50),vl (u88 (vl (u88 a0 50)).2 80))) fun(v1,v2) =>
 lp (w0x v0 a1 a2 v1 v2) (1,[],v2.2.1,v2.2.2.1,v2.2.2.2)
def J0y:Ct:=lct 206 [.io 152 a0n,.dat Ty.str,.dat i64.sl] (fun x=>a0q x.1 x.2.1 x.2.2.1) (fun r:a0y×a0u=>AV.agg [S r.1.1,I r.1.2.1,AV.ow 217 true y217 r.1.2.2.1,AV.ow 143 true y143 r.1.2.2.2.1,L i64 r.1.2.2.2.2.1,I r.1.2.2.2.2.2.1,I r.1.2.2.2.2.2.2]) (fun r=>r.2)
theorem I0c:Ok prog J0y:=by
 refine okL [.cell 6 163] func206 ntmps206 results206 ?_;intro y ⟨a0,a1,a2,_⟩ r H Q hn hr;have:HT _ _:=⟨tc C0k (tc H0T (tc o88 tn))⟩;refine qA (Z [p 0 (R 500000),p 1 (U a1),p 2 (L i64 a2),p 6 (R 6)] [(6,bx 163 (Q62 (ByteArray.mk #[]) 0 0 0)),(500000,K 152 a0n a0)])<|qC (fun v0=>Z [p 0 (R 500000),p 1 (U a1),p 2 (L i64 a2),p 6 (R 6),p 7 (O 15)] [(15,A 9 Ty.str v0 0),(6,bx 163 (Q62 (ByteArray.mk #[]) 0 0 0)),(500000,K 152 a0n a0)]) H fun v0 H=>qD (fun(v1,v2)=>Z (G42 a2 []) ((8,bx 163 [U a1,I 1,nil,nil,L i64 a2,I v1.1,I v2.1])::(500000,K 152 a0n v2.2)::W34 v0)) H fun w H=>?_
 obtain⟨v1,v2⟩:=w;refine qA (Z (G42 a2 [p 9 (O 23)]) ((23,A 217 y217 [] 0)::(8,bx 163 [U a1,I 1,nil,nil,L i64 a2,I v1.1,I v2.1])::(500000,K 152 a0n v2.2)::W34 v0))<|jN r (fun((v14,v15,v16,v17):List f0v×List Int×Int×Int)=>Z (G27 [p 8 (R 8),p 9 (O 23)]) ((23,A 217 y217 v14 0)::(8,bx 163 [U a1,I 1,nil,nil,L i64 a2,I v1.1,I v2.1])::W15 v15 v16 v17)) (n0w a1 a2 v1 v2) (fun⟨v14,v15,v16,v17⟩ H=>?_) (fun _ n0 e0 t0=>?_)
 ·refine qA (Z (G27 [p 8 (R 8),p 9 (O 23),p 11 (I (v14.length:Int))]) ((23,A 217 y217 v14 0)::(8,bx 163 [U a1,I 1,nil,nil,L i64 a2,I v1.1,I v2.1])::W15 v15 v16 v17))<|qD (fun(v18,v19)=>Z (G27 [p 8 (R 8),p 11 (I (v14.length:Int))]) ((8,bx 163 [U a1,I 1,AV.os 23 1,nil,L i64 a2,I v1.1,I v2.1])::(23,A 217 y217 v18 1)::(46,A 217 y217 v19 0)::W15 v15 v16 v17)) H fun w H=>?_
  obtain⟨v18,v19⟩:=w;refine qA (Z (G27 [p 8 (R 8),p 11 (I (v14.length:Int)),p 12 (O 49)]) ((49,A 143 y143 [] 0)::(8,bx 163 [U a1,I 1,AV.os 23 1,nil,L i64 a2,I v1.1,I v2.1])::(23,A 217 y217 v18 1)::(46,A 217 y217 v19 0)::W15 v15 v16 v17))<|jN r (fun((v37,v38,v39,v40):List c0f×List Int×Int×Int)=>Z [p 6 (R 6),p 8 (R 8),p 12 (O 49)] ((49,A 143 y143 v37 0)::(8,bx 163 [U a1,I 1,AV.os 23 0,nil,L i64 a2,I v1.1,I v2.1])::(23,A 217 y217 v18 0)::W15 v38 v39 v40)) (q0Q a1 v18 a2 v1 v2) (fun⟨v37,v38,v39,v40⟩ H=>?_) (fun _ n2 e2 t2=>?_)
  ·refine qA (Z [p 6 (R 6),p 8 (R 8)] ((8,bx 163 [U a1,I 1,AV.os 23 0,AV.os 49 0,L i64 a2,I v1.1,I v2.1])::(49,A 143 y143 v37 0)::(23,A 217 y217 v18 0)::W15 v38 v39 v40))<|qA (Z [p 6 (R 6)] [(6,bx 163 [U a1,I 1,AV.os 23 0,AV.os 49 0,L i64 a2,I v1.1,I v2.1]),(8,bx 163 [U a1,I 1,AV.os 23 0,AV.os 49 0,L i64 a2,I v1.1,I v2.1]),(49,A 143 y143 v37 0),(23,A 217 y217 v18 0),(500000,bx 152 (Q63 v38 v39 v40))])<|vTT<|hr H
  refine qA (Z (G27 [p 8 (R 8),p 11 (I (v14.length:Int)),p 12 (O 49),p 13 (I 0)]) ((49,A 143 y143 [] 0)::(8,bx 163 [U a1,I 1,AV.os 23 1,nil,L i64 a2,I v1.1,I v2.1])::(23,A 217 y217 v18 1)::(46,A 217 y217 v19 0)::W15 v15 v16 v17))<|vB<|lX (fun((v26,v27,v28,v29,v30):Int×List c0f×List Int×Int×Int)=>Z (G27 [p 8 (R 8),p 11 (I (v14.length:Int)),p 12 (O 49),p 13 (I v26)]) ((49,A 143 y143 v27 0)::(8,bx 163 [U a1,I 1,AV.os 23 0,nil,L i64 a2,I v1.1,I v2.1])::(23,A 217 y217 v18 0)::W15 v28 v29 v30)) (0,[],v15,v16,v17) H fun _ g3 b3 e3 t3 ⟨v26,v27,v28,v29,v30⟩ H=>vQ<|qA (Z (G27 [p 8 (R 8),p 11 (I (v14.length:Int)),p 12 (O 49),p 13 (I v26),p 52 (B (decide (v26 < (v14.length:Int))))]) ((49,A 143 y143 v27 0)::(8,bx 163 [U a1,I 1,AV.os 23 0,nil,L i64 a2,I v1.1,I v2.1])::(23,A 217 y217 v18 0)::W15 v28 v29 v30))<|cD H (fun H=>?_) (fun H=>?_)
  ·refine vK<|fQ<|jN r (fun((v33,v34,v35,v36):List c0f×List Int×Int×Int)=>Z (G27 [p 8 (R 8),p 11 (I (v14.length:Int)),p 12 (O 49),p 13 (I v26)]) ((49,A 143 y143 v33 0)::(500000,bx 152 (Q63 v34 v35 v36))::W87 a1 a2 v1.1 v2.1 v18)) (k0u v26 g3) (fun⟨v33,v34,v35,v36⟩ H=>?_) (fun _ n4 e4 t4=>?_)
   ·refine zB (Z (G27 [p 8 (R 8),p 11 (I (v14.length:Int)),p 12 (O 49),p 13 (I (v26+1))]) ((49,A 143 y143 v33 0)::(500000,bx 152 (Q63 v34 v35 v36))::W87 a1 a2 v1.1 v2.1 v18)) H fun H=>b3 H
   refine vB<|qD (fun v31=>Z (G27 [p 8 (R 8),p 11 (I (v14.length:Int)),p 12 (O 49),p 13 (I v26),p 14 (I v31)]) ((49,A 143 y143 v27 0)::(8,bx 163 [U a1,I 1,AV.os 23 0,nil,L i64 a2,I v1.1,I v2.1])::(23,A 217 y217 v18 0)::W15 v28 v29 v30)) H fun v31 H=>qA (Z (G27 [p 8 (R 8),p 11 (I (v14.length:Int)),p 12 (O 49),p 13 (I v26),p 14 (I v31),p 59 (B (v31 != 0))]) ((49,A 143 y143 v27 0)::(8,bx 163 [U a1,I 1,AV.os 23 0,nil,L i64 a2,I v1.1,I v2.1])::(23,A 217 y217 v18 0)::W15 v28 v29 v30))<|cD H (fun H=>?_) (fun H=>?_)
   ·refine zD (fun v32=>Z (G27 [p 8 (R 8),p 11 (I (v14.length:Int)),p 12 (AV.os 49 1),p 13 (I v26)]) ((49,A 143 y143 (v27++[v32.1]) 1)::(66,A 143 y143 [v32.1] 0)::(500000,K 152 a0n v32.2)::W87 a1 a2 v1.1 v2.1 v18)) H fun v32 H=>fK<|n4 H
   exact vK<|fK<|n4 H
  exact vE<|fE<|e3<|fX rfl<|n2 H
 refine qA (Z (G42 a2 [p 9 (O 23),p 10 (I 1)]) ((23,A 217 y217 [] 0)::(8,bx 163 [U a1,I 1,nil,nil,L i64 a2,I v1.1,I v2.1])::(500000,K 152 a0n v2.2)::W34 v0))<|vB<|lX (fun((v6,v7,v8,v9,v10):Int×List f0v×List Int×Int×Int)=>Z (G42 a2 [p 9 (O 23),p 10 (I v6)]) ((23,A 217 y217 v7 0)::(8,bx 163 [U a1,I 1,nil,nil,L i64 a2,I v1.1,I v2.1])::(500000,bx 152 [L b8 v8,J v9,J v10])::W34 v0)) (1,[],v2.2.1,v2.2.2.1,v2.2.2.2) H fun _ g1 b1 e1 t1 ⟨v6,v7,v8,v9,v10⟩ H=>vQ<|qA (Z (G42 a2 [p 9 (O 23),p 10 (I v6),p 27 (B (decide (v6 < (a2.length:Int))))]) ((23,A 217 y217 v7 0)::(8,bx 163 [U a1,I 1,nil,nil,L i64 a2,I v1.1,I v2.1])::(500000,bx 152 [L b8 v8,J v9,J v10])::W34 v0))<|cD H (fun H=>?_) (fun H=>?_)
 ·refine vK<|fQ<|vQ<|vB<|zD (fun(v11,v12,v13)=>Z (G42 a2 [p 9 (AV.os 23 1),p 10 (I v6)]) ((23,A 217 y217 v12 1)::(40,A 217 y217 v13 0)::(500000,K 152 a0n v11.2)::(8,bx 163 [U a1,I 1,nil,nil,L i64 a2,I v1.1,I v2.1])::W34 v0)) H fun⟨v11,v12,v13⟩ H =>
   fK<|fQ <|
   zB (Z (G42 a2 [p 9 (AV.os 23 1),p 10 (I (2*v6))]) ((23,A 217 y217 v12 1)::(40,A 217 y217 v13 0)::(500000,K 152 a0n v11.2)::(8,bx 163 [U a1,I 1,nil,nil,L i64 a2,I v1.1,I v2.1])::W34 v0)) H fun H =>
   b1 H
 exact vE<|fE<|e1<|fX rfl<|n0 H
def B0R(a0:a0u):Option (List a0y×a0u) :=
 gd (True/\(a0q a0 (ByteArray.mk #[105,110,118]) [1,0]).isSome=true/\True) <|
 gd (True/\(a0q (vl (a0q a0 (ByteArray.mk #[105,110,118]) [1,0])).2 (ByteArray.mk #[98,117,102]) [0,1]).isSome=true/\True) <|
 gd (True/\(a0q (vl (a0q (vl (a0q a0 (ByteArray.mk #[105,110,118]) [1,0])).2 (ByteArray.mk #[98,117,102]) [0,1])).2 (ByteArray.mk #[110,97,110,100]) [1,1,1,0]).isSome=true/\True) <|
 gd (True/\(a0q (vl (a0q (vl (a0q (vl (a0q a0 (ByteArray.mk #[105,110,118]) [1,0])).2 (ByteArray.mk #[98,117,102]) [0,1])).2 (ByteArray.mk #[110,97,110,100]) [1,1,1,0])).2 (ByteArray.mk #[120,111,114]) [0,1,1,0]).isSome=true/\True) <|
 gd (True/\(a0q (vl (a0q (vl (a0q (vl (a0q (vl (a0q a0 (ByteArray.mk #[105,110,118]) [1,0])).2 (ByteArray.mk #[98,117,102]) [0,1])).2 (ByteArray.mk #[110,97,110,100]) [1,1,1,0])).2 (ByteArray.mk #[120,111,114]) [0,1,1,0])).2 (ByteArray.mk #[109,117,120]) [0,1,0,1,0,0,1,1]).isSome=true/\True) <|
 gd ((t0U (vl (a0q (vl (a0q (vl (a0q (vl (a0q (vl (a0q a0 (ByteArray.mk #[105,110,118]) [1,0])).2 (ByteArray.mk #[98,117,102]) [0,1])).2 (ByteArray.mk #[110,97,110,100]) [1,1,1,0])).2 (ByteArray.mk #[120,111,114]) [0,1,1,0])).2 (ByteArray.mk #[109,117,120]) [0,1,0,1,0,0,1,1])).2 (ByteArray.mk #[102,108,111,112]) 2 2).isSome=true/\True)<|lt ((vl (t0U (vl (a0q (vl (a0q (vl (a0q (vl (a0q (vl (a0q a0 (ByteArray.mk #[105,110,118]) [1,0])).2 (ByteArray.mk #[98,117,102]) [0,1])).2 (ByteArray.mk #[110,97,110,100]) [1,1,1,0])).2 (ByteArray.mk #[120,111,114]) [0,1,1,0])).2 (ByteArray.mk #[109,117,120]) [0,1,0,1,0,0,1,1])).2 (ByteArray.mk #[102,108,111,112]) 2 2),vl (a0q (vl (a0q (vl (a0q (vl (a0q (vl (a0q a0 (ByteArray.mk #[105,110,118]) [1,0])).2 (ByteArray.mk #[98,117,102]) [0,1])).2 (ByteArray.mk #[110,97,110,100]) [1,1,1,0])).2 (ByteArray.mk #[120,111,114]) [0,1,1,0])).2 (ByteArray.mk #[109,117,120]) [0,1,0,1,0,0,1,1]),vl (a0q (vl (a0q (vl (a0q (vl (a0q a0 (ByteArray.mk #[105,110,118]) [1,0])).2 (ByteArray.mk #[98,117,102]) [0,1])).2 (ByteArray.mk #[110,97,110,100]) [1,1,1,0])).2 (ByteArray.mk #[120,111,114]) [0,1,1,0]),vl (a0q (vl (a0q (vl (a0q a0 (ByteArray.mk #[105,110,118]) [1,0])).2 (ByteArray.mk #[98,117,102]) [0,1])).2 (ByteArray.mk #[110,97,110,100]) [1,1,1,0]),vl (a0q (vl (a0q a0 (ByteArray.mk #[105,110,118]) [1,0])).2 (ByteArray.mk #[98,117,102]) [0,1]),vl (a0q a0 (ByteArray.mk #[105,110,118]) [1,0]))) fun(v0,v1,v2,v3,v4,v5) =>
 gd ((t0U v0.2 (ByteArray.mk #[102,108,111,112,110]) 2 3).isSome=true/\True)<|lt (vl (t0U v0.2 (ByteArray.mk #[102,108,111,112,110]) 2 3)) fun v6 =>
 gd ((t0U v6.2 (ByteArray.mk #[108,97,116,99,104]) 3 2).isSome=true/\True)<|lt (vl (t0U v6.2 (ByteArray.mk #[108,97,116,99,104]) 3 2)) fun v7 =>
 lt ([v5.1,v4.1,v3.1,v2.1,v1.1,(v0.1.1,v0.1.2.1,v0.1.2.2.1,v0.1.2.2.2.1,[],v0.1.2.2.2.2),(v6.1.1,v6.1.2.1,v6.1.2.2.1,v6.1.2.2.2.1,[],v6.1.2.2.2.2),(v7.1.1,v7.1.2.1,v7.1.2.2.1,v7.1.2.2.2.1,[],v7.1.2.2.2.2)]) fun v8 =>
 some (v8,v7.2)
def J0Q:Ct:=lct 170 [.io 152 a0n] (fun x=>B0R x.1) (fun r:List a0y×a0u=>AV.agg [AV.ow 163 false y163 r.1]) (fun r=>r.2)
theorem I0o:Ok prog J0Q:=by
 refine okL [.cell 2 26] func170 ntmps170 results170 ?_;intro y ⟨a0,_⟩ r H Q hn hr;have:HT _ _:=⟨tc I0b (tc I0c tn)⟩;refine qA (Z (G22 []) [(2,bx 26 [nil]),(500000,K 152 a0n a0)])<|qA (Z (G22 [p 3 (R 3)]) [(3,bx 26 [nil]),(2,bx 26 [nil]),(500000,K 152 a0n a0)])<|vQ<|zF tok (HT.h) 2 [14] [0,2,3,4] (Z (G22 [p 3 (R 3),p 4 (R 4)]) [(4,bx 163 (Q6 (vl (a0q a0 (ByteArray.mk #[105,110,118]) [1,0])).1)),(1015,A 143 y143 (vl (a0q a0 (ByteArray.mk #[105,110,118]) [1,0])).1.2.2.2.1 0),(15,A 217 y217 (vl (a0q a0 (ByteArray.mk #[105,110,118]) [1,0])).1.2.2.1 0),(500000,bx 152 (a0i false a0n (vl (a0q a0 (ByteArray.mk #[105,110,118]) [1,0])).2)),(3,bx 26 [nil]),(2,bx 26 [nil])]) H (by kernel_rfl) fun H=>fQ<|vQ<|zF tok (HT.h) 2 [17] [0,2,3,4,5] (Z (G22 [p 3 (R 3),p 4 (R 4),p 5 (R 5)]) ((5,bx 163 (Q1 (vl (a0q (vl (a0q a0 (ByteArray.mk #[105,110,118]) [1,0])).2 (ByteArray.mk #[98,117,102]) [0,1])).1))::(1018,A 143 y143 (vl (a0q (vl (a0q a0 (ByteArray.mk #[105,110,118]) [1,0])).2 (ByteArray.mk #[98,117,102]) [0,1])).1.2.2.2.1 0)::(18,A 217 y217 (vl (a0q (vl (a0q a0 (ByteArray.mk #[105,110,118]) [1,0])).2 (ByteArray.mk #[98,117,102]) [0,1])).1.2.2.1 0)::(500000,bx 152 (a0i false a0n (vl (a0q (vl (a0q a0 (ByteArray.mk #[105,110,118]) [1,0])).2 (ByteArray.mk #[98,117,102]) [0,1])).2))::(4,bx 163 (Q6 (vl (a0q a0 (ByteArray.mk #[105,110,118]) [1,0])).1))::W36 (vl (a0q a0 (ByteArray.mk #[105,110,118]) [1,0])).1.2.2.2.1 (vl (a0q a0 (ByteArray.mk #[105,110,118]) [1,0])).1.2.2.1)) H (by kernel_rfl) fun H=>fQ<|vQ<|zF tok (HT.h) 2 [20] [0,2,3,4,5,6] (Z (G22 [p 3 (R 3),p 4 (R 4),p 5 (R 5),p 6 (R 6)]) ((6,bx 163 (Q0 (vl (a0q (vl (a0q (vl (a0q a0 (ByteArray.mk #[105,110,118]) [1,0])).2 (ByteArray.mk #[98,117,102]) [0,1])).2 (ByteArray.mk #[110,97,110,100]) [1,1,1,0])).1))::(1021,A 143 y143 (vl (a0q (vl (a0q (vl (a0q a0 (ByteArray.mk #[105,110,118]) [1,0])).2 (ByteArray.mk #[98,117,102]) [0,1])).2 (ByteArray.mk #[110,97,110,100]) [1,1,1,0])).1.2.2.2.1 0)::(21,A 217 y217 (vl (a0q (vl (a0q (vl (a0q a0 (ByteArray.mk #[105,110,118]) [1,0])).2 (ByteArray.mk #[98,117,102]) [0,1])).2 (ByteArray.mk #[110,97,110,100]) [1,1,1,0])).1.2.2.1 0)::(500000,bx 152 (a0i false a0n (vl (a0q (vl (a0q (vl (a0q a0 (ByteArray.mk #[105,110,118]) [1,0])).2 (ByteArray.mk #[98,117,102]) [0,1])).2 (ByteArray.mk #[110,97,110,100]) [1,1,1,0])).2))::(5,bx 163 (Q1 (vl (a0q (vl (a0q a0 (ByteArray.mk #[105,110,118]) [1,0])).2 (ByteArray.mk #[98,117,102]) [0,1])).1))::(1018,A 143 y143 (vl (a0q (vl (a0q a0 (ByteArray.mk #[105,110,118]) [1,0])).2 (ByteArray.mk #[98,117,102]) [0,1])).1.2.2.2.1 0)::(18,A 217 y217 (vl (a0q (vl (a0q a0 (ByteArray.mk #[105,110,118]) [1,0])).2 (ByteArray.mk #[98,117,102]) [0,1])).1.2.2.1 0)::(4,bx 163 (Q6 (vl (a0q a0 (ByteArray.mk #[105,110,118]) [1,0])).1))::W36 (vl (a0q a0 (ByteArray.mk #[105,110,118]) [1,0])).1.2.2.2.1 (vl (a0q a0 (ByteArray.mk #[105,110,118]) [1,0])).1.2.2.1)) H (by kernel_rfl) fun H=>fQ<|vQ<|zF tok (HT.h) 2 [23] [0,2,3,4,5,6,7] (Z (G22 [p 3 (R 3),p 4 (R 4),p 5 (R 5),p 6 (R 6),p 7 (R 7)]) ((7,bx 163 (Q2 (vl (a0q (vl (a0q (vl (a0q (vl (a0q a0 (ByteArray.mk #[105,110,118]) [1,0])).2 (ByteArray.mk #[98,117,102]) [0,1])).2 (ByteArray.mk #[110,97,110,100]) [1,1,1,0])).2 (ByteArray.mk #[120,111,114]) [0,1,1,0])).1))::(1024,A 143 y143 (vl (a0q (vl (a0q (vl (a0q (vl (a0q a0 (ByteArray.mk #[105,110,118]) [1,0])).2 (ByteArray.mk #[98,117,102]) [0,1])).2 (ByteArray.mk #[110,97,110,100]) [1,1,1,0])).2 (ByteArray.mk #[120,111,114]) [0,1,1,0])).1.2.2.2.1 0)::(24,A 217 y217 (vl (a0q (vl (a0q (vl (a0q (vl (a0q a0 (ByteArray.mk #[105,110,118]) [1,0])).2 (ByteArray.mk #[98,117,102]) [0,1])).2 (ByteArray.mk #[110,97,110,100]) [1,1,1,0])).2 (ByteArray.mk #[120,111,114]) [0,1,1,0])).1.2.2.1 0)::(500000,bx 152 (a0i false a0n (vl (a0q (vl (a0q (vl (a0q (vl (a0q a0 (ByteArray.mk #[105,110,118]) [1,0])).2 (ByteArray.mk #[98,117,102]) [0,1])).2 (ByteArray.mk #[110,97,110,100]) [1,1,1,0])).2 (ByteArray.mk #[120,111,114]) [0,1,1,0])).2))::(6,bx 163 (Q0 (vl (a0q (vl (a0q (vl (a0q a0 (ByteArray.mk #[105,110,118]) [1,0])).2 (ByteArray.mk #[98,117,102]) [0,1])).2 (ByteArray.mk #[110,97,110,100]) [1,1,1,0])).1))::(1021,A 143 y143 (vl (a0q (vl (a0q (vl (a0q a0 (ByteArray.mk #[105,110,118]) [1,0])).2 (ByteArray.mk #[98,117,102]) [0,1])).2 (ByteArray.mk #[110,97,110,100]) [1,1,1,0])).1.2.2.2.1 0)::(21,A 217 y217 (vl (a0q (vl (a0q (vl (a0q a0 (ByteArray.mk #[105,110,118]) [1,0])).2 (ByteArray.mk #[98,117,102]) [0,1])).2 (ByteArray.mk #[110,97,110,100]) [1,1,1,0])).1.2.2.1 0)::(5,bx 163 (Q1 (vl (a0q (vl (a0q a0 (ByteArray.mk #[105,110,118]) [1,0])).2 (ByteArray.mk #[98,117,102]) [0,1])).1))::(1018,A 143 y143 (vl (a0q (vl (a0q a0 (ByteArray.mk #[105,110,118]) [1,0])).2 (ByteArray.mk #[98,117,102]) [0,1])).1.2.2.2.1 0)::(18,A 217 y217 (vl (a0q (vl (a0q a0 (ByteArray.mk #[105,110,118]) [1,0])).2 (ByteArray.mk #[98,117,102]) [0,1])).1.2.2.1 0)::(4,bx 163 (Q6 (vl (a0q a0 (ByteArray.mk #[105,110,118]) [1,0])).1))::W36 (vl (a0q a0 (ByteArray.mk #[105,110,118]) [1,0])).1.2.2.2.1 (vl (a0q a0 (ByteArray.mk #[105,110,118]) [1,0])).1.2.2.1)) H (by kernel_rfl) fun H=>fQ<|vQ<|zF tok (HT.h) 2 [26] [0,2,3,4,5,6,7,8] (Z (G22 [p 3 (R 3),p 4 (R 4),p 5 (R 5),p 6 (R 6),p 7 (R 7),p 8 (R 8)]) ((8,bx 163 (Q8 (vl (a0q (vl (a0q (vl (a0q (vl (a0q (vl (a0q a0 (ByteArray.mk #[105,110,118]) [1,0])).2 (ByteArray.mk #[98,117,102]) [0,1])).2 (ByteArray.mk #[110,97,110,100]) [1,1,1,0])).2 (ByteArray.mk #[120,111,114]) [0,1,1,0])).2 (ByteArray.mk #[109,117,120]) [0,1,0,1,0,0,1,1])).1))::(1027,A 143 y143 (vl (a0q (vl (a0q (vl (a0q (vl (a0q (vl (a0q a0 (ByteArray.mk #[105,110,118]) [1,0])).2 (ByteArray.mk #[98,117,102]) [0,1])).2 (ByteArray.mk #[110,97,110,100]) [1,1,1,0])).2 (ByteArray.mk #[120,111,114]) [0,1,1,0])).2 (ByteArray.mk #[109,117,120]) [0,1,0,1,0,0,1,1])).1.2.2.2.1 0)::(27,A 217 y217 (vl (a0q (vl (a0q (vl (a0q (vl (a0q (vl (a0q a0 (ByteArray.mk #[105,110,118]) [1,0])).2 (ByteArray.mk #[98,117,102]) [0,1])).2 (ByteArray.mk #[110,97,110,100]) [1,1,1,0])).2 (ByteArray.mk #[120,111,114]) [0,1,1,0])).2 (ByteArray.mk #[109,117,120]) [0,1,0,1,0,0,1,1])).1.2.2.1 0)::(500000,bx 152 (a0i false a0n (vl (a0q (vl (a0q (vl (a0q (vl (a0q (vl (a0q a0 (ByteArray.mk #[105,110,118]) [1,0])).2 (ByteArray.mk #[98,117,102]) [0,1])).2 (ByteArray.mk #[110,97,110,100]) [1,1,1,0])).2 (ByteArray.mk #[120,111,114]) [0,1,1,0])).2 (ByteArray.mk #[109,117,120]) [0,1,0,1,0,0,1,1])).2))::(7,bx 163 (Q2 (vl (a0q (vl (a0q (vl (a0q (vl (a0q a0 (ByteArray.mk #[105,110,118]) [1,0])).2 (ByteArray.mk #[98,117,102]) [0,1])).2 (ByteArray.mk #[110,97,110,100]) [1,1,1,0])).2 (ByteArray.mk #[120,111,114]) [0,1,1,0])).1))::(1024,A 143 y143 (vl (a0q (vl (a0q (vl (a0q (vl (a0q a0 (ByteArray.mk #[105,110,118]) [1,0])).2 (ByteArray.mk #[98,117,102]) [0,1])).2 (ByteArray.mk #[110,97,110,100]) [1,1,1,0])).2 (ByteArray.mk #[120,111,114]) [0,1,1,0])).1.2.2.2.1 0)::(24,A 217 y217 (vl (a0q (vl (a0q (vl (a0q (vl (a0q a0 (ByteArray.mk #[105,110,118]) [1,0])).2 (ByteArray.mk #[98,117,102]) [0,1])).2 (ByteArray.mk #[110,97,110,100]) [1,1,1,0])).2 (ByteArray.mk #[120,111,114]) [0,1,1,0])).1.2.2.1 0)::(6,bx 163 (Q0 (vl (a0q (vl (a0q (vl (a0q a0 (ByteArray.mk #[105,110,118]) [1,0])).2 (ByteArray.mk #[98,117,102]) [0,1])).2 (ByteArray.mk #[110,97,110,100]) [1,1,1,0])).1))::(1021,A 143 y143 (vl (a0q (vl (a0q (vl (a0q a0 (ByteArray.mk #[105,110,118]) [1,0])).2 (ByteArray.mk #[98,117,102]) [0,1])).2 (ByteArray.mk #[110,97,110,100]) [1,1,1,0])).1.2.2.2.1 0)::(21,A 217 y217 (vl (a0q (vl (a0q (vl (a0q a0 (ByteArray.mk #[105,110,118]) [1,0])).2 (ByteArray.mk #[98,117,102]) [0,1])).2 (ByteArray.mk #[110,97,110,100]) [1,1,1,0])).1.2.2.1 0)::(5,bx 163 (Q1 (vl (a0q (vl (a0q a0 (ByteArray.mk #[105,110,118]) [1,0])).2 (ByteArray.mk #[98,117,102]) [0,1])).1))::(1018,A 143 y143 (vl (a0q (vl (a0q a0 (ByteArray.mk #[105,110,118]) [1,0])).2 (ByteArray.mk #[98,117,102]) [0,1])).1.2.2.2.1 0)::(18,A 217 y217 (vl (a0q (vl (a0q a0 (ByteArray.mk #[105,110,118]) [1,0])).2 (ByteArray.mk #[98,117,102]) [0,1])).1.2.2.1 0)::(4,bx 163 (Q6 (vl (a0q a0 (ByteArray.mk #[105,110,118]) [1,0])).1))::W36 (vl (a0q a0 (ByteArray.mk #[105,110,118]) [1,0])).1.2.2.2.1 (vl (a0q a0 (ByteArray.mk #[105,110,118]) [1,0])).1.2.2.1)) H (by kernel_rfl) fun H=>fQ<|qD (fun(v0,v1,v2,v3,v4,v5)=>Z (G22 [p 3 (R 3),p 4 (R 4),p 5 (R 5),p 6 (R 6),p 7 (R 7),p 8 (R 8),p 9 (R 9)]) ((9,bx 163 (Q13 v0.1))::(1029,A 143 y143 v0.1.2.2.2.1 0)::(29,A 217 y217 v0.1.2.2.1 0)::(500000,K 152 a0n v0.2)::(8,bx 163 (Q8 v1.1))::(1027,A 143 y143 v1.1.2.2.2.1 0)::(27,A 217 y217 v1.1.2.2.1 0)::(7,bx 163 (Q2 v2.1))::(1024,A 143 y143 v2.1.2.2.2.1 0)::(24,A 217 y217 v2.1.2.2.1 0)::(6,bx 163 (Q0 v3.1))::(1021,A 143 y143 v3.1.2.2.2.1 0)::(21,A 217 y217 v3.1.2.2.1 0)::(5,bx 163 (Q1 v4.1))::(1018,A 143 y143 v4.1.2.2.2.1 0)::(18,A 217 y217 v4.1.2.2.1 0)::(4,bx 163 (Q6 v5.1))::W36 v5.1.2.2.2.1 v5.1.2.2.1)) H fun⟨v0,v1,v2,v3,v4,v5⟩ H =>
  qD (fun v6=>Z (G22 [p 3 (R 3),p 4 (R 4),p 5 (R 5),p 6 (R 6),p 7 (R 7),p 8 (R 8),p 9 (R 9),p 10 (R 10)]) ((10,bx 163 [S v6.1.1,I v6.1.2.1,AV.os 31 0,AV.os 1031 0,nil,I v6.1.2.2.2.2.1,I v6.1.2.2.2.2.2])::(1031,A 143 y143 v6.1.2.2.2.1 0)::(31,A 217 y217 v6.1.2.2.1 0)::(500000,K 152 a0n v6.2)::(9,bx 163 (Q13 v0.1))::(1029,A 143 y143 v0.1.2.2.2.1 0)::(29,A 217 y217 v0.1.2.2.1 0)::(8,bx 163 (Q8 v1.1))::(1027,A 143 y143 v1.1.2.2.2.1 0)::(27,A 217 y217 v1.1.2.2.1 0)::(7,bx 163 (Q2 v2.1))::(1024,A 143 y143 v2.1.2.2.2.1 0)::(24,A 217 y217 v2.1.2.2.1 0)::(6,bx 163 (Q0 v3.1))::(1021,A 143 y143 v3.1.2.2.2.1 0)::(21,A 217 y217 v3.1.2.2.1 0)::(5,bx 163 (Q1 v4.1))::(1018,A 143 y143 v4.1.2.2.2.1 0)::(18,A 217 y217 v4.1.2.2.1 0)::(4,bx 163 (Q6 v5.1))::W36 v5.1.2.2.2.1 v5.1.2.2.1)) H fun v6 H =>
  qD (fun v7=>Z (G11 [p 4 (R 4),p 5 (R 5),p 6 (R 6),p 7 (R 7),p 8 (R 8),p 9 (R 9),p 10 (R 10),p 11 (R 11)]) ((11,bx 163 [S v7.1.1,I v7.1.2.1,AV.os 33 0,AV.os 1033 0,nil,I v7.1.2.2.2.2.1,I v7.1.2.2.2.2.2])::(1033,A 143 y143 v7.1.2.2.2.1 0)::(33,A 217 y217 v7.1.2.2.1 0)::(500000,K 152 a0n v7.2)::(10,bx 163 [S v6.1.1,I v6.1.2.1,AV.os 31 0,AV.os 1031 0,nil,I v6.1.2.2.2.2.1,I v6.1.2.2.2.2.2])::(1031,A 143 y143 v6.1.2.2.2.1 0)::(31,A 217 y217 v6.1.2.2.1 0)::(9,bx 163 (Q13 v0.1))::(1029,A 143 y143 v0.1.2.2.2.1 0)::(29,A 217 y217 v0.1.2.2.1 0)::(8,bx 163 (Q8 v1.1))::(1027,A 143 y143 v1.1.2.2.2.1 0)::(27,A 217 y217 v1.1.2.2.1 0)::(7,bx 163 (Q2 v2.1))::(1024,A 143 y143 v2.1.2.2.2.1 0)::(24,A 217 y217 v2.1.2.2.1 0)::(6,bx 163 (Q0 v3.1))::(1021,A 143 y143 v3.1.2.2.2.1 0)::(21,A 217 y217 v3.1.2.2.1 0)::(5,bx 163 (Q1 v4.1))::(1018,A 143 y143 v4.1.2.2.2.1 0)::(18,A 217 y217 v4.1.2.2.1 0)::(4,bx 163 (Q6 v5.1))::W36 v5.1.2.2.2.1 v5.1.2.2.1)) H fun v7 H=>?_
 refine fZs [33,1033,31,1031,29,1029,27,1027,24,1024,21,1021,18,1018,15,1015] (Z (G11 [p 4 (R 4),p 5 (R 5),p 6 (R 6),p 7 (R 7),p 8 (R 8),p 9 (R 9),p 10 (R 10),p 11 (R 11)]) [(11,bx 163 (Q10 v7.1)),(500000,K 152 a0n v7.2),(10,bx 163 (Q10 v6.1)),(9,bx 163 (Q10 v0.1)),(8,bx 163 (Q7 v1.1)),(7,bx 163 (Q7 v2.1)),(6,bx 163 (Q7 v3.1)),(5,bx 163 (Q7 v4.1)),(4,bx 163 (Q7 v5.1)),(3,bx 26 [nil]),(2,bx 26 [nil])])<|qC (fun v8=>Z (G11 []) [(3,bx 26 [AV.os 42 0]),(42,Ob.arr 163 false y163 v8 0),(11,bx 163 (Q10 v7.1)),(500000,K 152 a0n v7.2),(10,bx 163 (Q10 v6.1)),(9,bx 163 (Q10 v0.1)),(8,bx 163 (Q7 v1.1)),(7,bx 163 (Q7 v2.1)),(6,bx 163 (Q7 v3.1)),(5,bx 163 (Q7 v4.1)),(4,bx 163 (Q7 v5.1)),(2,bx 26 [nil])]) H fun v8 H=>qA (Z [p 2 (R 2)] [(2,bx 26 [AV.os 42 0]),(3,bx 26 [AV.os 42 0]),(42,Ob.arr 163 false y163 v8 0),(11,bx 163 (Q10 v7.1)),(500000,K 152 a0n v7.2),(10,bx 163 (Q10 v6.1)),(9,bx 163 (Q10 v0.1)),(8,bx 163 (Q7 v1.1)),(7,bx 163 (Q7 v2.1)),(6,bx 163 (Q7 v3.1)),(5,bx 163 (Q7 v4.1)),(4,bx 163 (Q7 v5.1))])<|vTT<|hr H
def B0M(a0:Int)(a1:Int):Option (b0I) :=
 gd ((0<=a0/\a0=a0/\a0.toNat*8<=281474976710656/\a0<=9223372036854775807)/\True) <|
 some ([-1],[0],[a1],List.replicate a0.toNat 0)
def J0v:Ct:=lct 209 [.dat i64,.dat i64] (fun x=>B0M x.1 x.2.1) (fun r:b0I=>AV.agg [AV.ow 2 true i64 r.1,AV.ow 2 true i64 r.2.1,AV.ow 2 true i64 r.2.2.1,AV.ow 2 true i64 r.2.2.2]) (fun _=>())
theorem I0a:Ok prog J0v:=by
 refine okL [.cell 4 110] func209 ntmps209 results209 ?_;intro y ⟨a0,a1,_⟩ r H Q hn hr;have:HT _ _:=⟨@tn prog⟩;refine qA (Z [p 0 (J a0),p 1 (J a1),p 4 (R 4)] [(4,bx 110 [nil,nil,nil,nil])])<|qB (Z [p 4 (R 4)] [(4,bx 110 [AV.os 5 0,AV.os 6 0,AV.os 8 0,AV.os 10 0]),(10,A 2 i64 (List.replicate a0.toNat 0) 0),(8,A 2 i64 [a1] 0),(6,A 2 i64 [0] 0),(5,A 2 i64 [-1] 0)]) H fun H=>vTT<|hr H
def t0T(g208:Int->Option ByteArray)(a0:Int):Option (ByteArray) :=
 if(decide (a0<0))=true then
  gd (a0f (-a0)/\(g208 (-a0)).isSome=true/\(ByteArray.mk #[45]).size+(vl (g208 (-a0))).size<=9223372036854775807/\True)<|lt (vl (g208 (-a0))) fun v0 =>
  some (ByteArray.mk #[45]++v0)
 else
  if(decide (a0<10))=true then
   gd (a0f (48+a0)/\True/\0<[(48+a0) % 256].length/\True) <|
   some (strOfNums [(48+a0) % 256])
  else
   gd ((0:Int) < (10:Int)/\(g208 (a0.tdiv (10:Int))).isSome=true/\(0:Int) < (10:Int)/\a0f ((48:Int)+a0.tmod (10:Int))/\True/\0<[((48:Int)+a0.tmod (10:Int)) % (256:Int)].length/\(vl (g208 (a0.tdiv (10:Int)))).size+(strOfNums [((48:Int)+a0.tmod (10:Int)) % (256:Int)]).size<=9223372036854775807/\True)<|lt (vl (g208 (a0.tdiv 10))) fun v1 =>
   some (v1++strOfNums [(48+a0.tmod 10) % 256])
theorem E0C(g208:Int->Option ByteArray)(E0D:Ok prog (lct 208 [.dat i64] (fun x=>g208 x.1) (fun r=>S r) (fun _=>()))):Ok prog (lct 208 [.dat i64] (fun x=>t0T g208 x.1) (fun r:ByteArray=>S r) (fun _=>())):=by
 refine okL [.tmp 2] func208 ntmps208 results208 ?_;intro y ⟨a0,_⟩ r H Q hn hr;have:HT _ _:=⟨tc E0D tn⟩;refine qA (Z [p 0 (J a0)] [])<|vQ<|qA (Z [p 0 (J a0),p 4 (B (decide (a0<0)))] [])<|cD H (fun H=>?_) (fun H=>?_)
 ·refine qD (fun v0=>Z [p 2 (S (ByteArray.mk #[45]++v0))] []) H fun v0 H=>vTT<|fR<|hr H
 refine vK<|fQ<|vQ<|qA (Z [p 0 (J a0),p 10 (B (decide (a0<10)))] [])<|cD H (fun H=>?_) (fun H=>?_)
 ·refine qB (Z [p 2 (S (strOfNums [(48+a0) % 256]))] [(14,A 5 b8 [(48+a0) % 256] 0)]) H fun H=>vTT<|fR<|hr H
 refine vK<|fQ<|qD (fun v1=>Z [p 2 (S (v1++strOfNums [(48+a0.tmod 10) % 256]))] [(23,A 5 b8 [(48+a0.tmod 10) % 256] 0)]) H fun v1 H=>vTT<|hr H
def p0o:Nat->Int->Option ByteArray
 | 0,_=>none
 | m+1,n=>t0T (p0o m) n
theorem C0l:∀m,Ok prog (lct 208 [.dat i64] (fun x=>p0o m x.1) (fun r=>S r) (fun _=>()))
 | 0=>⟨by kernel_rfl,fun _ hq=>by cases hq⟩
 | m+1=>E0C (p0o m) (C0l m)
def t0p(n:Int):Option ByteArray:=p0o 25 n
def J0w:Ct:=lct 208 [.dat i64] (fun x=>t0p x.1) (fun r=>S r) (fun _=>())
theorem E0D:Ok prog J0w:=C0l 25
abbrev sd(s:a0u):Prop:=0<=s.2.1/\0<=s.2.2/\s.2.2<2147483647
abbrev E0d(x:a0E [.io 152 a0n,.dat i64,.dat .bool]):Prop:=sd x.1/\2<=x.2.1/\x.2.1<=6
abbrev E0b(r:Y31×a0u):Prop:=sd r.2/\(r.1.1.length<=6/\∀i∈r.1.1,i.2.2.length<=4)/\(1<=r.1.2.1.length/\r.1.2.1.length<=20)/\(1<=r.1.2.2.length/\r.1.2.2.length<=5)/\Xd.cnt y31 r.1<=2000
abbrev D0d(x:a0E [.io 152 a0n,.dat i64]):Prop:=sd x.1/\0<=x.2.1/\x.2.1<=40
abbrev E0a(r:b0I×a0u):Prop:=sd r.2/\1<=r.1.1.length/\1<=r.1.2.1.length/\1<=r.1.2.2.1.length/\Xd.cnt a0j r.1<=60
abbrev y0m(x:a0E [.io 152 a0n,.dat i64,.dat .bool]):Prop:=sd x.1/\2<=x.2.1/\x.2.1<=6
abbrev z0W(r:Y34×a0u):Prop:=sd r.2/\1<=r.1.2.2.length/\(∀w∈r.1.2.2,1<=w.1.length/\1<=w.2.1.length/\1<=w.2.2.1.length)/\1<=r.1.2.1.2.2.length/\Xd.cnt y34 r.1<=10000
abbrev E0c(r:Y34×a0u):Prop:=sd r.2/\Xd.cnt y34 r.1<=20000
abbrev T54(r:Y34×a0u):Prop:=sd r.2/\Xd.cnt y34 r.1<=20000
abbrev T80(r:Y34×a0u):Prop:=sd r.2/\Xd.cnt y34 r.1<=20000
abbrev T36(r:Y34):Prop:=Xd.cnt y34 r<=20000
end Go.Proofs.YtphnknndgfgepaaGreatDoor
end
