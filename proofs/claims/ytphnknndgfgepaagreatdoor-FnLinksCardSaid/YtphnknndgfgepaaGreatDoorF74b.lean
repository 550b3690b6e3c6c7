/- Functions of this program as plain functions of data, and that they are so: printed by program. -/
import Derived.Test.YtphnknndgfgepaaGreatDoorF74a
section
namespace Go.Proofs.YtphnknndgfgepaaGreatDoor
open Go Go.Proofs Go.Proofs.Sv Go.Proofs.Xv Go.Proofs.Xl Go.RowKit
open Tryz
def u65J3:Unit->Option (Bool)
 | _ =>
 some true
def u65L4(v9:List Int)(a0:Y34)(g4:Int->Option (Bool)):Int->Option (Bool)
 | v11 =>
 if(decide (v11 < (a0.2.2.length:Int)))=true then
  gd (ix v11 a0.2.2.length/\True)<|lt (a0.2.2.getD v11.toNat (dflt y110)) fun v12 =>
  gd (ix v11 v9.length/\v11.toNat<v9.length/\(u127 v12 (v9.getD v11.toNat 0)).isSome=true/\True) <|
  if(!vl (u127 v12 (v9.getD v11.toNat 0)))=true then
   some false
  else
   gd (in64 (v11+1)/\True) <|
   g4 (v11+1)
 else
  u65J3 ()
def u65J0(a0:Y34):List Int->Option (Bool)
 | v9 =>
 lp (u65L4 v9 a0) 0
def u65J2(v4:Int)(g1:Int×List Int->Option (Bool)):List Int->Option (Bool)
 | v8 =>
 gd (in64 (v4+1)/\True) <|
 g1 (v4+1,v8)
def u65L1(v0:List Y105)(a0:Y34)(g1:Int×List Int->Option (Bool)):Int×List Int->Option (Bool)
 | (v4,v5) =>
 if(decide (v4 < (v0.length:Int)))=true then
  gd (ix v4 v0.length/\v4.toNat<v0.length/\True)<|lt (v0.getD v4.toNat (dflt y105)) fun v6 =>
  if(!v6.2.2.2)=true then
   gd (ix v6.2.2.1 v5.length/\v6.2.2.1.toNat<v5.length/\in64 (v5.getD v6.2.2.1.toNat 0+1)/\ix v6.2.2.1 v5.length/\v6.2.2.1.toNat<v5.length/\True)<|lt (v5.set v6.2.2.1.toNat (v5.getD v6.2.2.1.toNat 0+1)) fun v7 =>
   u65J2 v4 g1 v7
  else
   u65J2 v4 g1 v5
 else
  u65J0 a0 v5
def u65(a0:Y34):Option (Bool) :=
 gd ((u126 a0.1 a0.2.1).isSome=true/\True) <|
 if(!vl (u126 a0.1 a0.2.1)||(a0.2.2.length:Int) != (a0.2.1.2.1.length:Int))=true then
  some false
 else
  gd ((0<=(a0.2.2.length:Int)/\(a0.2.2.length:Int)=(a0.2.2.length:Int)/\(a0.2.2.length:Int).toNat*8<=281474976710656/\(a0.2.2.length:Int)<=9223372036854775807)/\True) <|
  gd ((u68 a0.2.1).isSome=true/\True)<|lt (vl (u68 a0.2.1)) fun v0 =>
  lp (u65L1 v0 a0) ((0,List.replicate (a0.2.2.length:Int).toNat 0))
def k65:Ct:=lct 65 [.agg y34] (fun x=>u65 x.1) (fun r:Bool=>B r) (fun _=>())
theorem o65:Ok prog k65:=by
 refine okL [.tmp 2] func65 ntmps65 results65 ?_;intro y ⟨a0,_⟩ r H Q hn hr;have:HT _ _:=⟨tc o127 (tc o68 (tc o126 tn))⟩;refine qA (Z [p 1 (R 1)] [(1,K 34 y34 a0)])<|vQ<|qB (Z [p 1 (R 1),p 23 (B (!vl (u126 a0.1 a0.2.1)||(a0.2.2.length:Int) != (a0.2.1.2.1.length:Int)))] [(1,K 34 y34 a0)]) H fun H=>cD H (fun H=>?_) (fun H=>?_)
 ·refine qA (Z [p 2 (B false)] [(1,K 34 y34 a0)])<|vTT<|fR<|hr H
 refine vK<|fQ<|qB (Z [p 1 (R 1),p 3 (O 27)] (W70 (List.replicate (a0.2.2.length:Int).toNat 0) a0)) H fun H=>jN r (fun(v9:List Int)=>Z [p 1 (R 1),p 3 (O 27)] (W70 v9 a0)) (u65J0 a0) (fun v9 H=>?_) (fun _ n0 e0 t0=>?_)
 ·refine jN r (fun(_:Unit)=>Z [] []) (u65J3) (fun _ H=>?_) (fun _ n3 e3 t3=>?_)
  ·refine qA (Z [p 2 (B true)] [])<|vTT<|hr H
  refine qA (Z [p 3 (O 27),p 48 (L y110 a0.2.2),p 49 (I (a0.2.2.length:Int)),p 50 (I 0)] (W70 v9 a0))<|vB<|lX (fun(v11:Int)=>Z [p 3 (O 27),p 48 (L y110 a0.2.2),p 49 (I (a0.2.2.length:Int)),p 50 (I v11)] [(27,A 2 i64 v9 0)]) 0 H fun _ g4 b4 e4 t4 v11 H=>qA (Z [p 3 (O 27),p 48 (L y110 a0.2.2),p 49 (I (a0.2.2.length:Int)),p 50 (I v11),p 51 (B (decide (v11 < (a0.2.2.length:Int))))] [(27,A 2 i64 v9 0)])<|vQ<|cD H (fun H=>?_) (fun H=>?_)
  ·refine vK<|fQ<|vQ<|vB<|qD (fun v12=>Z [p 3 (O 27),p 6 (I v11),p 7 (R 7),p 48 (L y110 a0.2.2),p 49 (I (a0.2.2.length:Int)),p 50 (I v11)] [(7,K 110 y110 v12),(27,A 2 i64 v9 0)]) H fun v12 H=>qB (Z [p 3 (O 27),p 48 (L y110 a0.2.2),p 49 (I (a0.2.2.length:Int)),p 50 (I v11),p 61 (B !vl (u127 v12 (v9.getD v11.toNat 0)))] [(7,K 110 y110 v12),(27,A 2 i64 v9 0)]) H fun H=>cD H (fun H=>?_) (fun H=>?_)
   ·refine qA (Z [p 2 (B false)] [(7,K 110 y110 v12),(27,A 2 i64 v9 0)])<|vTT<|fDD<|fR<|t4<|fDD<|t3<|hr H
   refine vK<|fK<|fQ<|zB (Z [p 3 (O 27),p 48 (L y110 a0.2.2),p 49 (I (a0.2.2.length:Int)),p 50 (I (v11+1))] [(7,K 110 y110 v12),(27,A 2 i64 v9 0)]) H fun H=>b4 H
  exact vE<|fE<|e4<|fX rfl<|n3 H
 refine qD (fun v0=>Z (G58 (v0.length:Int) [p 32 (I 0)]) ((30,A 105 y105 v0 0)::W70 (List.replicate (a0.2.2.length:Int).toNat 0) a0)) H fun v0 H=>vB<|lX (fun((v4,v5):Int×List Int)=>Z (G58 (v0.length:Int) [p 32 (I v4)]) ((30,A 105 y105 v0 0)::W70 v5 a0)) ((0,List.replicate (a0.2.2.length:Int).toNat 0)) H fun _ g1 b1 e1 t1 ⟨v4,v5⟩ H=>qA (Z (G58 (v0.length:Int) [p 32 (I v4),p 33 (B (decide (v4 < (v0.length:Int))))]) ((30,A 105 y105 v0 0)::W70 v5 a0))<|vQ<|cD H (fun H=>?_) (fun H=>?_)
 ·refine vK<|fQ<|jN r (fun(v8:List Int)=>Z (G58 (v0.length:Int) [p 32 (I v4)]) [(27,A 2 i64 v8 0),(30,A 105 y105 v0 0),(1,K 34 y34 a0)]) (u65J2 v4 g1) (fun v8 H=>?_) (fun _ n2 e2 t2=>?_)
  ·refine zB (Z (G58 (v0.length:Int) [p 32 (I (v4+1))]) [(27,A 2 i64 v8 0),(30,A 105 y105 v0 0),(1,K 34 y34 a0)]) H fun H=>b1 H
  refine vB<|qD (fun v6=>Z [p 1 (R 1),p 3 (O 27),p 5 (R 5),p 30 (O 30),p 31 (I (v0.length:Int)),p 32 (I v4)] ((5,bx 105 (cellsD true y105 v6))::(30,A 105 y105 v0 0)::W70 v5 a0)) H fun v6 H=>qA (Z [p 1 (R 1),p 3 (O 27),p 5 (R 5),p 30 (O 30),p 31 (I (v0.length:Int)),p 32 (I v4),p 38 (B !v6.2.2.2)] ((5,bx 105 (cellsD true y105 v6))::(30,A 105 y105 v0 0)::W70 v5 a0))<|cD H (fun H=>?_) (fun H=>?_)
  ·refine zD (fun v7=>Z (G58 (v0.length:Int) [p 32 (I v4)]) [(27,A 2 i64 v7 0),(5,bx 105 (cellsD true y105 v6)),(30,A 105 y105 v0 0),(1,K 34 y34 a0)]) H fun v7 H=>fK<|n2 H
  exact vK<|fK<|n2 H
 exact vE<|fE<|e1<|fX rfl<|n0 H
def u56(a0:Y34)(a1:List Int):Option (Int ⊕ (Y100×List Bool)×Int) :=
 gd ((u65 a0).isSome=true/\True) <|
 if(!vl (u65 a0))=true then
  some (Sum.inl 1)
 else
  gd ((u66 a0).isSome=true/\True)<|lt (vl (u66 a0)) fun v0 =>
  gd ((u113 v0 a1).isSome=true/\True) <|
  if(!vl (u113 v0 a1))=true then
   some (Sum.inl 2)
  else
   gd ((u114 v0 a1).isSome=true/\True)<|lt (vl (u114 v0 a1)) fun v1 =>
   some (Sum.inr (v1,(0:Int)))
def k56:Ct:=lct 56 [.agg y34,.dat i64.sl] (fun x=>u56 x.1 x.2.1) (two (fun r:Int=>AV.tup [AV.v (Value.pointer none),I r]) (fun r:(Y100×List Bool)×Int=>AV.tup [AV.ob 127 [D y100.pt r.1.1,AV.ow 4 true Ty.bool r.1.2],I r.2])) (fun _=>())
def k56L:Ct:=lctL 56 [.agg y34,.dat i64.sl] (fun x=>u56 x.1 x.2.1) (fun r:Int=>AV.tup [AV.v (Value.pointer none),I r]) ()
def k56R:Ct:=lctR 56 [.agg y34,.dat i64.sl] (fun x=>u56 x.1 x.2.1) (fun r:(Y100×List Bool)×Int=>AV.tup [AV.ob 127 [D y100.pt r.1.1,AV.ow 4 true Ty.bool r.1.2],I r.2]) ()
theorem o56:Ok prog k56:=by
 refine okL [.tmp 4,.tmp 5] func56 ntmps56 results56 ?_;intro y ⟨a0,a1,_⟩ r H Q hn hr;have:HT _ _:=⟨tc o114 (tc o113 (tc o66 (tc o65 tn)))⟩;refine qA (Z [p 1 (L i64 a1),p 2 (R 2)] [(2,K 34 y34 a0)])<|vQ<|qB (Z [p 1 (L i64 a1),p 2 (R 2),p 9 (B !vl (u65 a0))] [(2,K 34 y34 a0)]) H fun H=>cD H (fun H=>?_) (fun H=>?_)
 ·refine qA (Z [p 4 (AV.v (Value.pointer none)),p 5 (I 1)] [(2,K 34 y34 a0)])<|vTT<|fR<|hr H
 refine vK<|fQ<|qD (fun v0=>Z [p 1 (L i64 a1),p 6 (D y100.pt v0)] [(2,K 34 y34 a0)]) H fun v0 H=>vQ<|qB (Z [p 1 (L i64 a1),p 6 (D y100.pt v0),p 15 (B !vl (u113 v0 a1))] [(2,K 34 y34 a0)]) H fun H=>cD H (fun H=>?_) (fun H=>?_)
 ·refine qA (Z [p 4 (AV.v (Value.pointer none)),p 5 (I 2)] [(2,K 34 y34 a0)])<|vTT<|fR<|hr H
 refine vK<|fQ<|qD (fun v1=>Z [p 4 (R 1018),p 5 (I 0)] [(1018,bx 127 [D y100.pt v1.1,AV.os 18 0]),(18,A 4 Ty.bool v1.2 0),(2,K 34 y34 a0)]) H fun v1 H=>vTT<|hr H
theorem o56L:Ok prog k56L:=ok_l o56
theorem o56R:Ok prog k56R:=ok_r o56
def u60J0:List Int->Option (List Int×Bool)
 | v18 =>
 some (v18,true)
def u60J5(v8:List Bool)(v9:List Int)(a0:Int)(g1:List Bool×List Int->Option (List Int×Bool)):Int->Option (List Int×Bool)
 | v17 =>
 if(v17==a0)=true then
  some ([],false)
 else
  gd (ix v17 v8.length/\v17.toNat<v8.length/\True) <|
  gd ((v9.length+[v17].length<=9223372036854775807/\(v9.length+[v17].length)*8<=140737488355328)/\True) <|
  g1 (v8.set v17.toNat true,v9++[v17])
def u60L6(v8:List Bool)(v9:List Int)(a0:Int)(v15:List Bool)(g1:List Bool×List Int->Option (List Int×Bool))(g6:Int->Option (List Int×Bool)):Int->Option (List Int×Bool)
 | v16 =>
 gd ((decide (v16<a0)=true/\True->ix v16 v8.length)/\(decide (v16<a0)=true/\True->v16.toNat<v8.length)/\(v8.getD v16.toNat false=false/\decide (v16<a0)=true/\True->ix v16 v15.length)/\(v8.getD v16.toNat false=false/\decide (v16<a0)=true/\True->v16.toNat<v15.length)/\True) <|
 if(decide (v16<a0)&&(v8.getD v16.toNat false||v15.getD v16.toNat false))=true then
  gd (in64 (v16+1)/\True) <|
  g6 (v16+1)
 else
  u60J5 v8 v9 a0 g1 v16
def u60J2(v8:List Bool)(v9:List Int)(a0:Int)(g1:List Bool×List Int->Option (List Int×Bool)):List Bool->Option (List Int×Bool)
 | v15 =>
 lp (u60L6 v8 v9 a0 v15 g1) 0
def u60J4(v12:Int)(g3:Int×List Bool->Option (List Int×Bool)):List Bool->Option (List Int×Bool)
 | v14 =>
 gd (in64 (v12+1)/\True) <|
 g3 (v12+1,v14)
def u60L3(a1:List Y48)(a2:List Bool)(v8:List Bool)(v9:List Int)(a0:Int)(g1:List Bool×List Int->Option (List Int×Bool))(g3:Int×List Bool->Option (List Int×Bool)):Int×List Bool->Option (List Int×Bool)
 | (v12,v13) =>
 if(decide (v12 < (a1.length:Int)))=true then
  gd (ix v12 a2.length/\(a2.getD v12.toNat false=true/\True->ix v12 a1.length)/\(a2.getD v12.toNat false=true/\True->ix (a1.getD v12.toNat (dflt y48)).1 v8.length)/\(a2.getD v12.toNat false=true/\True->(a1.getD v12.toNat (dflt y48)).1.toNat<v8.length)/\True) <|
  if(a2.getD v12.toNat false&&!v8.getD (a1.getD v12.toNat (dflt y48)).1.toNat false)=true then
   gd (ix v12 a1.length/\ix (a1.getD v12.toNat (dflt y48)).2.1 v13.length/\(a1.getD v12.toNat (dflt y48)).2.1.toNat<v13.length/\True) <|
   u60J4 v12 g3 (v13.set (a1.getD v12.toNat (dflt y48)).2.1.toNat true)
  else
   u60J4 v12 g3 v13
 else
  u60J2 v8 v9 a0 g1 v13
def u60L1(a1:List Y48)(a2:List Bool)(a0:Int)(g1:List Bool×List Int->Option (List Int×Bool)):List Bool×List Int->Option (List Int×Bool)
 | (v8,v9) =>
 if(decide ((v9.length:Int)<a0))=true then
  gd ((0<=a0/\a0=a0/\a0.toNat*1<=281474976710656/\a0<=9223372036854775807)/\True) <|
  lp (u60L3 a1 a2 v8 v9 a0 g1) (0,List.replicate a0.toNat false)
 else
  u60J0 v9
def u60(a0:Int)(a1:List Y48)(a2:List Bool):Option (List Int×Bool) :=
 gd ((0<=a0/\a0=a0/\a0.toNat*1<=281474976710656/\a0<=9223372036854775807)/\True) <|
 lp (u60L1 a1 a2 a0) (List.replicate a0.toNat false,[])
def k60:Ct:=lct 60 [.dat i64,.dat y48.sl,.dat Ty.bool.sl] (fun x=>u60 x.1 x.2.1 x.2.2.1) (fun r:List Int×Bool=>AV.tup [AV.ow 2 true i64 r.1,B r.2]) (fun _=>())
theorem o60:Ok prog k60:=by
 refine okL [.tmp 6,.tmp 7] func60 ntmps60 results60 ?_;intro y ⟨a0,a1,a2,_⟩ r H Q hn hr;have:HT _ _:=⟨@tn prog⟩;refine qA (Z [p 0 (J a0),p 1 (L y48 a1),p 2 (L Ty.bool a2)] [])<|qA (Z [p 0 (J a0),p 1 (L y48 a1),p 2 (L Ty.bool a2),p 8 (O 13)] [(13,A 2 i64 [] 0)])<|qB (Z (G8 a0 a1 a2 []) [(15,A 4 Ty.bool (List.replicate a0.toNat false) 0),(13,A 2 i64 [] 0)]) H fun H=>jN r (fun(v18:List Int)=>Z [p 8 (O 13)] [(13,A 2 i64 v18 0)]) (u60J0) (fun v18 H=>?_) (fun _ n0 e0 t0=>?_)
 ·refine qA (Z [p 6 (O 13),p 7 (B true)] [(13,A 2 i64 v18 0)])<|vTT<|hr H
 refine vB<|lX (fun((v8,v9):List Bool×List Int)=>Z (G8 a0 a1 a2 []) [(15,A 4 Ty.bool v8 0),(13,A 2 i64 v9 0)]) (List.replicate a0.toNat false,[]) H fun _ g1 b1 e1 t1 ⟨v8,v9⟩ H=>vQ<|qA (Z (G8 a0 a1 a2 [p 19 (B (decide ((v9.length:Int)<a0)))]) [(15,A 4 Ty.bool v8 0),(13,A 2 i64 v9 0)])<|cD H (fun H=>?_) (fun H=>?_)
 ·refine vK<|fQ<|vB<|qB (Z (G8 a0 a1 a2 [p 10 (O 21)]) (W20 (List.replicate a0.toNat false) v8 v9)) H fun H=>jN r (fun(v15:List Bool)=>Z (G8 a0 a1 a2 [p 10 (O 21)]) (W20 v15 v8 v9)) (u60J2 v8 v9 a0 g1) (fun v15 H=>?_) (fun _ n2 e2 t2=>?_)
  ·refine qA (Z (G8 a0 a1 a2 [p 10 (O 21),p 12 (I 0)]) (W20 v15 v8 v9))<|jN r (fun(v17:Int)=>Z (G8 a0 a1 a2 [p 12 (I v17)]) [(15,A 4 Ty.bool v8 0),(13,A 2 i64 v9 0)]) (u60J5 v8 v9 a0 g1) (fun v17 H=>?_) (fun _ n5 e5 t5=>?_)
   ·refine vQ<|qA (Z (G8 a0 a1 a2 [p 12 (I v17),p 69 (B (v17==a0))]) [(15,A 4 Ty.bool v8 0),(13,A 2 i64 v9 0)])<|cD H (fun H=>?_) (fun H=>?_)
    ·refine qA (Z [p 6 (O 70),p 7 (B false)] [(70,A 2 i64 [] 0),(15,A 4 Ty.bool v8 0),(13,A 2 i64 v9 0)])<|vTT<|fR<|fDD<|t1<|fDD<|t0<|hr H
    refine vK<|fQ<|qB (Z (G8 a0 a1 a2 [p 12 (I v17)]) [(15,A 4 Ty.bool (v8.set v17.toNat true) 0),(13,A 2 i64 v9 0)]) H fun H=>zB (Z [p 0 (J a0),p 1 (L y48 a1),p 2 (L Ty.bool a2),p 8 (AV.os 13 1),p 9 (O 15)] [(13,A 2 i64 (v9++[v17]) 1),(76,A 2 i64 [v17] 0),(15,A 4 Ty.bool (v8.set v17.toNat true) 0)]) H fun H=>fK<|b1 H
   refine vB<|lX (fun(v16:Int)=>Z (G8 a0 a1 a2 [p 10 (O 21),p 12 (I v16)]) (W20 v15 v8 v9)) 0 H fun _ g6 b6 e6 t6 v16 H=>vQ<|qB (Z (G8 a0 a1 a2 [p 10 (O 21),p 12 (I v16),p 64 (B (decide (v16<a0)&&(v8.getD v16.toNat false||v15.getD v16.toNat false)))]) (W20 v15 v8 v9)) H fun H=>cD H (fun H=>?_) (fun H=>?_)
   ·refine vK<|fQ<|vB<|zB (Z (G8 a0 a1 a2 [p 10 (O 21),p 12 (I (v16+1))]) (W20 v15 v8 v9)) H fun H=>fK<|b6 H
   exact vE<|fE<|e6<|fX rfl<|n5 H
  refine qA (Z (G8 a0 a1 a2 [p 10 (O 21),p 11 (I 0)]) (W20 (List.replicate a0.toNat false) v8 v9))<|vB<|lX (fun((v12,v13):Int×List Bool)=>Z (G8 a0 a1 a2 [p 10 (O 21),p 11 (I v12)]) (W20 v13 v8 v9)) (0,List.replicate a0.toNat false) H fun _ g3 b3 e3 t3 ⟨v12,v13⟩ H=>vQ<|qA (Z (G8 a0 a1 a2 [p 10 (O 21),p 11 (I v12),p 25 (B (decide (v12 < (a1.length:Int))))]) (W20 v13 v8 v9))<|cD H (fun H=>?_) (fun H=>?_)
  ·refine vK<|fQ<|jN r (fun(v14:List Bool)=>Z (G8 a0 a1 a2 [p 10 (O 21),p 11 (I v12)]) (W20 v14 v8 v9)) (u60J4 v12 g3) (fun v14 H=>?_) (fun _ n4 e4 t4=>?_)
   ·refine zB (Z (G8 a0 a1 a2 [p 10 (O 21),p 11 (I (v12+1))]) (W20 v14 v8 v9)) H fun H=>b3 H
   refine vB<|qB (Z (G8 a0 a1 a2 [p 10 (O 21),p 11 (I v12),p 42 (B (a2.getD v12.toNat false&&!v8.getD (a1.getD v12.toNat (dflt y48)).1.toNat false))]) (W20 v13 v8 v9)) H fun H=>cD H (fun H=>?_) (fun H=>?_)
   ·refine zB (Z (G8 a0 a1 a2 [p 10 (O 21),p 11 (I v12)]) (W20 (v13.set (a1.getD v12.toNat (dflt y48)).2.1.toNat true) v8 v9)) H fun H=>fK<|n4 H
   exact vK<|fK<|n4 H
  exact vE<|fE<|e3<|fX rfl<|n2 H
 exact vE<|fE<|e1<|fX rfl<|n0 H
def u125J0:Unit->Option (Bool)
 | _ =>
 some false
def u125L1(a0:List Int)(a1:Int)(g1:Int->Option (Bool)):Int->Option (Bool)
 | v0 =>
 if(decide (v0 < (a0.length:Int)))=true then
  gd (ix v0 a0.length/\True) <|
  if(a0.getD v0.toNat 0==a1)=true then
   some true
  else
   gd (in64 (v0+1)/\True) <|
   g1 (v0+1)
 else
  u125J0 ()
def u125(a0:List Int)(a1:Int):Option (Bool) :=
 lp (u125L1 a0 a1) 0
def k125:Ct:=lct 125 [.dat i64.sl,.dat i64] (fun x=>u125 x.1 x.2.1) (fun r:Bool=>B r) (fun _=>())
theorem o125:Ok prog k125:=by
 refine okL [.tmp 4] func125 ntmps125 results125 ?_;intro y ⟨a0,a1,_⟩ r H Q hn hr;have:HT _ _:=⟨@tn prog⟩;refine qA (Z (G49 a0 a1 []) [])<|jN r (fun(_:Unit)=>Z [] []) (u125J0) (fun _ H=>?_) (fun _ n0 e0 t0=>?_)
 ·refine qA (Z [p 4 (B false)] [])<|vTT<|hr H
 refine qA (Z (G49 a0 a1 [p 5 (I 0)]) [])<|vB<|lX (fun(v0:Int)=>Z (G49 a0 a1 [p 5 (I v0)]) []) 0 H fun _ g1 b1 e1 t1 v0 H=>vQ<|qA (Z (G49 a0 a1 [p 5 (I v0),p 9 (B (decide (v0 < (a0.length:Int))))]) [])<|cD H (fun H=>?_) (fun H=>?_)
 ·refine vK<|fQ<|vQ<|vB<|qB (Z (G49 a0 a1 [p 5 (I v0),p 17 (B (a0.getD v0.toNat 0==a1))]) []) H fun H=>cD H (fun H=>?_) (fun H=>?_)
  ·refine qA (Z [p 4 (B true)] [])<|vTT<|fDD<|fR<|t1<|fDD<|t0<|hr H
  refine vK<|fK<|fQ<|zB (Z (G49 a0 a1 [p 5 (I (v0+1))]) []) H fun H=>b1 H
 exact vE<|fE<|e1<|fX rfl<|n0 H
def u62J0:List Bool->Option (List Bool)
 | v2 =>
 some v2
def u62L1(a1:List Int)(a0:List Y48)(g1:Int×List Bool->Option (List Bool)):Int×List Bool->Option (List Bool)
 | (v0,v1) =>
 if(decide (v0 < (a0.length:Int)))=true then
  gd ((u125 a1 v0).isSome=true/\(v1.length+[!vl (u125 a1 v0)].length<=9223372036854775807/\(v1.length+[!vl (u125 a1 v0)].length)*1<=140737488355328)/\True) <|
  gd (in64 (v0+1)/\True) <|
  g1 ((v0+1,v1++[!vl (u125 a1 v0)]))
 else
  u62J0 v1
def u62(a0:List Y48)(a1:List Int):Option (List Bool) :=
 lp (u62L1 a1 a0) (0,[])
def k62:Ct:=lct 62 [.dat y48.sl,.dat i64.sl] (fun x=>u62 x.1 x.2.1) (fun r:List Bool=>AV.ow 4 true Ty.bool r) (fun _=>())
theorem o62:Ok prog k62:=by
 refine okL [.tmp 4] func62 ntmps62 results62 ?_;intro y ⟨a0,a1,_⟩ r H Q hn hr;have:HT _ _:=⟨tc o125 tn⟩;refine qA (Z [p 0 (L y48 a0),p 1 (L i64 a1)] [])<|qA (Z [p 0 (L y48 a0),p 1 (L i64 a1),p 5 (O 7)] [(7,A 4 Ty.bool [] 0)])<|jN r (fun(v2:List Bool)=>Z [p 5 (O 7)] [(7,A 4 Ty.bool v2 0)]) (u62J0) (fun v2 H=>?_) (fun _ n0 e0 t0=>?_)
 ·refine qA (Z [p 4 (O 7)] [(7,A 4 Ty.bool v2 0)])<|vTT<|hr H
 refine qA (Z [p 0 (L y48 a0),p 1 (L i64 a1),p 5 (O 7),p 6 (I 0)] [(7,A 4 Ty.bool [] 0)])<|vB<|lX (fun((v0,v1):Int×List Bool)=>Z [p 0 (L y48 a0),p 1 (L i64 a1),p 5 (O 7),p 6 (I v0)] [(7,A 4 Ty.bool v1 0)]) (0,[]) H fun _ g1 b1 e1 t1 ⟨v0,v1⟩ H=>vQ<|qA (Z [p 0 (L y48 a0),p 1 (L i64 a1),p 5 (O 7),p 6 (I v0),p 11 (B (decide (v0 < (a0.length:Int))))] [(7,A 4 Ty.bool v1 0)])<|cD H (fun H=>?_) (fun H=>?_)
 ·refine vK<|fQ<|vQ<|vB<|zB (Z [p 0 (L y48 a0),p 1 (L i64 a1),p 5 (AV.os 7 1),p 6 (I v0)] [(7,A 4 Ty.bool (v1++[!vl (u125 a1 v0)]) 1),(19,A 4 Ty.bool [!vl (u125 a1 v0)] 0)]) H fun H=>fK<|fQ<|zB (Z [p 0 (L y48 a0),p 1 (L i64 a1),p 5 (AV.os 7 1),p 6 (I (v0+1))] [(7,A 4 Ty.bool (v1++[!vl (u125 a1 v0)]) 1),(19,A 4 Ty.bool [!vl (u125 a1 v0)] 0)]) H fun H=>b1 H
 exact vE<|fE<|e1<|fX rfl<|n0 H
def u124J4:List Y179->Option (List Y179)
 | v25 =>
 some v25
def u124L5(a0:Y31)(g5:Int×List Y179->Option (List Y179)):Int×List Y179->Option (List Y179)
 | (v21,v22) =>
 if(decide (v21 < (a0.2.2.length:Int)))=true then
  gd (ix v21 a0.2.2.length/\ix v21 a0.2.2.length/\(v22.length+[(-1,v21,(a0.2.2.getD v21.toNat (dflt y175)).2.2,(a0.2.2.getD v21.toNat (dflt y175)).2.1==1)].length<=9223372036854775807/\(v22.length+[(-1,v21,(a0.2.2.getD v21.toNat (dflt y175)).2.2,(a0.2.2.getD v21.toNat (dflt y175)).2.1==1)].length)*32<=140737488355328)/\True)<|lt ((v22++[(-1,v21,(a0.2.2.getD v21.toNat (dflt y175)).2.2,(a0.2.2.getD v21.toNat (dflt y175)).2.1==1)],[(-1,v21,(a0.2.2.getD v21.toNat (dflt y175)).2.2,(a0.2.2.getD v21.toNat (dflt y175)).2.1==1)])) fun(v23,_v24) =>
  gd (in64 (v21+1)/\True) <|
  g5 (v21+1,v23)
 else
  u124J4 v22
def u124J0(a0:Y31):List Y179->Option (List Y179)
 | v18 =>
 lp (u124L5 a0) (0,v18)
def u124J2(v8:Int)(g1:Int×List Y179->Option (List Y179)):List Y179->Option (List Y179)
 | v17 =>
 gd (in64 (v8+1)/\True) <|
 g1 (v8+1,v17)
def u124L3(v8:Int)(v10:Y165)(g1:Int×List Y179->Option (List Y179))(g3:Int×List Y179->Option (List Y179)):Int×List Y179->Option (List Y179)
 | (v13,v14) =>
 if(decide (v13 < (v10.2.2.length:Int)))=true then
  gd (ix v13 v10.2.2.length/\in64 ((v10.2.2.length:Int)-1)/\(v14.length+[(v8,v13,v10.2.2.getD v13.toNat 0,v13==(v10.2.2.length:Int)-1)].length<=9223372036854775807/\(v14.length+[(v8,v13,v10.2.2.getD v13.toNat 0,v13==(v10.2.2.length:Int)-1)].length)*32<=140737488355328)/\True)<|lt ((v14++[(v8,v13,v10.2.2.getD v13.toNat 0,v13==(v10.2.2.length:Int)-1)],[(v8,v13,v10.2.2.getD v13.toNat 0,v13==(v10.2.2.length:Int)-1)])) fun(v15,_v16) =>
  gd (in64 (v13+1)/\True) <|
  g3 (v13+1,v15)
 else
  u124J2 v8 g1 v14
def u124L1(a0:Y31)(g1:Int×List Y179->Option (List Y179)):Int×List Y179->Option (List Y179)
 | (v8,v9) =>
 if(decide (v8 < (a0.1.length:Int)))=true then
  gd (ix v8 a0.1.length/\True)<|lt (a0.1.getD v8.toNat (dflt y165)) fun v10 =>
  lp (u124L3 v8 v10 g1) (0,v9)
 else
  u124J0 a0 v9
def u124(a0:Y31):Option (List Y179) :=
 lp (u124L1 a0) (0,[])
def k124:Ct:=lct 124 [.agg y31] (fun x=>u124 x.1) (fun r:List Y179=>AV.ow 179 true y179 r) (fun _=>())
theorem o124:Ok prog k124:=by
 refine okL [.tmp 2] func124 ntmps124 results124 ?_;intro y ⟨a0,_⟩ r H Q hn hr;have:HT _ _:=⟨@tn prog⟩;refine qA (Z [p 1 (R 1)] [(1,K 31 y31 a0)])<|qA (Z (G52 []) [(8,A 179 y179 [] 0),(1,K 31 y31 a0)])<|jN r (fun(v18:List Y179)=>Z (G52 []) (W38 v18 a0)) (u124J0 a0) (fun v18 H=>?_) (fun _ n0 e0 t0=>?_)
 ·refine jN r (fun(v25:List Y179)=>Z [p 3 (O 8)] [(8,A 179 y179 v25 0)]) (u124J4) (fun v25 H=>?_) (fun _ n4 e4 t4=>?_)
  ·refine qA (Z [p 2 (O 8)] [(8,A 179 y179 v25 0)])<|vTT<|hr H
  refine qA (Z (G52 [p 7 (I 0)]) (W38 v18 a0))<|vB<|lX (fun((v21,v22):Int×List Y179)=>Z (G52 [p 7 (I v21)]) (W38 v22 a0)) (0,v18) H fun _ g5 b5 e5 t5 ⟨v21,v22⟩ H=>vQ<|qA (Z (G52 [p 7 (I v21),p 47 (B (decide (v21 < (a0.2.2.length:Int))))]) (W38 v22 a0))<|cD H (fun H=>?_) (fun H=>?_)
  ·refine vK<|fQ<|vQ<|vB<|zD (fun(v23,v24)=>Z [p 1 (R 1),p 3 (AV.os 8 1),p 7 (I v21)] [(8,A 179 y179 v23 1),(66,A 179 y179 v24 0),(1,K 31 y31 a0)]) H fun⟨v23,v24⟩ H =>
    fK<|fQ <|
    zB (Z [p 1 (R 1),p 3 (AV.os 8 1),p 7 (I (v21+1))] [(8,A 179 y179 v23 1),(66,A 179 y179 v24 0),(1,K 31 y31 a0)]) H fun H =>
    b5 H
  exact vE<|fE<|e5<|fX rfl<|n4 H
 refine qA (Z (G52 [p 4 (I 0)]) [(8,A 179 y179 [] 0),(1,K 31 y31 a0)])<|vB<|lX (fun((v8,v9):Int×List Y179)=>Z (G52 [p 4 (I v8)]) (W38 v9 a0)) (0,[]) H fun _ g1 b1 e1 t1 ⟨v8,v9⟩ H=>vQ<|qA (Z (G52 [p 4 (I v8),p 13 (B (decide (v8 < (a0.1.length:Int))))]) (W38 v9 a0))<|cD H (fun H=>?_) (fun H=>?_)
 ·refine vK<|fQ<|jN r (fun(v17:List Y179)=>Z (G52 [p 4 (I v8)]) (W38 v17 a0)) (u124J2 v8 g1) (fun v17 H=>?_) (fun _ n2 e2 t2=>?_)
  ·refine zB (Z (G52 [p 4 (I (v8+1))]) (W38 v17 a0)) H fun H=>b1 H
  refine vB<|qD (fun v10=>Z (G52 [p 4 (I v8),p 5 (L i64 v10.2.2)]) (W38 v9 a0)) H fun v10 H=>qA (Z (G52 [p 4 (I v8),p 5 (L i64 v10.2.2),p 6 (I 0)]) (W38 v9 a0))<|vB<|lX (fun((v13,v14):Int×List Y179)=>Z (G52 [p 4 (I v8),p 5 (L i64 v10.2.2),p 6 (I v13)]) (W38 v14 a0)) (0,v9) H fun _ g3 b3 e3 t3 ⟨v13,v14⟩ H=>vQ<|qA (Z (G52 [p 4 (I v8),p 5 (L i64 v10.2.2),p 6 (I v13),p 25 (B (decide (v13 < (v10.2.2.length:Int))))]) (W38 v14 a0))<|cD H (fun H=>?_) (fun H=>?_)
  ·refine vK<|fQ<|vQ<|vB<|zD (fun(v15,v16)=>Z [p 1 (R 1),p 3 (AV.os 8 1),p 4 (I v8),p 5 (L i64 v10.2.2),p 6 (I v13)] [(8,A 179 y179 v15 1),(41,A 179 y179 v16 0),(1,K 31 y31 a0)]) H fun⟨v15,v16⟩ H =>
    fK<|fQ <|
    zB (Z [p 1 (R 1),p 3 (AV.os 8 1),p 4 (I v8),p 5 (L i64 v10.2.2),p 6 (I (v13+1))] [(8,A 179 y179 v15 1),(41,A 179 y179 v16 0),(1,K 31 y31 a0)]) H fun H =>
    b3 H
  exact vE<|fE<|e3<|fX rfl<|fK<|n2 H
 exact vE<|fE<|e1<|fX rfl<|n0 H
def u61(a0:Y34):Option (Int) :=
 gd ((u124 a0.2.1).isSome=true/\in64 (2*(↑(vl (u124 a0.2.1)).length:Int))/\True)<|lt (vl (u124 a0.2.1)) fun v0 =>
 some (2*(v0.length:Int))
def k61:Ct:=lct 61 [.agg y34] (fun x=>u61 x.1) (fun r:Int=>I r) (fun _=>())
theorem o61:Ok prog k61:=by
 refine okL [.tmp 2] func61 ntmps61 results61 ?_;intro y ⟨a0,_⟩ r H Q hn hr;have:HT _ _:=⟨tc o124 tn⟩;refine qA (Z [p 1 (R 1)] [(1,K 34 y34 a0)])<|qD (fun v0=>Z [p 2 (I (2*(v0.length:Int)))] [(5,A 179 y179 v0 0),(1,K 34 y34 a0)]) H fun v0 H=>vTT<|hr H
def u123(a0:List Y48)(a1:Int)(a2:Int)(a3:Int)(a4:Int)(a5:Int)(a6:Int):Option (List Y48) :=
 gd (in64 (2*a1)/\in64 (2*a1+a3)/\in64 (2*a2)/\in64 (2*a2+a4)/\(a0.length+[(2*a1+a3,2*a2+a4,a5,a6)].length<=9223372036854775807/\(a0.length+[(2*a1+a3,2*a2+a4,a5,a6)].length)*32<=140737488355328)/\True) <|
 some (a0++[(2*a1+a3,2*a2+a4,a5,a6)])
def k123:Ct:=lct 123 [.os 48 y48,.dat i64,.dat i64,.dat i64,.dat i64,.dat i64,.dat i64] (fun x=>u123 x.1 x.2.1 x.2.2.1 x.2.2.2.1 x.2.2.2.2.1 x.2.2.2.2.2.1 x.2.2.2.2.2.2.1) (fun r:List Y48=>AV.ow 48 true y48 r) (fun _=>())
theorem o123:Ok prog k123:=by
 refine okL [.tmp 14] func123 ntmps123 results123 ?_;intro y ⟨a0,a1,a2,a3,a4,a5,a6,_⟩ r H Q hn hr;have:HT _ _:=⟨@tn prog⟩;refine qA (Z [p 0 (O 500000),p 1 (J a1),p 2 (J a2),p 3 (J a3),p 4 (J a4),p 5 (J a5),p 6 (J a6)] [(500000,A 48 y48 a0 0)])<|qB (Z [p 14 (AV.os 500000 1)] [(500000,A 48 y48 (a0++[(2*a1+a3,2*a2+a4,a5,a6)]) 1),(27,A 48 y48 [(2*a1+a3,2*a2+a4,a5,a6)] 0)]) H fun H=>vTT<|hr H
def u71J0:List Int->Option (List Int)
 | v5 =>
 some v5
def u71J2(v2:Int)(g1:Int×List Int->Option (List Int)):List Int->Option (List Int)
 | v4 =>
 gd (in64 (v2+1)/\True) <|
 g1 (v2+1,v4)
def u71L1(v0:List Y179)(a1:Int)(g1:Int×List Int->Option (List Int)):Int×List Int->Option (List Int)
 | (v2,v3) =>
 if(decide (v2 < (v0.length:Int)))=true then
  gd (ix v2 v0.length/\v2.toNat<v0.length/\(((v0.getD v2.toNat (dflt y179)).2.2.1==a1)=true/\True->ix v2 v0.length)/\(((v0.getD v2.toNat (dflt y179)).2.2.1==a1)=true/\True->v2.toNat<v0.length)/\True) <|
  if((v0.getD v2.toNat (dflt y179)).2.2.1==a1&&!(v0.getD v2.toNat (dflt y179)).2.2.2)=true then
   gd ((v3.length+[v2].length<=9223372036854775807/\(v3.length+[v2].length)*8<=140737488355328)/\True) <|
   u71J2 v2 g1 (v3++[v2])
  else
   u71J2 v2 g1 v3
 else
  u71J0 v3
def u71(a0:Y31)(a1:Int):Option (List Int) :=
 gd ((u124 a0).isSome=true/\True)<|lt (vl (u124 a0)) fun v0 =>
 lp (u71L1 v0 a1) (0,[])
def k71:Ct:=lct 71 [.agg y31,.dat i64] (fun x=>u71 x.1 x.2.1) (fun r:List Int=>AV.ow 2 true i64 r) (fun _=>())
theorem o71:Ok prog k71:=by
 refine okL [.tmp 4] func71 ntmps71 results71 ?_;intro y ⟨a0,a1,_⟩ r H Q hn hr;have:HT _ _:=⟨tc o124 tn⟩;refine qA (Z (G44 a1 []) [(2,K 31 y31 a0)])<|qA (Z (G44 a1 [p 5 (O 8)]) [(8,A 2 i64 [] 0),(2,K 31 y31 a0)])<|qD (fun v0=>Z (G72 a1 [p 6 (O 10)]) [(10,A 179 y179 v0 0),(8,A 2 i64 [] 0),(2,K 31 y31 a0)]) H fun v0 H=>jN r (fun(v5:List Int)=>Z [p 5 (O 8)] [(8,A 2 i64 v5 0)]) (u71J0) (fun v5 H=>?_) (fun _ n0 e0 t0=>?_)
 ·refine qA (Z [p 4 (O 8)] [(8,A 2 i64 v5 0)])<|vTT<|hr H
 refine qA (Z (G72 a1 [p 6 (O 10),p 7 (I 0)]) [(10,A 179 y179 v0 0),(8,A 2 i64 [] 0),(2,K 31 y31 a0)])<|vB<|lX (fun((v2,v3):Int×List Int)=>Z (G72 a1 [p 6 (O 10),p 7 (I v2)]) [(10,A 179 y179 v0 0),(8,A 2 i64 v3 0)]) (0,[]) H fun _ g1 b1 e1 t1 ⟨v2,v3⟩ H=>vQ<|qA (Z (G72 a1 [p 6 (O 10),p 7 (I v2),p 14 (B (decide (v2 < (v0.length:Int))))]) [(10,A 179 y179 v0 0),(8,A 2 i64 v3 0)])<|cD H (fun H=>?_) (fun H=>?_)
 ·refine vK<|fQ<|jN r (fun(v4:List Int)=>Z (G72 a1 [p 6 (O 10),p 7 (I v2)]) [(8,A 2 i64 v4 0),(10,A 179 y179 v0 0)]) (u71J2 v2 g1) (fun v4 H=>?_) (fun _ n2 e2 t2=>?_)
  ·refine zB (Z (G72 a1 [p 6 (O 10),p 7 (I (v2+1))]) [(8,A 2 i64 v4 0),(10,A 179 y179 v0 0)]) H fun H=>b1 H
  refine vB<|qB (Z (G72 a1 [p 6 (O 10),p 7 (I v2),p 31 (B ((v0.getD v2.toNat (dflt y179)).2.2.1==a1&&!(v0.getD v2.toNat (dflt y179)).2.2.2))]) [(10,A 179 y179 v0 0),(8,A 2 i64 v3 0)]) H fun H=>cD H (fun H=>?_) (fun H=>?_)
  ·refine zB (Z [p 1 (J a1),p 5 (AV.os 8 1),p 6 (O 10),p 7 (I v2)] [(8,A 2 i64 (v3++[v2]) 1),(34,A 2 i64 [v2] 0),(10,A 179 y179 v0 0)]) H fun H=>fK<|n2 H
  exact vK<|fK<|n2 H
 exact vE<|fE<|e1<|fX rfl<|n0 H
def u122J0:Unit->Option (Int)
 | _ =>
 some (-1)
def u122L1(v0:List Y179)(a1:Int)(g1:Int->Option (Int)):Int->Option (Int)
 | v1 =>
 if(decide (v1 < (v0.length:Int)))=true then
  gd (ix v1 v0.length/\v1.toNat<v0.length/\(((v0.getD v1.toNat (dflt y179)).2.2.1==a1)=true/\True->ix v1 v0.length)/\(((v0.getD v1.toNat (dflt y179)).2.2.1==a1)=true/\True->v1.toNat<v0.length)/\True) <|
  if((v0.getD v1.toNat (dflt y179)).2.2.1==a1&&(v0.getD v1.toNat (dflt y179)).2.2.2)=true then
   some v1
  else
   gd (in64 (v1+1)/\True) <|
   g1 (v1+1)
 else
  u122J0 ()
def u122(a0:Y31)(a1:Int):Option (Int) :=
 gd ((u124 a0).isSome=true/\True)<|lt (vl (u124 a0)) fun v0 =>
 lp (u122L1 v0 a1) 0
def k122:Ct:=lct 122 [.agg y31,.dat i64] (fun x=>u122 x.1 x.2.1) (fun r:Int=>I r) (fun _=>())
theorem o122:Ok prog k122:=by
 refine okL [.tmp 4] func122 ntmps122 results122 ?_;intro y ⟨a0,a1,_⟩ r H Q hn hr;have:HT _ _:=⟨tc o124 tn⟩;refine qA (Z (G44 a1 []) [(2,K 31 y31 a0)])<|qD (fun v0=>Z (G72 a1 []) [(8,A 179 y179 v0 0),(2,K 31 y31 a0)]) H fun v0 H=>jN r (fun(_:Unit)=>Z [] []) (u122J0) (fun _ H=>?_) (fun _ n0 e0 t0=>?_)
 ·refine qA (Z [p 4 (I (-1))] [])<|vTT<|hr H
 refine qA (Z (G72 a1 [p 6 (I 0)]) [(8,A 179 y179 v0 0),(2,K 31 y31 a0)])<|vB<|lX (fun(v1:Int)=>Z (G72 a1 [p 6 (I v1)]) [(8,A 179 y179 v0 0)]) 0 H fun _ g1 b1 e1 t1 v1 H=>vQ<|qA (Z (G72 a1 [p 6 (I v1),p 12 (B (decide (v1 < (v0.length:Int))))]) [(8,A 179 y179 v0 0)])<|cD H (fun H=>?_) (fun H=>?_)
 ·refine vK<|fQ<|vQ<|vB<|qB (Z (G72 a1 [p 6 (I v1),p 28 (B ((v0.getD v1.toNat (dflt y179)).2.2.1==a1&&(v0.getD v1.toNat (dflt y179)).2.2.2))]) [(8,A 179 y179 v0 0)]) H fun H=>cD H (fun H=>?_) (fun H=>?_)
  ·refine qA (Z [p 4 (I v1)] [(8,A 179 y179 v0 0)])<|vTT<|fDD<|fR<|t1<|fDD<|t0<|hr H
  refine vK<|fK<|fQ<|zB (Z (G72 a1 [p 6 (I (v1+1))]) [(8,A 179 y179 v0 0)]) H fun H=>b1 H
 exact vE<|fE<|e1<|fX rfl<|n0 H
def u120J0:List Y48->Option (List Y48)
 | v20 =>
 some v20
def u120J2(v9:Int)(g1:Int×List Y48->Option (List Y48)):List Y48->Option (List Y48)
 | v19 =>
 gd (in64 (v9+1)/\True) <|
 g1 (v9+1,v19)
def u120J4(v14:Int)(g3:Int×List Y48->Option (List Y48)):List Y48->Option (List Y48)
 | v18 =>
 gd (in64 (v14+1)/\True) <|
 g3 (v14+1,v18)
def u120J5(v14:Int)(v15:List Y48)(a2:Int)(a3:Int)(v9:Int)(a4:Int)(g3:Int×List Y48->Option (List Y48)):Bool->Option (List Y48)
 | v16 =>
 if v16=true then
  gd ((u123 v15 a2 a3 v9 v14 1 a4).isSome=true/\True)<|lt (vl (u123 v15 a2 a3 v9 v14 1 a4)) fun v17 =>
  u120J4 v14 g3 v17
 else
  u120J4 v14 g3 v15
def u120L3(a2:Int)(a3:Int)(v9:Int)(a4:Int)(a1:Y143)(g1:Int×List Y48->Option (List Y48))(g3:Int×List Y48->Option (List Y48)):Int×List Y48->Option (List Y48)
 | (v14,v15) =>
 if(decide (v14<=1))=true then
  if(a1.1==1)=true then
   u120J5 v14 v15 a2 a3 v9 a4 g3 (a1.2.2.2.1==3||(a1.2.2.2.1==1)==(v9==v14))
  else
   if(a1.1==2)=true then
    u120J5 v14 v15 a2 a3 v9 a4 g3 (v9==0)
   else
    if(a1.1==3)=true then
     u120J5 v14 v15 a2 a3 v9 a4 g3 (v9==1)
    else
     u120J5 v14 v15 a2 a3 v9 a4 g3 false
 else
  u120J2 v9 g1 v15
def u120L1(a2:Int)(a3:Int)(a4:Int)(a1:Y143)(g1:Int×List Y48->Option (List Y48)):Int×List Y48->Option (List Y48)
 | (v9,v10) =>
 if(decide (v9<=1))=true then
  lp (u120L3 a2 a3 v9 a4 a1 g1) (0,v10)
 else
  u120J0 v10
def u120(a0:List Y48)(a1:Y143)(a2:Int)(a3:Int)(a4:Int):Option (List Y48) :=
 lp (u120L1 a2 a3 a4 a1) (0,a0)
def k120:Ct:=lct 120 [.os 48 y48,.agg y143,.dat i64,.dat i64,.dat i64] (fun x=>u120 x.1 x.2.1 x.2.2.1 x.2.2.2.1 x.2.2.2.2.1) (fun r:List Y48=>AV.ow 48 true y48 r) (fun _=>())
theorem o120:Ok prog k120:=by
 refine okL [.tmp 10] func120 ntmps120 results120 ?_;intro y ⟨a0,a1,a2,a3,a4,_⟩ r H Q hn hr;have:HT _ _:=⟨tc o123 tn⟩;refine qA (Z [p 0 (O 500000),p 2 (J a2),p 3 (J a3),p 4 (J a4),p 6 (R 6)] (W19 a1 a0))<|jN r (fun(v20:List Y48)=>Z [p 0 (O 500000)] [(500000,A 48 y48 v20 0)]) (u120J0) (fun v20 H=>?_) (fun _ n0 e0 t0=>?_)
 ·refine qA (Z [p 10 (O 500000)] [(500000,A 48 y48 v20 0)])<|vTT<|hr H
 refine qA (Z [p 0 (O 500000),p 2 (J a2),p 3 (J a3),p 4 (J a4),p 6 (R 6),p 11 (I 0)] (W19 a1 a0))<|vB<|lX (fun((v9,v10):Int×List Y48)=>Z (G7 a2 a3 a4 v9 []) (W19 a1 v10)) (0,a0) H fun _ g1 b1 e1 t1 ⟨v9,v10⟩ H=>vQ<|qA (Z (G7 a2 a3 a4 v9 [p 15 (B (decide (v9<=1)))]) (W19 a1 v10))<|cD H (fun H=>?_) (fun H=>?_)
 ·refine vK<|fQ<|jN r (fun(v19:List Y48)=>Z (G7 a2 a3 a4 v9 []) (W19 a1 v19)) (u120J2 v9 g1) (fun v19 H=>?_) (fun _ n2 e2 t2=>?_)
  ·refine zB (Z (G7 a2 a3 a4 (v9+1) []) (W19 a1 v19)) H fun H=>b1 H
  refine vB<|qA (Z (G7 a2 a3 a4 v9 [p 12 (I 0)]) (W19 a1 v10))<|vB<|lX (fun((v14,v15):Int×List Y48)=>Z (G7 a2 a3 a4 v9 [p 12 (I v14)]) (W19 a1 v15)) (0,v10) H fun _ g3 b3 e3 t3 ⟨v14,v15⟩ H=>vQ<|qA (Z (G7 a2 a3 a4 v9 [p 12 (I v14),p 19 (B (decide (v14<=1)))]) (W19 a1 v15))<|cD H (fun H=>?_) (fun H=>?_)
  ·refine vK<|fQ<|jN r (fun(v18:List Y48)=>Z (G7 a2 a3 a4 v9 [p 12 (I v14)]) [(500000,A 48 y48 v18 0),(6,K 143 y143 a1)]) (u120J4 v14 g3) (fun v18 H=>?_) (fun _ n4 e4 t4=>?_)
   ·refine zB (Z (G7 a2 a3 a4 v9 [p 12 (I (v14+1))]) [(500000,A 48 y48 v18 0),(6,K 143 y143 a1)]) H fun H=>b3 H
   refine vB<|qA (Z (G7 a2 a3 a4 v9 [p 12 (I v14),p 13 (B false)]) (W19 a1 v15))<|jN r (fun(v16:Bool)=>Z (G7 a2 a3 a4 v9 [p 12 (I v14),p 13 (B v16)]) (W19 a1 v15)) (u120J5 v14 v15 a2 a3 v9 a4 g3) (fun v16 H=>?_) (fun _ n5 e5 t5=>?_)
   ·refine qA (Z (G7 a2 a3 a4 v9 [p 12 (I v14),p 46 (B v16)]) (W19 a1 v15))<|cD H (fun H=>?_) (fun H=>?_)
    ·refine zD (fun v17=>Z [p 0 (AV.os 500000 1),p 2 (J a2),p 3 (J a3),p 4 (J a4),p 6 (R 6),p 11 (I v9),p 12 (I v14)] [(500000,A 48 y48 v17 1),(6,K 143 y143 a1)]) H fun v17 H=>fK<|n4 H
    exact vK<|fK<|n4 H
   refine qA (Z (G7 a2 a3 a4 v9 [p 12 (I v14),p 13 (B false),p 23 (J a1.1)]) (W19 a1 v15))<|vB<|qA (Z (G7 a2 a3 a4 v9 [p 12 (I v14),p 13 (B false),p 23 (J a1.1),p 24 (B (a1.1==1))]) (W19 a1 v15))<|cD H (fun H=>?_) (fun H=>?_)
   ·refine zA (Z (G7 a2 a3 a4 v9 [p 12 (I v14),p 13 (B (a1.2.2.2.1==3||(a1.2.2.2.1==1)==(v9==v14)))]) (W19 a1 v15))<|fK<|n5 H
   refine qA (Z (G7 a2 a3 a4 v9 [p 12 (I v14),p 13 (B false),p 23 (J a1.1),p 38 (B (a1.1==2))]) (W19 a1 v15))<|cD H (fun H=>?_) (fun H=>?_)
   ·refine zA (Z (G7 a2 a3 a4 v9 [p 12 (I v14),p 13 (B (v9==0))]) (W19 a1 v15))<|fK<|n5 H
   refine qA (Z (G7 a2 a3 a4 v9 [p 12 (I v14),p 13 (B false),p 42 (B (a1.1==3))]) (W19 a1 v15))<|cD H (fun H=>?_) (fun H=>?_)
   ·refine zA (Z (G7 a2 a3 a4 v9 [p 12 (I v14),p 13 (B (v9==1))]) (W19 a1 v15))<|fK<|n5 H
   exact vK<|fK<|n5 H
  exact vE<|fE<|e3<|fX rfl<|fK<|n2 H
 exact vE<|fE<|e1<|fX rfl<|n0 H
def u121J0:Unit->Option (Int)
 | _ =>
 some (-1)
def u121L1(v0:List Y179)(a1:Int)(a2:Int)(g1:Int->Option (Int)):Int->Option (Int)
 | v1 =>
 if(decide (v1 < (v0.length:Int)))=true then
  gd (ix v1 v0.length/\v1.toNat<v0.length/\(((v0.getD v1.toNat (dflt y179)).1==a1)=true/\True->ix v1 v0.length)/\(((v0.getD v1.toNat (dflt y179)).1==a1)=true/\True->v1.toNat<v0.length)/\True) <|
  if((v0.getD v1.toNat (dflt y179)).1==a1&&(v0.getD v1.toNat (dflt y179)).2.1==a2)=true then
   some v1
  else
   gd (in64 (v1+1)/\True) <|
   g1 (v1+1)
 else
  u121J0 ()
def u121(a0:Y31)(a1:Int)(a2:Int):Option (Int) :=
 gd ((u124 a0).isSome=true/\True)<|lt (vl (u124 a0)) fun v0 =>
 lp (u121L1 v0 a1 a2) 0
def k121:Ct:=lct 121 [.agg y31,.dat i64,.dat i64] (fun x=>u121 x.1 x.2.1 x.2.2.1) (fun r:Int=>I r) (fun _=>())
theorem o121:Ok prog k121:=by
 refine okL [.tmp 6] func121 ntmps121 results121 ?_;intro y ⟨a0,a1,a2,_⟩ r H Q hn hr;have:HT _ _:=⟨tc o124 tn⟩;refine qA (Z [p 1 (J a1),p 2 (J a2),p 3 (R 3)] [(3,K 31 y31 a0)])<|qD (fun v0=>Z [p 1 (J a1),p 2 (J a2),p 7 (O 10)] [(10,A 179 y179 v0 0),(3,K 31 y31 a0)]) H fun v0 H=>jN r (fun(_:Unit)=>Z [] []) (u121J0) (fun _ H=>?_) (fun _ n0 e0 t0=>?_)
 ·refine qA (Z [p 6 (I (-1))] [])<|vTT<|hr H
 refine qA (Z [p 1 (J a1),p 2 (J a2),p 7 (O 10),p 8 (I 0)] [(10,A 179 y179 v0 0),(3,K 31 y31 a0)])<|vB<|lX (fun(v1:Int)=>Z [p 1 (J a1),p 2 (J a2),p 7 (O 10),p 8 (I v1)] [(10,A 179 y179 v0 0)]) 0 H fun _ g1 b1 e1 t1 v1 H=>vQ<|qA (Z [p 1 (J a1),p 2 (J a2),p 7 (O 10),p 8 (I v1),p 14 (B (decide (v1 < (v0.length:Int))))] [(10,A 179 y179 v0 0)])<|cD H (fun H=>?_) (fun H=>?_)
 ·refine vK<|fQ<|vQ<|vB<|qB (Z [p 1 (J a1),p 2 (J a2),p 7 (O 10),p 8 (I v1),p 32 (B ((v0.getD v1.toNat (dflt y179)).1==a1&&(v0.getD v1.toNat (dflt y179)).2.1==a2))] [(10,A 179 y179 v0 0)]) H fun H=>cD H (fun H=>?_) (fun H=>?_)
  ·refine qA (Z [p 6 (I v1)] [(10,A 179 y179 v0 0)])<|vTT<|fDD<|fR<|t1<|fDD<|t0<|hr H
  refine vK<|fK<|fQ<|zB (Z [p 1 (J a1),p 2 (J a2),p 7 (O 10),p 8 (I (v1+1))] [(10,A 179 y179 v0 0)]) H fun H=>b1 H
 exact vE<|fE<|e1<|fX rfl<|n0 H
def u59J5:List Y48->Option (List Y48)
 | v39 =>
 some v39
def u59J7(v28:Int)(g6:Int×List Y48->Option (List Y48)):List Y48->Option (List Y48)
 | v38 =>
 gd (in64 (v28+1)/\True) <|
 g6 (v28+1,v38)
def u59L8(v30:Int)(v31:List Int)(v28:Int)(g6:Int×List Y48->Option (List Y48))(g8:Int×List Y48->Option (List Y48)):Int×List Y48->Option (List Y48)
 | (v34,v35) =>
 if(decide (v34 < (v31.length:Int)))=true then
  gd (ix v34 v31.length/\v34.toNat<v31.length/\(u123 v35 v30 (v31.getD v34.toNat 0) 0 0 2 v34).isSome=true/\True)<|lt (vl (u123 v35 v30 (v31.getD v34.toNat 0) 0 0 2 v34)) fun v36 =>
  gd (ix v34 v31.length/\v34.toNat<v31.length/\(u123 v36 v30 (v31.getD v34.toNat 0) 1 1 2 v34).isSome=true/\True)<|lt (vl (u123 v36 v30 (v31.getD v34.toNat 0) 1 1 2 v34)) fun v37 =>
  gd (in64 (v34+1)/\True) <|
  g8 (v34+1,v37)
 else
  u59J7 v28 g6 v35
def u59L6(a0:Y34)(g6:Int×List Y48->Option (List Y48)):Int×List Y48->Option (List Y48)
 | (v28,v29) =>
 if(decide (v28 < (a0.2.1.2.1.length:Int)))=true then
  gd ((u122 a0.2.1 v28).isSome=true/\True)<|lt (vl (u122 a0.2.1 v28)) fun v30 =>
  gd ((u71 a0.2.1 v28).isSome=true/\True)<|lt (vl (u71 a0.2.1 v28)) fun v31 =>
  lp (u59L8 v30 v31 v28 g6) (0,v29)
 else
  u59J5 v29
def u59J0(a0:Y34):List Y48->Option (List Y48)
 | v18 =>
 lp (u59L6 a0) (0,v18)
def u59J2(v8:Int)(g1:Int×List Y48->Option (List Y48)):List Y48->Option (List Y48)
 | v17 =>
 gd (in64 (v8+1)/\True) <|
 g1 (v8+1,v17)
def u59J4(v13:Int)(g3:Int×List Y48->Option (List Y48)):List Y48->Option (List Y48)
 | v16 =>
 gd (in64 (v13+1)/\True) <|
 g3 (v13+1,v16)
def u59L3(v10:Y163)(a0:Y34)(v8:Int)(g1:Int×List Y48->Option (List Y48))(g3:Int×List Y48->Option (List Y48)):Int×List Y48->Option (List Y48)
 | (v13,v14) =>
 if(decide (v13 < (v10.2.2.2.1.length:Int)))=true then
  gd (ix v13 v10.2.2.2.1.length/\True) <|
  if(decide ((v10.2.2.2.1.getD v13.toNat (dflt y143)).1<=3))=true then
   gd (ix v13 v10.2.2.2.1.length/\ix v13 v10.2.2.2.1.length/\(u121 a0.2.1 v8 (v10.2.2.2.1.getD v13.toNat (dflt y143)).2.1).isSome=true/\ix v13 v10.2.2.2.1.length/\(u121 a0.2.1 v8 (v10.2.2.2.1.getD v13.toNat (dflt y143)).2.2.1).isSome=true/\(u120 v14 (v10.2.2.2.1.getD v13.toNat (dflt y143)) (vl (u121 a0.2.1 v8 (v10.2.2.2.1.getD v13.toNat (dflt y143)).2.1)) (vl (u121 a0.2.1 v8 (v10.2.2.2.1.getD v13.toNat (dflt y143)).2.2.1)) v13).isSome=true/\True)<|lt (vl (u120 v14 (v10.2.2.2.1.getD v13.toNat (dflt y143)) (vl (u121 a0.2.1 v8 (v10.2.2.2.1.getD v13.toNat (dflt y143)).2.1)) (vl (u121 a0.2.1 v8 (v10.2.2.2.1.getD v13.toNat (dflt y143)).2.2.1)) v13)) fun v15 =>
   u59J4 v13 g3 v15
  else
   u59J4 v13 g3 v14
 else
  u59J2 v8 g1 v14
def u59L1(a0:Y34)(g1:Int×List Y48->Option (List Y48)):Int×List Y48->Option (List Y48)
 | (v8,v9) =>
 if(decide (v8 < (a0.2.1.1.length:Int)))=true then
  gd (ix v8 a0.2.1.1.length/\ix (a0.2.1.1.getD v8.toNat (dflt y165)).2.1 a0.1.length/\True)<|lt (a0.1.getD (a0.2.1.1.getD v8.toNat (dflt y165)).2.1.toNat (dflt y163)) fun v10 =>
  lp (u59L3 v10 a0 v8 g1) (0,v9)
 else
  u59J0 a0 v9
def u59(a0:Y34):Option (List Y48) :=
 lp (u59L1 a0) (0,[])
def k59:Ct:=lct 59 [.agg y34] (fun x=>u59 x.1) (fun r:List Y48=>AV.ow 48 true y48 r) (fun _=>())
theorem o59:Ok prog k59:=by
 refine okL [.tmp 2] func59 ntmps59 results59 ?_;intro y ⟨a0,_⟩ r H Q hn hr;have:HT _ _:=⟨tc o123 (tc o71 (tc o122 (tc o120 (tc o121 tn))))⟩;refine qA (Z [p 1 (R 1)] [(1,K 34 y34 a0)])<|qA (Z [p 1 (R 1),p 3 (O 12)] [(12,A 48 y48 [] 0),(1,K 34 y34 a0)])<|qA (Z [p 1 (R 1),p 3 (O 12),p 4 (R 4)] [(4,K 31 y31 a0.2.1),(12,A 48 y48 [] 0),(1,K 34 y34 a0)])<|jN r (fun(v18:List Y48)=>Z [p 3 (O 12),p 4 (R 4)] (W45 a0.2.1 v18)) (u59J0 a0) (fun v18 H=>?_) (fun _ n0 e0 t0=>?_)
 ·refine jN r (fun(v39:List Y48)=>Z [p 3 (O 12)] [(12,A 48 y48 v39 0)]) (u59J5) (fun v39 H=>?_) (fun _ n5 e5 t5=>?_)
  ·refine qA (Z [p 2 (O 12)] [(12,A 48 y48 v39 0)])<|vTT<|hr H
  refine qA (Z [p 3 (O 12),p 4 (R 4),p 8 (I 0)] (W45 a0.2.1 v18))<|vB<|lX (fun((v28,v29):Int×List Y48)=>Z (G56 v28 []) (W45 a0.2.1 v29)) (0,v18) H fun _ g6 b6 e6 t6 ⟨v28,v29⟩ H=>vQ<|qA (Z (G56 v28 [p 73 (B (decide (v28 < (a0.2.1.2.1.length:Int))))]) (W45 a0.2.1 v29))<|cD H (fun H=>?_) (fun H=>?_)
  ·refine vK<|fQ<|jN r (fun(v38:List Y48)=>Z (G56 v28 []) (W45 a0.2.1 v38)) (u59J7 v28 g6) (fun v38 H=>?_) (fun _ n7 e7 t7=>?_)
   ·refine zB (Z (G56 (v28+1) []) (W45 a0.2.1 v38)) H fun H=>b6 H
   refine vB<|qD (fun v30=>Z (G56 v28 [p 9 (I v30)]) (W45 a0.2.1 v29)) H fun v30 H=>qD (fun v31=>Z (G56 v28 [p 9 (I v30),p 10 (O 81)]) ((81,A 2 i64 v31 0)::W45 a0.2.1 v29)) H fun v31 H=>qA (Z (G56 v28 [p 9 (I v30),p 10 (O 81),p 11 (I 0)]) ((81,A 2 i64 v31 0)::W45 a0.2.1 v29))<|vB<|lX (fun((v34,v35):Int×List Y48)=>Z (G56 v28 [p 9 (I v30),p 10 (O 81),p 11 (I v34)]) ((81,A 2 i64 v31 0)::W45 a0.2.1 v35)) (0,v29) H fun _ g8 b8 e8 t8 ⟨v34,v35⟩ H=>vQ<|qA (Z (G56 v28 [p 9 (I v30),p 10 (O 81),p 11 (I v34),p 85 (B (decide (v34 < (v31.length:Int))))]) ((81,A 2 i64 v31 0)::W45 a0.2.1 v35))<|cD H (fun H=>?_) (fun H=>?_)
   ·refine vK<|fQ<|vQ<|vB<|qD (fun v36=>Z [p 3 (AV.os 12 1),p 4 (R 4),p 8 (I v28),p 9 (I v30),p 10 (O 81),p 11 (I v34)] [(12,A 48 y48 v36 1),(81,A 2 i64 v31 0),(4,K 31 y31 a0.2.1)]) H fun v36 H=>zD (fun v37=>Z [p 3 (AV.os 12 2),p 4 (R 4),p 8 (I v28),p 9 (I v30),p 10 (O 81),p 11 (I v34)] [(12,A 48 y48 v37 2),(81,A 2 i64 v31 0),(4,K 31 y31 a0.2.1)]) H fun v37 H=>fK<|fQ<|zB (Z [p 3 (AV.os 12 2),p 4 (R 4),p 8 (I v28),p 9 (I v30),p 10 (O 81),p 11 (I (v34+1))] [(12,A 48 y48 v37 2),(81,A 2 i64 v31 0),(4,K 31 y31 a0.2.1)]) H fun H=>b8 H
   exact vE<|fE<|e8<|fX rfl<|fK<|n7 H
  exact vE<|fE<|e6<|fX rfl<|n5 H
 refine qA (Z [p 1 (R 1),p 3 (O 12),p 4 (R 4),p 5 (I 0)] [(4,K 31 y31 a0.2.1),(12,A 48 y48 [] 0),(1,K 34 y34 a0)])<|vB<|lX (fun((v8,v9):Int×List Y48)=>Z (G33 v8 []) (W37 a0.2.1 v9 a0)) (0,[]) H fun _ g1 b1 e1 t1 ⟨v8,v9⟩ H=>vQ<|qA (Z (G33 v8 [p 19 (B (decide (v8 < (a0.2.1.1.length:Int))))]) (W37 a0.2.1 v9 a0))<|cD H (fun H=>?_) (fun H=>?_)
 ·refine vK<|fQ<|jN r (fun(v17:List Y48)=>Z (G33 v8 []) (W37 a0.2.1 v17 a0)) (u59J2 v8 g1) (fun v17 H=>?_) (fun _ n2 e2 t2=>?_)
  ·refine zB (Z (G33 (v8+1) []) (W37 a0.2.1 v17 a0)) H fun H=>b1 H
  refine vB<|qD (fun v10=>Z (G33 v8 [p 6 (L y143 v10.2.2.2.1)]) (W37 a0.2.1 v9 a0)) H fun v10 H=>qA (Z (G33 v8 [p 6 (L y143 v10.2.2.2.1),p 7 (I 0)]) (W37 a0.2.1 v9 a0))<|vB<|lX (fun((v13,v14):Int×List Y48)=>Z (G33 v8 [p 6 (L y143 v10.2.2.2.1),p 7 (I v13)]) (W37 a0.2.1 v14 a0)) (0,v9) H fun _ g3 b3 e3 t3 ⟨v13,v14⟩ H=>vQ<|qA (Z (G33 v8 [p 6 (L y143 v10.2.2.2.1),p 7 (I v13),p 37 (B (decide (v13 < (v10.2.2.2.1.length:Int))))]) (W37 a0.2.1 v14 a0))<|cD H (fun H=>?_) (fun H=>?_)
  ·refine vK<|fQ<|jN r (fun(v16:List Y48)=>Z (G33 v8 [p 6 (L y143 v10.2.2.2.1),p 7 (I v13)]) [(12,A 48 y48 v16 0),(4,K 31 y31 a0.2.1),(1,K 34 y34 a0)]) (u59J4 v13 g3) (fun v16 H=>?_) (fun _ n4 e4 t4=>?_)
   ·refine zB (Z (G33 v8 [p 6 (L y143 v10.2.2.2.1),p 7 (I (v13+1))]) [(12,A 48 y48 v16 0),(4,K 31 y31 a0.2.1),(1,K 34 y34 a0)]) H fun H=>b3 H
   refine vB<|qB (Z (G33 v8 [p 6 (L y143 v10.2.2.2.1),p 7 (I v13),p 45 (B (decide ((v10.2.2.2.1.getD v13.toNat (dflt y143)).1<=3)))]) (W37 a0.2.1 v14 a0)) H fun H=>cD H (fun H=>?_) (fun H=>?_)
   ·refine zD (fun v15=>Z [p 1 (R 1),p 3 (AV.os 12 1),p 4 (R 4),p 5 (I v8),p 6 (L y143 v10.2.2.2.1),p 7 (I v13)] [(12,A 48 y48 v15 1),(4,K 31 y31 a0.2.1),(1,K 34 y34 a0)]) H fun v15 H=>fK<|n4 H
   exact vK<|fK<|n4 H
  exact vE<|fE<|e3<|fX rfl<|fK<|n2 H
 exact vE<|fE<|e1<|fX rfl<|n0 H
def u97(a0:Int)(a1:Int)(a2:Int):Option (Bool) :=
 some (decide (a1<=a0)&&decide (a0<=a2))
def k97:Ct:=lct 97 [.dat i64,.dat i64,.dat i64] (fun x=>u97 x.1 x.2.1 x.2.2.1) (fun r:Bool=>B r) (fun _=>())
theorem o97:Ok prog k97:=by
 refine okL [.tmp 6] func97 ntmps97 results97 ?_;intro y ⟨a0,a1,a2,_⟩ r H Q hn hr;have:HT _ _:=⟨@tn prog⟩;refine qA (Z [p 0 (J a0),p 1 (J a1),p 2 (J a2)] [])<|qA (Z [p 6 (B (decide (a1<=a0)&&decide (a0<=a2)))] [])<|vTT<|hr H
def u119J0:Unit->Option (Bool)
 | _ =>
 some true
def u119L1(a0:List Int)(a1:Int)(g1:Int->Option (Bool)):Int->Option (Bool)
 | v0 =>
 if(decide (v0 < (a0.length:Int)))=true then
  gd (ix v0 a0.length/\in64 (a1-1)/\(u97 (a0.getD v0.toNat 0) 0 (a1-1)).isSome=true/\(decide (0<v0)=true/\(!vl (u97 (a0.getD v0.toNat 0) 0 (a1-1)))=false/\True->in64 (v0-1))/\(decide (0<v0)=true/\(!vl (u97 (a0.getD v0.toNat 0) 0 (a1-1)))=false/\True->ix (v0-1) a0.length)/\(decide (0<v0)=true/\(!vl (u97 (a0.getD v0.toNat 0) 0 (a1-1)))=false/\True->ix v0 a0.length)/\True) <|
  if(!vl (u97 (a0.getD v0.toNat 0) 0 (a1-1))||decide (0<v0)&&decide (a0.getD v0.toNat 0<=a0.getD (v0-1).toNat 0))=true then
   some false
  else
   gd (in64 (v0+1)/\True) <|
   g1 (v0+1)
 else
  u119J0 ()
def u119(a0:List Int)(a1:Int):Option (Bool) :=
 lp (u119L1 a0 a1) 0
def k119:Ct:=lct 119 [.dat i64.sl,.dat i64] (fun x=>u119 x.1 x.2.1) (fun r:Bool=>B r) (fun _=>())
theorem o119:Ok prog k119:=by
 refine okL [.tmp 4] func119 ntmps119 results119 ?_;intro y ⟨a0,a1,_⟩ r H Q hn hr;have:HT _ _:=⟨tc o97 tn⟩;refine qA (Z (G49 a0 a1 []) [])<|jN r (fun(_:Unit)=>Z [] []) (u119J0) (fun _ H=>?_) (fun _ n0 e0 t0=>?_)
 ·refine qA (Z [p 4 (B true)] [])<|vTT<|hr H
 refine qA (Z (G49 a0 a1 [p 5 (I 0)]) [])<|vB<|lX (fun(v0:Int)=>Z (G49 a0 a1 [p 5 (I v0)]) []) 0 H fun _ g1 b1 e1 t1 v0 H=>vQ<|qA (Z (G49 a0 a1 [p 5 (I v0),p 9 (B (decide (v0 < (a0.length:Int))))]) [])<|cD H (fun H=>?_) (fun H=>?_)
 ·refine vK<|fQ<|vQ<|vB<|qB (Z (G49 a0 a1 [p 5 (I v0),p 35 (B (!vl (u97 (a0.getD v0.toNat 0) 0 (a1-1))||decide (0<v0)&&decide (a0.getD v0.toNat 0<=a0.getD (v0-1).toNat 0)))]) []) H fun H=>cD H (fun H=>?_) (fun H=>?_)
  ·refine qA (Z [p 4 (B false)] [])<|vTT<|fDD<|fR<|t1<|fDD<|t0<|hr H
  refine vK<|fK<|fQ<|zB (Z (G49 a0 a1 [p 5 (I (v0+1))]) []) H fun H=>b1 H
 exact vE<|fE<|e1<|fX rfl<|n0 H
def u70J2:Unit->Option (Bool)
 | _ =>
 some true
def u70L3(a0:Y110)(g3:Int->Option (Bool)):Int->Option (Bool)
 | v1 =>
 if(decide (v1 < (a0.2.2.2.length:Int)))=true then
  gd (ix v1 a0.2.2.2.length/\in64 ((a0.1.length:Int)-1)/\(u97 (a0.2.2.2.getD v1.toNat 0) 0 ((a0.1.length:Int)-1)).isSome=true/\True) <|
  if(!vl (u97 (a0.2.2.2.getD v1.toNat 0) 0 ((a0.1.length:Int)-1)))=true then
   some false
  else
   gd (in64 (v1+1)/\True) <|
   g3 (v1+1)
 else
  u70J2 ()
def u70J0(a0:Y110):Unit->Option (Bool)
 | _ =>
 lp (u70L3 a0) 0
def u70L1(a0:Y110)(g1:Int->Option (Bool)):Int->Option (Bool)
 | v0 =>
 if(decide (v0 < (a0.1.length:Int)))=true then
  gd (ix v0 a0.2.2.1.length/\(u97 (a0.2.2.1.getD v0.toNat 0) 0 500).isSome=true/\((!vl (u97 (a0.2.2.1.getD v0.toNat 0) 0 500))=false/\True->ix v0 a0.2.1.length)/\((!vl (u97 (a0.2.2.1.getD v0.toNat 0) 0 500))=false/\True->(u97 (a0.2.1.getD v0.toNat 0) 0 1000).isSome=true)/\True) <|
  if(!vl (u97 (a0.2.2.1.getD v0.toNat 0) 0 500)||!vl (u97 (a0.2.1.getD v0.toNat 0) 0 1000))=true then
   some false
  else
   gd (((v0==0)=true/\True->ix v0 a0.1.length)/\((a0.1.getD v0.toNat 0 != -1)=false/\(v0==0)=true/\True->ix v0 a0.2.1.length)/\(decide (0<v0)=true/\(v0==0&&(a0.1.getD v0.toNat 0 != -1||a0.2.1.getD v0.toNat 0 != 0))=false/\True->ix v0 a0.1.length)/\(decide (0<v0)=true/\(v0==0&&(a0.1.getD v0.toNat 0 != -1||a0.2.1.getD v0.toNat 0 != 0))=false/\True->in64 (v0-1))/\(decide (0<v0)=true/\(v0==0&&(a0.1.getD v0.toNat 0 != -1||a0.2.1.getD v0.toNat 0 != 0))=false/\True->(u97 (a0.1.getD v0.toNat 0) 0 (v0-1)).isSome=true)/\True) <|
   if(v0==0&&(a0.1.getD v0.toNat 0 != -1||a0.2.1.getD v0.toNat 0 != 0)||decide (0<v0)&&!vl (u97 (a0.1.getD v0.toNat 0) 0 (v0-1)))=true then
    some false
   else
    gd (in64 (v0+1)/\True) <|
    g1 (v0+1)
 else
  u70J0 a0 ()
def u70(a0:Y110)(a1:Int):Option (Bool) :=
 if(decide ((a0.1.length:Int)<1)||decide (8 < (a0.1.length:Int))||(a0.2.1.length:Int) != (a0.1.length:Int)||(a0.2.2.1.length:Int) != (a0.1.length:Int)||(a0.2.2.2.length:Int) != a1)=true then
  some false
 else
  lp (u70L1 a0) 0
def k70:Ct:=lct 70 [.agg y110,.dat i64] (fun x=>u70 x.1 x.2.1) (fun r:Bool=>B r) (fun _=>())
theorem o70:Ok prog k70:=by
 refine okL [.tmp 4] func70 ntmps70 results70 ?_;intro y ⟨a0,a1,_⟩ r H Q hn hr;have:HT _ _:=⟨tc o97 tn⟩;refine qA (Z (G44 a1 []) [(2,K 110 y110 a0)])<|qA (Z (G44 a1 [p 5 (I (a0.1.length:Int))]) [(2,K 110 y110 a0)])<|vQ<|qA (Z (G73 (a0.1.length:Int) [p 37 (B (decide ((a0.1.length:Int)<1)||decide (8 < (a0.1.length:Int))||(a0.2.1.length:Int) != (a0.1.length:Int)||(a0.2.2.1.length:Int) != (a0.1.length:Int)||(a0.2.2.2.length:Int) != a1))]) [(2,K 110 y110 a0)])<|cD H (fun H=>?_) (fun H=>?_)
 ·refine qA (Z [p 4 (B false)] [(2,K 110 y110 a0)])<|vTT<|fR<|hr H
 refine vK<|fQ<|jN r (fun(_:Unit)=>Z (G73 (a0.1.length:Int) []) [(2,K 110 y110 a0)]) (u70J0 a0) (fun _ H=>?_) (fun _ n0 e0 t0=>?_)
 ·refine jN r (fun(_:Unit)=>Z [] []) (u70J2) (fun _ H=>?_) (fun _ n2 e2 t2=>?_)
  ·refine qA (Z [p 4 (B true)] [])<|vTT<|hr H
  refine qA (Z (G73 (a0.1.length:Int) [p 7 (I 0)]) [(2,K 110 y110 a0)])<|vB<|lX (fun(v1:Int)=>Z (G73 (a0.1.length:Int) [p 7 (I v1)]) [(2,K 110 y110 a0)]) 0 H fun _ g3 b3 e3 t3 v1 H=>vQ<|qA (Z (G73 (a0.1.length:Int) [p 7 (I v1),p 96 (B (decide (v1 < (a0.2.2.2.length:Int))))]) [(2,K 110 y110 a0)])<|cD H (fun H=>?_) (fun H=>?_)
  ·refine vK<|fQ<|vQ<|vB<|qB (Z (G73 (a0.1.length:Int) [p 7 (I v1),p 107 (B !vl (u97 (a0.2.2.2.getD v1.toNat 0) 0 ((a0.1.length:Int)-1)))]) [(2,K 110 y110 a0)]) H fun H=>cD H (fun H=>?_) (fun H=>?_)
   ·refine qA (Z [p 4 (B false)] [(2,K 110 y110 a0)])<|vTT<|fDD<|fR<|t3<|fDD<|t2<|hr H
   refine vK<|fK<|fQ<|zB (Z (G73 (a0.1.length:Int) [p 7 (I (v1+1))]) [(2,K 110 y110 a0)]) H fun H=>b3 H
  exact vE<|fE<|e3<|fX rfl<|n2 H
 refine qA (Z (G73 (a0.1.length:Int) [p 6 (I 0)]) [(2,K 110 y110 a0)])<|vB<|lX (fun(v0:Int)=>Z (G73 (a0.1.length:Int) [p 6 (I v0)]) [(2,K 110 y110 a0)]) 0 H fun _ g1 b1 e1 t1 v0 H=>vQ<|qA (Z (G73 (a0.1.length:Int) [p 6 (I v0),p 40 (B (decide (v0 < (a0.1.length:Int))))]) [(2,K 110 y110 a0)])<|cD H (fun H=>?_) (fun H=>?_)
 ·refine vK<|fQ<|vQ<|vB<|vQ<|qB (Z (G73 (a0.1.length:Int) [p 6 (I v0),p 58 (B (!vl (u97 (a0.2.2.1.getD v0.toNat 0) 0 500)||!vl (u97 (a0.2.1.getD v0.toNat 0) 0 1000)))]) [(2,K 110 y110 a0)]) H fun H=>cD H (fun H=>?_) (fun H=>?_)
  ·refine qA (Z [p 4 (B false)] [(2,K 110 y110 a0)])<|vTT<|fR<|fDD<|fR<|t1<|fDD<|t0<|hr H
  refine vK<|fQ<|qB (Z (G73 (a0.1.length:Int) [p 6 (I v0),p 91 (B (v0==0&&(a0.1.getD v0.toNat 0 != -1||a0.2.1.getD v0.toNat 0 != 0)||decide (0<v0)&&!vl (u97 (a0.1.getD v0.toNat 0) 0 (v0-1))))]) [(2,K 110 y110 a0)]) H fun H=>cD H (fun H=>?_) (fun H=>?_)
  ·refine qA (Z [p 4 (B false)] [(2,K 110 y110 a0)])<|vTT<|fDD<|fR<|t1<|fDD<|t0<|hr H
  refine vK<|fK<|fQ<|zB (Z (G73 (a0.1.length:Int) [p 6 (I (v0+1))]) [(2,K 110 y110 a0)]) H fun H=>b1 H
 exact vE<|fE<|e1<|fX rfl<|n0 H
def u151J0(a0:ByteArray):Unit->Option (Bool)
 | _ =>
 some (decide (1<=(a0.size:Int))&&decide ((a0.size:Int)<=8))
def u151L1(a0:ByteArray)(g1:Int->Option (Bool)):Int->Option (Bool)
 | v0 =>
 if(decide (v0 < (a0.size:Int)))=true then
  gd (ix v0 a0.size/\(decide (97<=byteAt a0 v0.toNat)=true/\True->ix v0 a0.size)/\True) <|
  gd (ix v0 a0.size/\(decide (48<=byteAt a0 v0.toNat)=true/\True->ix v0 a0.size)/\True) <|
  if(!(decide (97<=byteAt a0 v0.toNat)&&decide (byteAt a0 v0.toNat<=122))&&!(decide (48<=byteAt a0 v0.toNat)&&decide (byteAt a0 v0.toNat<=57)&&decide (0<v0)))=true then
   some false
  else
   gd (in64 (v0+1)/\True) <|
   g1 (v0+1)
 else
  u151J0 a0 ()
def u151(a0:ByteArray):Option (Bool) :=
 lp (u151L1 a0) 0
def k151:Ct:=lct 151 [.dat Ty.str] (fun x=>u151 x.1) (fun r:Bool=>B r) (fun _=>())
theorem o151:Ok prog k151:=by
 refine okL [.tmp 2] func151 ntmps151 results151 ?_;intro y ⟨a0,_⟩ r H Q hn hr;have:HT _ _:=⟨@tn prog⟩;refine qA (Z [p 0 (U a0)] [])<|jN r (fun(_:Unit)=>Z [p 0 (U a0)] []) (u151J0 a0) (fun _ H=>?_) (fun _ n0 e0 t0=>?_)
 ·refine qA (Z [p 2 (B (decide (1<=(a0.size:Int))&&decide ((a0.size:Int)<=8)))] [])<|vTT<|hr H
 refine qA (Z [p 0 (U a0),p 3 (I 0)] [])<|vB<|lX (fun(v0:Int)=>Z [p 0 (U a0),p 3 (I v0)] []) 0 H fun _ g1 b1 e1 t1 v0 H=>vQ<|qA (Z [p 0 (U a0),p 3 (I v0),p 9 (B (decide (v0 < (a0.size:Int))))] [])<|cD H (fun H=>?_) (fun H=>?_)
 ·refine vK<|fQ<|vQ<|vB<|qB (Z [p 0 (U a0),p 3 (I v0),p 4 (B (decide (97<=byteAt a0 v0.toNat)&&decide (byteAt a0 v0.toNat<=122)))] []) H fun H=>qB (Z [p 0 (U a0),p 3 (I v0),p 4 (B (decide (97<=byteAt a0 v0.toNat)&&decide (byteAt a0 v0.toNat<=122))),p 5 (B (decide (48<=byteAt a0 v0.toNat)&&decide (byteAt a0 v0.toNat<=57)))] []) H fun H=>qA (Z [p 0 (U a0),p 3 (I v0),p 41 (B (!(decide (97<=byteAt a0 v0.toNat)&&decide (byteAt a0 v0.toNat<=122))&&!(decide (48<=byteAt a0 v0.toNat)&&decide (byteAt a0 v0.toNat<=57)&&decide (0<v0))))] [])<|cD H (fun H=>?_) (fun H=>?_)
  ·refine qA (Z [p 2 (B false)] [])<|vTT<|fDD<|fR<|t1<|fDD<|t0<|hr H
  refine vK<|fK<|fQ<|zB (Z [p 0 (U a0),p 3 (I (v0+1))] []) H fun H=>b1 H
 exact vE<|fE<|e1<|fX rfl<|n0 H
def u134J0:Unit->Option (Bool)
 | _ =>
 some true
def u134J2(v1:Int)(g1:Int->Option (Bool)):Unit->Option (Bool)
 | _ =>
 gd (in64 (v1+1)/\True) <|
 g1 (v1+1)
def u134L3(a0:List ByteArray)(v1:Int)(g1:Int->Option (Bool))(g3:Int->Option (Bool)):Int->Option (Bool)
 | v2 =>
 if(decide (v2<v1))=true then
  gd (ix v2 a0.length/\ix v1 a0.length/\True) <|
  if(decide (a0.getD v2.toNat (dflt Ty.str)=a0.getD v1.toNat (dflt Ty.str)))=true then
   some false
  else
   gd (in64 (v2+1)/\True) <|
   g3 (v2+1)
 else
  u134J2 v1 g1 ()
def u134L1(a0:List ByteArray)(g1:Int->Option (Bool)):Int->Option (Bool)
 | v1 =>
 if(decide (v1 < (a0.length:Int)))=true then
  gd (ix v1 a0.length/\(u151 (a0.getD v1.toNat (dflt Ty.str))).isSome=true/\True) <|
  if(!vl (u151 (a0.getD v1.toNat (dflt Ty.str))))=true then
   some false
  else
   lp (u134L3 a0 v1 g1) 0
 else
  u134J0 ()
def u134(a0:List ByteArray):Option (Bool) :=
 lp (u134L1 a0) 0
def k134:Ct:=lct 134 [.dat Ty.str.sl] (fun x=>u134 x.1) (fun r:Bool=>B r) (fun _=>())
theorem o134:Ok prog k134:=by
 refine okL [.tmp 2] func134 ntmps134 results134 ?_;intro y ⟨a0,_⟩ r H Q hn hr;have:HT _ _:=⟨tc o151 tn⟩;refine qA (Z [p 0 (L Ty.str a0)] [])<|jN r (fun(_:Unit)=>Z [] []) (u134J0) (fun _ H=>?_) (fun _ n0 e0 t0=>?_)
 ·refine qA (Z [p 2 (B true)] [])<|vTT<|hr H
 refine qA (Z [p 0 (L Ty.str a0),p 3 (I 0)] [])<|vB<|lX (fun(v1:Int)=>Z (G75 a0 v1 []) []) 0 H fun _ g1 b1 e1 t1 v1 H=>vQ<|qA (Z (G75 a0 v1 [p 8 (B (decide (v1 < (a0.length:Int))))]) [])<|cD H (fun H=>?_) (fun H=>?_)
 ·refine vK<|fQ<|jN r (fun(_:Unit)=>Z (G75 a0 v1 []) []) (u134J2 v1 g1) (fun _ H=>?_) (fun _ n2 e2 t2=>?_)
  ·refine zB (Z (G75 a0 (v1+1) []) []) H fun H=>b1 H
  refine vB<|vQ<|qB (Z (G75 a0 v1 [p 16 (B !vl (u151 (a0.getD v1.toNat (dflt Ty.str))))]) []) H fun H=>cD H (fun H=>?_) (fun H=>?_)
  ·refine qA (Z [p 2 (B false)] [])<|vTT<|fR<|fDD<|t2<|t1<|fDD<|t0<|hr H
  refine vK<|fQ<|qA (Z (G75 a0 v1 [p 4 (I 0)]) [])<|vB<|lX (fun(v2:Int)=>Z (G75 a0 v1 [p 4 (I v2)]) []) 0 H fun _ g3 b3 e3 t3 v2 H=>vQ<|qA (Z (G75 a0 v1 [p 4 (I v2),p 19 (B (decide (v2<v1)))]) [])<|cD H (fun H=>?_) (fun H=>?_)
  ·refine vK<|fQ<|vQ<|vB<|qB (Z (G75 a0 v1 [p 4 (I v2),p 30 (B (decide (a0.getD v2.toNat (dflt Ty.str)=a0.getD v1.toNat (dflt Ty.str))))]) []) H fun H=>cD H (fun H=>?_) (fun H=>?_)
   ·refine qA (Z [p 2 (B false)] [])<|vTT<|fDD<|fR<|t3<|fDD<|fDD<|t2<|t1<|fDD<|t0<|hr H
   refine vK<|fK<|fQ<|zB (Z (G75 a0 v1 [p 4 (I (v2+1))]) []) H fun H=>b3 H
  exact vE<|fE<|e3<|fX rfl<|fK<|n2 H
 exact vE<|fE<|e1<|fX rfl<|n0 H
def u133J4:Unit->Option (Bool)
 | _ =>
 some true
def u133L5(a1:Y31)(g5:Int->Option (Bool)):Int->Option (Bool)
 | v5 =>
 if(decide (v5 < (a1.2.2.length:Int)))=true then
  gd (ix v5 a1.2.2.length/\(u97 (a1.2.2.getD v5.toNat (dflt y175)).2.1 1 2).isSome=true/\((!vl (u97 (a1.2.2.getD v5.toNat (dflt y175)).2.1 1 2))=false/\True->ix v5 a1.2.2.length)/\((!vl (u97 (a1.2.2.getD v5.toNat (dflt y175)).2.1 1 2))=false/\True->in64 ((a1.2.1.length:Int)-1))/\((!vl (u97 (a1.2.2.getD v5.toNat (dflt y175)).2.1 1 2))=false/\True->(u97 (a1.2.2.getD v5.toNat (dflt y175)).2.2 0 ((a1.2.1.length:Int)-1)).isSome=true)/\True) <|
  if(!vl (u97 (a1.2.2.getD v5.toNat (dflt y175)).2.1 1 2)||!vl (u97 (a1.2.2.getD v5.toNat (dflt y175)).2.2 0 ((a1.2.1.length:Int)-1)))=true then
   some false
  else
   gd (in64 (v5+1)/\True) <|
   g5 (v5+1)
 else
  u133J4 ()
def u133J0(a1:Y31):Unit->Option (Bool)
 | _ =>
 lp (u133L5 a1) 0
def u133J2(v2:Int)(g1:Int->Option (Bool)):Unit->Option (Bool)
 | _ =>
 gd (in64 (v2+1)/\True) <|
 g1 (v2+1)
def u133L3(v3:Y165)(a1:Y31)(v2:Int)(g1:Int->Option (Bool))(g3:Int->Option (Bool)):Int->Option (Bool)
 | v4 =>
 if(decide (v4 < (v3.2.2.length:Int)))=true then
  gd (ix v4 v3.2.2.length/\in64 ((a1.2.1.length:Int)-1)/\(u97 (v3.2.2.getD v4.toNat 0) 0 ((a1.2.1.length:Int)-1)).isSome=true/\True) <|
  if(!vl (u97 (v3.2.2.getD v4.toNat 0) 0 ((a1.2.1.length:Int)-1)))=true then
   some false
  else
   gd (in64 (v4+1)/\True) <|
   g3 (v4+1)
 else
  u133J2 v2 g1 ()
def u133L1(a1:Y31)(a0:List Y163)(g1:Int->Option (Bool)):Int->Option (Bool)
 | v2 =>
 if(decide (v2 < (a1.1.length:Int)))=true then
  gd (ix v2 a1.1.length/\True)<|lt (a1.1.getD v2.toNat (dflt y165)) fun v3 =>
  gd (in64 ((a0.length:Int)-1)/\(u97 v3.2.1 0 ((a0.length:Int)-1)).isSome=true/\((!vl (u97 v3.2.1 0 ((a0.length:Int)-1)))=false/\True->ix v3.2.1 a0.length)/\True) <|
  if(!vl (u97 v3.2.1 0 ((a0.length:Int)-1))||(v3.2.2.length:Int) != (↑(a0.getD v3.2.1.toNat (dflt y163)).2.2.1.length:Int))=true then
   some false
  else
   lp (u133L3 v3 a1 v2 g1) 0
 else
  u133J0 a1 ()
def u133(a0:List Y163)(a1:Y31):Option (Bool) :=
 lp (u133L1 a1 a0) 0
def k133:Ct:=lct 133 [.agg y163.sl,.agg y31] (fun x=>u133 x.1 x.2.1) (fun r:Bool=>B r) (fun _=>())
theorem o133:Ok prog k133:=by
 refine okL [.tmp 4] func133 ntmps133 results133 ?_;intro y ⟨a0,a1,_⟩ r H Q hn hr;have:HT _ _:=⟨tc o97 tn⟩;refine qA (Z (G10 []) (W6 a1 a0))<|qA (Z (G10 [p 5 (I (a1.2.1.length:Int))]) (W6 a1 a0))<|jN r (fun(_:Unit)=>Z [p 3 (R 3),p 5 (I (a1.2.1.length:Int))] [(3,K 31 y31 a1)]) (u133J0 a1) (fun _ H=>?_) (fun _ n0 e0 t0=>?_)
 ·refine jN r (fun(_:Unit)=>Z [] []) (u133J4) (fun _ H=>?_) (fun _ n4 e4 t4=>?_)
  ·refine qA (Z [p 4 (B true)] [])<|vTT<|hr H
  refine qA (Z [p 3 (R 3),p 5 (I (a1.2.1.length:Int)),p 9 (I 0)] [(3,K 31 y31 a1)])<|vB<|lX (fun(v5:Int)=>Z [p 3 (R 3),p 5 (I (a1.2.1.length:Int)),p 9 (I v5)] [(3,K 31 y31 a1)]) 0 H fun _ g5 b5 e5 t5 v5 H=>vQ<|qA (Z [p 3 (R 3),p 5 (I (a1.2.1.length:Int)),p 9 (I v5),p 67 (B (decide (v5 < (a1.2.2.length:Int))))] [(3,K 31 y31 a1)])<|cD H (fun H=>?_) (fun H=>?_)
  ·refine vK<|fQ<|vQ<|vB<|qB (Z [p 3 (R 3),p 5 (I (a1.2.1.length:Int)),p 9 (I v5),p 89 (B (!vl (u97 (a1.2.2.getD v5.toNat (dflt y175)).2.1 1 2)||!vl (u97 (a1.2.2.getD v5.toNat (dflt y175)).2.2 0 ((a1.2.1.length:Int)-1))))] [(3,K 31 y31 a1)]) H fun H=>cD H (fun H=>?_) (fun H=>?_)
   ·refine qA (Z [p 4 (B false)] [(3,K 31 y31 a1)])<|vTT<|fDD<|fR<|t5<|fDD<|t4<|hr H
   refine vK<|fK<|fQ<|zB (Z [p 3 (R 3),p 5 (I (a1.2.1.length:Int)),p 9 (I (v5+1))] [(3,K 31 y31 a1)]) H fun H=>b5 H
  exact vE<|fE<|e5<|fX rfl<|n4 H
 refine qA (Z (G10 [p 5 (I (a1.2.1.length:Int)),p 6 (I 0)]) (W6 a1 a0))<|vB<|lX (fun(v2:Int)=>Z (G10 [p 5 (I (a1.2.1.length:Int)),p 6 (I v2)]) (W6 a1 a0)) 0 H fun _ g1 b1 e1 t1 v2 H=>vQ<|qA (Z (G10 [p 5 (I (a1.2.1.length:Int)),p 6 (I v2),p 17 (B (decide (v2 < (a1.1.length:Int))))]) (W6 a1 a0))<|cD H (fun H=>?_) (fun H=>?_)
 ·refine vK<|fQ<|jN r (fun(_:Unit)=>Z (G10 [p 5 (I (a1.2.1.length:Int)),p 6 (I v2)]) (W6 a1 a0)) (u133J2 v2 g1) (fun _ H=>?_) (fun _ n2 e2 t2=>?_)
  ·refine zB (Z (G10 [p 5 (I (a1.2.1.length:Int)),p 6 (I (v2+1))]) (W6 a1 a0)) H fun H=>b1 H
  refine vB<|qD (fun v3=>Z (G10 [p 5 (I (a1.2.1.length:Int)),p 6 (I v2),p 7 (R 7)]) ((7,K 165 y165 v3)::W6 a1 a0)) H fun v3 H=>vQ<|qB (Z (G10 [p 5 (I (a1.2.1.length:Int)),p 6 (I v2),p 7 (R 7),p 46 (B (!vl (u97 v3.2.1 0 ((a0.length:Int)-1))||(v3.2.2.length:Int) != (↑(a0.getD v3.2.1.toNat (dflt y163)).2.2.1.length:Int)))]) ((7,K 165 y165 v3)::W6 a1 a0)) H fun H=>cD H (fun H=>?_) (fun H=>?_)
  ·refine qA (Z [p 4 (B false)] ((7,K 165 y165 v3)::W6 a1 a0))<|vTT<|fR<|fDD<|t2<|t1<|fDD<|t0<|hr H
  refine vK<|fQ<|qA (Z (G10 [p 5 (I (a1.2.1.length:Int)),p 6 (I v2),p 7 (R 7),p 8 (I 0)]) ((7,K 165 y165 v3)::W6 a1 a0))<|vB<|lX (fun(v4:Int)=>Z (G10 [p 5 (I (a1.2.1.length:Int)),p 6 (I v2),p 7 (R 7),p 8 (I v4)]) ((7,K 165 y165 v3)::W6 a1 a0)) 0 H fun _ g3 b3 e3 t3 v4 H=>vQ<|qA (Z (G10 [p 5 (I (a1.2.1.length:Int)),p 6 (I v2),p 7 (R 7),p 8 (I v4),p 51 (B (decide (v4 < (v3.2.2.length:Int))))]) ((7,K 165 y165 v3)::W6 a1 a0))<|cD H (fun H=>?_) (fun H=>?_)
  ·refine vK<|fQ<|vQ<|vB<|qB (Z (G10 [p 5 (I (a1.2.1.length:Int)),p 6 (I v2),p 7 (R 7),p 8 (I v4),p 62 (B !vl (u97 (v3.2.2.getD v4.toNat 0) 0 ((a1.2.1.length:Int)-1)))]) ((7,K 165 y165 v3)::W6 a1 a0)) H fun H=>cD H (fun H=>?_) (fun H=>?_)
   ·refine qA (Z [p 4 (B false)] ((7,K 165 y165 v3)::W6 a1 a0))<|vTT<|fDD<|fR<|t3<|fDD<|fDD<|t2<|t1<|fDD<|t0<|hr H
   refine vK<|fK<|fQ<|zB (Z (G10 [p 5 (I (a1.2.1.length:Int)),p 6 (I v2),p 7 (R 7),p 8 (I (v4+1))]) ((7,K 165 y165 v3)::W6 a1 a0)) H fun H=>b3 H
  exact vE<|fE<|e3<|fX rfl<|fK<|n2 H
 exact vE<|fE<|e1<|fX rfl<|n0 H
def u220J0:List Int->Option (List Int)
 | v4 =>
 some v4
def u220L1(a0:Y163)(g1:Int×List Int->Option (List Int)):Int×List Int->Option (List Int)
 | (v1,v2) =>
 if(decide (v1 < (a0.2.2.2.1.length:Int)))=true then
  gd (ix v1 a0.2.2.2.1.length/\ix (a0.2.2.2.1.getD v1.toNat (dflt y143)).1 v2.length/\(a0.2.2.2.1.getD v1.toNat (dflt y143)).1.toNat<v2.length/\in64 (v2.getD (a0.2.2.2.1.getD v1.toNat (dflt y143)).1.toNat 0+1)/\ix (a0.2.2.2.1.getD v1.toNat (dflt y143)).1 v2.length/\(a0.2.2.2.1.getD v1.toNat (dflt y143)).1.toNat<v2.length/\True)<|lt (v2.set (a0.2.2.2.1.getD v1.toNat (dflt y143)).1.toNat (v2.getD (a0.2.2.2.1.getD v1.toNat (dflt y143)).1.toNat 0+1)) fun v3 =>
  gd (in64 (v1+1)/\True) <|
  g1 (v1+1,v3)
 else
  u220J0 v2
def u220(a0:Y163):Option (List Int) :=
 gd (((0:Int)<=(6:Int)/\(6:Int)=(6:Int)/\Int.toNat (6:Int)*8<=281474976710656/\(6:Int)<=(9223372036854775807:Int))/\True) <|
 lp (u220L1 a0) ((0,List.replicate (Int.toNat (6:Int)) (0:Int)))
def k220:Ct:=lct 220 [.agg y163] (fun x=>u220 x.1) (fun r:List Int=>AV.ow 2 true i64 r) (fun _=>())
theorem o220:Ok prog k220:=by
 refine okL [.tmp 2] func220 ntmps220 results220 ?_;intro y ⟨a0,_⟩ r H Q hn hr;have:HT _ _:=⟨@tn prog⟩;refine qA (Z [p 1 (R 1)] [(1,K 163 y163 a0)])<|qB (Z [p 1 (R 1),p 3 (O 5)] [(5,A 2 i64 (List.replicate (Int.toNat (6:Int)) (0:Int)) 0),(1,K 163 y163 a0)]) H fun H=>jN r (fun(v4:List Int)=>Z [p 3 (O 5)] [(5,A 2 i64 v4 0)]) (u220J0) (fun v4 H=>?_) (fun _ n0 e0 t0=>?_)
 ·refine qA (Z [p 2 (O 5)] [(5,A 2 i64 v4 0)])<|vTT<|hr H
 refine qA (Z [p 1 (R 1),p 3 (O 5),p 4 (I (0:Int))] [(5,A 2 i64 (List.replicate (Int.toNat (6:Int)) (0:Int)) 0),(1,K 163 y163 a0)])<|vB<|lX (fun((v1,v2):Int×List Int)=>Z [p 1 (R 1),p 3 (O 5),p 4 (I v1)] [(5,A 2 i64 v2 0),(1,K 163 y163 a0)]) ((0,List.replicate (Int.toNat (6:Int)) (0:Int))) H fun _ g1 b1 e1 t1 ⟨v1,v2⟩ H=>vQ<|qA (Z [p 1 (R 1),p 3 (O 5),p 4 (I v1),p 10 (B (decide (v1 < (a0.2.2.2.1.length:Int))))] [(5,A 2 i64 v2 0),(1,K 163 y163 a0)])<|cD H (fun H=>?_) (fun H=>?_)
 ·refine vK<|fQ<|vQ<|vB<|zD (fun v3=>Z [p 1 (R 1),p 3 (O 5),p 4 (I v1)] [(5,A 2 i64 v3 0),(1,K 163 y163 a0)]) H fun v3 H=>fK<|fQ<|zB (Z [p 1 (R 1),p 3 (O 5),p 4 (I (v1+1))] [(5,A 2 i64 v3 0),(1,K 163 y163 a0)]) H fun H=>b1 H
 exact vE<|fE<|e1<|fX rfl<|n0 H
def u285J0(a0:List Int):Unit->Option (Bool)
 | _ =>
 some (decide (1<=(a0.length:Int))&&decide ((a0.length:Int)<=4))
def u285L1(a0:List Int)(g1:Int->Option (Bool)):Int->Option (Bool)
 | v0 =>
 if(decide (v0 < (a0.length:Int)))=true then
  gd (ix v0 a0.length/\(u97 (a0.getD v0.toNat 0) 0 100000).isSome=true/\(decide (0<v0)=true/\(!vl (u97 (a0.getD v0.toNat 0) 0 100000))=false/\True->in64 (v0-1))/\(decide (0<v0)=true/\(!vl (u97 (a0.getD v0.toNat 0) 0 100000))=false/\True->ix (v0-1) a0.length)/\(decide (0<v0)=true/\(!vl (u97 (a0.getD v0.toNat 0) 0 100000))=false/\True->ix v0 a0.length)/\True) <|
  if(!vl (u97 (a0.getD v0.toNat 0) 0 100000)||decide (0<v0)&&decide (a0.getD v0.toNat 0<=a0.getD (v0-1).toNat 0))=true then
   some false
  else
   gd (in64 (v0+1)/\True) <|
   g1 (v0+1)
 else
  u285J0 a0 ()
def u285(a0:List Int):Option (Bool) :=
 lp (u285L1 a0) 0
def k285:Ct:=lct 285 [.dat i64.sl] (fun x=>u285 x.1) (fun r:Bool=>B r) (fun _=>())
theorem o285:Ok prog k285:=by
 refine okL [.tmp 2] func285 ntmps285 results285 ?_;intro y ⟨a0,_⟩ r H Q hn hr;have:HT _ _:=⟨tc o97 tn⟩;refine qA (Z [p 0 (L i64 a0)] [])<|jN r (fun(_:Unit)=>Z [p 0 (L i64 a0)] []) (u285J0 a0) (fun _ H=>?_) (fun _ n0 e0 t0=>?_)
 ·refine qA (Z [p 2 (B (decide (1<=(a0.length:Int))&&decide ((a0.length:Int)<=4)))] [])<|vTT<|hr H
 refine qA (Z [p 0 (L i64 a0),p 3 (I 0)] [])<|vB<|lX (fun(v0:Int)=>Z [p 0 (L i64 a0),p 3 (I v0)] []) 0 H fun _ g1 b1 e1 t1 v0 H=>vQ<|qA (Z [p 0 (L i64 a0),p 3 (I v0),p 7 (B (decide (v0 < (a0.length:Int))))] [])<|cD H (fun H=>?_) (fun H=>?_)
 ·refine vK<|fQ<|vQ<|vB<|qB (Z [p 0 (L i64 a0),p 3 (I v0),p 31 (B (!vl (u97 (a0.getD v0.toNat 0) 0 100000)||decide (0<v0)&&decide (a0.getD v0.toNat 0<=a0.getD (v0-1).toNat 0)))] []) H fun H=>cD H (fun H=>?_) (fun H=>?_)
  ·refine qA (Z [p 2 (B false)] [])<|vTT<|fDD<|fR<|t1<|fDD<|t0<|hr H
  refine vK<|fK<|fQ<|zB (Z [p 0 (L i64 a0),p 3 (I (v0+1))] []) H fun H=>b1 H
 exact vE<|fE<|e1<|fX rfl<|n0 H
def u277J0:Unit->Option (Bool)
 | _ =>
 some true
def u277L1(a0:Y140)(g1:Int->Option (Bool)):Int->Option (Bool)
 | v0 =>
 if(decide (v0 < (a0.2.2.length:Int)))=true then
  gd (ix v0 a0.2.2.length/\(u97 (a0.2.2.getD v0.toNat 0) (-1000000) 1000000).isSome=true/\True) <|
  if(!vl (u97 (a0.2.2.getD v0.toNat 0) (-1000000) 1000000))=true then
   some false
  else
   gd (in64 (v0+1)/\True) <|
   g1 (v0+1)
 else
  u277J0 ()
def u277(a0:Y140):Option (Bool) :=
 gd ((u285 a0.1).isSome=true/\((!vl (u285 a0.1))=false/\True->(u285 a0.2.1).isSome=true)/\((!vl (u285 a0.1)||!vl (u285 a0.2.1))=false/\True->in64 ((a0.1.length:Int)*(a0.2.1.length:Int)))/\True) <|
 if(!vl (u285 a0.1)||!vl (u285 a0.2.1)||(a0.2.2.length:Int) != (a0.1.length:Int)*(a0.2.1.length:Int))=true then
  some false
 else
  lp (u277L1 a0) 0
def k277:Ct:=lct 277 [.agg y140] (fun x=>u277 x.1) (fun r:Bool=>B r) (fun _=>())
theorem o277:Ok prog k277:=by
 refine okL [.tmp 2] func277 ntmps277 results277 ?_;intro y ⟨a0,_⟩ r H Q hn hr;have:HT _ _:=⟨tc o97 (tc o285 tn)⟩;refine qA (Z [p 1 (R 1)] [(1,K 140 y140 a0)])<|vQ<|qB (Z [p 1 (R 1),p 26 (B (!vl (u285 a0.1)||!vl (u285 a0.2.1)||(a0.2.2.length:Int) != (a0.1.length:Int)*(a0.2.1.length:Int)))] [(1,K 140 y140 a0)]) H fun H=>cD H (fun H=>?_) (fun H=>?_)
 ·refine qA (Z [p 2 (B false)] [(1,K 140 y140 a0)])<|vTT<|fR<|hr H
 refine vK<|fQ<|jN r (fun(_:Unit)=>Z [] []) (u277J0) (fun _ H=>?_) (fun _ n0 e0 t0=>?_)
 ·refine qA (Z [p 2 (B true)] [])<|vTT<|hr H
 refine qA (Z [p 1 (R 1),p 3 (I 0)] [(1,K 140 y140 a0)])<|vB<|lX (fun(v0:Int)=>Z (G14 v0 []) [(1,K 140 y140 a0)]) 0 H fun _ g1 b1 e1 t1 v0 H=>vQ<|qA (Z (G14 v0 [p 31 (B (decide (v0 < (a0.2.2.length:Int))))]) [(1,K 140 y140 a0)])<|cD H (fun H=>?_) (fun H=>?_)
 ·refine vK<|fQ<|vQ<|vB<|qB (Z (G14 v0 [p 40 (B !vl (u97 (a0.2.2.getD v0.toNat 0) (-1000000) 1000000))]) [(1,K 140 y140 a0)]) H fun H=>cD H (fun H=>?_) (fun H=>?_)
  ·refine qA (Z [p 2 (B false)] [(1,K 140 y140 a0)])<|vTT<|fDD<|fR<|t1<|fDD<|t0<|hr H
  refine vK<|fK<|fQ<|zB (Z (G14 (v0+1) []) [(1,K 140 y140 a0)]) H fun H=>b1 H
 exact vE<|fE<|e1<|fX rfl<|n0 H
def u265J0:Int×Int->Option (Y75×Int)
 | (v5,v6) =>
 some (((v5,v6),(0:Int)))
def u265L1(a0:Y140)(g1:Int×Int×Int->Option (Y75×Int)):Int×Int×Int->Option (Y75×Int)
 | (v2,v3,v4) =>
 if(decide (v2 < (a0.2.2.length:Int)))=true then
  gd (ix v2 a0.2.2.length/\True) <|
  gd (ix v2 a0.2.2.length/\True) <|
  gd (in64 (v2+1)/\True) <|
  g1 ((v2+1,min v3 (a0.2.2.getD v2.toNat 0),max v4 (a0.2.2.getD v2.toNat 0)))
 else
  u265J0 (v3,v4)
def u265(a0:Y140):Option (Y75×Int) :=
 gd ((u277 a0).isSome=true/\True) <|
 if(!vl (u277 a0))=true then
  some ((((0:Int),(0:Int)),(1:Int)))
 else
  gd (ix 0 a0.2.2.length/\ix 0 a0.2.2.length/\True) <|
  lp (u265L1 a0) ((1,a0.2.2.getD (Int.toNat (0:Int)) (0:Int),a0.2.2.getD (Int.toNat (0:Int)) (0:Int)))
def k265:Ct:=lct 265 [.agg y140] (fun x=>u265 x.1) (fun r:Y75×Int=>AV.tup [AV.agg [I r.1.1,I r.1.2],I r.2]) (fun _=>())
theorem o265:Ok prog k265:=by
 refine okL [.cell 2 75,.tmp 3] func265 ntmps265 results265 ?_;intro y ⟨a0,_⟩ r H Q hn hr;have:HT _ _:=⟨tc o277 tn⟩;refine qA (Z [p 1 (R 1),p 2 (R 2)] (W39 a0))<|vQ<|qB (Z [p 1 (R 1),p 2 (R 2),p 8 (B !vl (u277 a0))] (W39 a0)) H fun H=>cD H (fun H=>?_) (fun H=>?_)
 ·refine qA (Z [p 2 (R 2),p 3 (I 1)] (W39 a0))<|vTT<|fR<|hr H
 refine vK<|fQ<|qB (Z (G64 []) (W74 (a0.2.2.getD (Int.toNat (0:Int)) (0:Int)) a0)) H fun H=>jN r (fun((v5,v6):Int×Int)=>Z [p 2 (R 2),p 4 (R 4)] [(4,bx 75 [J v5,J v6]),(2,bx 75 [I 0,I 0])]) (u265J0) (fun⟨v5,v6⟩ H=>?_) (fun _ n0 e0 t0=>?_)
 ·refine qA (Z [p 2 (R 2),p 3 (I 0)] [(2,bx 75 [J v5,J v6]),(4,bx 75 [J v5,J v6])])<|vTT<|hr H
 refine qA (Z (G64 [p 5 (I (1:Int))]) (W74 (a0.2.2.getD (Int.toNat (0:Int)) (0:Int)) a0))<|vB<|lX (fun((v2,v3,v4):Int×Int×Int)=>Z (G64 [p 5 (I v2)]) ((4,bx 75 [J v3,J v4])::W39 a0)) ((1,a0.2.2.getD (Int.toNat (0:Int)) (0:Int),a0.2.2.getD (Int.toNat (0:Int)) (0:Int))) H fun _ g1 b1 e1 t1 ⟨v2,v3,v4⟩ H=>vQ<|qA (Z (G64 [p 5 (I v2),p 23 (B (decide (v2 < (a0.2.2.length:Int))))]) ((4,bx 75 [J v3,J v4])::W39 a0))<|cD H (fun H=>?_) (fun H=>?_)
 ·refine vK<|fQ<|vQ<|vB<|qB (Z (G64 [p 5 (I v2)]) ((4,bx 75 [I (min v3 (a0.2.2.getD v2.toNat 0)),J v4])::W39 a0)) H fun H=>zB (Z (G64 [p 5 (I v2)]) ((4,bx 75 [I (min v3 (a0.2.2.getD v2.toNat 0)),I (max v4 (a0.2.2.getD v2.toNat 0))])::W39 a0)) H fun H=>fK<|fQ<|zB (Z (G64 [p 5 (I (v2+1))]) ((4,bx 75 [I (min v3 (a0.2.2.getD v2.toNat 0)),I (max v4 (a0.2.2.getD v2.toNat 0))])::W39 a0)) H fun H=>b1 H
 exact vE<|fE<|e1<|fX rfl<|n0 H
def u246J0:Unit->Option (Bool)
 | _ =>
 some true
def u246L1(a1:Bool)(a0:List Y140)(g1:Int->Option (Bool)):Int->Option (Bool)
 | v1 =>
 if(decide (v1<2))=true then
  gd (ix v1 a0.length/\(u265 (a0.getD v1.toNat (dflt y140))).isSome=true/\True)<|lt (vl (u265 (a0.getD v1.toNat (dflt y140)))) fun v2 =>
  if(v2.2 != 0||a1&&decide (v2.1.1<0))=true then
   some false
  else
   gd (in64 (v1+1)/\True) <|
   g1 (v1+1)
 else
  u246J0 ()
def u246(a0:List Y140)(a1:Bool):Option (Bool) :=
 if((a0.length:Int) != 2)=true then
  some false
 else
  lp (u246L1 a1 a0) 0
def k246:Ct:=lct 246 [.dat y140.sl,.dat Ty.bool] (fun x=>u246 x.1 x.2.1) (fun r:Bool=>B r) (fun _=>())
theorem o246:Ok prog k246:=by
 refine okL [.tmp 4] func246 ntmps246 results246 ?_;intro y ⟨a0,a1,_⟩ r H Q hn hr;have:HT _ _:=⟨tc o265 tn⟩;refine qA (Z [p 0 (L y140 a0),p 1 (C a1)] [])<|vQ<|qA (Z [p 0 (L y140 a0),p 1 (C a1),p 10 (B ((a0.length:Int) != 2))] [])<|cD H (fun H=>?_) (fun H=>?_)
 ·refine qA (Z [p 4 (B false)] [])<|vTT<|fR<|hr H
 refine vK<|fQ<|jN r (fun(_:Unit)=>Z [] []) (u246J0) (fun _ H=>?_) (fun _ n0 e0 t0=>?_)
 ·refine qA (Z [p 4 (B true)] [])<|vTT<|hr H
 refine qA (Z [p 0 (L y140 a0),p 1 (C a1),p 5 (I 0)] [])<|vB<|lX (fun(v1:Int)=>Z [p 0 (L y140 a0),p 1 (C a1),p 5 (I v1)] []) 0 H fun _ g1 b1 e1 t1 v1 H=>vQ<|qA (Z [p 0 (L y140 a0),p 1 (C a1),p 5 (I v1),p 12 (B (decide (v1<2)))] [])<|cD H (fun H=>?_) (fun H=>?_)
 ·refine vK<|fQ<|vQ<|vB<|qD (fun v2=>Z [p 0 (L y140 a0),p 1 (C a1),p 5 (I v1),p 6 (R 6),p 7 (I v2.2)] [(6,bx 75 (cellsD true y75 v2.1))]) H fun v2 H=>qA (Z [p 0 (L y140 a0),p 1 (C a1),p 5 (I v1),p 32 (B (v2.2 != 0||a1&&decide (v2.1.1<0)))] [(6,bx 75 (cellsD true y75 v2.1))])<|cD H (fun H=>?_) (fun H=>?_)
  ·refine qA (Z [p 4 (B false)] [(6,bx 75 (cellsD true y75 v2.1))])<|vTT<|fDD<|fR<|t1<|fDD<|t0<|hr H
  refine vK<|fK<|fQ<|zB (Z [p 0 (L y140 a0),p 1 (C a1),p 5 (I (v1+1))] [(6,bx 75 (cellsD true y75 v2.1))]) H fun H=>b1 H
 exact vE<|fE<|e1<|fX rfl<|n0 H
def u219J1(v0:Y217)(a1:Y143)(a0:Y163):Bool->Option (Bool)
 | v2 =>
 if v2=true then
  gd (((v0.2.2.2&&decide (a1.2.2.1 < (a0.2.2.1.length:Int)-1))=true/\True->ix a1.2.2.1 a0.2.2.1.length)/\((v0.2.2.2&&decide (a1.2.2.1 < (a0.2.2.1.length:Int)-1)&&!(a0.2.2.1.getD a1.2.2.1.toNat (dflt y217)).2.2.2&&a1.2.2.2.1==0)=true/\True->(u246 a1.2.2.2.2.1 false).isSome=true)/\True) <|
  some (v0.2.2.2&&decide (a1.2.2.1 < (a0.2.2.1.length:Int)-1)&&!(a0.2.2.1.getD a1.2.2.1.toNat (dflt y217)).2.2.2&&a1.2.2.2.1==0&&vl (u246 a1.2.2.2.2.1 false)&&(a1.2.2.2.2.2.length:Int)==0)
 else
  some false
def u219J0(v0:Y217)(a1:Y143)(a0:Y163):Bool->Option (Bool)
 | v1 =>
 if v1=true then
  gd (((v0.2.2.2&&a1.2.2.1==(a0.2.2.1.length:Int)-1&&a1.2.2.2.1==0)=true/\True->(u246 a1.2.2.2.2.1 true).isSome=true)/\((v0.2.2.2&&a1.2.2.1==(a0.2.2.1.length:Int)-1&&a1.2.2.2.1==0&&vl (u246 a1.2.2.2.2.1 true))=true/\True->(u246 a1.2.2.2.2.2 true).isSome=true)/\True) <|
  some (v0.2.2.2&&a1.2.2.1==(a0.2.2.1.length:Int)-1&&a1.2.2.2.1==0&&vl (u246 a1.2.2.2.2.1 true)&&vl (u246 a1.2.2.2.2.2 true))
 else
  if(a1.1==4)=true then
   u219J1 v0 a1 a0 (a1.1==4)
  else
   u219J1 v0 a1 a0 (a1.1==5)
def u219(a0:Y163)(a1:Y143):Option (Bool) :=
 gd (in64 ((a0.2.2.1.length:Int)-1)/\True) <|
 gd (in64 ((a0.2.2.1.length:Int)-1-1)/\(u97 a1.2.1 0 ((a0.2.2.1.length:Int)-1-1)).isSome=true/\((!vl (u97 a1.2.1 0 ((a0.2.2.1.length:Int)-1-1)))=false/\True->(u97 a1.2.2.1 0 ((a0.2.2.1.length:Int)-1)).isSome=true)/\True) <|
 if(!vl (u97 a1.2.1 0 ((a0.2.2.1.length:Int)-1-1))||!vl (u97 a1.2.2.1 0 ((a0.2.2.1.length:Int)-1)))=true then
  some false
 else
  gd (ix a1.2.1 a0.2.2.1.length/\True)<|lt (a0.2.2.1.getD a1.2.1.toNat (dflt y217)) fun v0 =>
  if(a1.1==1)=true then
   gd (((!v0.2.2.2&&a1.2.2.1==(a0.2.2.1.length:Int)-1)=true/\True->(u97 a1.2.2.2.1 1 3).isSome=true)/\((!v0.2.2.2&&a1.2.2.1==(a0.2.2.1.length:Int)-1&&vl (u97 a1.2.2.2.1 1 3))=true/\True->(u246 a1.2.2.2.2.1 true).isSome=true)/\((!v0.2.2.2&&a1.2.2.1==(a0.2.2.1.length:Int)-1&&vl (u97 a1.2.2.2.1 1 3)&&vl (u246 a1.2.2.2.2.1 true))=true/\True->(u246 a1.2.2.2.2.2 true).isSome=true)/\True) <|
   some (!v0.2.2.2&&a1.2.2.1==(a0.2.2.1.length:Int)-1&&vl (u97 a1.2.2.2.1 1 3)&&vl (u246 a1.2.2.2.2.1 true)&&vl (u246 a1.2.2.2.2.2 true))
  else
   if(a1.1==2)=true then
    u219J0 v0 a1 a0 (a1.1==2)
   else
    u219J0 v0 a1 a0 (a1.1==3)
def k219:Ct:=lct 219 [.agg y163,.agg y143] (fun x=>u219 x.1 x.2.1) (fun r:Bool=>B r) (fun _=>())
theorem o219:Ok prog k219:=by
 refine okL [.tmp 4] func219 ntmps219 results219 ?_;intro y ⟨a0,a1,_⟩ r H Q hn hr;have:HT _ _:=⟨tc o246 (tc o97 tn)⟩;refine qA (Z (G10 []) (W12 a1 a0))<|qB (Z (G10 [p 5 (I ((a0.2.2.1.length:Int)-1))]) (W12 a1 a0)) H fun H=>vQ<|qB (Z (G10 [p 5 (I ((a0.2.2.1.length:Int)-1)),p 23 (B (!vl (u97 a1.2.1 0 ((a0.2.2.1.length:Int)-1-1))||!vl (u97 a1.2.2.1 0 ((a0.2.2.1.length:Int)-1))))]) (W12 a1 a0)) H fun H=>cD H (fun H=>?_) (fun H=>?_)
 ·refine qA (Z [p 4 (B false)] (W12 a1 a0))<|vTT<|fR<|hr H
 refine vK<|fQ<|qD (fun v0=>Z (G10 [p 5 (I ((a0.2.2.1.length:Int)-1)),p 6 (C v0.2.2.2)]) (W12 a1 a0)) H fun v0 H=>vQ<|qA (Z (G10 [p 5 (I ((a0.2.2.1.length:Int)-1)),p 6 (C v0.2.2.2),p 32 (J a1.1)]) (W12 a1 a0))<|vB<|qA (Z (G10 [p 5 (I ((a0.2.2.1.length:Int)-1)),p 6 (C v0.2.2.2),p 32 (J a1.1),p 33 (B (a1.1==1))]) (W12 a1 a0))<|cD H (fun H=>?_) (fun H=>?_)
 ·refine qB (Z [p 4 (B (!v0.2.2.2&&a1.2.2.1==(a0.2.2.1.length:Int)-1&&vl (u97 a1.2.2.2.1 1 3)&&vl (u246 a1.2.2.2.2.1 true)&&vl (u246 a1.2.2.2.2.2 true)))] (W12 a1 a0)) H fun H=>vTT<|fDD<|fR<|hr H
 refine jN r (fun(v1:Bool)=>Z (G10 [p 5 (I ((a0.2.2.1.length:Int)-1)),p 6 (C v0.2.2.2),p 32 (J a1.1),p 58 (B v1)]) (W12 a1 a0)) (u219J0 v0 a1 a0) (fun v1 H=>?_) (fun _ n0 e0 t0=>?_)
 ·refine cD H (fun H=>?_) (fun H=>?_)
  ·refine qB (Z [p 4 (B (v0.2.2.2&&a1.2.2.1==(a0.2.2.1.length:Int)-1&&a1.2.2.2.1==0&&vl (u246 a1.2.2.2.2.1 true)&&vl (u246 a1.2.2.2.2.2 true)))] (W12 a1 a0)) H fun H=>vTT<|fDD<|fR<|hr H
  refine jN r (fun(v2:Bool)=>Z (G10 [p 5 (I ((a0.2.2.1.length:Int)-1)),p 6 (C v0.2.2.2),p 83 (B v2)]) (W12 a1 a0)) (u219J1 v0 a1 a0) (fun v2 H=>?_) (fun _ n1 e1 t1=>?_)
  ·refine cD H (fun H=>?_) (fun H=>?_)
   ·refine qB (Z [p 4 (B (v0.2.2.2&&decide (a1.2.2.1 < (a0.2.2.1.length:Int)-1)&&!(a0.2.2.1.getD a1.2.2.1.toNat (dflt y217)).2.2.2&&a1.2.2.2.1==0&&vl (u246 a1.2.2.2.2.1 false)&&(a1.2.2.2.2.2.length:Int)==0))] (W12 a1 a0)) H fun H=>vTT<|fDD<|fR<|hr H
   refine vK<|fK<|fQ<|qA (Z [p 4 (B false)] (W12 a1 a0))<|vTT<|hr H
  refine qA (Z (G10 [p 5 (I ((a0.2.2.1.length:Int)-1)),p 6 (C v0.2.2.2),p 32 (J a1.1),p 83 (B (a1.1==4))]) (W12 a1 a0))<|cD H (fun H=>?_) (fun H=>?_)
  ·exact vK<|n1 H
  refine zA (Z (G10 [p 5 (I ((a0.2.2.1.length:Int)-1)),p 6 (C v0.2.2.2),p 83 (B (a1.1==5))]) (W12 a1 a0))<|n1 H
 refine qA (Z (G10 [p 5 (I ((a0.2.2.1.length:Int)-1)),p 6 (C v0.2.2.2),p 32 (J a1.1),p 58 (B (a1.1==2))]) (W12 a1 a0))<|cD H (fun H=>?_) (fun H=>?_)
 ·exact vK<|n0 H
 refine zA (Z (G10 [p 5 (I ((a0.2.2.1.length:Int)-1)),p 6 (C v0.2.2.2),p 32 (J a1.1),p 58 (B (a1.1==3))]) (W12 a1 a0))<|n0 H
def u218J0:Int->Option (Int×Bool)
 | v8 =>
 some (v8,true)
def u218J2(v4:Int)(g1:Int×Int->Option (Int×Bool)):Int->Option (Int×Bool)
 | v7 =>
 gd (in64 (v4+1)/\True) <|
 g1 (v7,v4+1)
def u218J3(v4:Int)(v3:Int)(v5:Y217)(a0:Y163)(g1:Int×Int->Option (Int×Bool)):Unit->Option (Int×Bool)
 | _ =>
 gd ((u151 v5.1).isSome=true/\((!vl (u151 v5.1))=false/\True->(u97 v5.2.2.1 0 500).isSome=true)/\True) <|
 if(!vl (u151 v5.1)||!vl (u97 v5.2.2.1 0 500))=true then
  some (((0:Int),false))
 else
  gd (in64 ((a0.2.2.1.length:Int)-1)/\((v4==(a0.2.2.1.length:Int)-1&&(v5.2.1 != 2||v5.2.2.1 != 0||v5.2.2.2))=false/\True->in64 ((a0.2.2.1.length:Int)-1))/\True) <|
  if(v4==(a0.2.2.1.length:Int)-1&&(v5.2.1 != 2||v5.2.2.1 != 0||v5.2.2.2)||decide (v4 < (a0.2.2.1.length:Int)-1)&&v5.2.1 != 1)=true then
   some (((0:Int),false))
  else
   if v5.2.2.2=true then
    gd (in64 (v3+1)/\True) <|
    u218J2 v4 g1 (v3+1)
   else
    u218J2 v4 g1 v3
def u218L4(a0:Y163)(v5:Y217)(v4:Int)(v3:Int)(g1:Int×Int->Option (Int×Bool))(g4:Int->Option (Int×Bool)):Int->Option (Int×Bool)
 | v6 =>
 if(decide (v6<v4))=true then
  gd (ix v6 a0.2.2.1.length/\True) <|
  if(decide ((a0.2.2.1.getD v6.toNat (dflt y217)).1=v5.1))=true then
   some (((0:Int),false))
  else
   gd (in64 (v6+1)/\True) <|
   g4 (v6+1)
 else
  u218J3 v4 v3 v5 a0 g1 ()
def u218L1(a0:Y163)(g1:Int×Int->Option (Int×Bool)):Int×Int->Option (Int×Bool)
 | (v3,v4) =>
 if(decide (v4 < (a0.2.2.1.length:Int)))=true then
  gd (ix v4 a0.2.2.1.length/\True)<|lt (a0.2.2.1.getD v4.toNat (dflt y217)) fun v5 =>
  lp (u218L4 a0 v5 v4 v3 g1) 0
 else
  u218J0 v3
def u218(a0:Y163):Option (Int×Bool) :=
 if(decide ((a0.2.2.1.length:Int)<2)||decide (5 < (a0.2.2.1.length:Int)))=true then
  some (((0:Int),false))
 else
  lp (u218L1 a0) (0,0)
def k218:Ct:=lct 218 [.agg y163] (fun x=>u218 x.1) (fun r:Int×Bool=>AV.tup [I r.1,B r.2]) (fun _=>())
theorem o218:Ok prog k218:=by
 refine okL [.tmp 2,.tmp 3] func218 ntmps218 results218 ?_;intro y ⟨a0,_⟩ r H Q hn hr;have:HT _ _:=⟨tc o97 (tc o151 tn)⟩;refine qA (Z [p 1 (R 1)] [(1,K 163 y163 a0)])<|qA (Z [p 1 (R 1),p 4 (I (a0.2.2.1.length:Int))] [(1,K 163 y163 a0)])<|vQ<|qA (Z [p 1 (R 1),p 4 (I (a0.2.2.1.length:Int)),p 17 (B (decide ((a0.2.2.1.length:Int)<2)||decide (5 < (a0.2.2.1.length:Int))))] [(1,K 163 y163 a0)])<|cD H (fun H=>?_) (fun H=>?_)
 ·refine qA (Z [p 2 (I 0),p 3 (B false)] [(1,K 163 y163 a0)])<|vTT<|fR<|hr H
 refine vK<|fQ<|qA (Z [p 1 (R 1),p 4 (I (a0.2.2.1.length:Int)),p 5 (I 0)] [(1,K 163 y163 a0)])<|jN r (fun(v8:Int)=>Z [p 5 (I v8)] []) (u218J0) (fun v8 H=>?_) (fun _ n0 e0 t0=>?_)
 ·refine qA (Z [p 2 (I v8),p 3 (B true)] [])<|vTT<|hr H
 refine qA (Z [p 1 (R 1),p 4 (I (a0.2.2.1.length:Int)),p 5 (I 0),p 6 (I 0)] [(1,K 163 y163 a0)])<|vB<|lX (fun((v3,v4):Int×Int)=>Z (G27 (a0.2.2.1.length:Int) v3 v4 []) [(1,K 163 y163 a0)]) (0,0) H fun _ g1 b1 e1 t1 ⟨v3,v4⟩ H=>vQ<|qA (Z (G27 (a0.2.2.1.length:Int) v3 v4 [p 20 (B (decide (v4 < (a0.2.2.1.length:Int))))]) [(1,K 163 y163 a0)])<|cD H (fun H=>?_) (fun H=>?_)
 ·refine vK<|fQ<|jN r (fun(v7:Int)=>Z (G27 (a0.2.2.1.length:Int) v7 v4 []) [(1,K 163 y163 a0)]) (u218J2 v4 g1) (fun v7 H=>?_) (fun _ n2 e2 t2=>?_)
  ·refine zB (Z (G27 (a0.2.2.1.length:Int) v7 (v4+1) []) [(1,K 163 y163 a0)]) H fun H=>b1 H
  refine vB<|qD (fun v5=>Z (G27 (a0.2.2.1.length:Int) v3 v4 [p 7 (R 7)]) (W29 v5 a0)) H fun v5 H=>jN r (fun(_:Unit)=>Z (G27 (a0.2.2.1.length:Int) v3 v4 [p 7 (R 7)]) (W29 v5 a0)) (u218J3 v4 v3 v5 a0 g1) (fun _ H=>?_) (fun _ n3 e3 t3=>?_)
  ·refine vQ<|qB (Z (G27 (a0.2.2.1.length:Int) v3 v4 [p 7 (R 7),p 51 (B (!vl (u151 v5.1)||!vl (u97 v5.2.2.1 0 500)))]) (W29 v5 a0)) H fun H=>cD H (fun H=>?_) (fun H=>?_)
   ·refine qA (Z [p 2 (I 0),p 3 (B false)] (W29 v5 a0))<|vTT<|fR<|fDD<|t2<|t1<|fDD<|t0<|hr H
   refine vK<|fQ<|vQ<|qB (Z (G27 (a0.2.2.1.length:Int) v3 v4 [p 7 (R 7),p 80 (B (v4==(a0.2.2.1.length:Int)-1&&(v5.2.1 != 2||v5.2.2.1 != 0||v5.2.2.2)||decide (v4 < (a0.2.2.1.length:Int)-1)&&v5.2.1 != 1))]) (W29 v5 a0)) H fun H=>cD H (fun H=>?_) (fun H=>?_)
   ·refine qA (Z [p 2 (I 0),p 3 (B false)] (W29 v5 a0))<|vTT<|fR<|fDD<|t2<|t1<|fDD<|t0<|hr H
   refine vK<|fQ<|qA (Z (G27 (a0.2.2.1.length:Int) v3 v4 [p 82 (C v5.2.2.2)]) (W29 v5 a0))<|cD H (fun H=>?_) (fun H=>?_)
   ·refine zB (Z (G27 (a0.2.2.1.length:Int) (v3+1) v4 []) (W29 v5 a0)) H fun H=>fK<|n2 H
   exact vK<|fK<|n2 H
  refine qA (Z (G27 (a0.2.2.1.length:Int) v3 v4 [p 7 (R 7),p 8 (I 0)]) (W29 v5 a0))<|vB<|lX (fun(v6:Int)=>Z (G27 (a0.2.2.1.length:Int) v3 v4 [p 7 (R 7),p 8 (I v6)]) (W29 v5 a0)) 0 H fun _ g4 b4 e4 t4 v6 H=>vQ<|qA (Z (G27 (a0.2.2.1.length:Int) v3 v4 [p 7 (R 7),p 8 (I v6),p 30 (B (decide (v6<v4)))]) (W29 v5 a0))<|cD H (fun H=>?_) (fun H=>?_)
  ·refine vK<|fQ<|vQ<|vB<|qB (Z (G27 (a0.2.2.1.length:Int) v3 v4 [p 7 (R 7),p 8 (I v6),p 41 (B (decide ((a0.2.2.1.getD v6.toNat (dflt y217)).1=v5.1)))]) (W29 v5 a0)) H fun H=>cD H (fun H=>?_) (fun H=>?_)
   ·refine qA (Z [p 2 (I 0),p 3 (B false)] (W29 v5 a0))<|vTT<|fDD<|fR<|t4<|fDD<|t3<|fDD<|t2<|t1<|fDD<|t0<|hr H
   refine vK<|fK<|fQ<|zB (Z (G27 (a0.2.2.1.length:Int) v3 v4 [p 7 (R 7),p 8 (I (v6+1))]) (W29 v5 a0)) H fun H=>b4 H
  exact vE<|fE<|e4<|fX rfl<|n3 H
 exact vE<|fE<|e1<|fX rfl<|n0 H
def u186J4:Unit->Option (Bool)
 | _ =>
 some false
def u186J5(v0:Int×Bool)(a0:Y163):Unit->Option (Bool)
 | _ =>
 gd (((v0.1==(0:Int))=true/\True->in64 ((a0.2.2.1.length:Int)-(1:Int)))/\((v0.1==(0:Int))=true/\True->(0:Int)<=(a0.2.2.1.length:Int)-(1:Int)/\(a0.2.2.1.length:Int)-(1:Int)<=(18446744073709551615:Int))/\((v0.1==(0:Int))=true/\True->((0:Int)<=(a0.2.2.1.length:Int)-(1:Int)/\(a0.2.2.1.length:Int)-(1:Int)<=(62:Int))/\in64 ((1:Int)*(2:Int) ^ ((a0.2.2.1.length:Int)-(1:Int)).toNat))/\True) <|
 some (v0.1==(0:Int)&&(a0.2.2.2.2.1.length:Int)==(1:Int)*(2:den i64) ^ ((a0.2.2.1.length:Int)-(1:Int)).toNat)
def u186L6(a0:Y163)(v0:Int×Bool)(g6:Int->Option (Bool)):Int->Option (Bool)
 | v7 =>
 if(decide (v7 < (a0.2.2.2.2.1.length:Int)))=true then
  gd (ix v7 a0.2.2.2.2.1.length/\(u97 (a0.2.2.2.2.1.getD v7.toNat 0) 0 1).isSome=true/\True) <|
  if(!vl (u97 (a0.2.2.2.2.1.getD v7.toNat 0) 0 1))=true then
   some false
  else
   gd (in64 (v7+1)/\True) <|
   g6 (v7+1)
 else
  u186J5 v0 a0 ()
def u186J0(a0:Y163)(v0:Int×Bool):Unit->Option (Bool)
 | _ =>
 gd ((u220 a0).isSome=true/\True)<|lt (vl (u220 a0)) fun v6 =>
 if(a0.2.1==1)=true then
  lp (u186L6 a0 v0) 0
 else
  if(a0.2.1==2)=true then
   gd (((v0.1==(1:Int))=true/\True->ix (1:Int) v6.length)/\((v0.1==(1:Int))=true/\True->Int.toNat (1:Int)<v6.length)/\((v0.1==(1:Int)&&v6.getD (Int.toNat (1:Int)) (0:Int)==(0:Int))=true/\True->ix (2:Int) v6.length)/\((v0.1==(1:Int)&&v6.getD (Int.toNat (1:Int)) (0:Int)==(0:Int))=true/\True->Int.toNat (2:Int)<v6.length)/\((v0.1==(1:Int)&&v6.getD (Int.toNat (1:Int)) (0:Int)==(0:Int))=true/\True->ix (3:Int) v6.length)/\((v0.1==(1:Int)&&v6.getD (Int.toNat (1:Int)) (0:Int)==(0:Int))=true/\True->Int.toNat (3:Int)<v6.length)/\True) <|
   some (v0.1==(1:Int)&&v6.getD (Int.toNat (1:Int)) (0:Int)==(0:Int)&&!decide ((0:Int)<v6.getD (Int.toNat (2:Int)) (0:Int))==decide ((0:Int)<v6.getD (Int.toNat (3:Int)) (0:Int))&&(a0.2.2.2.2.1.length:Int)==(0:Int))
  else
   if(a0.2.1==3)=true then
    gd (((v0.1==(1:Int))=true/\True->ix (1:Int) v6.length)/\((v0.1==(1:Int))=true/\True->Int.toNat (1:Int)<v6.length)/\((v0.1==(1:Int)&&decide ((0:Int)<v6.getD (Int.toNat (1:Int)) (0:Int)))=true/\True->ix (2:Int) v6.length)/\((v0.1==(1:Int)&&decide ((0:Int)<v6.getD (Int.toNat (1:Int)) (0:Int)))=true/\True->Int.toNat (2:Int)<v6.length)/\((v0.1==(1:Int)&&decide ((0:Int)<v6.getD (Int.toNat (1:Int)) (0:Int))&&decide ((0:Int)<v6.getD (Int.toNat (2:Int)) (0:Int)))=true/\True->ix (3:Int) v6.length)/\((v0.1==(1:Int)&&decide ((0:Int)<v6.getD (Int.toNat (1:Int)) (0:Int))&&decide ((0:Int)<v6.getD (Int.toNat (2:Int)) (0:Int)))=true/\True->Int.toNat (3:Int)<v6.length)/\True) <|
    some (v0.1==(1:Int)&&decide ((0:Int)<v6.getD (Int.toNat (1:Int)) (0:Int))&&decide ((0:Int)<v6.getD (Int.toNat (2:Int)) (0:Int))&&v6.getD (Int.toNat (3:Int)) (0:Int)==(0:Int)&&(a0.2.2.2.2.1.length:Int)==(0:Int))
   else
    u186J4 ()
def u186J2(v3:Int)(g1:Int->Option (Bool)):Unit->Option (Bool)
 | _ =>
 gd (in64 (v3+1)/\True) <|
 g1 (v3+1)
def u186L3(a0:Y163)(v4:Y143)(v3:Int)(g1:Int->Option (Bool))(g3:Int->Option (Bool)):Int->Option (Bool)
 | v5 =>
 if(decide (v5<v3))=true then
  gd (ix v5 a0.2.2.2.1.length/\(((a0.2.2.2.1.getD v5.toNat (dflt y143)).1==v4.1)=true/\True->ix v5 a0.2.2.2.1.length)/\(((a0.2.2.2.1.getD v5.toNat (dflt y143)).1==v4.1&&(a0.2.2.2.1.getD v5.toNat (dflt y143)).2.1==v4.2.1)=true/\True->ix v5 a0.2.2.2.1.length)/\True) <|
  if((a0.2.2.2.1.getD v5.toNat (dflt y143)).1==v4.1&&(a0.2.2.2.1.getD v5.toNat (dflt y143)).2.1==v4.2.1&&(a0.2.2.2.1.getD v5.toNat (dflt y143)).2.2.1==v4.2.2.1)=true then
   some false
  else
   gd (in64 (v5+1)/\True) <|
   g3 (v5+1)
 else
  u186J2 v3 g1 ()
def u186L1(a0:Y163)(v0:Int×Bool)(g1:Int->Option (Bool)):Int->Option (Bool)
 | v3 =>
 if(decide (v3 < (a0.2.2.2.1.length:Int)))=true then
  gd (ix v3 a0.2.2.2.1.length/\True)<|lt (a0.2.2.2.1.getD v3.toNat (dflt y143)) fun v4 =>
  gd ((u219 a0 v4).isSome=true/\True) <|
  if(!vl (u219 a0 v4))=true then
   some false
  else
   lp (u186L3 a0 v4 v3 g1) 0
 else
  u186J0 a0 v0 ()
def u186(a0:Y163):Option (Bool) :=
 gd ((u218 a0).isSome=true/\True)<|lt (vl (u218 a0)) fun v0 =>
 gd (((!v0.2)=false/\True->(u151 a0.1).isSome=true)/\((!v0.2||!vl (u151 a0.1)||decide (8 < (a0.2.2.2.1.length:Int)))=false/\True->(u97 a0.2.2.2.2.2.1 0 100000).isSome=true)/\((!v0.2||!vl (u151 a0.1)||decide (8 < (a0.2.2.2.1.length:Int))||!vl (u97 a0.2.2.2.2.2.1 0 100000))=false/\True->(u97 a0.2.2.2.2.2.2 0 100000).isSome=true)/\True) <|
 if(!v0.2||!vl (u151 a0.1)||decide (8 < (a0.2.2.2.1.length:Int))||!vl (u97 a0.2.2.2.2.2.1 0 100000)||!vl (u97 a0.2.2.2.2.2.2 0 100000))=true then
  some false
 else
  lp (u186L1 a0 v0) 0
def k186:Ct:=lct 186 [.agg y163] (fun x=>u186 x.1) (fun r:Bool=>B r) (fun _=>())
theorem o186:Ok prog k186:=by
 refine okL [.tmp 2] func186 ntmps186 results186 ?_;intro y ⟨a0,_⟩ r H Q hn hr;have:HT _ _:=⟨tc o97 (tc o220 (tc o219 (tc o151 (tc o218 tn))))⟩;refine qA (Z [p 1 (R 1)] [(1,K 163 y163 a0)])<|qD (fun v0=>Z (G14 v0.1 [p 4 (B v0.2)]) [(1,K 163 y163 a0)]) H fun v0 H=>vQ<|qB (Z (G14 v0.1 [p 40 (B (!v0.2||!vl (u151 a0.1)||decide (8 < (a0.2.2.2.1.length:Int))||!vl (u97 a0.2.2.2.2.2.1 0 100000)||!vl (u97 a0.2.2.2.2.2.2 0 100000)))]) [(1,K 163 y163 a0)]) H fun H=>cD H (fun H=>?_) (fun H=>?_)
 ·refine qA (Z [p 2 (B false)] [(1,K 163 y163 a0)])<|vTT<|fR<|hr H
 refine vK<|fQ<|jN r (fun(_:Unit)=>Z (G14 v0.1 []) [(1,K 163 y163 a0)]) (u186J0 a0 v0) (fun _ H=>?_) (fun _ n0 e0 t0=>?_)
 ·refine qD (fun v6=>Z (G14 v0.1 [p 8 (O 94)]) (W59 v6 a0)) H fun v6 H=>jN r (fun(_:Unit)=>Z [] []) (u186J4) (fun _ H=>?_) (fun _ n4 e4 t4=>?_)
  ·refine qA (Z [p 2 (B false)] [])<|vTT<|hr H
  refine qA (Z (G14 v0.1 [p 8 (O 94),p 96 (J a0.2.1)]) (W59 v6 a0))<|vB<|qA (Z (G14 v0.1 [p 8 (O 94),p 96 (J a0.2.1),p 97 (B (a0.2.1==1))]) (W59 v6 a0))<|cD H (fun H=>?_) (fun H=>?_)
  ·refine jN r (fun(_:Unit)=>Z (G14 v0.1 []) [(1,K 163 y163 a0)]) (u186J5 v0 a0) (fun _ H=>?_) (fun _ n5 e5 t5=>?_)
   ·refine qB (Z [p 2 (B (v0.1==(0:Int)&&(a0.2.2.2.2.1.length:Int)==(1:Int)*(2:den i64) ^ ((a0.2.2.1.length:Int)-(1:Int)).toNat))] [(1,K 163 y163 a0)]) H fun H=>vTT<|fDD<|t4<|hr H
   refine qA (Z (G14 v0.1 [p 9 (I 0)]) (W59 v6 a0))<|vB<|lX (fun(v7:Int)=>Z (G14 v0.1 [p 9 (I v7)]) [(1,K 163 y163 a0)]) 0 H fun _ g6 b6 e6 t6 v7 H=>vQ<|qA (Z (G14 v0.1 [p 9 (I v7),p 103 (B (decide (v7 < (a0.2.2.2.2.1.length:Int))))]) [(1,K 163 y163 a0)])<|cD H (fun H=>?_) (fun H=>?_)
   ·refine vK<|fQ<|vQ<|vB<|qB (Z (G14 v0.1 [p 9 (I v7),p 112 (B !vl (u97 (a0.2.2.2.2.1.getD v7.toNat 0) 0 1))]) [(1,K 163 y163 a0)]) H fun H=>cD H (fun H=>?_) (fun H=>?_)
    ·refine qA (Z [p 2 (B false)] [(1,K 163 y163 a0)])<|vTT<|fDD<|fR<|t6<|fDD<|t5<|fDD<|t4<|hr H
    refine vK<|fK<|fQ<|zB (Z (G14 v0.1 [p 9 (I (v7+1))]) [(1,K 163 y163 a0)]) H fun H=>b6 H
   exact vE<|fE<|e6<|fX rfl<|n5 H
  refine qA (Z (G14 v0.1 [p 8 (O 94),p 96 (J a0.2.1),p 127 (B (a0.2.1==2))]) (W59 v6 a0))<|cD H (fun H=>?_) (fun H=>?_)
  ·refine qB (Z [p 2 (B (v0.1==(1:Int)&&v6.getD (Int.toNat (1:Int)) (0:Int)==(0:Int)&&!decide ((0:Int)<v6.getD (Int.toNat (2:Int)) (0:Int))==decide ((0:Int)<v6.getD (Int.toNat (3:Int)) (0:Int))&&(a0.2.2.2.2.1.length:Int)==(0:Int)))] (W59 v6 a0)) H fun H=>vTT<|fDD<|t4<|hr H
  refine qA (Z (G14 v0.1 [p 8 (O 94),p 154 (B (a0.2.1==3))]) (W59 v6 a0))<|cD H (fun H=>?_) (fun H=>?_)
  ·refine qB (Z [p 2 (B (v0.1==(1:Int)&&decide ((0:Int)<v6.getD (Int.toNat (1:Int)) (0:Int))&&decide ((0:Int)<v6.getD (Int.toNat (2:Int)) (0:Int))&&v6.getD (Int.toNat (3:Int)) (0:Int)==(0:Int)&&(a0.2.2.2.2.1.length:Int)==(0:Int)))] (W59 v6 a0)) H fun H=>vTT<|fDD<|t4<|hr H
  exact vK<|fK<|n4 H
 refine qA (Z (G14 v0.1 [p 5 (I 0)]) [(1,K 163 y163 a0)])<|vB<|lX (fun(v3:Int)=>Z (G14 v0.1 [p 5 (I v3)]) [(1,K 163 y163 a0)]) 0 H fun _ g1 b1 e1 t1 v3 H=>vQ<|qA (Z (G14 v0.1 [p 5 (I v3),p 45 (B (decide (v3 < (a0.2.2.2.1.length:Int))))]) [(1,K 163 y163 a0)])<|cD H (fun H=>?_) (fun H=>?_)
 ·refine vK<|fQ<|jN r (fun(_:Unit)=>Z (G14 v0.1 [p 5 (I v3)]) [(1,K 163 y163 a0)]) (u186J2 v3 g1) (fun _ H=>?_) (fun _ n2 e2 t2=>?_)
  ·refine zB (Z (G14 v0.1 [p 5 (I (v3+1))]) [(1,K 163 y163 a0)]) H fun H=>b1 H
  refine vB<|qD (fun v4=>Z (G14 v0.1 [p 5 (I v3),p 6 (R 6)]) (W51 v4 a0)) H fun v4 H=>vQ<|qB (Z (G14 v0.1 [p 5 (I v3),p 6 (R 6),p 56 (B !vl (u219 a0 v4))]) (W51 v4 a0)) H fun H=>cD H (fun H=>?_) (fun H=>?_)
  ·refine qA (Z [p 2 (B false)] (W51 v4 a0))<|vTT<|fR<|fDD<|t2<|t1<|fDD<|t0<|hr H
  refine vK<|fQ<|qA (Z (G14 v0.1 [p 5 (I v3),p 6 (R 6),p 7 (I 0)]) (W51 v4 a0))<|vB<|lX (fun(v5:Int)=>Z (G14 v0.1 [p 5 (I v3),p 6 (R 6),p 7 (I v5)]) (W51 v4 a0)) 0 H fun _ g3 b3 e3 t3 v5 H=>vQ<|qA (Z (G14 v0.1 [p 5 (I v3),p 6 (R 6),p 7 (I v5),p 59 (B (decide (v5<v3)))]) (W51 v4 a0))<|cD H (fun H=>?_) (fun H=>?_)
  ·refine vK<|fQ<|vQ<|vB<|qB (Z (G14 v0.1 [p 5 (I v3),p 6 (R 6),p 7 (I v5),p 92 (B ((a0.2.2.2.1.getD v5.toNat (dflt y143)).1==v4.1&&(a0.2.2.2.1.getD v5.toNat (dflt y143)).2.1==v4.2.1&&(a0.2.2.2.1.getD v5.toNat (dflt y143)).2.2.1==v4.2.2.1))]) (W51 v4 a0)) H fun H=>cD H (fun H=>?_) (fun H=>?_)
   ·refine qA (Z [p 2 (B false)] (W51 v4 a0))<|vTT<|fDD<|fR<|t3<|fDD<|fDD<|t2<|t1<|fDD<|t0<|hr H
   refine vK<|fK<|fQ<|zB (Z (G14 v0.1 [p 5 (I v3),p 6 (R 6),p 7 (I (v5+1))]) (W51 v4 a0)) H fun H=>b3 H
  exact vE<|fE<|e3<|fX rfl<|fK<|n2 H
 exact vE<|fE<|e1<|fX rfl<|n0 H
def u132J0(a0:List Y163):Unit->Option (Bool)
 | _ =>
 some (decide ((a0.length:Int)<=8))
def u132J2(v1:Int)(g1:Int->Option (Bool)):Unit->Option (Bool)
 | _ =>
 gd (in64 (v1+1)/\True) <|
 g1 (v1+1)
def u132L3(a0:List Y163)(v1:Int)(g1:Int->Option (Bool))(g3:Int->Option (Bool)):Int->Option (Bool)
 | v2 =>
 if(decide (v2<v1))=true then
  gd (ix v2 a0.length/\ix v1 a0.length/\True) <|
  if(decide ((a0.getD v2.toNat (dflt y163)).1=(a0.getD v1.toNat (dflt y163)).1))=true then
   some false
  else
   gd (in64 (v2+1)/\True) <|
   g3 (v2+1)
 else
  u132J2 v1 g1 ()
def u132L1(a0:List Y163)(g1:Int->Option (Bool)):Int->Option (Bool)
 | v1 =>
 if(decide (v1 < (a0.length:Int)))=true then
  gd (ix v1 a0.length/\(u186 (a0.getD v1.toNat (dflt y163))).isSome=true/\True) <|
  if(!vl (u186 (a0.getD v1.toNat (dflt y163))))=true then
   some false
  else
   lp (u132L3 a0 v1 g1) 0
 else
  u132J0 a0 ()
def u132(a0:List Y163):Option (Bool) :=
 lp (u132L1 a0) 0
def k132:Ct:=lct 132 [.agg y163.sl] (fun x=>u132 x.1) (fun r:Bool=>B r) (fun _=>())
theorem o132:Ok prog k132:=by
 refine okL [.tmp 2] func132 ntmps132 results132 ?_;intro y ⟨a0,_⟩ r H Q hn hr;have:HT _ _:=⟨tc o186 tn⟩;refine qA (Z [p 1 (R 1)] [(1,bx 26 [L y163 a0])])<|jN r (fun(_:Unit)=>Z [p 1 (R 1)] [(1,bx 26 [L y163 a0])]) (u132J0 a0) (fun _ H=>?_) (fun _ n0 e0 t0=>?_)
 ·refine qA (Z [p 2 (B (decide ((a0.length:Int)<=8)))] [(1,bx 26 [L y163 a0])])<|vTT<|hr H
 refine qA (Z [p 1 (R 1),p 3 (I 0)] [(1,bx 26 [L y163 a0])])<|vB<|lX (fun(v1:Int)=>Z (G14 v1 []) [(1,bx 26 [L y163 a0])]) 0 H fun _ g1 b1 e1 t1 v1 H=>vQ<|qA (Z (G14 v1 [p 9 (B (decide (v1 < (a0.length:Int))))]) [(1,bx 26 [L y163 a0])])<|cD H (fun H=>?_) (fun H=>?_)
 ·refine vK<|fQ<|jN r (fun(_:Unit)=>Z (G14 v1 []) [(1,bx 26 [L y163 a0])]) (u132J2 v1 g1) (fun _ H=>?_) (fun _ n2 e2 t2=>?_)
  ·refine zB (Z (G14 (v1+1) []) [(1,bx 26 [L y163 a0])]) H fun H=>b1 H
  refine vB<|vQ<|qB (Z (G14 v1 [p 18 (B !vl (u186 (a0.getD v1.toNat (dflt y163))))]) [(1,bx 26 [L y163 a0])]) H fun H=>cD H (fun H=>?_) (fun H=>?_)
  ·refine qA (Z [p 2 (B false)] [(1,bx 26 [L y163 a0])])<|vTT<|fR<|fDD<|t2<|t1<|fDD<|t0<|hr H
  refine vK<|fQ<|qA (Z (G14 v1 [p 4 (I 0)]) [(1,bx 26 [L y163 a0])])<|vB<|lX (fun(v2:Int)=>Z (G14 v1 [p 4 (I v2)]) [(1,bx 26 [L y163 a0])]) 0 H fun _ g3 b3 e3 t3 v2 H=>vQ<|qA (Z (G14 v1 [p 4 (I v2),p 21 (B (decide (v2<v1)))]) [(1,bx 26 [L y163 a0])])<|cD H (fun H=>?_) (fun H=>?_)
  ·refine vK<|fQ<|vQ<|vB<|qB (Z (G14 v1 [p 4 (I v2),p 36 (B (decide ((a0.getD v2.toNat (dflt y163)).1=(a0.getD v1.toNat (dflt y163)).1)))]) [(1,bx 26 [L y163 a0])]) H fun H=>cD H (fun H=>?_) (fun H=>?_)
   ·refine qA (Z [p 2 (B false)] [(1,bx 26 [L y163 a0])])<|vTT<|fDD<|fR<|t3<|fDD<|fDD<|t2<|t1<|fDD<|t0<|hr H
   refine vK<|fK<|fQ<|zB (Z (G14 v1 [p 4 (I (v2+1))]) [(1,bx 26 [L y163 a0])]) H fun H=>b3 H
  exact vE<|fE<|e3<|fX rfl<|fK<|n2 H
 exact vE<|fE<|e1<|fX rfl<|n0 H
def u69J9:Unit->Option (Bool)
 | _ =>
 some true
def u69L10(v20:List Int)(g10:Int->Option (Bool)):Int->Option (Bool)
 | v21 =>
 if(decide (v21 < (v20.length:Int)))=true then
  gd (ix v21 v20.length/\v21.toNat<v20.length/\True) <|
  if(v20.getD v21.toNat 0 != 1)=true then
   some false
  else
   gd (in64 (v21+1)/\True) <|
   g10 (v21+1)
 else
  u69J9 ()
def u69J6:List Int->Option (Bool)
 | v20 =>
 lp (u69L10 v20) 0
def u69J8(v16:Int)(g7:Int×List Int->Option (Bool)):List Int->Option (Bool)
 | v19 =>
 gd (in64 (v16+1)/\True) <|
 g7 (v16+1,v19)
def u69L7(a1:Y31)(g7:Int×List Int->Option (Bool)):Int×List Int->Option (Bool)
 | (v16,v17) =>
 if(decide (v16 < (a1.2.2.length:Int)))=true then
  gd (ix v16 a1.2.2.length/\True) <|
  if((a1.2.2.getD v16.toNat (dflt y175)).2.1==1)=true then
   gd (ix v16 a1.2.2.length/\ix (a1.2.2.getD v16.toNat (dflt y175)).2.2 v17.length/\(a1.2.2.getD v16.toNat (dflt y175)).2.2.toNat<v17.length/\in64 (v17.getD (a1.2.2.getD v16.toNat (dflt y175)).2.2.toNat 0+1)/\ix (a1.2.2.getD v16.toNat (dflt y175)).2.2 v17.length/\(a1.2.2.getD v16.toNat (dflt y175)).2.2.toNat<v17.length/\True)<|lt (v17.set (a1.2.2.getD v16.toNat (dflt y175)).2.2.toNat (v17.getD (a1.2.2.getD v16.toNat (dflt y175)).2.2.toNat 0+1)) fun v18 =>
   u69J8 v16 g7 v18
  else
   u69J8 v16 g7 v17
 else
  u69J6 v17
def u69J4(a1:Y31):List Int->Option (Bool)
 | v13 =>
 lp (u69L7 a1) (0,v13)
def u69L5(a1:Y31)(g5:Int×List Int->Option (Bool)):Int×List Int->Option (Bool)
 | (v9,v10) =>
 if(decide (v9 < (a1.1.length:Int)))=true then
  gd (ix v9 a1.1.length/\True)<|lt (a1.1.getD v9.toNat (dflt y165)) fun v11 =>
  gd (in64 ((v11.2.2.length:Int)-1)/\ix ((v11.2.2.length:Int)-1) v11.2.2.length/\ix (v11.2.2.getD ((v11.2.2.length:Int)-1).toNat 0) v10.length/\Int.toNat (v11.2.2.getD ((v11.2.2.length:Int)-1).toNat 0)<v10.length/\in64 (v10.getD (Int.toNat (v11.2.2.getD ((v11.2.2.length:Int)-1).toNat 0)) 0+1)/\ix (v11.2.2.getD ((v11.2.2.length:Int)-1).toNat 0) v10.length/\Int.toNat (v11.2.2.getD ((v11.2.2.length:Int)-1).toNat 0)<v10.length/\True)<|lt (v10.set (Int.toNat (v11.2.2.getD ((v11.2.2.length:Int)-1).toNat 0)) (v10.getD (Int.toNat (v11.2.2.getD ((v11.2.2.length:Int)-1).toNat 0)) 0+1)) fun v12 =>
  gd (in64 (v9+1)/\True) <|
  g5 (v9+1,v12)
 else
  u69J4 a1 v10
def u69J2(a1:Y31)(v2:List ByteArray):List ByteArray->Option (Bool)
 | v6 =>
 gd ((u134 v2).isSome=true/\((!vl (u134 v2))=false/\True->(u134 v6).isSome=true)/\((!vl (u134 v2)||!vl (u134 v6))=false/\True->(u134 a1.2.1).isSome=true)/\True) <|
 if(!vl (u134 v2)||!vl (u134 v6)||!vl (u134 a1.2.1))=true then
  some false
 else
  gd ((0<=(a1.2.1.length:Int)/\(a1.2.1.length:Int)=(a1.2.1.length:Int)/\(a1.2.1.length:Int).toNat*8<=281474976710656/\(a1.2.1.length:Int)<=9223372036854775807)/\True) <|
  lp (u69L5 a1) ((0,List.replicate (a1.2.1.length:Int).toNat 0))
def u69L3(a1:Y31)(v2:List ByteArray)(g3:Int×List ByteArray->Option (Bool)):Int×List ByteArray->Option (Bool)
 | (v4,v5) =>
 if(decide (v4 < (a1.2.2.length:Int)))=true then
  gd (ix v4 a1.2.2.length/\(v5.length+[(a1.2.2.getD v4.toNat (dflt y175)).1].length<=9223372036854775807/\(v5.length+[(a1.2.2.getD v4.toNat (dflt y175)).1].length)*16<=140737488355328)/\True) <|
  gd (in64 (v4+1)/\True) <|
  g3 ((v4+1,v5++[(a1.2.2.getD v4.toNat (dflt y175)).1]))
 else
  u69J2 a1 v2 v5
def u69J0(a1:Y31):List ByteArray->Option (Bool)
 | v2 =>
 lp (u69L3 a1 v2) (0,[])
def u69L1(a1:Y31)(g1:Int×List ByteArray->Option (Bool)):Int×List ByteArray->Option (Bool)
 | (v0,v1) =>
 if(decide (v0 < (a1.1.length:Int)))=true then
  gd (ix v0 a1.1.length/\(v1.length+[(a1.1.getD v0.toNat (dflt y165)).1].length<=9223372036854775807/\(v1.length+[(a1.1.getD v0.toNat (dflt y165)).1].length)*16<=140737488355328)/\True) <|
  gd (in64 (v0+1)/\True) <|
  g1 ((v0+1,v1++[(a1.1.getD v0.toNat (dflt y165)).1]))
 else
  u69J0 a1 v1
def u69(a0:List Y163)(a1:Y31):Option (Bool) :=
 gd ((u132 a0).isSome=true/\((!vl (u132 a0)||decide (14 < (a1.1.length:Int))||decide (30 < (a1.2.1.length:Int))||decide (8 < (a1.2.2.length:Int)))=false/\True->(u133 a0 a1).isSome=true)/\True) <|
 if(!vl (u132 a0)||decide (14 < (a1.1.length:Int))||decide (30 < (a1.2.1.length:Int))||decide (8 < (a1.2.2.length:Int))||!vl (u133 a0 a1))=true then
  some false
 else
  lp (u69L1 a1) (0,[])
def k69:Ct:=lct 69 [.agg y163.sl,.agg y31] (fun x=>u69 x.1 x.2.1) (fun r:Bool=>B r) (fun _=>())
theorem o69:Ok prog k69:=by
 refine okL [.tmp 4] func69 ntmps69 results69 ?_;intro y ⟨a0,a1,_⟩ r H Q hn hr;have:HT _ _:=⟨tc o134 (tc o133 (tc o132 tn))⟩;refine qA (Z (G10 []) (W6 a1 a0))<|vQ<|qB (Z [p 3 (R 3),p 40 (B (!vl (u132 a0)||decide (14 < (a1.1.length:Int))||decide (30 < (a1.2.1.length:Int))||decide (8 < (a1.2.2.length:Int))||!vl (u133 a0 a1)))] (W6 a1 a0)) H fun H=>cD H (fun H=>?_) (fun H=>?_)
 ·refine qA (Z [p 4 (B false)] (W6 a1 a0))<|vTT<|fR<|hr H
 refine vK<|fQ<|qA (Z (G57 []) ((41,A 9 Ty.str [] 0)::W6 a1 a0))<|jN r (fun(v2:List ByteArray)=>Z (G57 []) (W32 v2 a1)) (u69J0 a1) (fun v2 H=>?_) (fun _ n0 e0 t0=>?_)
 ·refine qA (Z (G57 [p 7 (O 58)]) ((58,A 9 Ty.str [] 0)::W32 v2 a1))<|jN r (fun(v6:List ByteArray)=>Z (G57 [p 7 (O 58)]) ((58,A 9 Ty.str v6 0)::W32 v2 a1)) (u69J2 a1 v2) (fun v6 H=>?_) (fun _ n2 e2 t2=>?_)
  ·refine vQ<|qB (Z [p 3 (R 3),p 88 (B (!vl (u134 v2)||!vl (u134 v6)||!vl (u134 a1.2.1)))] ((58,A 9 Ty.str v6 0)::W32 v2 a1)) H fun H=>cD H (fun H=>?_) (fun H=>?_)
   ·refine qA (Z [p 4 (B false)] ((58,A 9 Ty.str v6 0)::W32 v2 a1))<|vTT<|fR<|hr H
   refine vK<|fQ<|qB (Z (G47 []) ((92,A 2 i64 (List.replicate (a1.2.1.length:Int).toNat 0) 0)::(58,A 9 Ty.str v6 0)::W32 v2 a1)) H fun H=>jN r (fun(v13:List Int)=>Z (G47 []) (W36 v13 a1)) (u69J4 a1) (fun v13 H=>?_) (fun _ n4 e4 t4=>?_)
   ·refine jN r (fun(v20:List Int)=>Z [p 9 (O 92)] [(92,A 2 i64 v20 0)]) (u69J6) (fun v20 H=>?_) (fun _ n6 e6 t6=>?_)
    ·refine jN r (fun(_:Unit)=>Z [] []) (u69J9) (fun _ H=>?_) (fun _ n9 e9 t9=>?_)
     ·refine qA (Z [p 4 (B true)] [])<|vTT<|hr H
     refine qA (Z [p 9 (O 92),p 13 (I 0)] [(92,A 2 i64 v20 0)])<|vB<|lX (fun(v21:Int)=>Z [p 9 (O 92),p 13 (I v21)] [(92,A 2 i64 v20 0)]) 0 H fun _ g10 b10 e10 t10 v21 H=>vQ<|qA (Z [p 9 (O 92),p 13 (I v21),p 145 (B (decide (v21 < (v20.length:Int))))] [(92,A 2 i64 v20 0)])<|cD H (fun H=>?_) (fun H=>?_)
     ·refine vK<|fQ<|vQ<|vB<|qB (Z [p 9 (O 92),p 13 (I v21),p 152 (B (v20.getD v21.toNat 0 != 1))] [(92,A 2 i64 v20 0)]) H fun H=>cD H (fun H=>?_) (fun H=>?_)
      ·refine qA (Z [p 4 (B false)] [(92,A 2 i64 v20 0)])<|vTT<|fDD<|fR<|t10<|fDD<|t9<|hr H
      refine vK<|fK<|fQ<|zB (Z [p 9 (O 92),p 13 (I (v21+1))] [(92,A 2 i64 v20 0)]) H fun H=>b10 H
     exact vE<|fE<|e10<|fX rfl<|n9 H
    refine qA (Z (G47 [p 12 (I 0)]) (W36 v13 a1))<|vB<|lX (fun((v16,v17):Int×List Int)=>Z (G47 [p 12 (I v16)]) (W36 v17 a1)) (0,v13) H fun _ g7 b7 e7 t7 ⟨v16,v17⟩ H=>vQ<|qA (Z (G47 [p 12 (I v16),p 121 (B (decide (v16 < (a1.2.2.length:Int))))]) (W36 v17 a1))<|cD H (fun H=>?_) (fun H=>?_)
    ·refine vK<|fQ<|jN r (fun(v19:List Int)=>Z (G47 [p 12 (I v16)]) (W36 v19 a1)) (u69J8 v16 g7) (fun v19 H=>?_) (fun _ n8 e8 t8=>?_)
     ·refine zB (Z (G47 [p 12 (I (v16+1))]) (W36 v19 a1)) H fun H=>b7 H
     refine vB<|qB (Z (G47 [p 12 (I v16),p 130 (B ((a1.2.2.getD v16.toNat (dflt y175)).2.1==1))]) (W36 v17 a1)) H fun H=>cD H (fun H=>?_) (fun H=>?_)
     ·refine zD (fun v18=>Z (G47 [p 12 (I v16)]) (W36 v18 a1)) H fun v18 H=>fK<|n8 H
     exact vK<|fK<|n8 H
    exact vE<|fE<|e7<|fX rfl<|n6 H
   refine qA (Z (G47 [p 10 (I 0)]) ((92,A 2 i64 (List.replicate (a1.2.1.length:Int).toNat 0) 0)::(58,A 9 Ty.str v6 0)::W32 v2 a1))<|vB<|lX (fun((v9,v10):Int×List Int)=>Z (G47 [p 10 (I v9)]) (W36 v10 a1)) ((0,List.replicate (a1.2.1.length:Int).toNat 0)) H fun _ g5 b5 e5 t5 ⟨v9,v10⟩ H=>vQ<|qA (Z (G47 [p 10 (I v9),p 97 (B (decide (v9 < (a1.1.length:Int))))]) (W36 v10 a1))<|cD H (fun H=>?_) (fun H=>?_)
   ·refine vK<|fQ<|vQ<|vB<|qD (fun v11=>Z (G47 [p 10 (I v9),p 11 (L i64 v11.2.2)]) (W36 v10 a1)) H fun v11 H=>zD (fun v12=>Z (G47 [p 10 (I v9)]) (W36 v12 a1)) H fun v12 H=>fK<|fQ<|zB (Z (G47 [p 10 (I (v9+1))]) (W36 v12 a1)) H fun H=>b5 H
   exact vE<|fE<|e5<|fX rfl<|n4 H
  refine qA (Z (G57 [p 7 (O 58),p 8 (I 0)]) ((58,A 9 Ty.str [] 0)::W32 v2 a1))<|vB<|lX (fun((v4,v5):Int×List ByteArray)=>Z (G57 [p 7 (O 58),p 8 (I v4)]) ((58,A 9 Ty.str v5 0)::W32 v2 a1)) (0,[]) H fun _ g3 b3 e3 t3 ⟨v4,v5⟩ H=>vQ<|qA (Z (G57 [p 7 (O 58),p 8 (I v4),p 63 (B (decide (v4 < (a1.2.2.length:Int))))]) ((58,A 9 Ty.str v5 0)::W32 v2 a1))<|cD H (fun H=>?_) (fun H=>?_)
  ·refine vK<|fQ<|vQ<|vB<|zB (Z (G57 [p 7 (AV.os 58 1),p 8 (I v4)]) ((58,A 9 Ty.str (v5++[(a1.2.2.getD v4.toNat (dflt y175)).1]) 1)::(73,A 9 Ty.str [(a1.2.2.getD v4.toNat (dflt y175)).1] 0)::W32 v2 a1)) H fun H=>fK<|fQ<|zB (Z (G57 [p 7 (AV.os 58 1),p 8 (I (v4+1))]) ((58,A 9 Ty.str (v5++[(a1.2.2.getD v4.toNat (dflt y175)).1]) 1)::(73,A 9 Ty.str [(a1.2.2.getD v4.toNat (dflt y175)).1] 0)::W32 v2 a1)) H fun H=>b3 H
  exact vE<|fE<|e3<|fX rfl<|n2 H
 refine qA (Z (G57 [p 6 (I 0)]) ((41,A 9 Ty.str [] 0)::W6 a1 a0))<|vB<|lX (fun((v0,v1):Int×List ByteArray)=>Z (G57 [p 6 (I v0)]) (W32 v1 a1)) (0,[]) H fun _ g1 b1 e1 t1 ⟨v0,v1⟩ H=>vQ<|qA (Z (G57 [p 6 (I v0),p 46 (B (decide (v0 < (a1.1.length:Int))))]) (W32 v1 a1))<|cD H (fun H=>?_) (fun H=>?_)
 ·refine vK<|fQ<|vQ<|vB<|zB (Z [p 3 (R 3),p 5 (AV.os 41 1),p 6 (I v0)] [(41,A 9 Ty.str (v1++[(a1.1.getD v0.toNat (dflt y165)).1]) 1),(56,A 9 Ty.str [(a1.1.getD v0.toNat (dflt y165)).1] 0),(3,K 31 y31 a1)]) H fun H=>fK<|fQ<|zB (Z [p 3 (R 3),p 5 (AV.os 41 1),p 6 (I (v0+1))] [(41,A 9 Ty.str (v1++[(a1.1.getD v0.toNat (dflt y165)).1]) 1),(56,A 9 Ty.str [(a1.1.getD v0.toNat (dflt y165)).1] 0),(3,K 31 y31 a1)]) H fun H=>b1 H
 exact vE<|fE<|e1<|fX rfl<|n0 H
def u23J0:Unit->Option (Bool)
 | _ =>
 some true
def u23L1(a0:Y34)(g1:Int->Option (Bool)):Int->Option (Bool)
 | v1 =>
 if(decide (v1 < (a0.2.2.length:Int)))=true then
  gd (ix v1 a0.2.2.length/\(u71 a0.2.1 v1).isSome=true/\(u70 (a0.2.2.getD v1.toNat (dflt y110)) (↑(vl (u71 a0.2.1 v1)).length:Int)).isSome=true/\True)<|lt (vl (u71 a0.2.1 v1)) fun v2 =>
  if(!vl (u70 (a0.2.2.getD v1.toNat (dflt y110)) (v2.length:Int)))=true then
   some false
  else
   gd (in64 (v1+1)/\True) <|
   g1 (v1+1)
 else
  u23J0 ()
def u23(a0:Y34):Option (Bool) :=
 gd ((u69 a0.1 a0.2.1).isSome=true/\True) <|
 if(!vl (u69 a0.1 a0.2.1)||(a0.2.2.length:Int) != (a0.2.1.2.1.length:Int))=true then
  some false
 else
  lp (u23L1 a0) 0
def k23:Ct:=lct 23 [.agg y34] (fun x=>u23 x.1) (fun r:Bool=>B r) (fun _=>())
theorem o23:Ok prog k23:=by
 refine okL [.tmp 2] func23 ntmps23 results23 ?_;intro y ⟨a0,_⟩ r H Q hn hr;have:HT _ _:=⟨tc o70 (tc o71 (tc o69 tn))⟩;refine qA (Z [p 1 (R 1)] [(1,K 34 y34 a0)])<|vQ<|qB (Z [p 1 (R 1),p 19 (B (!vl (u69 a0.1 a0.2.1)||(a0.2.2.length:Int) != (a0.2.1.2.1.length:Int)))] [(1,K 34 y34 a0)]) H fun H=>cD H (fun H=>?_) (fun H=>?_)
 ·refine qA (Z [p 2 (B false)] [(1,K 34 y34 a0)])<|vTT<|fR<|hr H
 refine vK<|fQ<|jN r (fun(_:Unit)=>Z [] []) (u23J0) (fun _ H=>?_) (fun _ n0 e0 t0=>?_)
 ·refine qA (Z [p 2 (B true)] [])<|vTT<|hr H
 refine qA (Z [p 1 (R 1),p 3 (I 0)] [(1,K 34 y34 a0)])<|vB<|lX (fun(v1:Int)=>Z (G14 v1 []) [(1,K 34 y34 a0)]) 0 H fun _ g1 b1 e1 t1 v1 H=>vQ<|qA (Z (G14 v1 [p 24 (B (decide (v1 < (a0.2.2.length:Int))))]) [(1,K 34 y34 a0)])<|cD H (fun H=>?_) (fun H=>?_)
 ·refine vK<|fQ<|vQ<|vB<|qD (fun v2=>Z (G14 v1 [p 38 (B !vl (u70 (a0.2.2.getD v1.toNat (dflt y110)) (v2.length:Int)))]) [(35,A 2 i64 v2 0),(1,K 34 y34 a0)]) H fun v2 H=>cD H (fun H=>?_) (fun H=>?_)
  ·refine qA (Z [p 2 (B false)] [(35,A 2 i64 v2 0),(1,K 34 y34 a0)])<|vTT<|fDD<|fR<|t1<|fDD<|t0<|hr H
  refine vK<|fK<|fQ<|zB (Z (G14 (v1+1) []) [(35,A 2 i64 v2 0),(1,K 34 y34 a0)]) H fun H=>b1 H
 exact vE<|fE<|e1<|fX rfl<|n0 H
def u58(a0:Y34)(a1:List Int):Option (Int) :=
 gd ((u23 a0).isSome=true/\True) <|
 if(!vl (u23 a0))=true then
  some 1
 else
  gd ((u59 a0).isSome=true/\(u119 a1 (↑(vl (u59 a0)).length:Int)).isSome=true/\True)<|lt (vl (u59 a0)) fun v0 =>
  if(!vl (u119 a1 (v0.length:Int)))=true then
   some 2
  else
   some 0
def k58:Ct:=lct 58 [.agg y34,.dat i64.sl] (fun x=>u58 x.1 x.2.1) (fun r:Int=>I r) (fun _=>())
theorem o58:Ok prog k58:=by
 refine okL [.tmp 4] func58 ntmps58 results58 ?_;intro y ⟨a0,a1,_⟩ r H Q hn hr;have:HT _ _:=⟨tc o119 (tc o59 (tc o23 tn))⟩;refine qA (Z [p 1 (L i64 a1),p 2 (R 2)] [(2,K 34 y34 a0)])<|vQ<|qB (Z [p 1 (L i64 a1),p 2 (R 2),p 7 (B !vl (u23 a0))] [(2,K 34 y34 a0)]) H fun H=>cD H (fun H=>?_) (fun H=>?_)
 ·refine qA (Z [p 4 (I 1)] [(2,K 34 y34 a0)])<|vTT<|fR<|hr H
 refine vK<|fQ<|vQ<|qD (fun v0=>Z [p 13 (B !vl (u119 a1 (v0.length:Int)))] [(10,A 48 y48 v0 0),(2,K 34 y34 a0)]) H fun v0 H=>cD H (fun H=>?_) (fun H=>?_)
 ·refine qA (Z [p 4 (I 2)] [(10,A 48 y48 v0 0),(2,K 34 y34 a0)])<|vTT<|fR<|hr H
 refine vK<|fQ<|qA (Z [p 4 (I 0)] [(10,A 48 y48 v0 0),(2,K 34 y34 a0)])<|vTT<|hr H
def u15(a0:Y34)(a1:List Int):Option (List Int×Int) :=
 gd ((u58 a0 a1).isSome=true/\True)<|lt (vl (u58 a0 a1)) fun v0 =>
 if(v0 != 0)=true then
  some ([],v0)
 else
  gd ((u59 a0).isSome=true/\True)<|lt (vl (u59 a0)) fun v1 =>
  gd ((u61 a0).isSome=true/\(u62 v1 a1).isSome=true/\(u60 (vl (u61 a0)) v1 (vl (u62 v1 a1))).isSome=true/\True)<|lt ((vl (u60 (vl (u61 a0)) v1 (vl (u62 v1 a1))),vl (u62 v1 a1))) fun(v2,_v3) =>
  if(!v2.2)=true then
   some (([],(7:Int)))
  else
   some ((v2.1,(0:Int)))
def k15:Ct:=lct 15 [.agg y34,.dat i64.sl] (fun x=>u15 x.1 x.2.1) (fun r:List Int×Int=>AV.tup [AV.ow 2 true i64 r.1,I r.2]) (fun _=>())
theorem o15:Ok prog k15:=by
 refine okL [.tmp 4,.tmp 5] func15 ntmps15 results15 ?_;intro y ⟨a0,a1,_⟩ r H Q hn hr;have:HT _ _:=⟨tc o60 (tc o62 (tc o61 (tc o59 (tc o58 tn))))⟩;refine qA (Z [p 1 (L i64 a1),p 2 (R 2)] [(2,K 34 y34 a0)])<|vQ<|qD (fun v0=>Z [p 1 (L i64 a1),p 2 (R 2),p 6 (I v0)] [(2,K 34 y34 a0)]) H fun v0 H=>qA (Z [p 1 (L i64 a1),p 2 (R 2),p 6 (I v0),p 14 (B (v0 != 0))] [(2,K 34 y34 a0)])<|cD H (fun H=>?_) (fun H=>?_)
 ·refine qA (Z [p 4 (O 15),p 5 (I v0)] [(15,A 2 i64 [] 0),(2,K 34 y34 a0)])<|vTT<|fR<|hr H
 refine vK<|fQ<|qD (fun v1=>Z [p 1 (L i64 a1),p 2 (R 2),p 7 (O 18)] [(18,A 48 y48 v1 0),(2,K 34 y34 a0)]) H fun v1 H=>qD (fun(v2,v3)=>Z [p 8 (O 26),p 9 (B v2.2)] [(26,A 2 i64 v2.1 0),(25,A 4 Ty.bool v3 0),(18,A 48 y48 v1 0),(2,K 34 y34 a0)]) H fun⟨v2,v3⟩ H =>
  vQ <|
  qA (Z [p 8 (O 26),p 30 (B !v2.2)] [(26,A 2 i64 v2.1 0),(25,A 4 Ty.bool v3 0),(18,A 48 y48 v1 0),(2,K 34 y34 a0)]) <|
  cD H (fun H=>?_) (fun H=>?_)
 ·refine qA (Z [p 4 (O 31),p 5 (I 7)] [(31,A 2 i64 [] 0),(26,A 2 i64 v2.1 0),(25,A 4 Ty.bool v3 0),(18,A 48 y48 v1 0),(2,K 34 y34 a0)])<|vTT<|fR<|hr H
 refine vK<|fQ<|qA (Z [p 4 (O 26),p 5 (I 0)] [(26,A 2 i64 v2.1 0),(25,A 4 Ty.bool v3 0),(18,A 48 y48 v1 0),(2,K 34 y34 a0)])<|vTT<|hr H
def u17(a0:Y34):Option (Int) :=
 gd ((u23 a0).isSome=true/\True) <|
 if(!vl (u23 a0))=true then
  some (-1)
 else
  gd ((u61 a0).isSome=true/\True)<|lt (vl (u61 a0)) fun v0 =>
  some v0
def k17:Ct:=lct 17 [.agg y34] (fun x=>u17 x.1) (fun r:Int=>I r) (fun _=>())
theorem o17:Ok prog k17:=by
 refine okL [.tmp 2] func17 ntmps17 results17 ?_;intro y ⟨a0,_⟩ r H Q hn hr;have:HT _ _:=⟨tc o61 (tc o23 tn)⟩;refine qA (Z [p 1 (R 1)] [(1,K 34 y34 a0)])<|vQ<|qB (Z [p 1 (R 1),p 5 (B !vl (u23 a0))] [(1,K 34 y34 a0)]) H fun H=>cD H (fun H=>?_) (fun H=>?_)
 ·refine qA (Z [p 2 (I (-1))] [(1,K 34 y34 a0)])<|vTT<|fR<|hr H
 refine vK<|fQ<|qD (fun v0=>Z [p 2 (I v0)] [(1,K 34 y34 a0)]) H fun v0 H=>vTT<|hr H
def u18J0:Unit->Option (Bool)
 | _ =>
 some false
def u18L1(a0:List Int)(a1:Int)(g1:Int->Option (Bool)):Int->Option (Bool)
 | v0 =>
 if(decide (v0 < (a0.length:Int)))=true then
  gd (ix v0 a0.length/\True) <|
  if(a0.getD v0.toNat 0==a1)=true then
   some true
  else
   gd (in64 (v0+1)/\True) <|
   g1 (v0+1)
 else
  u18J0 ()
def u18(a0:List Int)(a1:Int):Option (Bool) :=
 lp (u18L1 a0 a1) 0
def k18:Ct:=lct 18 [.dat i64.sl,.dat i64] (fun x=>u18 x.1 x.2.1) (fun r:Bool=>B r) (fun _=>())
theorem o18:Ok prog k18:=by
 refine okL [.tmp 4] func18 ntmps18 results18 ?_;intro y ⟨a0,a1,_⟩ r H Q hn hr;have:HT _ _:=⟨@tn prog⟩;refine qA (Z (G49 a0 a1 []) [])<|jN r (fun(_:Unit)=>Z [] []) (u18J0) (fun _ H=>?_) (fun _ n0 e0 t0=>?_)
 ·refine qA (Z [p 4 (B false)] [])<|vTT<|hr H
 refine qA (Z (G49 a0 a1 [p 5 (I 0)]) [])<|vB<|lX (fun(v0:Int)=>Z (G49 a0 a1 [p 5 (I v0)]) []) 0 H fun _ g1 b1 e1 t1 v0 H=>vQ<|qA (Z (G49 a0 a1 [p 5 (I v0),p 9 (B (decide (v0 < (a0.length:Int))))]) [])<|cD H (fun H=>?_) (fun H=>?_)
 ·refine vK<|fQ<|vQ<|vB<|qB (Z (G49 a0 a1 [p 5 (I v0),p 17 (B (a0.getD v0.toNat 0==a1))]) []) H fun H=>cD H (fun H=>?_) (fun H=>?_)
  ·refine qA (Z [p 4 (B true)] [])<|vTT<|fDD<|fR<|t1<|fDD<|t0<|hr H
  refine vK<|fK<|fQ<|zB (Z (G49 a0 a1 [p 5 (I (v0+1))]) []) H fun H=>b1 H
 exact vE<|fE<|e1<|fX rfl<|n0 H
def u19(a0:Y34):Option (List Y48×Int) :=
 gd ((u23 a0).isSome=true/\True) <|
 if(!vl (u23 a0))=true then
  some (([],(1:Int)))
 else
  gd ((u59 a0).isSome=true/\True)<|lt (vl (u59 a0)) fun v0 =>
  some ((v0,(0:Int)))
def k19:Ct:=lct 19 [.agg y34] (fun x=>u19 x.1) (fun r:List Y48×Int=>AV.tup [AV.ow 48 true y48 r.1,I r.2]) (fun _=>())
theorem o19:Ok prog k19:=by
 refine okL [.tmp 2,.tmp 3] func19 ntmps19 results19 ?_;intro y ⟨a0,_⟩ r H Q hn hr;have:HT _ _:=⟨tc o59 (tc o23 tn)⟩;refine qA (Z [p 1 (R 1)] [(1,K 34 y34 a0)])<|vQ<|qB (Z [p 1 (R 1),p 6 (B !vl (u23 a0))] [(1,K 34 y34 a0)]) H fun H=>cD H (fun H=>?_) (fun H=>?_)
 ·refine qA (Z [p 2 (O 7),p 3 (I 1)] [(7,A 48 y48 [] 0),(1,K 34 y34 a0)])<|vTT<|fR<|hr H
 refine vK<|fQ<|qD (fun v0=>Z [p 2 (O 9),p 3 (I 0)] [(9,A 48 y48 v0 0),(1,K 34 y34 a0)]) H fun v0 H=>vTT<|hr H
def u21(a0:Y34):Option (List Y48×Int) :=
 gd ((u65 a0).isSome=true/\True) <|
 if(!vl (u65 a0))=true then
  some (([],(1:Int)))
 else
  gd ((u66 a0).isSome=true/\True)<|lt (vl (u66 a0)) fun v0 =>
  some ((v0.2.2.1,(0:Int)))
def k21:Ct:=lct 21 [.agg y34] (fun x=>u21 x.1) (fun r:List Y48×Int=>AV.tup [L y48 r.1,I r.2]) (fun _=>())
theorem o21:Ok prog k21:=by
 refine okL [.tmp 2,.tmp 3] func21 ntmps21 results21 ?_;intro y ⟨a0,_⟩ r H Q hn hr;have:HT _ _:=⟨tc o66 (tc o65 tn)⟩;refine qA (Z [p 1 (R 1)] [(1,K 34 y34 a0)])<|vQ<|qB (Z [p 1 (R 1),p 6 (B !vl (u65 a0))] [(1,K 34 y34 a0)]) H fun H=>cD H (fun H=>?_) (fun H=>?_)
 ·refine qA (Z [p 2 (nil),p 3 (I 1)] [(1,K 34 y34 a0)])<|vTT<|fR<|hr H
 refine vK<|fQ<|qD (fun v0=>Z [p 2 (L y48 v0.2.2.1),p 3 (I 0)] [(1,K 34 y34 a0)]) H fun v0 H=>vTT<|hr H
def u22(a0:Y34):Option (Int) :=
 gd ((u65 a0).isSome=true/\True) <|
 if(!vl (u65 a0))=true then
  some (-1)
 else
  gd ((u68 a0.2.1).isSome=true/\(u67 (vl (u68 a0.2.1))).isSome=true/\in64 (2*vl (u67 (vl (u68 a0.2.1))))/\True)<|lt ((vl (u67 (vl (u68 a0.2.1))),vl (u68 a0.2.1))) fun(v0,_v1) =>
  some (2*v0)
def k22:Ct:=lct 22 [.agg y34] (fun x=>u22 x.1) (fun r:Int=>I r) (fun _=>())
theorem o22:Ok prog k22:=by
 refine okL [.tmp 2] func22 ntmps22 results22 ?_;intro y ⟨a0,_⟩ r H Q hn hr;have:HT _ _:=⟨tc o67 (tc o68 (tc o65 tn))⟩;refine qA (Z [p 1 (R 1)] [(1,K 34 y34 a0)])<|vQ<|qB (Z [p 1 (R 1),p 5 (B !vl (u65 a0))] [(1,K 34 y34 a0)]) H fun H=>cD H (fun H=>?_) (fun H=>?_)
 ·refine qA (Z [p 2 (I (-1))] [(1,K 34 y34 a0)])<|vTT<|fR<|hr H
 refine vK<|fQ<|qD (fun(v0,v1)=>Z [p 2 (I (2*v0))] [(8,A 105 y105 v1 0),(1,K 34 y34 a0)]) H fun⟨v0,v1⟩ H =>
  vTT<|hr H
def u135(a0:Y100)(a1:Int):Option (Bool) :=
 gd ((u115 a0).isSome=true/\in64 (vl (u115 a0)-1)/\(u150 a1 0 (vl (u115 a0)-1)).isSome=true/\True) <|
 some (vl (u150 a1 0 (vl (u115 a0)-1)))
def k135:Ct:=lct 135 [.dat y100.pt,.dat i64] (fun x=>u135 x.1 x.2.1) (fun r:Bool=>B r) (fun _=>())
theorem o135:Ok prog k135:=by
 refine okL [.tmp 4] func135 ntmps135 results135 ?_;intro y ⟨a0,a1,_⟩ r H Q hn hr;have:HT _ _:=⟨tc o150 (tc o115 tn)⟩;refine qA (Z [p 0 (D y100.pt a0),p 1 (J a1)] [])<|qB (Z [p 4 (B (vl (u150 a1 0 (vl (u115 a0)-1))))] []) H fun H=>vTT<|hr H
def u72(a0:Y34)(a1:List Int)(a2:Int):Option (Int ⊕ (Y100×List Bool)×Int) :=
 if(isL (u56 a0 a1))=true then
  gd (isL (u56 a0 a1)=true/\True) <|
  if(vL (u56 a0 a1)==0)=true then
   none
  else
   some (Sum.inl (vL (u56 a0 a1)))
 else
  gd (isR (u56 a0 a1)=true/\True) <|
  gd ((((vR (u56 a0 a1)).2==0)=true/\True->(u135 (vR (u56 a0 a1)).1.1 a2).isSome=true)/\True) <|
  if((vR (u56 a0 a1)).2==0&&!vl (u135 (vR (u56 a0 a1)).1.1 a2))=true then
   some (Sum.inl 4)
  else
   some (Sum.inr (vR (u56 a0 a1)))
def k72:Ct:=lct 72 [.agg y34,.dat i64.sl,.dat i64] (fun x=>u72 x.1 x.2.1 x.2.2.1) (two (fun r:Int=>AV.tup [AV.v (Value.pointer none),I r]) (fun r:(Y100×List Bool)×Int=>AV.tup [AV.ob 127 [D y100.pt r.1.1,AV.ow 4 true Ty.bool r.1.2],I r.2])) (fun _=>())
def k72L:Ct:=lctL 72 [.agg y34,.dat i64.sl,.dat i64] (fun x=>u72 x.1 x.2.1 x.2.2.1) (fun r:Int=>AV.tup [AV.v (Value.pointer none),I r]) ()
def k72R:Ct:=lctR 72 [.agg y34,.dat i64.sl,.dat i64] (fun x=>u72 x.1 x.2.1 x.2.2.1) (fun r:(Y100×List Bool)×Int=>AV.tup [AV.ob 127 [D y100.pt r.1.1,AV.ow 4 true Ty.bool r.1.2],I r.2]) ()
theorem o72:Ok prog k72:=by
 refine okL [.tmp 6,.tmp 7] func72 ntmps72 results72 ?_;intro y ⟨a0,a1,a2,_⟩ r H Q hn hr;have:HT _ _:=⟨tc o135 tn⟩;refine qA (Z [p 1 (L i64 a1),p 2 (J a2),p 3 (R 3)] [(3,K 34 y34 a0)])<|sp H (fun H=>?_) (fun H=>?_)
 ·have:HT _ _:=⟨tc o56L (HT.h)⟩;refine qB (Z [p 2 (J a2),p 8 (AV.v (Value.pointer none)),p 9 (I (vL (u56 a0 a1)))] [(3,K 34 y34 a0)]) H fun H=>?_;by_cases hz:(vL (u56 a0 a1)==0)=true
  ·rw[if_pos hz] at H;exact vQ<|dead H
  rw[if_neg hz] at H;have hz:(vL (u56 a0 a1)==0)=false:=by simpa using hz
  refine vQ (vQ (sv_nil (tp:=8) (tc:=9) (tb:=26) (z:=vL (u56 a0 a1)) rfl rfl rfl (fun w Q' k=>?_) (fQ ?_)))
  ·refine vs_region (vo_pure rfl rfl (vo_pure rfl rfl (vo_isF' hz (vo_pure rfl rfl ?_))))
   iterate 7 refine vo_guard_skip rfl rfl rfl rfl ?_
   refine vo_pure rfl rfl (oN ?_);exact fin_sub (by ((repeat (refine sub_cons rfl ?_)); exact sub_nil)) k
  refine cf (by kernel_rfl)<|vK<|fQ<|qA (Z [p 6 (AV.v (Value.pointer none)),p 7 (I (vL (u56 a0 a1)))] [(3,K 34 y34 a0)])<|vTT<|hr H
 have:HT _ _:=⟨tc o56R (HT.h)⟩;refine qB (Z [p 2 (J a2),p 8 (R 1013),p 9 (I (vR (u56 a0 a1)).2)] (W62 (vR (u56 a0 a1)).1.1 (vR (u56 a0 a1)).1.2 a0)) H fun H=>vQ<|qB (Z [p 8 (R 1013),p 9 (I (vR (u56 a0 a1)).2),p 26 (B ((vR (u56 a0 a1)).2==0&&!vl (u135 (vR (u56 a0 a1)).1.1 a2)))] (W62 (vR (u56 a0 a1)).1.1 (vR (u56 a0 a1)).1.2 a0)) H fun H=>cD H (fun H=>?_) (fun H=>?_)
 ·refine qA (Z [p 6 (AV.v (Value.pointer none)),p 7 (I 4)] (W62 (vR (u56 a0 a1)).1.1 (vR (u56 a0 a1)).1.2 a0))<|vTT<|fR<|hr H
 refine vK<|fQ<|qA (Z [p 6 (R 1013),p 7 (I (vR (u56 a0 a1)).2)] (W62 (vR (u56 a0 a1)).1.1 (vR (u56 a0 a1)).1.2 a0))<|vTT<|hr H
theorem o72L:Ok prog k72L:=ok_l o72
theorem o72R:Ok prog k72R:=ok_r o72
def u24(a0:Y34)(a1:List Int)(a2:Int):Option (List Int×Int) :=
 if(isL (u72 a0 a1 a2))=true then
  gd (isL (u72 a0 a1 a2)=true/\True) <|
  if(vL (u72 a0 a1 a2) != 0)=true then
   some (([],vL (u72 a0 a1 a2)))
  else
   none
 else
  gd (isR (u72 a0 a1 a2)=true/\True)<|lt (vR (u72 a0 a1 a2)) fun v0 =>
  if(v0.2 != 0)=true then
   some ([],v0.2)
  else
   gd ((u73 v0.1 a2).isSome=true/\True)<|lt (vl (u73 v0.1 a2)) fun v1 =>
   some ((v1,(0:Int)))
def k24:Ct:=lct 24 [.agg y34,.dat i64.sl,.dat i64] (fun x=>u24 x.1 x.2.1 x.2.2.1) (fun r:List Int×Int=>AV.tup [AV.ow 2 true i64 r.1,I r.2]) (fun _=>())
theorem o24:Ok prog k24:=by
 refine okL [.tmp 6,.tmp 7] func24 ntmps24 results24 ?_;intro y ⟨a0,a1,a2,_⟩ r H Q hn hr;have:HT _ _:=⟨tc o73 tn⟩;refine qA (Z [p 1 (L i64 a1),p 2 (J a2),p 3 (R 3)] [(3,K 34 y34 a0)])<|sp H (fun H=>?_) (fun H=>?_)
 ·have:HT _ _:=⟨tc o72L (HT.h)⟩;refine qB (Z [p 2 (J a2),p 8 (AV.v (Value.pointer none)),p 9 (I (vL (u72 a0 a1 a2)))] [(3,K 34 y34 a0)]) H fun H=>vQ<|qA (Z [p 2 (J a2),p 8 (AV.v (Value.pointer none)),p 9 (I (vL (u72 a0 a1 a2))),p 18 (B (vL (u72 a0 a1 a2) != 0))] [(3,K 34 y34 a0)])<|cD H (fun H=>?_) (fun H=>?_)
  ·refine qA (Z [p 6 (nil),p 7 (I (vL (u72 a0 a1 a2)))] [(3,K 34 y34 a0)])<|vTT<|fR<|hr H
  exact vK<|fQ<|dead H
 have:HT _ _:=⟨tc o72R (HT.h)⟩;refine qD (fun v0=>Z [p 2 (J a2),p 8 (R 1014),p 9 (I v0.2)] (W23 v0.1.1 v0.1.2 a0)) H fun v0 H=>vQ<|qA (Z [p 2 (J a2),p 8 (R 1014),p 9 (I v0.2),p 18 (B (v0.2 != 0))] (W23 v0.1.1 v0.1.2 a0))<|cD H (fun H=>?_) (fun H=>?_)
 ·refine qA (Z [p 6 (nil),p 7 (I v0.2)] (W23 v0.1.1 v0.1.2 a0))<|vTT<|fR<|hr H
 refine vK<|fQ<|qD (fun v1=>Z [p 6 (O 22),p 7 (I 0)] ((22,A 2 i64 v1 0)::W23 v0.1.1 v0.1.2 a0)) H fun v1 H=>vTT<|hr H
def u137(a0:Y48)(a1:Int):Option (Bool) :=
 some (a0.2.1==a1)
def k137:Ct:=lct 137 [.agg y48,.dat (.pt i64)] (fun x=>u137 x.1 x.2.1) (fun r:Bool=>B r) (fun _=>())
theorem o137:Ok prog k137:=by
 refine okL [.tmp 3] func137 ntmps137 results137 ?_;intro y ⟨a0,a1,_⟩ r H Q hn hr;have:HT _ _:=⟨@tn prog⟩;refine qA (Z [p 1 (D i64.pt a1),p 2 (R 2)] [(2,K 48 y48 a0)])<|qA (Z [p 3 (B (a0.2.1==a1))] [(2,K 48 y48 a0)])<|vTT<|hr H
def u116c137J0:List Int->Option (List Int)
 | v6 =>
 some v6
def u116c137J2(v3:Int)(g1:List Int×Int->Option (List Int)):List Int->Option (List Int)
 | v5 =>
 gd (in64 (v3+1)/\True) <|
 g1 (v5,v3+1)
def u116c137L1(a0:Y127)(a1:Int)(g1:List Int×Int->Option (List Int)):List Int×Int->Option (List Int)
 | (v2,v3) =>
 if(decide (v3 < (a0.1.2.2.1.length:Int)))=true then
  gd (ix v3 a0.1.2.2.1.length/\True)<|lt (a0.1.2.2.1.getD v3.toNat (dflt y48)) fun v4 =>
  gd (ix v3 a0.2.length/\(a0.2.getD v3.toNat false=true/\True->(u137 v4 a1).isSome=true)/\True) <|
  if(a0.2.getD v3.toNat false&&vl (u137 v4 a1))=true then
   gd ((v2.length+[v3].length<=9223372036854775807/\(v2.length+[v3].length)*8<=140737488355328)/\True) <|
   u116c137J2 v3 g1 (v2++[v3])
  else
   u116c137J2 v3 g1 v2
 else
  u116c137J0 v2
def u116c137(a0:Y127)(a1:Int):Option (List Int) :=
 lp (u116c137L1 a0 a1) ([],0)
def k116c137:Ct:=lct 116 [.dat y127.pt,.fn 137 (.pt i64)] (fun x=>u116c137 x.1 x.2.1) (fun r:List Int=>AV.ow 2 true i64 r) (fun _=>())
theorem o116c137:Ok prog k116c137:=by
 refine okL [.tmp 4] func116 ntmps116 results116 ?_;intro y ⟨a0,a1,_⟩ r H Q hn hr;have:HT _ _:=⟨tc o137 tn⟩;refine qA (Z [p 0 (D y127.pt a0),p 1 (AV.fn 137 [D i64.pt a1])] [])<|qA (Z [p 0 (D y127.pt a0),p 1 (AV.fn 137 [D i64.pt a1]),p 5 (nil)] [])<|jN r (fun(v6:List Int)=>Z [p 5 (O 36)] [(36,A 2 i64 v6 0)]) (u116c137J0) (fun v6 H=>?_) (fun _ n0 e0 t0=>?_)
 ·refine qA (Z [p 4 (O 36)] [(36,A 2 i64 v6 0)])<|vTT<|hr H
 refine qA (Z [p 0 (D y127.pt a0),p 1 (AV.fn 137 [D i64.pt a1]),p 5 (nil),p 14 (L y48 a0.1.2.2.1),p 15 (I (a0.1.2.2.1.length:Int)),p 16 (I 0)] [])<|vB<|lX (fun((v2,v3):List Int×Int)=>Z [p 0 (D y127.pt a0),p 1 (AV.fn 137 [D i64.pt a1]),p 5 (O 36),p 14 (L y48 a0.1.2.2.1),p 15 (I (a0.1.2.2.1.length:Int)),p 16 (I v3)] [(36,A 2 i64 v2 0)]) ([],0) H fun _ g1 b1 e1 t1 ⟨v2,v3⟩ H=>qA (Z [p 0 (D y127.pt a0),p 1 (AV.fn 137 [D i64.pt a1]),p 5 (O 36),p 14 (L y48 a0.1.2.2.1),p 15 (I (a0.1.2.2.1.length:Int)),p 16 (I v3),p 17 (B (decide (v3 < (a0.1.2.2.1.length:Int))))] [(36,A 2 i64 v2 0)])<|vQ<|cD H (fun H=>?_) (fun H=>?_)
 ·refine vK<|fQ<|jN r (fun(v5:List Int)=>Z [p 0 (D y127.pt a0),p 1 (AV.fn 137 [D i64.pt a1]),p 5 (O 36),p 14 (L y48 a0.1.2.2.1),p 15 (I (a0.1.2.2.1.length:Int)),p 16 (I v3)] [(36,A 2 i64 v5 0)]) (u116c137J2 v3 g1) (fun v5 H=>?_) (fun _ n2 e2 t2=>?_)
  ·refine zB (Z [p 0 (D y127.pt a0),p 1 (AV.fn 137 [D i64.pt a1]),p 5 (O 36),p 14 (L y48 a0.1.2.2.1),p 15 (I (a0.1.2.2.1.length:Int)),p 16 (I (v3+1))] [(36,A 2 i64 v5 0)]) H fun H=>b1 H
  refine vB<|qD (fun v4=>Z [p 0 (D y127.pt a0),p 1 (AV.fn 137 [D i64.pt a1]),p 5 (O 36),p 6 (I v3),p 7 (R 7),p 14 (L y48 a0.1.2.2.1),p 15 (I (a0.1.2.2.1.length:Int)),p 16 (I v3)] [(7,K 48 y48 v4),(36,A 2 i64 v2 0)]) H fun v4 H=>qB (Z [p 0 (D y127.pt a0),p 1 (AV.fn 137 [D i64.pt a1]),p 5 (O 36),p 6 (I v3),p 14 (L y48 a0.1.2.2.1),p 15 (I (a0.1.2.2.1.length:Int)),p 16 (I v3),p 32 (B (a0.2.getD v3.toNat false&&vl (u137 v4 a1)))] [(7,K 48 y48 v4),(36,A 2 i64 v2 0)]) H fun H=>cD H (fun H=>?_) (fun H=>?_)
  ·refine zB (Z [p 0 (D y127.pt a0),p 1 (AV.fn 137 [D i64.pt a1]),p 5 (AV.os 36 1),p 14 (L y48 a0.1.2.2.1),p 15 (I (a0.1.2.2.1.length:Int)),p 16 (I v3)] [(36,A 2 i64 (v2++[v3]) 1),(35,A 2 i64 [v3] 0),(7,K 48 y48 v4)]) H fun H=>fK<|n2 H
  exact vK<|fK<|n2 H
 exact vE<|fE<|e1<|fX rfl<|n0 H
def u74(a0:Y127)(a1:Int):Option (List Int) :=
 gd ((u116c137 a0 a1).isSome=true/\True)<|lt (vl (u116c137 a0 a1)) fun v0 =>
 some v0
def k74:Ct:=lct 74 [.dat y127.pt,.dat i64] (fun x=>u74 x.1 x.2.1) (fun r:List Int=>AV.ow 2 true i64 r) (fun _=>())
theorem o74:Ok prog k74:=by
 refine okL [.tmp 4] func74 ntmps74 results74 ?_;intro y ⟨a0,a1,_⟩ r H Q hn hr;have:HT _ _:=⟨tc o116c136 (tc o116c117 (tc o116c137 (tc o137 tn)))⟩;refine qA (Z [p 0 (D y127.pt a0),p 3 (R 3)] [(3,bx 2 [J a1])])<|qD (fun v0=>Z [p 4 (O 7)] [(7,A 2 i64 v0 0),(3,bx 2 [J a1])]) H fun v0 H=>vTT<|hr H
def u25(a0:Y34)(a1:List Int)(a2:Int):Option (List Int×Int) :=
 if(isL (u72 a0 a1 a2))=true then
  gd (isL (u72 a0 a1 a2)=true/\True) <|
  if(vL (u72 a0 a1 a2) != 0)=true then
   some (([],vL (u72 a0 a1 a2)))
  else
   none
 else
  gd (isR (u72 a0 a1 a2)=true/\True)<|lt (vR (u72 a0 a1 a2)) fun v0 =>
  if(v0.2 != 0)=true then
   some ([],v0.2)
  else
   gd ((u74 v0.1 a2).isSome=true/\True)<|lt (vl (u74 v0.1 a2)) fun v1 =>
   some ((v1,(0:Int)))
def k25:Ct:=lct 25 [.agg y34,.dat i64.sl,.dat i64] (fun x=>u25 x.1 x.2.1 x.2.2.1) (fun r:List Int×Int=>AV.tup [AV.ow 2 true i64 r.1,I r.2]) (fun _=>())
theorem o25:Ok prog k25:=by
 refine okL [.tmp 6,.tmp 7] func25 ntmps25 results25 ?_;intro y ⟨a0,a1,a2,_⟩ r H Q hn hr;have:HT _ _:=⟨tc o74 tn⟩;refine qA (Z [p 1 (L i64 a1),p 2 (J a2),p 3 (R 3)] [(3,K 34 y34 a0)])<|sp H (fun H=>?_) (fun H=>?_)
 ·have:HT _ _:=⟨tc o72L (HT.h)⟩;refine qB (Z [p 2 (J a2),p 8 (AV.v (Value.pointer none)),p 9 (I (vL (u72 a0 a1 a2)))] [(3,K 34 y34 a0)]) H fun H=>vQ<|qA (Z [p 2 (J a2),p 8 (AV.v (Value.pointer none)),p 9 (I (vL (u72 a0 a1 a2))),p 18 (B (vL (u72 a0 a1 a2) != 0))] [(3,K 34 y34 a0)])<|cD H (fun H=>?_) (fun H=>?_)
  ·refine qA (Z [p 6 (nil),p 7 (I (vL (u72 a0 a1 a2)))] [(3,K 34 y34 a0)])<|vTT<|fR<|hr H
  exact vK<|fQ<|dead H
 have:HT _ _:=⟨tc o72R (HT.h)⟩;refine qD (fun v0=>Z [p 2 (J a2),p 8 (R 1014),p 9 (I v0.2)] (W23 v0.1.1 v0.1.2 a0)) H fun v0 H=>vQ<|qA (Z [p 2 (J a2),p 8 (R 1014),p 9 (I v0.2),p 18 (B (v0.2 != 0))] (W23 v0.1.1 v0.1.2 a0))<|cD H (fun H=>?_) (fun H=>?_)
 ·refine qA (Z [p 6 (nil),p 7 (I v0.2)] (W23 v0.1.1 v0.1.2 a0))<|vTT<|fR<|hr H
 refine vK<|fQ<|qD (fun v1=>Z [p 6 (O 22),p 7 (I 0)] ((22,A 2 i64 v1 0)::W23 v0.1.1 v0.1.2 a0)) H fun v1 H=>vTT<|hr H
def u169(a0:List Int):Option (List Int) :=
 gd ((0+a0.length<=9223372036854775807/\(0+a0.length)*8<=140737488355328)/\True) <|
 some ([]++a0)
def k169:Ct:=lct 169 [.dat i64.sl] (fun x=>u169 x.1) (fun r:List Int=>AV.ow 2 true i64 r) (fun _=>())
theorem o169:Ok prog k169:=by
 refine okL [.tmp 2] func169 ntmps169 results169 ?_;intro y ⟨a0,_⟩ r H Q hn hr;have:HT _ _:=⟨@tn prog⟩;refine qA (Z [p 0 (L i64 a0)] [])<|qB (Z [p 2 (AV.os 3 1)] [(3,A 2 i64 ([]++a0) 1)]) H fun H=>vTT<|hr H
def u53J0(a0:List Int):Int->Option (List Int×Int×Int)
 | v3 =>
 some ((a0,(0:Int),v3))
def u53L1(a0:List Int)(g1:Int×Int->Option (List Int×Int×Int)):Int×Int->Option (List Int×Int×Int)
 | (v1,v2) =>
 if(decide (v1 < (a0.length:Int))&&decide (v1<64))=true then
  gd (in64 (v2*(31:Int))/\ix v1 a0.length/\True/\in64 (v2*(31:Int)+a0.getD v1.toNat (0:Int))/\(0:Int) < (2147483647:Int)/\True) <|
  gd (in64 (v1+1)/\True) <|
  g1 ((v1+1,(v2*31+a0.getD v1.toNat 0).tmod 2147483647))
 else
  u53J0 a0 v2
def u53(a0:List Int):Option (List Int×Int×Int) :=
 lp (u53L1 a0) (0,12345)
def k53:Ct:=lct 53 [.dat (b8.sl)] (fun x=>u53 x.1) (fun r:List Int×Int×Int=>AV.ob 152 [L b8 r.1,I r.2.1,I r.2.2]) (fun _=>())
theorem o53:Ok prog k53:=by
 refine okL [.tmp 2] func53 ntmps53 results53 ?_;intro y ⟨a0,_⟩ r H Q hn hr;have:HT _ _:=⟨@tn prog⟩;refine qA (Z [p 0 (L b8 a0)] [])<|qA (Z [p 0 (L b8 a0),p 3 (R 7)] [(7,bx 152 [L b8 a0,I 0,I 12345])])<|jN r (fun(v3:Int)=>Z [p 3 (R 7)] [(7,bx 152 [L b8 a0,I 0,I v3])]) (u53J0 a0) (fun v3 H=>?_) (fun _ n0 e0 t0=>?_)
 ·refine qA (Z [p 2 (R 7)] [(7,bx 152 [L b8 a0,I 0,I v3])])<|vTT<|hr H
 refine qA (Z [p 0 (L b8 a0),p 3 (R 7),p 4 (I 0)] [(7,bx 152 [L b8 a0,I 0,I 12345])])<|vB<|lX (fun((v1,v2):Int×Int)=>Z [p 0 (L b8 a0),p 3 (R 7),p 4 (I v1)] [(7,bx 152 [L b8 a0,I 0,I v2])]) (0,12345) H fun _ g1 b1 e1 t1 ⟨v1,v2⟩ H=>vQ<|qA (Z [p 0 (L b8 a0),p 3 (R 7),p 4 (I v1),p 15 (B (decide (v1 < (a0.length:Int))&&decide (v1<64)))] [(7,bx 152 [L b8 a0,I 0,I v2])])<|cD H (fun H=>?_) (fun H=>?_)
 ·refine vK<|fQ<|vQ<|vB<|zB (Z [p 0 (L b8 a0),p 3 (R 7),p 4 (I v1)] [(7,bx 152 [L b8 a0,I 0,I ((v2*31+a0.getD v1.toNat 0).tmod 2147483647)])]) H fun H=>fK<|fQ<|zB (Z [p 0 (L b8 a0),p 3 (R 7),p 4 (I (v1+1))] [(7,bx 152 [L b8 a0,I 0,I ((v2*31+a0.getD v1.toNat 0).tmod 2147483647)])]) H fun H=>b1 H
 exact vE<|fE<|e1<|fX rfl<|n0 H
def u88(a0:Y152)(a1:Int):Option (Int×Y152) :=
 if(decide (a1<=1))=true then
  some (((0:Int),a0))
 else
  if(decide (a0.2.1 < (a0.1.length:Int)))=true then
   gd (ix a0.2.1 a0.1.length/\True/\True) <|
   gd (in64 (a0.2.1+1)/\True) <|
   if(decide (a1<=256))=true then
    gd (0<a1/\True) <|
    some ((Int.tmod (a0.1.getD a0.2.1.toNat 0) a1,a0.1,a0.2.1+1,a0.2.2))
   else
    gd (in64 (a0.2.2*(48271:Int))/\in64 (a0.2.2*(48271:Int)+a0.1.getD a0.2.1.toNat (0:Int))/\in64 (a0.2.2*(48271:Int)+a0.1.getD a0.2.1.toNat (0:Int)+(1:Int))/\(0:Int) < (2147483647:Int)/\True)<|lt ((a0.2.2*48271+a0.1.getD a0.2.1.toNat 0+1).tmod 2147483647) fun v0 =>
    gd (0<a1/\True) <|
    some (v0.tmod a1,a0.1,a0.2.1+1,v0)
  else
   gd (in64 (a0.2.2*(48271:Int))/\in64 (a0.2.2*(48271:Int)+(11:Int))/\(0:Int) < (2147483647:Int)/\True) <|
   gd ((0:Int) < (7:Int)/\(0:Int)<a1/\True) <|
   some (((((a0.2.2*48271+11).tmod 2147483647).tdiv 7).tmod a1,a0.1,a0.2.1,(a0.2.2*48271+11).tmod 2147483647))
def k88:Ct:=lct 88 [.io 152 y152,.dat i64] (fun x=>u88 x.1 x.2.1) (fun r:Int×Y152=>I r.1) (fun r=>r.2)
theorem o88:Ok prog k88:=by
 refine okL [.tmp 4] func88 ntmps88 results88 ?_;intro y ⟨a0,a1,_⟩ r H Q hn hr;have:HT _ _:=⟨@tn prog⟩;refine qA (Z (G11 a1 []) [(500000,K 152 y152 a0)])<|vQ<|qA (Z (G11 a1 [p 7 (B (decide (a1<=1)))]) [(500000,K 152 y152 a0)])<|cD H (fun H=>?_) (fun H=>?_)
 ·refine qA (Z [p 4 (I 0)] [(500000,K 152 y152 a0)])<|vTT<|fR<|hr H
 refine vK<|fQ<|vQ<|qA (Z (G11 a1 [p 17 (B (decide (a0.2.1 < (a0.1.length:Int))))]) [(500000,K 152 y152 a0)])<|cD H (fun H=>?_) (fun H=>?_)
 ·refine qB (Z (G11 a1 [p 5 (I (a0.1.getD a0.2.1.toNat 0))]) [(500000,K 152 y152 a0)]) H fun H=>qB (Z (G11 a1 [p 5 (I (a0.1.getD a0.2.1.toNat 0))]) [(500000,bx 152 [L b8 a0.1,I (a0.2.1+1),J a0.2.2])]) H fun H=>vQ<|qA (Z (G11 a1 [p 5 (I (a0.1.getD a0.2.1.toNat 0)),p 37 (B (decide (a1<=256)))]) [(500000,bx 152 [L b8 a0.1,I (a0.2.1+1),J a0.2.2])])<|cD H (fun H=>?_) (fun H=>?_)
  ·refine qB (Z [p 4 (I (Int.tmod (a0.1.getD a0.2.1.toNat 0) a1))] [(500000,bx 152 [L b8 a0.1,I (a0.2.1+1),J a0.2.2])]) H fun H=>vTT<|fR<|fR<|hr H
  refine vK<|fQ<|qD (fun v0=>Z (G11 a1 []) [(500000,bx 152 [L b8 a0.1,I (a0.2.1+1),I v0])]) H fun v0 H=>qB (Z [p 4 (I (v0.tmod a1))] [(500000,bx 152 [L b8 a0.1,I (a0.2.1+1),I v0])]) H fun H=>vTT<|fR<|hr H
 refine vK<|fQ<|qB (Z (G11 a1 []) [(500000,bx 152 [L b8 a0.1,J a0.2.1,I ((a0.2.2*48271+11).tmod 2147483647)])]) H fun H=>qB (Z [p 4 (I ((((a0.2.2*48271+11).tmod 2147483647).tdiv 7).tmod a1))] [(500000,bx 152 [L b8 a0.1,J a0.2.1,I ((a0.2.2*48271+11).tmod 2147483647)])]) H fun H=>vTT<|hr H
def u55J2:List Int×List Int×Int×Int->Option (List Int×Y152)
 | (v16,v17,v18,v19) =>
 some (v16,v17,v18,v19)
def u55J0(v0:List Y48):List Int×Int×Int×List Int->Option (List Int×Y152)
 | (v10,v11,v12,v13) =>
 gd ((u88 (v10,v11,v12) 12).isSome=true/\True)<|lt (vl (u88 (v10,v11,v12) 12)) fun v14 =>
 if(v14.1==0)=true then
  gd ((u88 v14.2 2).isSome=true/\in64 ((v0.length:Int)*(vl (u88 v14.2 2)).1)/\(v13.length+[(v0.length:Int)*(vl (u88 v14.2 2)).1].length<=9223372036854775807/\(v13.length+[(v0.length:Int)*(vl (u88 v14.2 2)).1].length)*8<=140737488355328)/\True)<|lt (vl (u88 v14.2 2)) fun v15 =>
  u55J2 ((v13++[(v0.length:Int)*v15.1],v15.2.1,v15.2.2.1,v15.2.2.2))
 else
  u55J2 (v13,v14.2.1,v14.2.2.1,v14.2.2.2)
def u55L1(v1:Int×Y152)(v0:List Y48)(g1:Int×List Int×Int×Int×List Int->Option (List Int×Y152)):Int×List Int×Int×Int×List Int->Option (List Int×Y152)
 | (v4,v5,v6,v7,v8) =>
 if(decide (v4 < (v0.length:Int)))=true then
  gd ((v8.length+[v4].length<=9223372036854775807/\(v8.length+[v4].length)*8<=140737488355328)/\True) <|
  gd ((u88 (v5,v6,v7) (1+v1.1)).isSome=true/\in64 (1+(vl (u88 (v5,v6,v7) (1+v1.1))).1)/\in64 (v4+(1+(vl (u88 (v5,v6,v7) (1+v1.1))).1))/\True)<|lt (vl (u88 (v5,v6,v7) (1+v1.1))) fun v9 =>
  g1 ((v4+(1+v9.1),v9.2.1,v9.2.2.1,v9.2.2.2,v8++[v4]))
 else
  u55J0 v0 (v5,v6,v7,v8)
def u55J5:List Int×List Int×Int×Int->Option (List Int×Y152)
 | (v38,v39,v40,v41) =>
 some (v38,v39,v40,v41)
def u55J3(v21:List Y48):List Int×Int×Int×List Int->Option (List Int×Y152)
 | (v32,v33,v34,v35) =>
 gd ((u88 (v32,v33,v34) 12).isSome=true/\True)<|lt (vl (u88 (v32,v33,v34) 12)) fun v36 =>
 if(v36.1==0)=true then
  gd ((u88 v36.2 2).isSome=true/\in64 ((v21.length:Int)*(vl (u88 v36.2 2)).1)/\(v35.length+[(v21.length:Int)*(vl (u88 v36.2 2)).1].length<=9223372036854775807/\(v35.length+[(v21.length:Int)*(vl (u88 v36.2 2)).1].length)*8<=140737488355328)/\True)<|lt (vl (u88 v36.2 2)) fun v37 =>
  u55J5 ((v35++[(v21.length:Int)*v37.1],v37.2.1,v37.2.2.1,v37.2.2.2))
 else
  u55J5 (v35,v36.2.1,v36.2.2.1,v36.2.2.2)
def u55L4(v23:Int×Y152)(v21:List Y48)(g4:Int×List Int×Int×Int×List Int->Option (List Int×Y152)):Int×List Int×Int×Int×List Int->Option (List Int×Y152)
 | (v26,v27,v28,v29,v30) =>
 if(decide (v26 < (v21.length:Int)))=true then
  gd ((v30.length+[v26].length<=9223372036854775807/\(v30.length+[v26].length)*8<=140737488355328)/\True) <|
  gd ((u88 (v27,v28,v29) (1+v23.1)).isSome=true/\in64 (1+(vl (u88 (v27,v28,v29) (1+v23.1))).1)/\in64 (v26+(1+(vl (u88 (v27,v28,v29) (1+v23.1))).1))/\True)<|lt (vl (u88 (v27,v28,v29) (1+v23.1))) fun v31 =>
  g4 ((v26+(1+v31.1),v31.2.1,v31.2.2.1,v31.2.2.2,v30++[v26]))
 else
  u55J3 v21 (v27,v28,v29,v30)
def u55(a0:Y152)(a1:Y34):Option (List Int×Y152) :=
 gd ((u23 a1).isSome=true/\True)<|if(!vl (u23 a1))=true then
  gd (True)<|if(true||false)=true then
   some ([],a0)
  else
   gd ((u59 a1).isSome=true/\True)<|lt (vl (u59 a1)) fun v0 =>
   gd ((u88 a0 8).isSome=true/\in64 (1+(vl (u88 a0 8)).1)/\True)<|lt (vl (u88 a0 8)) fun v1 =>
   gd ((u88 v1.2 (1+v1.1)).isSome=true/\True)<|lt (vl (u88 v1.2 (1+v1.1))) fun v2 =>
   lp (u55L1 v1 v0) (v2.1,v2.2.1,v2.2.2.1,v2.2.2.2,[])
 else
  gd (((u88 a0 3).isSome=true/\True)/\True)<|if(false||decide (0 < (vl (u88 a0 3)).1))=true then
   lt (vl (u88 a0 3)) fun v20 =>
   some ([],v20.2)
  else
   gd ((u59 a1).isSome=true/\True)<|lt ((vl (u59 a1),vl (u88 a0 3))) fun(v21,v22) =>
   gd ((u88 v22.2 8).isSome=true/\in64 (1+(vl (u88 v22.2 8)).1)/\True)<|lt (vl (u88 v22.2 8)) fun v23 =>
   gd ((u88 v23.2 (1+v23.1)).isSome=true/\True)<|lt (vl (u88 v23.2 (1+v23.1))) fun v24 =>
   lp (u55L4 v23 v21) (v24.1,v24.2.1,v24.2.2.1,v24.2.2.2,[])
def k55:Ct:=lct 55 [.io 152 y152,.agg y34] (fun x=>u55 x.1 x.2.1) (fun r:List Int×Y152=>AV.ow 2 true i64 r.1) (fun r=>r.2)
theorem o55:Ok prog k55:=by
 refine okL [.tmp 4] func55 ntmps55 results55 ?_;intro y ⟨a0,a1,_⟩ r H Q hn hr;have:HT _ _:=⟨tc o88 (tc o59 (tc o23 tn))⟩;refine qA (Z (G80 []) (W41 a1 a0))<|qA (Z (G80 [p 5 (O 9)]) ((9,A 2 i64 [] 0)::W41 a1 a0))<|vQ<|vQ<|zG tok (HT.h) 4 3 [0,3,5,17] [(14,AV.ptr 500000 0),(15,I 0),(16,B false)] (Z [p 13 (B !vl (u23 a1)),p 12 (B !vl (u23 a1)),p 11 (B (vl (u23 a1))),p 10 (AV.agg [L y163 a1.1,L y165 a1.2.1.1,L Ty.str a1.2.1.2.1,L y175 a1.2.1.2.2,L y110 a1.2.2]),p 0 (R 500000),p 3 (R 3),p 5 (O 9)] ((9,A 2 i64 [] 0)::W41 a1 a0)) 3 false 13 (Z (G80 [p 5 (O 9),p 17 (B (true||false))]) ((9,A 2 i64 [] 0)::W41 a1 a0)) (Z (G80 [p 5 (O 9),p 17 (B (false||decide (0 < (vl (u88 a0 3)).1)))]) ((500000,bx 152 (cellsD false y152 (vl (u88 a0 3)).2))::W66 a1)) (True) (((u88 a0 3).isSome=true/\True)/\True) H (by kernel_rfl) (by kernel_rfl) (by kernel_rfl) (fun H=>gdC H fun H=>fQ ?_) (fun H=>gdC H fun H=>fQ ?_)
 ·refine cD H (fun H=>?_) (fun H=>?_)
  ·refine qA (Z [p 4 (O 9)] ((9,A 2 i64 [] 0)::W41 a1 a0))<|vTT<|fR<|hr H
  refine vK<|fQ<|qD (fun v0=>Z (G28 (v0.length:Int) []) ((20,A 48 y48 v0 0)::(9,A 2 i64 [] 0)::W41 a1 a0)) H fun v0 H=>qD (fun v1=>Z (G28 (v0.length:Int) [p 7 (I (1+v1.1))]) ((500000,K 152 y152 v1.2)::(20,A 48 y48 v0 0)::W66 a1)) H fun v1 H=>jN r (fun((v10,v11,v12,v13):List Int×Int×Int×List Int)=>Z (G28 (v0.length:Int) []) [(500000,bx 152 (Q63 v10 v11 v12)),(9,A 2 i64 v13 0)]) (u55J0 v0) (fun⟨v10,v11,v12,v13⟩ H=>?_) (fun _ n0 e0 t0=>?_)
  ·refine jN r (fun((v16,v17,v18,v19):List Int×List Int×Int×Int)=>Z [p 5 (O 9)] [(9,A 2 i64 v16 0),(500000,bx 152 (Q63 v17 v18 v19))]) (u55J2) (fun⟨v16,v17,v18,v19⟩ H=>?_) (fun _ n2 e2 t2=>?_)
   ·refine qA (Z [p 4 (O 9)] [(9,A 2 i64 v16 0),(500000,bx 152 (Q63 v17 v18 v19))])<|vTT<|hr H
   refine qD (fun v14=>Z (G28 (v0.length:Int) [p 43 (B (v14.1==0))]) [(500000,K 152 y152 v14.2),(9,A 2 i64 v13 0)]) H fun v14 H=>cD H (fun H=>?_) (fun H=>?_)
   ·refine zD (fun v15=>Z [p 5 (AV.os 9 1)] [(9,A 2 i64 (v13++[(v0.length:Int)*v15.1]) 1),(49,A 2 i64 [(v0.length:Int)*v15.1] 0),(500000,K 152 y152 v15.2)]) H fun v15 H=>n2 H
   exact vK<|n2 H
  refine qD (fun v2=>Z (G28 (v0.length:Int) [p 7 (I (1+v1.1)),p 8 (I v2.1)]) ((500000,K 152 y152 v2.2)::(20,A 48 y48 v0 0)::W66 a1)) H fun v2 H=>vB<|lX (fun((v4,v5,v6,v7,v8):Int×List Int×Int×Int×List Int)=>Z (G28 (v0.length:Int) [p 7 (I (1+v1.1)),p 8 (I v4)]) [(500000,bx 152 [L b8 v5,J v6,J v7]),(9,A 2 i64 v8 0)]) (v2.1,v2.2.1,v2.2.2.1,v2.2.2.2,[]) H fun _ g1 b1 e1 t1 ⟨v4,v5,v6,v7,v8⟩ H=>vQ<|qA (Z (G28 (v0.length:Int) [p 7 (I (1+v1.1)),p 8 (I v4),p 30 (B (decide (v4 < (v0.length:Int))))]) [(500000,bx 152 [L b8 v5,J v6,J v7]),(9,A 2 i64 v8 0)])<|cD H (fun H=>?_) (fun H=>?_)
  ·refine vK<|fQ<|vQ<|vB<|zB (Z [p 0 (R 500000),p 5 (AV.os 9 1),p 6 (I (v0.length:Int)),p 7 (I (1+v1.1)),p 8 (I v4)] [(9,A 2 i64 (v8++[v4]) 1),(39,A 2 i64 [v4] 0),(500000,bx 152 [L b8 v5,J v6,J v7])]) H fun H=>fK<|fQ<|zD (fun v9=>Z [p 0 (R 500000),p 5 (AV.os 9 1),p 6 (I (v0.length:Int)),p 7 (I (1+v1.1)),p 8 (I (v4+(1+v9.1)))] [(500000,K 152 y152 v9.2),(9,A 2 i64 (v8++[v4]) 1),(39,A 2 i64 [v4] 0)]) H fun v9 H=>b1 H
  exact vE<|fE<|e1<|fX rfl<|n0 H
 refine cD H (fun H=>?_) (fun H=>?_)
 ·refine qC (fun v20=>Z [p 4 (O 9)] ((500000,K 152 y152 v20.2)::W66 a1)) H fun v20 H=>vTT<|fR<|hr H
 refine vK<|fQ<|qD (fun(v21,v22)=>Z (G28 (v21.length:Int) []) ((20,A 48 y48 v21 0)::(500000,K 152 y152 v22.2)::W66 a1)) H fun w H=>?_
 obtain⟨v21,v22⟩:=w;refine qD (fun v23=>Z (G28 (v21.length:Int) [p 7 (I (1+v23.1))]) ((500000,K 152 y152 v23.2)::(20,A 48 y48 v21 0)::W66 a1)) H fun v23 H=>jN r (fun((v32,v33,v34,v35):List Int×Int×Int×List Int)=>Z (G28 (v21.length:Int) []) [(500000,bx 152 (Q63 v32 v33 v34)),(9,A 2 i64 v35 0)]) (u55J3 v21) (fun⟨v32,v33,v34,v35⟩ H=>?_) (fun _ n3 e3 t3=>?_)
 ·refine jN r (fun((v38,v39,v40,v41):List Int×List Int×Int×Int)=>Z [p 5 (O 9)] [(9,A 2 i64 v38 0),(500000,bx 152 (Q63 v39 v40 v41))]) (u55J5) (fun⟨v38,v39,v40,v41⟩ H=>?_) (fun _ n5 e5 t5=>?_)
  ·refine qA (Z [p 4 (O 9)] [(9,A 2 i64 v38 0),(500000,bx 152 (Q63 v39 v40 v41))])<|vTT<|hr H
  refine qD (fun v36=>Z (G28 (v21.length:Int) [p 43 (B (v36.1==0))]) [(500000,K 152 y152 v36.2),(9,A 2 i64 v35 0)]) H fun v36 H=>cD H (fun H=>?_) (fun H=>?_)
  ·refine zD (fun v37=>Z [p 5 (AV.os 9 1)] [(9,A 2 i64 (v35++[(v21.length:Int)*v37.1]) 1),(49,A 2 i64 [(v21.length:Int)*v37.1] 0),(500000,K 152 y152 v37.2)]) H fun v37 H=>n5 H
  exact vK<|n5 H
 refine qD (fun v24=>Z (G28 (v21.length:Int) [p 7 (I (1+v23.1)),p 8 (I v24.1)]) ((500000,K 152 y152 v24.2)::(20,A 48 y48 v21 0)::W66 a1)) H fun v24 H=>vB<|lX (fun((v26,v27,v28,v29,v30):Int×List Int×Int×Int×List Int)=>Z (G28 (v21.length:Int) [p 7 (I (1+v23.1)),p 8 (I v26)]) [(500000,bx 152 (Q63 v27 v28 v29)),(9,A 2 i64 v30 0)]) (v24.1,v24.2.1,v24.2.2.1,v24.2.2.2,[]) H fun _ g4 b4 e4 t4 ⟨v26,v27,v28,v29,v30⟩ H=>vQ<|qA (Z (G28 (v21.length:Int) [p 7 (I (1+v23.1)),p 8 (I v26),p 30 (B (decide (v26 < (v21.length:Int))))]) [(500000,bx 152 (Q63 v27 v28 v29)),(9,A 2 i64 v30 0)])<|cD H (fun H=>?_) (fun H=>?_)
 ·refine vK<|fQ<|vQ<|vB<|zB (Z [p 0 (R 500000),p 5 (AV.os 9 1),p 6 (I (v21.length:Int)),p 7 (I (1+v23.1)),p 8 (I v26)] [(9,A 2 i64 (v30++[v26]) 1),(39,A 2 i64 [v26] 0),(500000,bx 152 (Q63 v27 v28 v29))]) H fun H=>fK<|fQ<|zD (fun v31=>Z [p 0 (R 500000),p 5 (AV.os 9 1),p 6 (I (v21.length:Int)),p 7 (I (1+v23.1)),p 8 (I (v26+(1+v31.1)))] [(500000,K 152 y152 v31.2),(9,A 2 i64 (v30++[v26]) 1),(39,A 2 i64 [v26] 0)]) H fun v31 H=>b4 H
 exact vE<|fE<|e4<|fX rfl<|n3 H
def u64J0(a0:Y152):Int->Option (Int×Y152)
 | v1 =>
 gd ((u88 a0 16).isSome=true/\True)<|lt (vl (u88 a0 16)) fun v2 =>
 if(v2.1==0)=true then
  gd ((u88 v2.2 2).isSome=true/\ix (vl (u88 v2.2 2)).1 [-1,v1].length/\(vl (u88 v2.2 2)).1.toNat<[-1,v1].length/\True)<|lt (vl (u88 v2.2 2)) fun v3 =>
  some ([-1,v1].getD v3.1.toNat 0,v3.2)
 else
  gd ((u88 v2.2 v1).isSome=true/\True)<|lt (vl (u88 v2.2 v1)) fun v4 =>
  some v4
def u64(a0:Y152)(a1:Y34):Option (Int×Y152) :=
 gd ((u23 a1).isSome=true/\True) <|
 if(vl (u23 a1))=true then
  gd ((u61 a1).isSome=true/\True)<|lt (vl (u61 a1)) fun v0 =>
  u64J0 a0 v0
 else
  u64J0 a0 8
def k64:Ct:=lct 64 [.io 152 y152,.agg y34] (fun x=>u64 x.1 x.2.1) (fun r:Int×Y152=>I r.1) (fun r=>r.2)
theorem o64:Ok prog k64:=by
 refine okL [.tmp 4] func64 ntmps64 results64 ?_;intro y ⟨a0,a1,_⟩ r H Q hn hr;have:HT _ _:=⟨tc o88 (tc o61 (tc o23 tn))⟩;refine qA (Z (G80 []) (W41 a1 a0))<|qA (Z (G80 [p 5 (I 8)]) (W41 a1 a0))<|jN r (fun(v1:Int)=>Z [p 0 (R 500000),p 5 (I v1)] [(500000,K 152 y152 a0)]) (u64J0 a0) (fun v1 H=>?_) (fun _ n0 e0 t0=>?_)
 ·refine vQ<|qD (fun v2=>Z [p 0 (R 500000),p 5 (I v1),p 12 (B (v2.1==0))] [(500000,K 152 y152 v2.2)]) H fun v2 H=>cD H (fun H=>?_) (fun H=>?_)
  ·refine qD (fun v3=>Z [p 4 (I ([-1,v1].getD v3.1.toNat 0))] [(500000,K 152 y152 v3.2),(14,A 2 i64 [-1,v1] 0)]) H fun v3 H=>vTT<|fR<|hr H
  refine vK<|fQ<|qD (fun v4=>Z [p 4 (I v4.1)] [(500000,K 152 y152 v4.2)]) H fun v4 H=>vTT<|hr H
 refine qB (Z (G80 [p 5 (I 8),p 7 (B (vl (u23 a1)))]) (W41 a1 a0)) H fun H=>cD H (fun H=>?_) (fun H=>?_)
 ·refine zD (fun v0=>Z [p 0 (R 500000),p 5 (I v0)] (W41 a1 a0)) H fun v0 H=>n0 H
 exact vK<|n0 H
end Go.Proofs.YtphnknndgfgepaaGreatDoor
end
