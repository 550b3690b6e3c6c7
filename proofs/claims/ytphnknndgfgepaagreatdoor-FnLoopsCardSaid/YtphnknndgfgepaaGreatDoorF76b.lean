/- Functions of this program as plain functions of data, and that they are so: printed by program. -/
import Derived.Test.YtphnknndgfgepaaGreatDoorF76a
section
namespace Go.Proofs.YtphnknndgfgepaaGreatDoor
open Go Go.Proofs Go.Proofs.Sv Go.Proofs.Xv Go.Proofs.Xl Go.RowKit
open Tryz
def B0j:Unit->Option (Bool)
 | _ =>
 some true
def B0h(v9:List Int)(a0:Y34)(g4:Int->Option (Bool)):Int->Option (Bool)
 | v11 =>
 if(decide (v11 < (a0.2.2.length:Int)))=true then
  gd (ix v11 a0.2.2.length/\True)<|lt (a0.2.2.getD v11.toNat (d6 l6)) fun v12 =>
  gd (ix v11 v9.length/\v11.toNat<v9.length/\(A0p v12 (v9.getD v11.toNat 0)).isSome=true/\True) <|
  if(!vl (A0p v12 (v9.getD v11.toNat 0)))=true then
   some false
  else
   gd (l3 (v11+1)/\True) <|
   g4 (v11+1)
 else
  B0j ()
def t0C(a0:Y34):List Int->Option (Bool)
 | v9 =>
 lp (B0h v9 a0) 0
def t0B(v4:Int)(g1:Int×List Int->Option (Bool)):List Int->Option (Bool)
 | v8 =>
 gd (l3 (v4+1)/\True) <|
 g1 (v4+1,v8)
def B0i(v0:List B2)(a0:Y34)(g1:Int×List Int->Option (Bool)):Int×List Int->Option (Bool)
 | (v4,v5) =>
 if(decide (v4 < (v0.length:Int)))=true then
  gd (ix v4 v0.length/\v4.toNat<v0.length/\True)<|lt (v0.getD v4.toNat (d6 y105)) fun v6 =>
  if(!v6.2.2.2)=true then
   gd (ix v6.2.2.1 v5.length/\v6.2.2.1.toNat<v5.length/\l3 (v5.getD v6.2.2.1.toNat 0+1)/\ix v6.2.2.1 v5.length/\v6.2.2.1.toNat<v5.length/\True)<|lt (v5.set v6.2.2.1.toNat (v5.getD v6.2.2.1.toNat 0+1)) fun v7 =>
   t0B v4 g1 v7
  else
   t0B v4 g1 v5
 else
  t0C a0 v5
def u65(a0:Y34):Option (Bool) :=
 gd ((A0q a0.1 a0.2.1).isSome=true/\True) <|
 if(!vl (A0q a0.1 a0.2.1)||(a0.2.2.length:Int) != (a0.2.1.2.1.length:Int))=true then
  some false
 else
  gd ((0<=(a0.2.2.length:Int)/\(a0.2.2.length:Int)=(a0.2.2.length:Int)/\(a0.2.2.length:Int).toNat*8<=281474976710656/\(a0.2.2.length:Int)<=9223372036854775807)/\True) <|
  gd ((u68 a0.2.1).isSome=true/\True)<|lt (vl (u68 a0.2.1)) fun v0 =>
  lp (B0i v0 a0) ((0,List.replicate (a0.2.2.length:Int).toNat 0))
def k65:Ct:=lct 65 [.agg y34] (fun x=>u65 x.1) (fun r:Bool=>B r) (fun _=>())
theorem o65:Ok prog k65:=by
 refine okL [.tmp 2] func65 ntmps65 results65 ?_;intro y ⟨a0,_⟩ r H Q hn hr;have:HT _ _:=⟨tc I0K (tc o68 (tc I0L tn))⟩;refine qA (Z [p 1 (R 1)] [(1,K 34 y34 a0)])<|vQ<|qB (Z [p 1 (R 1),p 23 (B (!vl (A0q a0.1 a0.2.1)||(a0.2.2.length:Int) != (a0.2.1.2.1.length:Int)))] [(1,K 34 y34 a0)]) H fun H=>cD H (fun H=>?_) (fun H=>?_)
 ·refine qA (Z [p 2 (B false)] [(1,K 34 y34 a0)])<|vTT<|fR<|hr H
 refine vK<|fQ<|qB (Z [p 1 (R 1),p 3 (O 27)] (W88 (List.replicate (a0.2.2.length:Int).toNat 0) a0)) H fun H=>jN r (fun(v9:List Int)=>Z [p 1 (R 1),p 3 (O 27)] (W88 v9 a0)) (t0C a0) (fun v9 H=>?_) (fun _ n0 e0 t0=>?_)
 ·refine jN r (fun(_:Unit)=>Z [] []) (B0j) (fun _ H=>?_) (fun _ n3 e3 t3=>?_)
  ·refine qA (Z [p 2 (B true)] [])<|vTT<|hr H
  refine qA (Z [p 3 (O 27),p 48 (L l6 a0.2.2),p 49 (I (a0.2.2.length:Int)),p 50 (I 0)] (W88 v9 a0))<|vB<|lX (fun(v11:Int)=>Z [p 3 (O 27),p 48 (L l6 a0.2.2),p 49 (I (a0.2.2.length:Int)),p 50 (I v11)] [(27,A 2 i64 v9 0)]) 0 H fun _ g4 b4 e4 t4 v11 H=>qA (Z [p 3 (O 27),p 48 (L l6 a0.2.2),p 49 (I (a0.2.2.length:Int)),p 50 (I v11),p 51 (B (decide (v11 < (a0.2.2.length:Int))))] [(27,A 2 i64 v9 0)])<|vQ<|cD H (fun H=>?_) (fun H=>?_)
  ·refine vK<|fQ<|vQ<|vB<|qD (fun v12=>Z [p 3 (O 27),p 6 (I v11),p 7 (R 7),p 48 (L l6 a0.2.2),p 49 (I (a0.2.2.length:Int)),p 50 (I v11)] [(7,K 110 l6 v12),(27,A 2 i64 v9 0)]) H fun v12 H=>qB (Z [p 3 (O 27),p 48 (L l6 a0.2.2),p 49 (I (a0.2.2.length:Int)),p 50 (I v11),p 61 (B !vl (A0p v12 (v9.getD v11.toNat 0)))] [(7,K 110 l6 v12),(27,A 2 i64 v9 0)]) H fun H=>cD H (fun H=>?_) (fun H=>?_)
   ·refine qA (Z [p 2 (B false)] [(7,K 110 l6 v12),(27,A 2 i64 v9 0)])<|vTT<|fDD<|fR<|t4<|fDD<|t3<|hr H
   refine vK<|fK<|fQ<|zB (Z [p 3 (O 27),p 48 (L l6 a0.2.2),p 49 (I (a0.2.2.length:Int)),p 50 (I (v11+1))] [(7,K 110 l6 v12),(27,A 2 i64 v9 0)]) H fun H=>b4 H
  exact vE<|fE<|e4<|fX rfl<|n3 H
 refine qD (fun v0=>Z (G72 (v0.length:Int) [p 32 (I 0)]) ((30,A 105 y105 v0 0)::W88 (List.replicate (a0.2.2.length:Int).toNat 0) a0)) H fun v0 H=>vB<|lX (fun((v4,v5):Int×List Int)=>Z (G72 (v0.length:Int) [p 32 (I v4)]) ((30,A 105 y105 v0 0)::W88 v5 a0)) ((0,List.replicate (a0.2.2.length:Int).toNat 0)) H fun _ g1 b1 e1 t1 ⟨v4,v5⟩ H=>qA (Z (G72 (v0.length:Int) [p 32 (I v4),p 33 (B (decide (v4 < (v0.length:Int))))]) ((30,A 105 y105 v0 0)::W88 v5 a0))<|vQ<|cD H (fun H=>?_) (fun H=>?_)
 ·refine vK<|fQ<|jN r (fun(v8:List Int)=>Z (G72 (v0.length:Int) [p 32 (I v4)]) [(27,A 2 i64 v8 0),(30,A 105 y105 v0 0),(1,K 34 y34 a0)]) (t0B v4 g1) (fun v8 H=>?_) (fun _ n2 e2 t2=>?_)
  ·refine zB (Z (G72 (v0.length:Int) [p 32 (I (v4+1))]) [(27,A 2 i64 v8 0),(30,A 105 y105 v0 0),(1,K 34 y34 a0)]) H fun H=>b1 H
  refine vB<|qD (fun v6=>Z [p 1 (R 1),p 3 (O 27),p 5 (R 5),p 30 (O 30),p 31 (I (v0.length:Int)),p 32 (I v4)] ((5,bx 105 (u1 true y105 v6))::(30,A 105 y105 v0 0)::W88 v5 a0)) H fun v6 H=>qA (Z [p 1 (R 1),p 3 (O 27),p 5 (R 5),p 30 (O 30),p 31 (I (v0.length:Int)),p 32 (I v4),p 38 (B !v6.2.2.2)] ((5,bx 105 (u1 true y105 v6))::(30,A 105 y105 v0 0)::W88 v5 a0))<|cD H (fun H=>?_) (fun H=>?_)
  ·refine zD (fun v7=>Z (G72 (v0.length:Int) [p 32 (I v4)]) [(27,A 2 i64 v7 0),(5,bx 105 (u1 true y105 v6)),(30,A 105 y105 v0 0),(1,K 34 y34 a0)]) H fun v7 H=>fK<|n2 H
  exact vK<|fK<|n2 H
 exact vE<|fE<|e1<|fX rfl<|n0 H
def u56(a0:Y34)(a1:List Int):Option (Int ⊕ (y9×List Bool)×Int) :=
 gd ((u65 a0).isSome=true/\True) <|
 if(!vl (u65 a0))=true then
  some (Sum.inl 1)
 else
  gd ((u66 a0).isSome=true/\True)<|lt (vl (u66 a0)) fun v0 =>
  gd ((A0r v0 a1).isSome=true/\True) <|
  if(!vl (A0r v0 a1))=true then
   some (Sum.inl 2)
  else
   gd ((B0R v0 a1).isSome=true/\True)<|lt (vl (B0R v0 a1)) fun v1 =>
   some (Sum.inr (v1,(0:Int)))
def k56:Ct:=lct 56 [.agg y34,.dat i64.sl] (fun x=>u56 x.1 x.2.1) (two (fun r:Int=>AV.tup [AV.v (Value.pointer none),I r]) (fun r:(y9×List Bool)×Int=>AV.tup [AV.ob 127 [D y100.pt r.1.1,AV.ow 4 true Ty.bool r.1.2],I r.2])) (fun _=>())
def I0Z:Ct:=C0w 56 [.agg y34,.dat i64.sl] (fun x=>u56 x.1 x.2.1) (fun r:Int=>AV.tup [AV.v (Value.pointer none),I r]) ()
def I0Y:Ct:=C0v 56 [.agg y34,.dat i64.sl] (fun x=>u56 x.1 x.2.1) (fun r:(y9×List Bool)×Int=>AV.tup [AV.ob 127 [D y100.pt r.1.1,AV.ow 4 true Ty.bool r.1.2],I r.2]) ()
theorem o56:Ok prog k56:=by
 refine okL [.tmp 4,.tmp 5] func56 ntmps56 results56 ?_;intro y ⟨a0,a1,_⟩ r H Q hn hr;have:HT _ _:=⟨tc I0S (tc I0T (tc o66 (tc o65 tn)))⟩;refine qA (Z [p 1 (L i64 a1),p 2 (R 2)] [(2,K 34 y34 a0)])<|vQ<|qB (Z [p 1 (L i64 a1),p 2 (R 2),p 9 (B !vl (u65 a0))] [(2,K 34 y34 a0)]) H fun H=>cD H (fun H=>?_) (fun H=>?_)
 ·refine qA (Z [p 4 (AV.v (Value.pointer none)),p 5 (I 1)] [(2,K 34 y34 a0)])<|vTT<|fR<|hr H
 refine vK<|fQ<|qD (fun v0=>Z [p 1 (L i64 a1),p 6 (D y100.pt v0)] [(2,K 34 y34 a0)]) H fun v0 H=>vQ<|qB (Z [p 1 (L i64 a1),p 6 (D y100.pt v0),p 15 (B !vl (A0r v0 a1))] [(2,K 34 y34 a0)]) H fun H=>cD H (fun H=>?_) (fun H=>?_)
 ·refine qA (Z [p 4 (AV.v (Value.pointer none)),p 5 (I 2)] [(2,K 34 y34 a0)])<|vTT<|fR<|hr H
 refine vK<|fQ<|qD (fun v1=>Z [p 4 (R 1018),p 5 (I 0)] [(1018,bx 127 [D y100.pt v1.1,AV.os 18 0]),(18,A 4 Ty.bool v1.2 0),(2,K 34 y34 a0)]) H fun v1 H=>vTT<|hr H
theorem F0E:Ok prog I0Z:=E0v o56
theorem F0D:Ok prog I0Y:=E0t o56
def x0p:Unit->Option (Bool)
 | _ =>
 some false
def x0o(a0:List Int)(a1:Int)(g1:Int->Option (Bool)):Int->Option (Bool)
 | v0 =>
 if(decide (v0 < (a0.length:Int)))=true then
  gd (ix v0 a0.length/\True) <|
  if(a0.getD v0.toNat 0==a1)=true then
   some true
  else
   gd (l3 (v0+1)/\True) <|
   g1 (v0+1)
 else
  x0p ()
def t0l(a0:List Int)(a1:Int):Option (Bool) :=
 lp (x0o a0 a1) 0
def K0D:Ct:=lct 125 [.dat i64.sl,.dat i64] (fun x=>t0l x.1 x.2.1) (fun r:Bool=>B r) (fun _=>())
theorem I0M:Ok prog K0D:=by
 refine okL [.tmp 4] func125 ntmps125 results125 ?_;intro y ⟨a0,a1,_⟩ r H Q hn hr;have:HT _ _:=⟨@tn prog⟩;refine qA (Z (G59 a0 a1 []) [])<|jN r (fun(_:Unit)=>Z [] []) (x0p) (fun _ H=>?_) (fun _ n0 e0 t0=>?_)
 ·refine qA (Z [p 4 (B false)] [])<|vTT<|hr H
 refine qA (Z (G59 a0 a1 [p 5 (I 0)]) [])<|vB<|lX (fun(v0:Int)=>Z (G59 a0 a1 [p 5 (I v0)]) []) 0 H fun _ g1 b1 e1 t1 v0 H=>vQ<|qA (Z (G59 a0 a1 [p 5 (I v0),p 9 (B (decide (v0 < (a0.length:Int))))]) [])<|cD H (fun H=>?_) (fun H=>?_)
 ·refine vK<|fQ<|vQ<|vB<|qB (Z (G59 a0 a1 [p 5 (I v0),p 17 (B (a0.getD v0.toNat 0==a1))]) []) H fun H=>cD H (fun H=>?_) (fun H=>?_)
  ·refine qA (Z [p 4 (B true)] [])<|vTT<|fDD<|fR<|t1<|fDD<|t0<|hr H
  refine vK<|fK<|fQ<|zB (Z (G59 a0 a1 [p 5 (I (v0+1))]) []) H fun H=>b1 H
 exact vE<|fE<|e1<|fX rfl<|n0 H
def B0l:List Bool->Option (List Bool)
 | v2 =>
 some v2
def B0k(a1:List Int)(a0:List Y48)(g1:Int×List Bool->Option (List Bool)):Int×List Bool->Option (List Bool)
 | (v0,v1) =>
 if(decide (v0 < (a0.length:Int)))=true then
  gd ((t0l a1 v0).isSome=true/\(v1.length+[!vl (t0l a1 v0)].length<=9223372036854775807/\(v1.length+[!vl (t0l a1 v0)].length)*1<=140737488355328)/\True) <|
  gd (l3 (v0+1)/\True) <|
  g1 ((v0+1,v1++[!vl (t0l a1 v0)]))
 else
  B0l v1
def u62(a0:List Y48)(a1:List Int):Option (List Bool) :=
 lp (B0k a1 a0) (0,[])
def k62:Ct:=lct 62 [.dat y48.sl,.dat i64.sl] (fun x=>u62 x.1 x.2.1) (fun r:List Bool=>AV.ow 4 true Ty.bool r) (fun _=>())
theorem o62:Ok prog k62:=by
 refine okL [.tmp 4] func62 ntmps62 results62 ?_;intro y ⟨a0,a1,_⟩ r H Q hn hr;have:HT _ _:=⟨tc I0M tn⟩;refine qA (Z [p 0 (L y48 a0),p 1 (L i64 a1)] [])<|qA (Z [p 0 (L y48 a0),p 1 (L i64 a1),p 5 (O 7)] [(7,A 4 Ty.bool [] 0)])<|jN r (fun(v2:List Bool)=>Z [p 5 (O 7)] [(7,A 4 Ty.bool v2 0)]) (B0l) (fun v2 H=>?_) (fun _ n0 e0 t0=>?_)
 ·refine qA (Z [p 4 (O 7)] [(7,A 4 Ty.bool v2 0)])<|vTT<|hr H
 refine qA (Z [p 0 (L y48 a0),p 1 (L i64 a1),p 5 (O 7),p 6 (I 0)] [(7,A 4 Ty.bool [] 0)])<|vB<|lX (fun((v0,v1):Int×List Bool)=>Z [p 0 (L y48 a0),p 1 (L i64 a1),p 5 (O 7),p 6 (I v0)] [(7,A 4 Ty.bool v1 0)]) (0,[]) H fun _ g1 b1 e1 t1 ⟨v0,v1⟩ H=>vQ<|qA (Z [p 0 (L y48 a0),p 1 (L i64 a1),p 5 (O 7),p 6 (I v0),p 11 (B (decide (v0 < (a0.length:Int))))] [(7,A 4 Ty.bool v1 0)])<|cD H (fun H=>?_) (fun H=>?_)
 ·refine vK<|fQ<|vQ<|vB<|zB (Z [p 0 (L y48 a0),p 1 (L i64 a1),p 5 (AV.os 7 1),p 6 (I v0)] [(7,A 4 Ty.bool (v1++[!vl (t0l a1 v0)]) 1),(19,A 4 Ty.bool [!vl (t0l a1 v0)] 0)]) H fun H=>fK<|fQ<|zB (Z [p 0 (L y48 a0),p 1 (L i64 a1),p 5 (AV.os 7 1),p 6 (I (v0+1))] [(7,A 4 Ty.bool (v1++[!vl (t0l a1 v0)]) 1),(19,A 4 Ty.bool [!vl (t0l a1 v0)] 0)]) H fun H=>b1 H
 exact vE<|fE<|e1<|fX rfl<|n0 H
def x0q:List C6->Option (List C6)
 | v25 =>
 some v25
def q0X(a0:Y31)(g5:Int×List C6->Option (List C6)):Int×List C6->Option (List C6)
 | (v21,v22) =>
 if(decide (v21 < (a0.2.2.length:Int)))=true then
  gd (ix v21 a0.2.2.length/\ix v21 a0.2.2.length/\(v22.length+[(-1,v21,(a0.2.2.getD v21.toNat (d6 y175)).2.2,(a0.2.2.getD v21.toNat (d6 y175)).2.1==1)].length<=9223372036854775807/\(v22.length+[(-1,v21,(a0.2.2.getD v21.toNat (d6 y175)).2.2,(a0.2.2.getD v21.toNat (d6 y175)).2.1==1)].length)*32<=140737488355328)/\True)<|lt ((v22++[(-1,v21,(a0.2.2.getD v21.toNat (d6 y175)).2.2,(a0.2.2.getD v21.toNat (d6 y175)).2.1==1)],[(-1,v21,(a0.2.2.getD v21.toNat (d6 y175)).2.2,(a0.2.2.getD v21.toNat (d6 y175)).2.1==1)])) fun(v23,_v24) =>
  gd (l3 (v21+1)/\True) <|
  g5 (v21+1,v23)
 else
  x0q v22
def i0x(a0:Y31):List C6->Option (List C6)
 | v18 =>
 lp (q0X a0) (0,v18)
def n0w(v8:Int)(g1:Int×List C6->Option (List C6)):List C6->Option (List C6)
 | v17 =>
 gd (l3 (v8+1)/\True) <|
 g1 (v8+1,v17)
def q0Y(v8:Int)(v10:m7)(g1:Int×List C6->Option (List C6))(g3:Int×List C6->Option (List C6)):Int×List C6->Option (List C6)
 | (v13,v14) =>
 if(decide (v13 < (v10.2.2.length:Int)))=true then
  gd (ix v13 v10.2.2.length/\l3 ((v10.2.2.length:Int)-1)/\(v14.length+[(v8,v13,v10.2.2.getD v13.toNat 0,v13==(v10.2.2.length:Int)-1)].length<=9223372036854775807/\(v14.length+[(v8,v13,v10.2.2.getD v13.toNat 0,v13==(v10.2.2.length:Int)-1)].length)*32<=140737488355328)/\True)<|lt ((v14++[(v8,v13,v10.2.2.getD v13.toNat 0,v13==(v10.2.2.length:Int)-1)],[(v8,v13,v10.2.2.getD v13.toNat 0,v13==(v10.2.2.length:Int)-1)])) fun(v15,_v16) =>
  gd (l3 (v13+1)/\True) <|
  g3 (v13+1,v15)
 else
  n0w v8 g1 v14
def q0Z(a0:Y31)(g1:Int×List C6->Option (List C6)):Int×List C6->Option (List C6)
 | (v8,v9) =>
 if(decide (v8 < (a0.1.length:Int)))=true then
  gd (ix v8 a0.1.length/\True)<|lt (a0.1.getD v8.toNat (d6 y165)) fun v10 =>
  lp (q0Y v8 v10 g1) (0,v9)
 else
  i0x a0 v9
def V5(a0:Y31):Option (List C6) :=
 lp (q0Z a0) (0,[])
def K0E:Ct:=lct 124 [.agg y31] (fun x=>V5 x.1) (fun r:List C6=>AV.ow 179 true x8 r) (fun _=>())
theorem D0J:Ok prog K0E:=by
 refine okL [.tmp 2] func124 ntmps124 results124 ?_;intro y ⟨a0,_⟩ r H Q hn hr;have:HT _ _:=⟨@tn prog⟩;refine qA (Z [p 1 (R 1)] [(1,K 31 y31 a0)])<|qA (Z (G64 []) [(8,A 179 x8 [] 0),(1,K 31 y31 a0)])<|jN r (fun(v18:List C6)=>Z (G64 []) (W48 v18 a0)) (i0x a0) (fun v18 H=>?_) (fun _ n0 e0 t0=>?_)
 ·refine jN r (fun(v25:List C6)=>Z [p 3 (O 8)] [(8,A 179 x8 v25 0)]) (x0q) (fun v25 H=>?_) (fun _ n4 e4 t4=>?_)
  ·refine qA (Z [p 2 (O 8)] [(8,A 179 x8 v25 0)])<|vTT<|hr H
  refine qA (Z (G64 [p 7 (I 0)]) (W48 v18 a0))<|vB<|lX (fun((v21,v22):Int×List C6)=>Z (G64 [p 7 (I v21)]) (W48 v22 a0)) (0,v18) H fun _ g5 b5 e5 t5 ⟨v21,v22⟩ H=>vQ<|qA (Z (G64 [p 7 (I v21),p 47 (B (decide (v21 < (a0.2.2.length:Int))))]) (W48 v22 a0))<|cD H (fun H=>?_) (fun H=>?_)
  ·refine vK<|fQ<|vQ<|vB<|zD (fun(v23,v24)=>Z [p 1 (R 1),p 3 (AV.os 8 1),p 7 (I v21)] [(8,A 179 x8 v23 1),(66,A 179 x8 v24 0),(1,K 31 y31 a0)]) H fun⟨v23,v24⟩ H =>
    fK<|fQ <|
    zB (Z [p 1 (R 1),p 3 (AV.os 8 1),p 7 (I (v21+1))] [(8,A 179 x8 v23 1),(66,A 179 x8 v24 0),(1,K 31 y31 a0)]) H fun H =>
    b5 H
  exact vE<|fE<|e5<|fX rfl<|n4 H
 refine qA (Z (G64 [p 4 (I 0)]) [(8,A 179 x8 [] 0),(1,K 31 y31 a0)])<|vB<|lX (fun((v8,v9):Int×List C6)=>Z (G64 [p 4 (I v8)]) (W48 v9 a0)) (0,[]) H fun _ g1 b1 e1 t1 ⟨v8,v9⟩ H=>vQ<|qA (Z (G64 [p 4 (I v8),p 13 (B (decide (v8 < (a0.1.length:Int))))]) (W48 v9 a0))<|cD H (fun H=>?_) (fun H=>?_)
 ·refine vK<|fQ<|jN r (fun(v17:List C6)=>Z (G64 [p 4 (I v8)]) (W48 v17 a0)) (n0w v8 g1) (fun v17 H=>?_) (fun _ n2 e2 t2=>?_)
  ·refine zB (Z (G64 [p 4 (I (v8+1))]) (W48 v17 a0)) H fun H=>b1 H
  refine vB<|qD (fun v10=>Z (G64 [p 4 (I v8),p 5 (L i64 v10.2.2)]) (W48 v9 a0)) H fun v10 H=>qA (Z (G64 [p 4 (I v8),p 5 (L i64 v10.2.2),p 6 (I 0)]) (W48 v9 a0))<|vB<|lX (fun((v13,v14):Int×List C6)=>Z (G64 [p 4 (I v8),p 5 (L i64 v10.2.2),p 6 (I v13)]) (W48 v14 a0)) (0,v9) H fun _ g3 b3 e3 t3 ⟨v13,v14⟩ H=>vQ<|qA (Z (G64 [p 4 (I v8),p 5 (L i64 v10.2.2),p 6 (I v13),p 25 (B (decide (v13 < (v10.2.2.length:Int))))]) (W48 v14 a0))<|cD H (fun H=>?_) (fun H=>?_)
  ·refine vK<|fQ<|vQ<|vB<|zD (fun(v15,v16)=>Z [p 1 (R 1),p 3 (AV.os 8 1),p 4 (I v8),p 5 (L i64 v10.2.2),p 6 (I v13)] [(8,A 179 x8 v15 1),(41,A 179 x8 v16 0),(1,K 31 y31 a0)]) H fun⟨v15,v16⟩ H =>
    fK<|fQ <|
    zB (Z [p 1 (R 1),p 3 (AV.os 8 1),p 4 (I v8),p 5 (L i64 v10.2.2),p 6 (I (v13+1))] [(8,A 179 x8 v15 1),(41,A 179 x8 v16 0),(1,K 31 y31 a0)]) H fun H =>
    b3 H
  exact vE<|fE<|e3<|fX rfl<|fK<|n2 H
 exact vE<|fE<|e1<|fX rfl<|n0 H
def u61(a0:Y34):Option (Int) :=
 gd ((V5 a0.2.1).isSome=true/\l3 (2*(↑(vl (V5 a0.2.1)).length:Int))/\True)<|lt (vl (V5 a0.2.1)) fun v0 =>
 some (2*(v0.length:Int))
def k61:Ct:=lct 61 [.agg y34] (fun x=>u61 x.1) (fun r:Int=>I r) (fun _=>())
theorem o61:Ok prog k61:=by
 refine okL [.tmp 2] func61 ntmps61 results61 ?_;intro y ⟨a0,_⟩ r H Q hn hr;have:HT _ _:=⟨tc D0J tn⟩;refine qA (Z [p 1 (R 1)] [(1,K 34 y34 a0)])<|qD (fun v0=>Z [p 2 (I (2*(v0.length:Int)))] [(5,A 179 x8 v0 0),(1,K 34 y34 a0)]) H fun v0 H=>vTT<|hr H
def x0r(a0:List Y48)(a1:Int)(a2:Int)(a3:Int)(a4:Int)(a5:Int)(a6:Int):Option (List Y48) :=
 gd (l3 (2*a1)/\l3 (2*a1+a3)/\l3 (2*a2)/\l3 (2*a2+a4)/\(a0.length+[(2*a1+a3,2*a2+a4,a5,a6)].length<=9223372036854775807/\(a0.length+[(2*a1+a3,2*a2+a4,a5,a6)].length)*32<=140737488355328)/\True) <|
 some (a0++[(2*a1+a3,2*a2+a4,a5,a6)])
def K0F:Ct:=lct 123 [.os 48 y48,.dat i64,.dat i64,.dat i64,.dat i64,.dat i64,.dat i64] (fun x=>x0r x.1 x.2.1 x.2.2.1 x.2.2.2.1 x.2.2.2.2.1 x.2.2.2.2.2.1 x.2.2.2.2.2.2.1) (fun r:List Y48=>AV.ow 48 true y48 r) (fun _=>())
theorem F0O:Ok prog K0F:=by
 refine okL [.tmp 14] func123 ntmps123 results123 ?_;intro y ⟨a0,a1,a2,a3,a4,a5,a6,_⟩ r H Q hn hr;have:HT _ _:=⟨@tn prog⟩;refine qA (Z [p 0 (O 500000),p 1 (J a1),p 2 (J a2),p 3 (J a3),p 4 (J a4),p 5 (J a5),p 6 (J a6)] [(500000,A 48 y48 a0 0)])<|qB (Z [p 14 (AV.os 500000 1)] [(500000,A 48 y48 (a0++[(2*a1+a3,2*a2+a4,a5,a6)]) 1),(27,A 48 y48 [(2*a1+a3,2*a2+a4,a5,a6)] 0)]) H fun H=>vTT<|hr H
def A0T:List Int->Option (List Int)
 | v5 =>
 some v5
def o0Y(v2:Int)(g1:Int×List Int->Option (List Int)):List Int->Option (List Int)
 | v4 =>
 gd (l3 (v2+1)/\True) <|
 g1 (v2+1,v4)
def y0p(v0:List C6)(a1:Int)(g1:Int×List Int->Option (List Int)):Int×List Int->Option (List Int)
 | (v2,v3) =>
 if(decide (v2 < (v0.length:Int)))=true then
  gd (ix v2 v0.length/\v2.toNat<v0.length/\(((v0.getD v2.toNat (d6 x8)).2.2.1==a1)=true/\True->ix v2 v0.length)/\(((v0.getD v2.toNat (d6 x8)).2.2.1==a1)=true/\True->v2.toNat<v0.length)/\True) <|
  if((v0.getD v2.toNat (d6 x8)).2.2.1==a1&&!(v0.getD v2.toNat (d6 x8)).2.2.2)=true then
   gd ((v3.length+[v2].length<=9223372036854775807/\(v3.length+[v2].length)*8<=140737488355328)/\True) <|
   o0Y v2 g1 (v3++[v2])
  else
   o0Y v2 g1 v3
 else
  A0T v3
def u71(a0:Y31)(a1:Int):Option (List Int) :=
 gd ((V5 a0).isSome=true/\True)<|lt (vl (V5 a0)) fun v0 =>
 lp (y0p v0 a1) (0,[])
def k71:Ct:=lct 71 [.agg y31,.dat i64] (fun x=>u71 x.1 x.2.1) (fun r:List Int=>AV.ow 2 true i64 r) (fun _=>())
theorem o71:Ok prog k71:=by
 refine okL [.tmp 4] func71 ntmps71 results71 ?_;intro y ⟨a0,a1,_⟩ r H Q hn hr;have:HT _ _:=⟨tc D0J tn⟩;refine qA (Z (G33 a1 []) [(2,K 31 y31 a0)])<|qA (Z (G33 a1 [p 5 (O 8)]) [(8,A 2 i64 [] 0),(2,K 31 y31 a0)])<|qD (fun v0=>Z (G90 a1 [p 6 (O 10)]) [(10,A 179 x8 v0 0),(8,A 2 i64 [] 0),(2,K 31 y31 a0)]) H fun v0 H=>jN r (fun(v5:List Int)=>Z [p 5 (O 8)] [(8,A 2 i64 v5 0)]) (A0T) (fun v5 H=>?_) (fun _ n0 e0 t0=>?_)
 ·refine qA (Z [p 4 (O 8)] [(8,A 2 i64 v5 0)])<|vTT<|hr H
 refine qA (Z (G90 a1 [p 6 (O 10),p 7 (I 0)]) [(10,A 179 x8 v0 0),(8,A 2 i64 [] 0),(2,K 31 y31 a0)])<|vB<|lX (fun((v2,v3):Int×List Int)=>Z (G90 a1 [p 6 (O 10),p 7 (I v2)]) [(10,A 179 x8 v0 0),(8,A 2 i64 v3 0)]) (0,[]) H fun _ g1 b1 e1 t1 ⟨v2,v3⟩ H=>vQ<|qA (Z (G90 a1 [p 6 (O 10),p 7 (I v2),p 14 (B (decide (v2 < (v0.length:Int))))]) [(10,A 179 x8 v0 0),(8,A 2 i64 v3 0)])<|cD H (fun H=>?_) (fun H=>?_)
 ·refine vK<|fQ<|jN r (fun(v4:List Int)=>Z (G90 a1 [p 6 (O 10),p 7 (I v2)]) [(8,A 2 i64 v4 0),(10,A 179 x8 v0 0)]) (o0Y v2 g1) (fun v4 H=>?_) (fun _ n2 e2 t2=>?_)
  ·refine zB (Z (G90 a1 [p 6 (O 10),p 7 (I (v2+1))]) [(8,A 2 i64 v4 0),(10,A 179 x8 v0 0)]) H fun H=>b1 H
  refine vB<|qB (Z (G90 a1 [p 6 (O 10),p 7 (I v2),p 31 (B ((v0.getD v2.toNat (d6 x8)).2.2.1==a1&&!(v0.getD v2.toNat (d6 x8)).2.2.2))]) [(10,A 179 x8 v0 0),(8,A 2 i64 v3 0)]) H fun H=>cD H (fun H=>?_) (fun H=>?_)
  ·refine zB (Z [p 1 (J a1),p 5 (AV.os 8 1),p 6 (O 10),p 7 (I v2)] [(8,A 2 i64 (v3++[v2]) 1),(34,A 2 i64 [v2] 0),(10,A 179 x8 v0 0)]) H fun H=>fK<|n2 H
  exact vK<|fK<|n2 H
 exact vE<|fE<|e1<|fX rfl<|n0 H
def x0t:Unit->Option (Int)
 | _ =>
 some (-1)
def x0s(v0:List C6)(a1:Int)(g1:Int->Option (Int)):Int->Option (Int)
 | v1 =>
 if(decide (v1 < (v0.length:Int)))=true then
  gd (ix v1 v0.length/\v1.toNat<v0.length/\(((v0.getD v1.toNat (d6 x8)).2.2.1==a1)=true/\True->ix v1 v0.length)/\(((v0.getD v1.toNat (d6 x8)).2.2.1==a1)=true/\True->v1.toNat<v0.length)/\True) <|
  if((v0.getD v1.toNat (d6 x8)).2.2.1==a1&&(v0.getD v1.toNat (d6 x8)).2.2.2)=true then
   some v1
  else
   gd (l3 (v1+1)/\True) <|
   g1 (v1+1)
 else
  x0t ()
def B0P(a0:Y31)(a1:Int):Option (Int) :=
 gd ((V5 a0).isSome=true/\True)<|lt (vl (V5 a0)) fun v0 =>
 lp (x0s v0 a1) 0
def K0G:Ct:=lct 122 [.agg y31,.dat i64] (fun x=>B0P x.1 x.2.1) (fun r:Int=>I r) (fun _=>())
theorem I0N:Ok prog K0G:=by
 refine okL [.tmp 4] func122 ntmps122 results122 ?_;intro y ⟨a0,a1,_⟩ r H Q hn hr;have:HT _ _:=⟨tc D0J tn⟩;refine qA (Z (G33 a1 []) [(2,K 31 y31 a0)])<|qD (fun v0=>Z (G90 a1 []) [(8,A 179 x8 v0 0),(2,K 31 y31 a0)]) H fun v0 H=>jN r (fun(_:Unit)=>Z [] []) (x0t) (fun _ H=>?_) (fun _ n0 e0 t0=>?_)
 ·refine qA (Z [p 4 (I (-1))] [])<|vTT<|hr H
 refine qA (Z (G90 a1 [p 6 (I 0)]) [(8,A 179 x8 v0 0),(2,K 31 y31 a0)])<|vB<|lX (fun(v1:Int)=>Z (G90 a1 [p 6 (I v1)]) [(8,A 179 x8 v0 0)]) 0 H fun _ g1 b1 e1 t1 v1 H=>vQ<|qA (Z (G90 a1 [p 6 (I v1),p 12 (B (decide (v1 < (v0.length:Int))))]) [(8,A 179 x8 v0 0)])<|cD H (fun H=>?_) (fun H=>?_)
 ·refine vK<|fQ<|vQ<|vB<|qB (Z (G90 a1 [p 6 (I v1),p 28 (B ((v0.getD v1.toNat (d6 x8)).2.2.1==a1&&(v0.getD v1.toNat (d6 x8)).2.2.2))]) [(8,A 179 x8 v0 0)]) H fun H=>cD H (fun H=>?_) (fun H=>?_)
  ·refine qA (Z [p 4 (I v1)] [(8,A 179 x8 v0 0)])<|vTT<|fDD<|fR<|t1<|fDD<|t0<|hr H
  refine vK<|fK<|fQ<|zB (Z (G90 a1 [p 6 (I (v1+1))]) [(8,A 179 x8 v0 0)]) H fun H=>b1 H
 exact vE<|fE<|e1<|fX rfl<|n0 H
def x0w:List Y48->Option (List Y48)
 | v20 =>
 some v20
def r0a(v9:Int)(g1:Int×List Y48->Option (List Y48)):List Y48->Option (List Y48)
 | v19 =>
 gd (l3 (v9+1)/\True) <|
 g1 (v9+1,v19)
def n0A(v14:Int)(g3:Int×List Y48->Option (List Y48)):List Y48->Option (List Y48)
 | v18 =>
 gd (l3 (v14+1)/\True) <|
 g3 (v14+1,v18)
def f0Z(v14:Int)(v15:List Y48)(a2:Int)(a3:Int)(v9:Int)(a4:Int)(g3:Int×List Y48->Option (List Y48)):Bool->Option (List Y48)
 | v16 =>
 if v16=true then
  gd ((x0r v15 a2 a3 v9 v14 1 a4).isSome=true/\True)<|lt (vl (x0r v15 a2 a3 v9 v14 1 a4)) fun v17 =>
  n0A v14 g3 v17
 else
  n0A v14 g3 v15
def n0y(a2:Int)(a3:Int)(v9:Int)(a4:Int)(a1:A5)(g1:Int×List Y48->Option (List Y48))(g3:Int×List Y48->Option (List Y48)):Int×List Y48->Option (List Y48)
 | (v14,v15) =>
 if(decide (v14<=1))=true then
  if(a1.1==1)=true then
   f0Z v14 v15 a2 a3 v9 a4 g3 (a1.2.2.2.1==3||(a1.2.2.2.1==1)==(v9==v14))
  else
   if(a1.1==2)=true then
    f0Z v14 v15 a2 a3 v9 a4 g3 (v9==0)
   else
    if(a1.1==3)=true then
     f0Z v14 v15 a2 a3 v9 a4 g3 (v9==1)
    else
     f0Z v14 v15 a2 a3 v9 a4 g3 false
 else
  r0a v9 g1 v15
def n0z(a2:Int)(a3:Int)(a4:Int)(a1:A5)(g1:Int×List Y48->Option (List Y48)):Int×List Y48->Option (List Y48)
 | (v9,v10) =>
 if(decide (v9<=1))=true then
  lp (n0y a2 a3 v9 a4 a1 g1) (0,v10)
 else
  x0w v10
def y0G(a0:List Y48)(a1:A5)(a2:Int)(a3:Int)(a4:Int):Option (List Y48) :=
 lp (n0z a2 a3 a4 a1) (0,a0)
def K0I:Ct:=lct 120 [.os 48 y48,.agg y143,.dat i64,.dat i64,.dat i64] (fun x=>y0G x.1 x.2.1 x.2.2.1 x.2.2.2.1 x.2.2.2.2.1) (fun r:List Y48=>AV.ow 48 true y48 r) (fun _=>())
theorem I0P:Ok prog K0I:=by
 refine okL [.tmp 10] func120 ntmps120 results120 ?_;intro y ⟨a0,a1,a2,a3,a4,_⟩ r H Q hn hr;have:HT _ _:=⟨tc F0O tn⟩;refine qA (Z [p 0 (O 500000),p 2 (J a2),p 3 (J a3),p 4 (J a4),p 6 (R 6)] (W23 a1 a0))<|jN r (fun(v20:List Y48)=>Z [p 0 (O 500000)] [(500000,A 48 y48 v20 0)]) (x0w) (fun v20 H=>?_) (fun _ n0 e0 t0=>?_)
 ·refine qA (Z [p 10 (O 500000)] [(500000,A 48 y48 v20 0)])<|vTT<|hr H
 refine qA (Z [p 0 (O 500000),p 2 (J a2),p 3 (J a3),p 4 (J a4),p 6 (R 6),p 11 (I 0)] (W23 a1 a0))<|vB<|lX (fun((v9,v10):Int×List Y48)=>Z (G10 a2 a3 a4 v9 []) (W23 a1 v10)) (0,a0) H fun _ g1 b1 e1 t1 ⟨v9,v10⟩ H=>vQ<|qA (Z (G10 a2 a3 a4 v9 [p 15 (B (decide (v9<=1)))]) (W23 a1 v10))<|cD H (fun H=>?_) (fun H=>?_)
 ·refine vK<|fQ<|jN r (fun(v19:List Y48)=>Z (G10 a2 a3 a4 v9 []) (W23 a1 v19)) (r0a v9 g1) (fun v19 H=>?_) (fun _ n2 e2 t2=>?_)
  ·refine zB (Z (G10 a2 a3 a4 (v9+1) []) (W23 a1 v19)) H fun H=>b1 H
  refine vB<|qA (Z (G10 a2 a3 a4 v9 [p 12 (I 0)]) (W23 a1 v10))<|vB<|lX (fun((v14,v15):Int×List Y48)=>Z (G10 a2 a3 a4 v9 [p 12 (I v14)]) (W23 a1 v15)) (0,v10) H fun _ g3 b3 e3 t3 ⟨v14,v15⟩ H=>vQ<|qA (Z (G10 a2 a3 a4 v9 [p 12 (I v14),p 19 (B (decide (v14<=1)))]) (W23 a1 v15))<|cD H (fun H=>?_) (fun H=>?_)
  ·refine vK<|fQ<|jN r (fun(v18:List Y48)=>Z (G10 a2 a3 a4 v9 [p 12 (I v14)]) [(500000,A 48 y48 v18 0),(6,K 143 y143 a1)]) (n0A v14 g3) (fun v18 H=>?_) (fun _ n4 e4 t4=>?_)
   ·refine zB (Z (G10 a2 a3 a4 v9 [p 12 (I (v14+1))]) [(500000,A 48 y48 v18 0),(6,K 143 y143 a1)]) H fun H=>b3 H
   refine vB<|qA (Z (G10 a2 a3 a4 v9 [p 12 (I v14),p 13 (B false)]) (W23 a1 v15))<|jN r (fun(v16:Bool)=>Z (G10 a2 a3 a4 v9 [p 12 (I v14),p 13 (B v16)]) (W23 a1 v15)) (f0Z v14 v15 a2 a3 v9 a4 g3) (fun v16 H=>?_) (fun _ n5 e5 t5=>?_)
   ·refine qA (Z (G10 a2 a3 a4 v9 [p 12 (I v14),p 46 (B v16)]) (W23 a1 v15))<|cD H (fun H=>?_) (fun H=>?_)
    ·refine zD (fun v17=>Z [p 0 (AV.os 500000 1),p 2 (J a2),p 3 (J a3),p 4 (J a4),p 6 (R 6),p 11 (I v9),p 12 (I v14)] [(500000,A 48 y48 v17 1),(6,K 143 y143 a1)]) H fun v17 H=>fK<|n4 H
    exact vK<|fK<|n4 H
   refine qA (Z (G10 a2 a3 a4 v9 [p 12 (I v14),p 13 (B false),p 23 (J a1.1)]) (W23 a1 v15))<|vB<|qA (Z (G10 a2 a3 a4 v9 [p 12 (I v14),p 13 (B false),p 23 (J a1.1),p 24 (B (a1.1==1))]) (W23 a1 v15))<|cD H (fun H=>?_) (fun H=>?_)
   ·refine zA (Z (G10 a2 a3 a4 v9 [p 12 (I v14),p 13 (B (a1.2.2.2.1==3||(a1.2.2.2.1==1)==(v9==v14)))]) (W23 a1 v15))<|fK<|n5 H
   refine qA (Z (G10 a2 a3 a4 v9 [p 12 (I v14),p 13 (B false),p 23 (J a1.1),p 38 (B (a1.1==2))]) (W23 a1 v15))<|cD H (fun H=>?_) (fun H=>?_)
   ·refine zA (Z (G10 a2 a3 a4 v9 [p 12 (I v14),p 13 (B (v9==0))]) (W23 a1 v15))<|fK<|n5 H
   refine qA (Z (G10 a2 a3 a4 v9 [p 12 (I v14),p 13 (B false),p 42 (B (a1.1==3))]) (W23 a1 v15))<|cD H (fun H=>?_) (fun H=>?_)
   ·refine zA (Z (G10 a2 a3 a4 v9 [p 12 (I v14),p 13 (B (v9==1))]) (W23 a1 v15))<|fK<|n5 H
   exact vK<|fK<|n5 H
  exact vE<|fE<|e3<|fX rfl<|fK<|n2 H
 exact vE<|fE<|e1<|fX rfl<|n0 H
def x0v:Unit->Option (Int)
 | _ =>
 some (-1)
def x0u(v0:List C6)(a1:Int)(a2:Int)(g1:Int->Option (Int)):Int->Option (Int)
 | v1 =>
 if(decide (v1 < (v0.length:Int)))=true then
  gd (ix v1 v0.length/\v1.toNat<v0.length/\(((v0.getD v1.toNat (d6 x8)).1==a1)=true/\True->ix v1 v0.length)/\(((v0.getD v1.toNat (d6 x8)).1==a1)=true/\True->v1.toNat<v0.length)/\True) <|
  if((v0.getD v1.toNat (d6 x8)).1==a1&&(v0.getD v1.toNat (d6 x8)).2.1==a2)=true then
   some v1
  else
   gd (l3 (v1+1)/\True) <|
   g1 (v1+1)
 else
  x0v ()
def U2(a0:Y31)(a1:Int)(a2:Int):Option (Int) :=
 gd ((V5 a0).isSome=true/\True)<|lt (vl (V5 a0)) fun v0 =>
 lp (x0u v0 a1 a2) 0
def K0H:Ct:=lct 121 [.agg y31,.dat i64,.dat i64] (fun x=>U2 x.1 x.2.1 x.2.2.1) (fun r:Int=>I r) (fun _=>())
theorem I0O:Ok prog K0H:=by
 refine okL [.tmp 6] func121 ntmps121 results121 ?_;intro y ⟨a0,a1,a2,_⟩ r H Q hn hr;have:HT _ _:=⟨tc D0J tn⟩;refine qA (Z [p 1 (J a1),p 2 (J a2),p 3 (R 3)] [(3,K 31 y31 a0)])<|qD (fun v0=>Z [p 1 (J a1),p 2 (J a2),p 7 (O 10)] [(10,A 179 x8 v0 0),(3,K 31 y31 a0)]) H fun v0 H=>jN r (fun(_:Unit)=>Z [] []) (x0v) (fun _ H=>?_) (fun _ n0 e0 t0=>?_)
 ·refine qA (Z [p 6 (I (-1))] [])<|vTT<|hr H
 refine qA (Z [p 1 (J a1),p 2 (J a2),p 7 (O 10),p 8 (I 0)] [(10,A 179 x8 v0 0),(3,K 31 y31 a0)])<|vB<|lX (fun(v1:Int)=>Z [p 1 (J a1),p 2 (J a2),p 7 (O 10),p 8 (I v1)] [(10,A 179 x8 v0 0)]) 0 H fun _ g1 b1 e1 t1 v1 H=>vQ<|qA (Z [p 1 (J a1),p 2 (J a2),p 7 (O 10),p 8 (I v1),p 14 (B (decide (v1 < (v0.length:Int))))] [(10,A 179 x8 v0 0)])<|cD H (fun H=>?_) (fun H=>?_)
 ·refine vK<|fQ<|vQ<|vB<|qB (Z [p 1 (J a1),p 2 (J a2),p 7 (O 10),p 8 (I v1),p 32 (B ((v0.getD v1.toNat (d6 x8)).1==a1&&(v0.getD v1.toNat (d6 x8)).2.1==a2))] [(10,A 179 x8 v0 0)]) H fun H=>cD H (fun H=>?_) (fun H=>?_)
  ·refine qA (Z [p 6 (I v1)] [(10,A 179 x8 v0 0)])<|vTT<|fDD<|fR<|t1<|fDD<|t0<|hr H
  refine vK<|fK<|fQ<|zB (Z [p 1 (J a1),p 2 (J a2),p 7 (O 10),p 8 (I (v1+1))] [(10,A 179 x8 v0 0)]) H fun H=>b1 H
 exact vE<|fE<|e1<|fX rfl<|n0 H
def B0q:List Y48->Option (List Y48)
 | v39 =>
 some v39
def y0x(v28:Int)(g6:Int×List Y48->Option (List Y48)):List Y48->Option (List Y48)
 | v38 =>
 gd (l3 (v28+1)/\True) <|
 g6 (v28+1,v38)
def B0m(v30:Int)(v31:List Int)(v28:Int)(g6:Int×List Y48->Option (List Y48))(g8:Int×List Y48->Option (List Y48)):Int×List Y48->Option (List Y48)
 | (v34,v35) =>
 if(decide (v34 < (v31.length:Int)))=true then
  gd (ix v34 v31.length/\v34.toNat<v31.length/\(x0r v35 v30 (v31.getD v34.toNat 0) 0 0 2 v34).isSome=true/\True)<|lt (vl (x0r v35 v30 (v31.getD v34.toNat 0) 0 0 2 v34)) fun v36 =>
  gd (ix v34 v31.length/\v34.toNat<v31.length/\(x0r v36 v30 (v31.getD v34.toNat 0) 1 1 2 v34).isSome=true/\True)<|lt (vl (x0r v36 v30 (v31.getD v34.toNat 0) 1 1 2 v34)) fun v37 =>
  gd (l3 (v34+1)/\True) <|
  g8 (v34+1,v37)
 else
  y0x v28 g6 v35
def B0n(a0:Y34)(g6:Int×List Y48->Option (List Y48)):Int×List Y48->Option (List Y48)
 | (v28,v29) =>
 if(decide (v28 < (a0.2.1.2.1.length:Int)))=true then
  gd ((B0P a0.2.1 v28).isSome=true/\True)<|lt (vl (B0P a0.2.1 v28)) fun v30 =>
  gd ((u71 a0.2.1 v28).isSome=true/\True)<|lt (vl (u71 a0.2.1 v28)) fun v31 =>
  lp (B0m v30 v31 v28 g6) (0,v29)
 else
  B0q v29
def t0D(a0:Y34):List Y48->Option (List Y48)
 | v18 =>
 lp (B0n a0) (0,v18)
def y0y(v8:Int)(g1:Int×List Y48->Option (List Y48)):List Y48->Option (List Y48)
 | v17 =>
 gd (l3 (v8+1)/\True) <|
 g1 (v8+1,v17)
def q0u(v13:Int)(g3:Int×List Y48->Option (List Y48)):List Y48->Option (List Y48)
 | v16 =>
 gd (l3 (v13+1)/\True) <|
 g3 (v13+1,v16)
def B0o(v10:m4)(a0:Y34)(v8:Int)(g1:Int×List Y48->Option (List Y48))(g3:Int×List Y48->Option (List Y48)):Int×List Y48->Option (List Y48)
 | (v13,v14) =>
 if(decide (v13 < (v10.2.2.2.1.length:Int)))=true then
  gd (ix v13 v10.2.2.2.1.length/\True) <|
  if(decide ((v10.2.2.2.1.getD v13.toNat (d6 y143)).1<=3))=true then
   gd (ix v13 v10.2.2.2.1.length/\ix v13 v10.2.2.2.1.length/\(U2 a0.2.1 v8 (v10.2.2.2.1.getD v13.toNat (d6 y143)).2.1).isSome=true/\ix v13 v10.2.2.2.1.length/\(U2 a0.2.1 v8 (v10.2.2.2.1.getD v13.toNat (d6 y143)).2.2.1).isSome=true/\(y0G v14 (v10.2.2.2.1.getD v13.toNat (d6 y143)) (vl (U2 a0.2.1 v8 (v10.2.2.2.1.getD v13.toNat (d6 y143)).2.1)) (vl (U2 a0.2.1 v8 (v10.2.2.2.1.getD v13.toNat (d6 y143)).2.2.1)) v13).isSome=true/\True)<|lt (vl (y0G v14 (v10.2.2.2.1.getD v13.toNat (d6 y143)) (vl (U2 a0.2.1 v8 (v10.2.2.2.1.getD v13.toNat (d6 y143)).2.1)) (vl (U2 a0.2.1 v8 (v10.2.2.2.1.getD v13.toNat (d6 y143)).2.2.1)) v13)) fun v15 =>
   q0u v13 g3 v15
  else
   q0u v13 g3 v14
 else
  y0y v8 g1 v14
def B0p(a0:Y34)(g1:Int×List Y48->Option (List Y48)):Int×List Y48->Option (List Y48)
 | (v8,v9) =>
 if(decide (v8 < (a0.2.1.1.length:Int)))=true then
  gd (ix v8 a0.2.1.1.length/\ix (a0.2.1.1.getD v8.toNat (d6 y165)).2.1 a0.1.length/\True)<|lt (a0.1.getD (a0.2.1.1.getD v8.toNat (d6 y165)).2.1.toNat (d6 y163)) fun v10 =>
  lp (B0o v10 a0 v8 g1) (0,v9)
 else
  t0D a0 v9
def u59(a0:Y34):Option (List Y48) :=
 lp (B0p a0) (0,[])
def k59:Ct:=lct 59 [.agg y34] (fun x=>u59 x.1) (fun r:List Y48=>AV.ow 48 true y48 r) (fun _=>())
theorem o59:Ok prog k59:=by
 refine okL [.tmp 2] func59 ntmps59 results59 ?_;intro y ⟨a0,_⟩ r H Q hn hr;have:HT _ _:=⟨tc F0O (tc o71 (tc I0N (tc I0P (tc I0O tn))))⟩;refine qA (Z [p 1 (R 1)] [(1,K 34 y34 a0)])<|qA (Z [p 1 (R 1),p 3 (O 12)] [(12,A 48 y48 [] 0),(1,K 34 y34 a0)])<|qA (Z [p 1 (R 1),p 3 (O 12),p 4 (R 4)] [(4,K 31 y31 a0.2.1),(12,A 48 y48 [] 0),(1,K 34 y34 a0)])<|jN r (fun(v18:List Y48)=>Z [p 3 (O 12),p 4 (R 4)] (W54 a0.2.1 v18)) (t0D a0) (fun v18 H=>?_) (fun _ n0 e0 t0=>?_)
 ·refine jN r (fun(v39:List Y48)=>Z [p 3 (O 12)] [(12,A 48 y48 v39 0)]) (B0q) (fun v39 H=>?_) (fun _ n5 e5 t5=>?_)
  ·refine qA (Z [p 2 (O 12)] [(12,A 48 y48 v39 0)])<|vTT<|hr H
  refine qA (Z [p 3 (O 12),p 4 (R 4),p 8 (I 0)] (W54 a0.2.1 v18))<|vB<|lX (fun((v28,v29):Int×List Y48)=>Z (G70 v28 []) (W54 a0.2.1 v29)) (0,v18) H fun _ g6 b6 e6 t6 ⟨v28,v29⟩ H=>vQ<|qA (Z (G70 v28 [p 73 (B (decide (v28 < (a0.2.1.2.1.length:Int))))]) (W54 a0.2.1 v29))<|cD H (fun H=>?_) (fun H=>?_)
  ·refine vK<|fQ<|jN r (fun(v38:List Y48)=>Z (G70 v28 []) (W54 a0.2.1 v38)) (y0x v28 g6) (fun v38 H=>?_) (fun _ n7 e7 t7=>?_)
   ·refine zB (Z (G70 (v28+1) []) (W54 a0.2.1 v38)) H fun H=>b6 H
   refine vB<|qD (fun v30=>Z (G70 v28 [p 9 (I v30)]) (W54 a0.2.1 v29)) H fun v30 H=>qD (fun v31=>Z (G70 v28 [p 9 (I v30),p 10 (O 81)]) ((81,A 2 i64 v31 0)::W54 a0.2.1 v29)) H fun v31 H=>qA (Z (G70 v28 [p 9 (I v30),p 10 (O 81),p 11 (I 0)]) ((81,A 2 i64 v31 0)::W54 a0.2.1 v29))<|vB<|lX (fun((v34,v35):Int×List Y48)=>Z (G70 v28 [p 9 (I v30),p 10 (O 81),p 11 (I v34)]) ((81,A 2 i64 v31 0)::W54 a0.2.1 v35)) (0,v29) H fun _ g8 b8 e8 t8 ⟨v34,v35⟩ H=>vQ<|qA (Z (G70 v28 [p 9 (I v30),p 10 (O 81),p 11 (I v34),p 85 (B (decide (v34 < (v31.length:Int))))]) ((81,A 2 i64 v31 0)::W54 a0.2.1 v35))<|cD H (fun H=>?_) (fun H=>?_)
   ·refine vK<|fQ<|vQ<|vB<|qD (fun v36=>Z [p 3 (AV.os 12 1),p 4 (R 4),p 8 (I v28),p 9 (I v30),p 10 (O 81),p 11 (I v34)] [(12,A 48 y48 v36 1),(81,A 2 i64 v31 0),(4,K 31 y31 a0.2.1)]) H fun v36 H=>zD (fun v37=>Z [p 3 (AV.os 12 2),p 4 (R 4),p 8 (I v28),p 9 (I v30),p 10 (O 81),p 11 (I v34)] [(12,A 48 y48 v37 2),(81,A 2 i64 v31 0),(4,K 31 y31 a0.2.1)]) H fun v37 H=>fK<|fQ<|zB (Z [p 3 (AV.os 12 2),p 4 (R 4),p 8 (I v28),p 9 (I v30),p 10 (O 81),p 11 (I (v34+1))] [(12,A 48 y48 v37 2),(81,A 2 i64 v31 0),(4,K 31 y31 a0.2.1)]) H fun H=>b8 H
   exact vE<|fE<|e8<|fX rfl<|fK<|n7 H
  exact vE<|fE<|e6<|fX rfl<|n5 H
 refine qA (Z [p 1 (R 1),p 3 (O 12),p 4 (R 4),p 5 (I 0)] [(4,K 31 y31 a0.2.1),(12,A 48 y48 [] 0),(1,K 34 y34 a0)])<|vB<|lX (fun((v8,v9):Int×List Y48)=>Z (G40 v8 []) (W47 a0.2.1 v9 a0)) (0,[]) H fun _ g1 b1 e1 t1 ⟨v8,v9⟩ H=>vQ<|qA (Z (G40 v8 [p 19 (B (decide (v8 < (a0.2.1.1.length:Int))))]) (W47 a0.2.1 v9 a0))<|cD H (fun H=>?_) (fun H=>?_)
 ·refine vK<|fQ<|jN r (fun(v17:List Y48)=>Z (G40 v8 []) (W47 a0.2.1 v17 a0)) (y0y v8 g1) (fun v17 H=>?_) (fun _ n2 e2 t2=>?_)
  ·refine zB (Z (G40 (v8+1) []) (W47 a0.2.1 v17 a0)) H fun H=>b1 H
  refine vB<|qD (fun v10=>Z (G40 v8 [p 6 (L y143 v10.2.2.2.1)]) (W47 a0.2.1 v9 a0)) H fun v10 H=>qA (Z (G40 v8 [p 6 (L y143 v10.2.2.2.1),p 7 (I 0)]) (W47 a0.2.1 v9 a0))<|vB<|lX (fun((v13,v14):Int×List Y48)=>Z (G40 v8 [p 6 (L y143 v10.2.2.2.1),p 7 (I v13)]) (W47 a0.2.1 v14 a0)) (0,v9) H fun _ g3 b3 e3 t3 ⟨v13,v14⟩ H=>vQ<|qA (Z (G40 v8 [p 6 (L y143 v10.2.2.2.1),p 7 (I v13),p 37 (B (decide (v13 < (v10.2.2.2.1.length:Int))))]) (W47 a0.2.1 v14 a0))<|cD H (fun H=>?_) (fun H=>?_)
  ·refine vK<|fQ<|jN r (fun(v16:List Y48)=>Z (G40 v8 [p 6 (L y143 v10.2.2.2.1),p 7 (I v13)]) [(12,A 48 y48 v16 0),(4,K 31 y31 a0.2.1),(1,K 34 y34 a0)]) (q0u v13 g3) (fun v16 H=>?_) (fun _ n4 e4 t4=>?_)
   ·refine zB (Z (G40 v8 [p 6 (L y143 v10.2.2.2.1),p 7 (I (v13+1))]) [(12,A 48 y48 v16 0),(4,K 31 y31 a0.2.1),(1,K 34 y34 a0)]) H fun H=>b3 H
   refine vB<|qB (Z (G40 v8 [p 6 (L y143 v10.2.2.2.1),p 7 (I v13),p 45 (B (decide ((v10.2.2.2.1.getD v13.toNat (d6 y143)).1<=3)))]) (W47 a0.2.1 v14 a0)) H fun H=>cD H (fun H=>?_) (fun H=>?_)
   ·refine zD (fun v15=>Z [p 1 (R 1),p 3 (AV.os 12 1),p 4 (R 4),p 5 (I v8),p 6 (L y143 v10.2.2.2.1),p 7 (I v13)] [(12,A 48 y48 v15 1),(4,K 31 y31 a0.2.1),(1,K 34 y34 a0)]) H fun v15 H=>fK<|n4 H
   exact vK<|fK<|n4 H
  exact vE<|fE<|e3<|fX rfl<|fK<|n2 H
 exact vE<|fE<|e1<|fX rfl<|n0 H
def u97(a0:Int)(a1:Int)(a2:Int):Option (Bool) :=
 some (decide (a1<=a0)&&decide (a0<=a2))
def k97:Ct:=lct 97 [.dat i64,.dat i64,.dat i64] (fun x=>u97 x.1 x.2.1 x.2.2.1) (fun r:Bool=>B r) (fun _=>())
theorem o97:Ok prog k97:=by
 refine okL [.tmp 6] func97 ntmps97 results97 ?_;intro y ⟨a0,a1,a2,_⟩ r H Q hn hr;have:HT _ _:=⟨@tn prog⟩;refine qA (Z [p 0 (J a0),p 1 (J a1),p 2 (J a2)] [])<|qA (Z [p 6 (B (decide (a1<=a0)&&decide (a0<=a2)))] [])<|vTT<|hr H
def x0y:Unit->Option (Bool)
 | _ =>
 some true
def x0x(a0:List Int)(a1:Int)(g1:Int->Option (Bool)):Int->Option (Bool)
 | v0 =>
 if(decide (v0 < (a0.length:Int)))=true then
  gd (ix v0 a0.length/\l3 (a1-1)/\(u97 (a0.getD v0.toNat 0) 0 (a1-1)).isSome=true/\(decide (0<v0)=true/\(!vl (u97 (a0.getD v0.toNat 0) 0 (a1-1)))=false/\True->l3 (v0-1))/\(decide (0<v0)=true/\(!vl (u97 (a0.getD v0.toNat 0) 0 (a1-1)))=false/\True->ix (v0-1) a0.length)/\(decide (0<v0)=true/\(!vl (u97 (a0.getD v0.toNat 0) 0 (a1-1)))=false/\True->ix v0 a0.length)/\True) <|
  if(!vl (u97 (a0.getD v0.toNat 0) 0 (a1-1))||decide (0<v0)&&decide (a0.getD v0.toNat 0<=a0.getD (v0-1).toNat 0))=true then
   some false
  else
   gd (l3 (v0+1)/\True) <|
   g1 (v0+1)
 else
  x0y ()
def B0Q(a0:List Int)(a1:Int):Option (Bool) :=
 lp (x0x a0 a1) 0
def K0J:Ct:=lct 119 [.dat i64.sl,.dat i64] (fun x=>B0Q x.1 x.2.1) (fun r:Bool=>B r) (fun _=>())
theorem I0Q:Ok prog K0J:=by
 refine okL [.tmp 4] func119 ntmps119 results119 ?_;intro y ⟨a0,a1,_⟩ r H Q hn hr;have:HT _ _:=⟨tc o97 tn⟩;refine qA (Z (G59 a0 a1 []) [])<|jN r (fun(_:Unit)=>Z [] []) (x0y) (fun _ H=>?_) (fun _ n0 e0 t0=>?_)
 ·refine qA (Z [p 4 (B true)] [])<|vTT<|hr H
 refine qA (Z (G59 a0 a1 [p 5 (I 0)]) [])<|vB<|lX (fun(v0:Int)=>Z (G59 a0 a1 [p 5 (I v0)]) []) 0 H fun _ g1 b1 e1 t1 v0 H=>vQ<|qA (Z (G59 a0 a1 [p 5 (I v0),p 9 (B (decide (v0 < (a0.length:Int))))]) [])<|cD H (fun H=>?_) (fun H=>?_)
 ·refine vK<|fQ<|vQ<|vB<|qB (Z (G59 a0 a1 [p 5 (I v0),p 35 (B (!vl (u97 (a0.getD v0.toNat 0) 0 (a1-1))||decide (0<v0)&&decide (a0.getD v0.toNat 0<=a0.getD (v0-1).toNat 0)))]) []) H fun H=>cD H (fun H=>?_) (fun H=>?_)
  ·refine qA (Z [p 4 (B false)] [])<|vTT<|fDD<|fR<|t1<|fDD<|t0<|hr H
  refine vK<|fK<|fQ<|zB (Z (G59 a0 a1 [p 5 (I (v0+1))]) []) H fun H=>b1 H
 exact vE<|fE<|e1<|fX rfl<|n0 H
def A0W:Unit->Option (Bool)
 | _ =>
 some true
def A0U(a0:x9)(g3:Int->Option (Bool)):Int->Option (Bool)
 | v1 =>
 if(decide (v1 < (a0.2.2.2.length:Int)))=true then
  gd (ix v1 a0.2.2.2.length/\l3 ((a0.1.length:Int)-1)/\(u97 (a0.2.2.2.getD v1.toNat 0) 0 ((a0.1.length:Int)-1)).isSome=true/\True) <|
  if(!vl (u97 (a0.2.2.2.getD v1.toNat 0) 0 ((a0.1.length:Int)-1)))=true then
   some false
  else
   gd (l3 (v1+1)/\True) <|
   g3 (v1+1)
 else
  A0W ()
def t0y(a0:x9):Unit->Option (Bool)
 | _ =>
 lp (A0U a0) 0
def A0V(a0:x9)(g1:Int->Option (Bool)):Int->Option (Bool)
 | v0 =>
 if(decide (v0 < (a0.1.length:Int)))=true then
  gd (ix v0 a0.2.2.1.length/\(u97 (a0.2.2.1.getD v0.toNat 0) 0 500).isSome=true/\((!vl (u97 (a0.2.2.1.getD v0.toNat 0) 0 500))=false/\True->ix v0 a0.2.1.length)/\((!vl (u97 (a0.2.2.1.getD v0.toNat 0) 0 500))=false/\True->(u97 (a0.2.1.getD v0.toNat 0) 0 1000).isSome=true)/\True) <|
  if(!vl (u97 (a0.2.2.1.getD v0.toNat 0) 0 500)||!vl (u97 (a0.2.1.getD v0.toNat 0) 0 1000))=true then
   some false
  else
   gd (((v0==0)=true/\True->ix v0 a0.1.length)/\((a0.1.getD v0.toNat 0 != -1)=false/\(v0==0)=true/\True->ix v0 a0.2.1.length)/\(decide (0<v0)=true/\(v0==0&&(a0.1.getD v0.toNat 0 != -1||a0.2.1.getD v0.toNat 0 != 0))=false/\True->ix v0 a0.1.length)/\(decide (0<v0)=true/\(v0==0&&(a0.1.getD v0.toNat 0 != -1||a0.2.1.getD v0.toNat 0 != 0))=false/\True->l3 (v0-1))/\(decide (0<v0)=true/\(v0==0&&(a0.1.getD v0.toNat 0 != -1||a0.2.1.getD v0.toNat 0 != 0))=false/\True->(u97 (a0.1.getD v0.toNat 0) 0 (v0-1)).isSome=true)/\True) <|
   if(v0==0&&(a0.1.getD v0.toNat 0 != -1||a0.2.1.getD v0.toNat 0 != 0)||decide (0<v0)&&!vl (u97 (a0.1.getD v0.toNat 0) 0 (v0-1)))=true then
    some false
   else
    gd (l3 (v0+1)/\True) <|
    g1 (v0+1)
 else
  t0y a0 ()
def u70(a0:x9)(a1:Int):Option (Bool) :=
 if(decide ((a0.1.length:Int)<1)||decide (8 < (a0.1.length:Int))||(a0.2.1.length:Int) != (a0.1.length:Int)||(a0.2.2.1.length:Int) != (a0.1.length:Int)||(a0.2.2.2.length:Int) != a1)=true then
  some false
 else
  lp (A0V a0) 0
def k70:Ct:=lct 70 [.agg l6,.dat i64] (fun x=>u70 x.1 x.2.1) (fun r:Bool=>B r) (fun _=>())
theorem o70:Ok prog k70:=by
 refine okL [.tmp 4] func70 ntmps70 results70 ?_;intro y ⟨a0,a1,_⟩ r H Q hn hr;have:HT _ _:=⟨tc o97 tn⟩;refine qA (Z (G33 a1 []) [(2,K 110 l6 a0)])<|qA (Z (G33 a1 [p 5 (I (a0.1.length:Int))]) [(2,K 110 l6 a0)])<|vQ<|qA (Z (G91 (a0.1.length:Int) [p 37 (B (decide ((a0.1.length:Int)<1)||decide (8 < (a0.1.length:Int))||(a0.2.1.length:Int) != (a0.1.length:Int)||(a0.2.2.1.length:Int) != (a0.1.length:Int)||(a0.2.2.2.length:Int) != a1))]) [(2,K 110 l6 a0)])<|cD H (fun H=>?_) (fun H=>?_)
 ·refine qA (Z [p 4 (B false)] [(2,K 110 l6 a0)])<|vTT<|fR<|hr H
 refine vK<|fQ<|jN r (fun(_:Unit)=>Z (G91 (a0.1.length:Int) []) [(2,K 110 l6 a0)]) (t0y a0) (fun _ H=>?_) (fun _ n0 e0 t0=>?_)
 ·refine jN r (fun(_:Unit)=>Z [] []) (A0W) (fun _ H=>?_) (fun _ n2 e2 t2=>?_)
  ·refine qA (Z [p 4 (B true)] [])<|vTT<|hr H
  refine qA (Z (G91 (a0.1.length:Int) [p 7 (I 0)]) [(2,K 110 l6 a0)])<|vB<|lX (fun(v1:Int)=>Z (G91 (a0.1.length:Int) [p 7 (I v1)]) [(2,K 110 l6 a0)]) 0 H fun _ g3 b3 e3 t3 v1 H=>vQ<|qA (Z (G91 (a0.1.length:Int) [p 7 (I v1),p 96 (B (decide (v1 < (a0.2.2.2.length:Int))))]) [(2,K 110 l6 a0)])<|cD H (fun H=>?_) (fun H=>?_)
  ·refine vK<|fQ<|vQ<|vB<|qB (Z (G91 (a0.1.length:Int) [p 7 (I v1),p 107 (B !vl (u97 (a0.2.2.2.getD v1.toNat 0) 0 ((a0.1.length:Int)-1)))]) [(2,K 110 l6 a0)]) H fun H=>cD H (fun H=>?_) (fun H=>?_)
   ·refine qA (Z [p 4 (B false)] [(2,K 110 l6 a0)])<|vTT<|fDD<|fR<|t3<|fDD<|t2<|hr H
   refine vK<|fK<|fQ<|zB (Z (G91 (a0.1.length:Int) [p 7 (I (v1+1))]) [(2,K 110 l6 a0)]) H fun H=>b3 H
  exact vE<|fE<|e3<|fX rfl<|n2 H
 refine qA (Z (G91 (a0.1.length:Int) [p 6 (I 0)]) [(2,K 110 l6 a0)])<|vB<|lX (fun(v0:Int)=>Z (G91 (a0.1.length:Int) [p 6 (I v0)]) [(2,K 110 l6 a0)]) 0 H fun _ g1 b1 e1 t1 v0 H=>vQ<|qA (Z (G91 (a0.1.length:Int) [p 6 (I v0),p 40 (B (decide (v0 < (a0.1.length:Int))))]) [(2,K 110 l6 a0)])<|cD H (fun H=>?_) (fun H=>?_)
 ·refine vK<|fQ<|vQ<|vB<|vQ<|qB (Z (G91 (a0.1.length:Int) [p 6 (I v0),p 58 (B (!vl (u97 (a0.2.2.1.getD v0.toNat 0) 0 500)||!vl (u97 (a0.2.1.getD v0.toNat 0) 0 1000)))]) [(2,K 110 l6 a0)]) H fun H=>cD H (fun H=>?_) (fun H=>?_)
  ·refine qA (Z [p 4 (B false)] [(2,K 110 l6 a0)])<|vTT<|fR<|fDD<|fR<|t1<|fDD<|t0<|hr H
  refine vK<|fQ<|qB (Z (G91 (a0.1.length:Int) [p 6 (I v0),p 91 (B (v0==0&&(a0.1.getD v0.toNat 0 != -1||a0.2.1.getD v0.toNat 0 != 0)||decide (0<v0)&&!vl (u97 (a0.1.getD v0.toNat 0) 0 (v0-1))))]) [(2,K 110 l6 a0)]) H fun H=>cD H (fun H=>?_) (fun H=>?_)
  ·refine qA (Z [p 4 (B false)] [(2,K 110 l6 a0)])<|vTT<|fDD<|fR<|t1<|fDD<|t0<|hr H
  refine vK<|fK<|fQ<|zB (Z (G91 (a0.1.length:Int) [p 6 (I (v0+1))]) [(2,K 110 l6 a0)]) H fun H=>b1 H
 exact vE<|fE<|e1<|fX rfl<|n0 H
def n0o(a0:ByteArray):Unit->Option (Bool)
 | _ =>
 some (decide (1<=(a0.size:Int))&&decide ((a0.size:Int)<=8))
def w0K(a0:ByteArray)(g1:Int->Option (Bool)):Int->Option (Bool)
 | v0 =>
 if(decide (v0 < (a0.size:Int)))=true then
  gd (ix v0 a0.size/\(decide (97<=B8 a0 v0.toNat)=true/\True->ix v0 a0.size)/\True) <|
  gd (ix v0 a0.size/\(decide (48<=B8 a0 v0.toNat)=true/\True->ix v0 a0.size)/\True) <|
  if(!(decide (97<=B8 a0 v0.toNat)&&decide (B8 a0 v0.toNat<=122))&&!(decide (48<=B8 a0 v0.toNat)&&decide (B8 a0 v0.toNat<=57)&&decide (0<v0)))=true then
   some false
  else
   gd (l3 (v0+1)/\True) <|
   g1 (v0+1)
 else
  n0o a0 ()
def U3(a0:ByteArray):Option (Bool) :=
 lp (w0K a0) 0
def K0j:Ct:=lct 151 [.dat Ty.str] (fun x=>U3 x.1) (fun r:Bool=>B r) (fun _=>())
theorem E0H:Ok prog K0j:=by
 refine okL [.tmp 2] func151 ntmps151 results151 ?_;intro y ⟨a0,_⟩ r H Q hn hr;have:HT _ _:=⟨@tn prog⟩;refine qA (Z [p 0 (U a0)] [])<|jN r (fun(_:Unit)=>Z [p 0 (U a0)] []) (n0o a0) (fun _ H=>?_) (fun _ n0 e0 t0=>?_)
 ·refine qA (Z [p 2 (B (decide (1<=(a0.size:Int))&&decide ((a0.size:Int)<=8)))] [])<|vTT<|hr H
 refine qA (Z [p 0 (U a0),p 3 (I 0)] [])<|vB<|lX (fun(v0:Int)=>Z [p 0 (U a0),p 3 (I v0)] []) 0 H fun _ g1 b1 e1 t1 v0 H=>vQ<|qA (Z [p 0 (U a0),p 3 (I v0),p 9 (B (decide (v0 < (a0.size:Int))))] [])<|cD H (fun H=>?_) (fun H=>?_)
 ·refine vK<|fQ<|vQ<|vB<|qB (Z [p 0 (U a0),p 3 (I v0),p 4 (B (decide (97<=B8 a0 v0.toNat)&&decide (B8 a0 v0.toNat<=122)))] []) H fun H=>qB (Z [p 0 (U a0),p 3 (I v0),p 4 (B (decide (97<=B8 a0 v0.toNat)&&decide (B8 a0 v0.toNat<=122))),p 5 (B (decide (48<=B8 a0 v0.toNat)&&decide (B8 a0 v0.toNat<=57)))] []) H fun H=>qA (Z [p 0 (U a0),p 3 (I v0),p 41 (B (!(decide (97<=B8 a0 v0.toNat)&&decide (B8 a0 v0.toNat<=122))&&!(decide (48<=B8 a0 v0.toNat)&&decide (B8 a0 v0.toNat<=57)&&decide (0<v0))))] [])<|cD H (fun H=>?_) (fun H=>?_)
  ·refine qA (Z [p 2 (B false)] [])<|vTT<|fDD<|fR<|t1<|fDD<|t0<|hr H
  refine vK<|fK<|fQ<|zB (Z [p 0 (U a0),p 3 (I (v0+1))] []) H fun H=>b1 H
 exact vE<|fE<|e1<|fX rfl<|n0 H
def w0X:Unit->Option (Bool)
 | _ =>
 some true
def q0R(v1:Int)(g1:Int->Option (Bool)):Unit->Option (Bool)
 | _ =>
 gd (l3 (v1+1)/\True) <|
 g1 (v1+1)
def w0V(a0:List ByteArray)(v1:Int)(g1:Int->Option (Bool))(g3:Int->Option (Bool)):Int->Option (Bool)
 | v2 =>
 if(decide (v2<v1))=true then
  gd (ix v2 a0.length/\ix v1 a0.length/\True) <|
  if(decide (a0.getD v2.toNat (d6 Ty.str)=a0.getD v1.toNat (d6 Ty.str)))=true then
   some false
  else
   gd (l3 (v2+1)/\True) <|
   g3 (v2+1)
 else
  q0R v1 g1 ()
def w0W(a0:List ByteArray)(g1:Int->Option (Bool)):Int->Option (Bool)
 | v1 =>
 if(decide (v1 < (a0.length:Int)))=true then
  gd (ix v1 a0.length/\(U3 (a0.getD v1.toNat (d6 Ty.str))).isSome=true/\True) <|
  if(!vl (U3 (a0.getD v1.toNat (d6 Ty.str))))=true then
   some false
  else
   lp (w0V a0 v1 g1) 0
 else
  w0X ()
def V6(a0:List ByteArray):Option (Bool) :=
 lp (w0W a0) 0
def K0u:Ct:=lct 134 [.dat Ty.str.sl] (fun x=>V6 x.1) (fun r:Bool=>B r) (fun _=>())
theorem I0F:Ok prog K0u:=by
 refine okL [.tmp 2] func134 ntmps134 results134 ?_;intro y ⟨a0,_⟩ r H Q hn hr;have:HT _ _:=⟨tc E0H tn⟩;refine qA (Z [p 0 (L Ty.str a0)] [])<|jN r (fun(_:Unit)=>Z [] []) (w0X) (fun _ H=>?_) (fun _ n0 e0 t0=>?_)
 ·refine qA (Z [p 2 (B true)] [])<|vTT<|hr H
 refine qA (Z [p 0 (L Ty.str a0),p 3 (I 0)] [])<|vB<|lX (fun(v1:Int)=>Z (G93 a0 v1 []) []) 0 H fun _ g1 b1 e1 t1 v1 H=>vQ<|qA (Z (G93 a0 v1 [p 8 (B (decide (v1 < (a0.length:Int))))]) [])<|cD H (fun H=>?_) (fun H=>?_)
 ·refine vK<|fQ<|jN r (fun(_:Unit)=>Z (G93 a0 v1 []) []) (q0R v1 g1) (fun _ H=>?_) (fun _ n2 e2 t2=>?_)
  ·refine zB (Z (G93 a0 (v1+1) []) []) H fun H=>b1 H
  refine vB<|vQ<|qB (Z (G93 a0 v1 [p 16 (B !vl (U3 (a0.getD v1.toNat (d6 Ty.str))))]) []) H fun H=>cD H (fun H=>?_) (fun H=>?_)
  ·refine qA (Z [p 2 (B false)] [])<|vTT<|fR<|fDD<|t2<|t1<|fDD<|t0<|hr H
  refine vK<|fQ<|qA (Z (G93 a0 v1 [p 4 (I 0)]) [])<|vB<|lX (fun(v2:Int)=>Z (G93 a0 v1 [p 4 (I v2)]) []) 0 H fun _ g3 b3 e3 t3 v2 H=>vQ<|qA (Z (G93 a0 v1 [p 4 (I v2),p 19 (B (decide (v2<v1)))]) [])<|cD H (fun H=>?_) (fun H=>?_)
  ·refine vK<|fQ<|vQ<|vB<|qB (Z (G93 a0 v1 [p 4 (I v2),p 30 (B (decide (a0.getD v2.toNat (d6 Ty.str)=a0.getD v1.toNat (d6 Ty.str))))]) []) H fun H=>cD H (fun H=>?_) (fun H=>?_)
   ·refine qA (Z [p 2 (B false)] [])<|vTT<|fDD<|fR<|t3<|fDD<|fDD<|t2<|t1<|fDD<|t0<|hr H
   refine vK<|fK<|fQ<|zB (Z (G93 a0 v1 [p 4 (I (v2+1))]) []) H fun H=>b3 H
  exact vE<|fE<|e3<|fX rfl<|fK<|n2 H
 exact vE<|fE<|e1<|fX rfl<|n0 H
def x0b:Unit->Option (Bool)
 | _ =>
 some true
def w0Y(a1:Y31)(g5:Int->Option (Bool)):Int->Option (Bool)
 | v5 =>
 if(decide (v5 < (a1.2.2.length:Int)))=true then
  gd (ix v5 a1.2.2.length/\(u97 (a1.2.2.getD v5.toNat (d6 y175)).2.1 1 2).isSome=true/\((!vl (u97 (a1.2.2.getD v5.toNat (d6 y175)).2.1 1 2))=false/\True->ix v5 a1.2.2.length)/\((!vl (u97 (a1.2.2.getD v5.toNat (d6 y175)).2.1 1 2))=false/\True->l3 ((a1.2.1.length:Int)-1))/\((!vl (u97 (a1.2.2.getD v5.toNat (d6 y175)).2.1 1 2))=false/\True->(u97 (a1.2.2.getD v5.toNat (d6 y175)).2.2 0 ((a1.2.1.length:Int)-1)).isSome=true)/\True) <|
  if(!vl (u97 (a1.2.2.getD v5.toNat (d6 y175)).2.1 1 2)||!vl (u97 (a1.2.2.getD v5.toNat (d6 y175)).2.2 0 ((a1.2.1.length:Int)-1)))=true then
   some false
  else
   gd (l3 (v5+1)/\True) <|
   g5 (v5+1)
 else
  x0b ()
def n0r(a1:Y31):Unit->Option (Bool)
 | _ =>
 lp (w0Y a1) 0
def x0c(v2:Int)(g1:Int->Option (Bool)):Unit->Option (Bool)
 | _ =>
 gd (l3 (v2+1)/\True) <|
 g1 (v2+1)
def w0Z(v3:m7)(a1:Y31)(v2:Int)(g1:Int->Option (Bool))(g3:Int->Option (Bool)):Int->Option (Bool)
 | v4 =>
 if(decide (v4 < (v3.2.2.length:Int)))=true then
  gd (ix v4 v3.2.2.length/\l3 ((a1.2.1.length:Int)-1)/\(u97 (v3.2.2.getD v4.toNat 0) 0 ((a1.2.1.length:Int)-1)).isSome=true/\True) <|
  if(!vl (u97 (v3.2.2.getD v4.toNat 0) 0 ((a1.2.1.length:Int)-1)))=true then
   some false
  else
   gd (l3 (v4+1)/\True) <|
   g3 (v4+1)
 else
  x0c v2 g1 ()
def x0a(a1:Y31)(a0:List m4)(g1:Int->Option (Bool)):Int->Option (Bool)
 | v2 =>
 if(decide (v2 < (a1.1.length:Int)))=true then
  gd (ix v2 a1.1.length/\True)<|lt (a1.1.getD v2.toNat (d6 y165)) fun v3 =>
  gd (l3 ((a0.length:Int)-1)/\(u97 v3.2.1 0 ((a0.length:Int)-1)).isSome=true/\((!vl (u97 v3.2.1 0 ((a0.length:Int)-1)))=false/\True->ix v3.2.1 a0.length)/\True) <|
  if(!vl (u97 v3.2.1 0 ((a0.length:Int)-1))||(v3.2.2.length:Int) != (↑(a0.getD v3.2.1.toNat (d6 y163)).2.2.1.length:Int))=true then
   some false
  else
   lp (w0Z v3 a1 v2 g1) 0
 else
  n0r a1 ()
def B0O(a0:List m4)(a1:Y31):Option (Bool) :=
 lp (x0a a1 a0) 0
def K0v:Ct:=lct 133 [.agg y163.sl,.agg y31] (fun x=>B0O x.1 x.2.1) (fun r:Bool=>B r) (fun _=>())
theorem I0G:Ok prog K0v:=by
 refine okL [.tmp 4] func133 ntmps133 results133 ?_;intro y ⟨a0,a1,_⟩ r H Q hn hr;have:HT _ _:=⟨tc o97 tn⟩;refine qA (Z (G13 []) (W7 a1 a0))<|qA (Z (G13 [p 5 (I (a1.2.1.length:Int))]) (W7 a1 a0))<|jN r (fun(_:Unit)=>Z [p 3 (R 3),p 5 (I (a1.2.1.length:Int))] [(3,K 31 y31 a1)]) (n0r a1) (fun _ H=>?_) (fun _ n0 e0 t0=>?_)
 ·refine jN r (fun(_:Unit)=>Z [] []) (x0b) (fun _ H=>?_) (fun _ n4 e4 t4=>?_)
  ·refine qA (Z [p 4 (B true)] [])<|vTT<|hr H
  refine qA (Z [p 3 (R 3),p 5 (I (a1.2.1.length:Int)),p 9 (I 0)] [(3,K 31 y31 a1)])<|vB<|lX (fun(v5:Int)=>Z [p 3 (R 3),p 5 (I (a1.2.1.length:Int)),p 9 (I v5)] [(3,K 31 y31 a1)]) 0 H fun _ g5 b5 e5 t5 v5 H=>vQ<|qA (Z [p 3 (R 3),p 5 (I (a1.2.1.length:Int)),p 9 (I v5),p 67 (B (decide (v5 < (a1.2.2.length:Int))))] [(3,K 31 y31 a1)])<|cD H (fun H=>?_) (fun H=>?_)
  ·refine vK<|fQ<|vQ<|vB<|qB (Z [p 3 (R 3),p 5 (I (a1.2.1.length:Int)),p 9 (I v5),p 89 (B (!vl (u97 (a1.2.2.getD v5.toNat (d6 y175)).2.1 1 2)||!vl (u97 (a1.2.2.getD v5.toNat (d6 y175)).2.2 0 ((a1.2.1.length:Int)-1))))] [(3,K 31 y31 a1)]) H fun H=>cD H (fun H=>?_) (fun H=>?_)
   ·refine qA (Z [p 4 (B false)] [(3,K 31 y31 a1)])<|vTT<|fDD<|fR<|t5<|fDD<|t4<|hr H
   refine vK<|fK<|fQ<|zB (Z [p 3 (R 3),p 5 (I (a1.2.1.length:Int)),p 9 (I (v5+1))] [(3,K 31 y31 a1)]) H fun H=>b5 H
  exact vE<|fE<|e5<|fX rfl<|n4 H
 refine qA (Z (G13 [p 5 (I (a1.2.1.length:Int)),p 6 (I 0)]) (W7 a1 a0))<|vB<|lX (fun(v2:Int)=>Z (G13 [p 5 (I (a1.2.1.length:Int)),p 6 (I v2)]) (W7 a1 a0)) 0 H fun _ g1 b1 e1 t1 v2 H=>vQ<|qA (Z (G13 [p 5 (I (a1.2.1.length:Int)),p 6 (I v2),p 17 (B (decide (v2 < (a1.1.length:Int))))]) (W7 a1 a0))<|cD H (fun H=>?_) (fun H=>?_)
 ·refine vK<|fQ<|jN r (fun(_:Unit)=>Z (G13 [p 5 (I (a1.2.1.length:Int)),p 6 (I v2)]) (W7 a1 a0)) (x0c v2 g1) (fun _ H=>?_) (fun _ n2 e2 t2=>?_)
  ·refine zB (Z (G13 [p 5 (I (a1.2.1.length:Int)),p 6 (I (v2+1))]) (W7 a1 a0)) H fun H=>b1 H
  refine vB<|qD (fun v3=>Z (G13 [p 5 (I (a1.2.1.length:Int)),p 6 (I v2),p 7 (R 7)]) ((7,K 165 y165 v3)::W7 a1 a0)) H fun v3 H=>vQ<|qB (Z (G13 [p 5 (I (a1.2.1.length:Int)),p 6 (I v2),p 7 (R 7),p 46 (B (!vl (u97 v3.2.1 0 ((a0.length:Int)-1))||(v3.2.2.length:Int) != (↑(a0.getD v3.2.1.toNat (d6 y163)).2.2.1.length:Int)))]) ((7,K 165 y165 v3)::W7 a1 a0)) H fun H=>cD H (fun H=>?_) (fun H=>?_)
  ·refine qA (Z [p 4 (B false)] ((7,K 165 y165 v3)::W7 a1 a0))<|vTT<|fR<|fDD<|t2<|t1<|fDD<|t0<|hr H
  refine vK<|fQ<|qA (Z (G13 [p 5 (I (a1.2.1.length:Int)),p 6 (I v2),p 7 (R 7),p 8 (I 0)]) ((7,K 165 y165 v3)::W7 a1 a0))<|vB<|lX (fun(v4:Int)=>Z (G13 [p 5 (I (a1.2.1.length:Int)),p 6 (I v2),p 7 (R 7),p 8 (I v4)]) ((7,K 165 y165 v3)::W7 a1 a0)) 0 H fun _ g3 b3 e3 t3 v4 H=>vQ<|qA (Z (G13 [p 5 (I (a1.2.1.length:Int)),p 6 (I v2),p 7 (R 7),p 8 (I v4),p 51 (B (decide (v4 < (v3.2.2.length:Int))))]) ((7,K 165 y165 v3)::W7 a1 a0))<|cD H (fun H=>?_) (fun H=>?_)
  ·refine vK<|fQ<|vQ<|vB<|qB (Z (G13 [p 5 (I (a1.2.1.length:Int)),p 6 (I v2),p 7 (R 7),p 8 (I v4),p 62 (B !vl (u97 (v3.2.2.getD v4.toNat 0) 0 ((a1.2.1.length:Int)-1)))]) ((7,K 165 y165 v3)::W7 a1 a0)) H fun H=>cD H (fun H=>?_) (fun H=>?_)
   ·refine qA (Z [p 4 (B false)] ((7,K 165 y165 v3)::W7 a1 a0))<|vTT<|fDD<|fR<|t3<|fDD<|fDD<|t2<|t1<|fDD<|t0<|hr H
   refine vK<|fK<|fQ<|zB (Z (G13 [p 5 (I (a1.2.1.length:Int)),p 6 (I v2),p 7 (R 7),p 8 (I (v4+1))]) ((7,K 165 y165 v3)::W7 a1 a0)) H fun H=>b3 H
  exact vE<|fE<|e3<|fX rfl<|fK<|n2 H
 exact vE<|fE<|e1<|fX rfl<|n0 H
def w0h:List Int->Option (List Int)
 | v4 =>
 some v4
def w0g(a0:m4)(g1:Int×List Int->Option (List Int)):Int×List Int->Option (List Int)
 | (v1,v2) =>
 if(decide (v1 < (a0.2.2.2.1.length:Int)))=true then
  gd (ix v1 a0.2.2.2.1.length/\ix (a0.2.2.2.1.getD v1.toNat (d6 y143)).1 v2.length/\(a0.2.2.2.1.getD v1.toNat (d6 y143)).1.toNat<v2.length/\l3 (v2.getD (a0.2.2.2.1.getD v1.toNat (d6 y143)).1.toNat 0+1)/\ix (a0.2.2.2.1.getD v1.toNat (d6 y143)).1 v2.length/\(a0.2.2.2.1.getD v1.toNat (d6 y143)).1.toNat<v2.length/\True)<|lt (v2.set (a0.2.2.2.1.getD v1.toNat (d6 y143)).1.toNat (v2.getD (a0.2.2.2.1.getD v1.toNat (d6 y143)).1.toNat 0+1)) fun v3 =>
  gd (l3 (v1+1)/\True) <|
  g1 (v1+1,v3)
 else
  w0h v2
def B0C(a0:m4):Option (List Int) :=
 gd (((0:Int)<=(6:Int)/\(6:Int)=(6:Int)/\Int.toNat (6:Int)*8<=281474976710656/\(6:Int)<=(9223372036854775807:Int))/\True) <|
 lp (w0g a0) ((0,List.replicate (Int.toNat (6:Int)) (0:Int)))
def J0D:Ct:=lct 220 [.agg y163] (fun x=>B0C x.1) (fun r:List Int=>AV.ow 2 true i64 r) (fun _=>())
theorem I0d:Ok prog J0D:=by
 refine okL [.tmp 2] func220 ntmps220 results220 ?_;intro y ⟨a0,_⟩ r H Q hn hr;have:HT _ _:=⟨@tn prog⟩;refine qA (Z [p 1 (R 1)] [(1,K 163 y163 a0)])<|qB (Z [p 1 (R 1),p 3 (O 5)] [(5,A 2 i64 (List.replicate (Int.toNat (6:Int)) (0:Int)) 0),(1,K 163 y163 a0)]) H fun H=>jN r (fun(v4:List Int)=>Z [p 3 (O 5)] [(5,A 2 i64 v4 0)]) (w0h) (fun v4 H=>?_) (fun _ n0 e0 t0=>?_)
 ·refine qA (Z [p 2 (O 5)] [(5,A 2 i64 v4 0)])<|vTT<|hr H
 refine qA (Z [p 1 (R 1),p 3 (O 5),p 4 (I (0:Int))] [(5,A 2 i64 (List.replicate (Int.toNat (6:Int)) (0:Int)) 0),(1,K 163 y163 a0)])<|vB<|lX (fun((v1,v2):Int×List Int)=>Z [p 1 (R 1),p 3 (O 5),p 4 (I v1)] [(5,A 2 i64 v2 0),(1,K 163 y163 a0)]) ((0,List.replicate (Int.toNat (6:Int)) (0:Int))) H fun _ g1 b1 e1 t1 ⟨v1,v2⟩ H=>vQ<|qA (Z [p 1 (R 1),p 3 (O 5),p 4 (I v1),p 10 (B (decide (v1 < (a0.2.2.2.1.length:Int))))] [(5,A 2 i64 v2 0),(1,K 163 y163 a0)])<|cD H (fun H=>?_) (fun H=>?_)
 ·refine vK<|fQ<|vQ<|vB<|zD (fun v3=>Z [p 1 (R 1),p 3 (O 5),p 4 (I v1)] [(5,A 2 i64 v3 0),(1,K 163 y163 a0)]) H fun v3 H=>fK<|fQ<|zB (Z [p 1 (R 1),p 3 (O 5),p 4 (I (v1+1))] [(5,A 2 i64 v3 0),(1,K 163 y163 a0)]) H fun H=>b1 H
 exact vE<|fE<|e1<|fX rfl<|n0 H
def n0d(a0:List Int):Unit->Option (Bool)
 | _ =>
 some (decide (1<=(a0.length:Int))&&decide ((a0.length:Int)<=4))
def v0O(a0:List Int)(g1:Int->Option (Bool)):Int->Option (Bool)
 | v0 =>
 if(decide (v0 < (a0.length:Int)))=true then
  gd (ix v0 a0.length/\(u97 (a0.getD v0.toNat 0) 0 100000).isSome=true/\(decide (0<v0)=true/\(!vl (u97 (a0.getD v0.toNat 0) 0 100000))=false/\True->l3 (v0-1))/\(decide (0<v0)=true/\(!vl (u97 (a0.getD v0.toNat 0) 0 100000))=false/\True->ix (v0-1) a0.length)/\(decide (0<v0)=true/\(!vl (u97 (a0.getD v0.toNat 0) 0 100000))=false/\True->ix v0 a0.length)/\True) <|
  if(!vl (u97 (a0.getD v0.toNat 0) 0 100000)||decide (0<v0)&&decide (a0.getD v0.toNat 0<=a0.getD (v0-1).toNat 0))=true then
   some false
  else
   gd (l3 (v0+1)/\True) <|
   g1 (v0+1)
 else
  n0d a0 ()
def q0w(a0:List Int):Option (Bool) :=
 lp (v0O a0) 0
def J0b:Ct:=lct 285 [.dat i64.sl] (fun x=>q0w x.1) (fun r:Bool=>B r) (fun _=>())
theorem H0H:Ok prog J0b:=by
 refine okL [.tmp 2] func285 ntmps285 results285 ?_;intro y ⟨a0,_⟩ r H Q hn hr;have:HT _ _:=⟨tc o97 tn⟩;refine qA (Z [p 0 (L i64 a0)] [])<|jN r (fun(_:Unit)=>Z [p 0 (L i64 a0)] []) (n0d a0) (fun _ H=>?_) (fun _ n0 e0 t0=>?_)
 ·refine qA (Z [p 2 (B (decide (1<=(a0.length:Int))&&decide ((a0.length:Int)<=4)))] [])<|vTT<|hr H
 refine qA (Z [p 0 (L i64 a0),p 3 (I 0)] [])<|vB<|lX (fun(v0:Int)=>Z [p 0 (L i64 a0),p 3 (I v0)] []) 0 H fun _ g1 b1 e1 t1 v0 H=>vQ<|qA (Z [p 0 (L i64 a0),p 3 (I v0),p 7 (B (decide (v0 < (a0.length:Int))))] [])<|cD H (fun H=>?_) (fun H=>?_)
 ·refine vK<|fQ<|vQ<|vB<|qB (Z [p 0 (L i64 a0),p 3 (I v0),p 31 (B (!vl (u97 (a0.getD v0.toNat 0) 0 100000)||decide (0<v0)&&decide (a0.getD v0.toNat 0<=a0.getD (v0-1).toNat 0)))] []) H fun H=>cD H (fun H=>?_) (fun H=>?_)
  ·refine qA (Z [p 2 (B false)] [])<|vTT<|fDD<|fR<|t1<|fDD<|t0<|hr H
  refine vK<|fK<|fQ<|zB (Z [p 0 (L i64 a0),p 3 (I (v0+1))] []) H fun H=>b1 H
 exact vE<|fE<|e1<|fX rfl<|n0 H
def v0T:Unit->Option (Bool)
 | _ =>
 some true
def v0S(a0:D2)(g1:Int->Option (Bool)):Int->Option (Bool)
 | v0 =>
 if(decide (v0 < (a0.2.2.length:Int)))=true then
  gd (ix v0 a0.2.2.length/\(u97 (a0.2.2.getD v0.toNat 0) (-1000000) 1000000).isSome=true/\True) <|
  if(!vl (u97 (a0.2.2.getD v0.toNat 0) (-1000000) 1000000))=true then
   some false
  else
   gd (l3 (v0+1)/\True) <|
   g1 (v0+1)
 else
  v0T ()
def A0d(a0:D2):Option (Bool) :=
 gd ((q0w a0.1).isSome=true/\((!vl (q0w a0.1))=false/\True->(q0w a0.2.1).isSome=true)/\((!vl (q0w a0.1)||!vl (q0w a0.2.1))=false/\True->l3 ((a0.1.length:Int)*(a0.2.1.length:Int)))/\True) <|
 if(!vl (q0w a0.1)||!vl (q0w a0.2.1)||(a0.2.2.length:Int) != (a0.1.length:Int)*(a0.2.1.length:Int))=true then
  some false
 else
  lp (v0S a0) 0
def J0h:Ct:=lct 277 [.agg y140] (fun x=>A0d x.1) (fun r:Bool=>B r) (fun _=>())
theorem H0L:Ok prog J0h:=by
 refine okL [.tmp 2] func277 ntmps277 results277 ?_;intro y ⟨a0,_⟩ r H Q hn hr;have:HT _ _:=⟨tc o97 (tc H0H tn)⟩;refine qA (Z [p 1 (R 1)] [(1,K 140 y140 a0)])<|vQ<|qB (Z [p 1 (R 1),p 26 (B (!vl (q0w a0.1)||!vl (q0w a0.2.1)||(a0.2.2.length:Int) != (a0.1.length:Int)*(a0.2.1.length:Int)))] [(1,K 140 y140 a0)]) H fun H=>cD H (fun H=>?_) (fun H=>?_)
 ·refine qA (Z [p 2 (B false)] [(1,K 140 y140 a0)])<|vTT<|fR<|hr H
 refine vK<|fQ<|jN r (fun(_:Unit)=>Z [] []) (v0T) (fun _ H=>?_) (fun _ n0 e0 t0=>?_)
 ·refine qA (Z [p 2 (B true)] [])<|vTT<|hr H
 refine qA (Z [p 1 (R 1),p 3 (I 0)] [(1,K 140 y140 a0)])<|vB<|lX (fun(v0:Int)=>Z (G16 v0 []) [(1,K 140 y140 a0)]) 0 H fun _ g1 b1 e1 t1 v0 H=>vQ<|qA (Z (G16 v0 [p 31 (B (decide (v0 < (a0.2.2.length:Int))))]) [(1,K 140 y140 a0)])<|cD H (fun H=>?_) (fun H=>?_)
 ·refine vK<|fQ<|vQ<|vB<|qB (Z (G16 v0 [p 40 (B !vl (u97 (a0.2.2.getD v0.toNat 0) (-1000000) 1000000))]) [(1,K 140 y140 a0)]) H fun H=>cD H (fun H=>?_) (fun H=>?_)
  ·refine qA (Z [p 2 (B false)] [(1,K 140 y140 a0)])<|vTT<|fDD<|fR<|t1<|fDD<|t0<|hr H
  refine vK<|fK<|fQ<|zB (Z (G16 (v0+1) []) [(1,K 140 y140 a0)]) H fun H=>b1 H
 exact vE<|fE<|e1<|fX rfl<|n0 H
def v0X:Int×Int->Option (Y75×Int)
 | (v5,v6) =>
 some (((v5,v6),(0:Int)))
def q0z(a0:D2)(g1:Int×Int×Int->Option (Y75×Int)):Int×Int×Int->Option (Y75×Int)
 | (v2,v3,v4) =>
 if(decide (v2 < (a0.2.2.length:Int)))=true then
  gd (ix v2 a0.2.2.length/\True) <|
  gd (ix v2 a0.2.2.length/\True) <|
  gd (l3 (v2+1)/\True) <|
  g1 ((v2+1,min v3 (a0.2.2.getD v2.toNat 0),max v4 (a0.2.2.getD v2.toNat 0)))
 else
  v0X (v3,v4)
def B0v(a0:D2):Option (Y75×Int) :=
 gd ((A0d a0).isSome=true/\True) <|
 if(!vl (A0d a0))=true then
  some ((((0:Int),(0:Int)),(1:Int)))
 else
  gd (ix 0 a0.2.2.length/\ix 0 a0.2.2.length/\True) <|
  lp (q0z a0) ((1,a0.2.2.getD (Int.toNat (0:Int)) (0:Int),a0.2.2.getD (Int.toNat (0:Int)) (0:Int)))
def J0o:Ct:=lct 265 [.agg y140] (fun x=>B0v x.1) (fun r:Y75×Int=>AV.tup [AV.agg [I r.1.1,I r.1.2],I r.2]) (fun _=>())
theorem H0R:Ok prog J0o:=by
 refine okL [.cell 2 75,.tmp 3] func265 ntmps265 results265 ?_;intro y ⟨a0,_⟩ r H Q hn hr;have:HT _ _:=⟨tc H0L tn⟩;refine qA (Z [p 1 (R 1),p 2 (R 2)] (W50 a0))<|vQ<|qB (Z [p 1 (R 1),p 2 (R 2),p 8 (B !vl (A0d a0))] (W50 a0)) H fun H=>cD H (fun H=>?_) (fun H=>?_)
 ·refine qA (Z [p 2 (R 2),p 3 (I 1)] (W50 a0))<|vTT<|fR<|hr H
 refine vK<|fQ<|qB (Z (G81 []) (W92 (a0.2.2.getD (Int.toNat (0:Int)) (0:Int)) a0)) H fun H=>jN r (fun((v5,v6):Int×Int)=>Z [p 2 (R 2),p 4 (R 4)] [(4,bx 75 [J v5,J v6]),(2,bx 75 [I 0,I 0])]) (v0X) (fun⟨v5,v6⟩ H=>?_) (fun _ n0 e0 t0=>?_)
 ·refine qA (Z [p 2 (R 2),p 3 (I 0)] [(2,bx 75 [J v5,J v6]),(4,bx 75 [J v5,J v6])])<|vTT<|hr H
 refine qA (Z (G81 [p 5 (I (1:Int))]) (W92 (a0.2.2.getD (Int.toNat (0:Int)) (0:Int)) a0))<|vB<|lX (fun((v2,v3,v4):Int×Int×Int)=>Z (G81 [p 5 (I v2)]) ((4,bx 75 [J v3,J v4])::W50 a0)) ((1,a0.2.2.getD (Int.toNat (0:Int)) (0:Int),a0.2.2.getD (Int.toNat (0:Int)) (0:Int))) H fun _ g1 b1 e1 t1 ⟨v2,v3,v4⟩ H=>vQ<|qA (Z (G81 [p 5 (I v2),p 23 (B (decide (v2 < (a0.2.2.length:Int))))]) ((4,bx 75 [J v3,J v4])::W50 a0))<|cD H (fun H=>?_) (fun H=>?_)
 ·refine vK<|fQ<|vQ<|vB<|qB (Z (G81 [p 5 (I v2)]) ((4,bx 75 [I (min v3 (a0.2.2.getD v2.toNat 0)),J v4])::W50 a0)) H fun H=>zB (Z (G81 [p 5 (I v2)]) ((4,bx 75 [I (min v3 (a0.2.2.getD v2.toNat 0)),I (max v4 (a0.2.2.getD v2.toNat 0))])::W50 a0)) H fun H=>fK<|fQ<|zB (Z (G81 [p 5 (I (v2+1))]) ((4,bx 75 [I (min v3 (a0.2.2.getD v2.toNat 0)),I (max v4 (a0.2.2.getD v2.toNat 0))])::W50 a0)) H fun H=>b1 H
 exact vE<|fE<|e1<|fX rfl<|n0 H
def w0a:Unit->Option (Bool)
 | _ =>
 some true
def q0B(a1:Bool)(a0:List D2)(g1:Int->Option (Bool)):Int->Option (Bool)
 | v1 =>
 if(decide (v1<2))=true then
  gd (ix v1 a0.length/\(B0v (a0.getD v1.toNat (d6 y140))).isSome=true/\True)<|lt (vl (B0v (a0.getD v1.toNat (d6 y140)))) fun v2 =>
  if(v2.2 != 0||a1&&decide (v2.1.1<0))=true then
   some false
  else
   gd (l3 (v1+1)/\True) <|
   g1 (v1+1)
 else
  w0a ()
def M7(a0:List D2)(a1:Bool):Option (Bool) :=
 if((a0.length:Int) != 2)=true then
  some false
 else
  lp (q0B a1 a0) 0
def J0w:Ct:=lct 246 [.dat y140.sl,.dat Ty.bool] (fun x=>M7 x.1 x.2.1) (fun r:Bool=>B r) (fun _=>())
theorem H0W:Ok prog J0w:=by
 refine okL [.tmp 4] func246 ntmps246 results246 ?_;intro y ⟨a0,a1,_⟩ r H Q hn hr;have:HT _ _:=⟨tc H0R tn⟩;refine qA (Z [p 0 (L y140 a0),p 1 (C a1)] [])<|vQ<|qA (Z [p 0 (L y140 a0),p 1 (C a1),p 10 (B ((a0.length:Int) != 2))] [])<|cD H (fun H=>?_) (fun H=>?_)
 ·refine qA (Z [p 4 (B false)] [])<|vTT<|fR<|hr H
 refine vK<|fQ<|jN r (fun(_:Unit)=>Z [] []) (w0a) (fun _ H=>?_) (fun _ n0 e0 t0=>?_)
 ·refine qA (Z [p 4 (B true)] [])<|vTT<|hr H
 refine qA (Z [p 0 (L y140 a0),p 1 (C a1),p 5 (I 0)] [])<|vB<|lX (fun(v1:Int)=>Z [p 0 (L y140 a0),p 1 (C a1),p 5 (I v1)] []) 0 H fun _ g1 b1 e1 t1 v1 H=>vQ<|qA (Z [p 0 (L y140 a0),p 1 (C a1),p 5 (I v1),p 12 (B (decide (v1<2)))] [])<|cD H (fun H=>?_) (fun H=>?_)
 ·refine vK<|fQ<|vQ<|vB<|qD (fun v2=>Z [p 0 (L y140 a0),p 1 (C a1),p 5 (I v1),p 6 (R 6),p 7 (I v2.2)] [(6,bx 75 (u1 true y75 v2.1))]) H fun v2 H=>qA (Z [p 0 (L y140 a0),p 1 (C a1),p 5 (I v1),p 32 (B (v2.2 != 0||a1&&decide (v2.1.1<0)))] [(6,bx 75 (u1 true y75 v2.1))])<|cD H (fun H=>?_) (fun H=>?_)
  ·refine qA (Z [p 4 (B false)] [(6,bx 75 (u1 true y75 v2.1))])<|vTT<|fDD<|fR<|t1<|fDD<|t0<|hr H
  refine vK<|fK<|fQ<|zB (Z [p 0 (L y140 a0),p 1 (C a1),p 5 (I (v1+1))] [(6,bx 75 (u1 true y75 v2.1))]) H fun H=>b1 H
 exact vE<|fE<|e1<|fX rfl<|n0 H
def g0L(v0:I2)(a1:A5)(a0:m4):Bool->Option (Bool)
 | v2 =>
 if v2=true then
  gd (((v0.2.2.2&&decide (a1.2.2.1 < (a0.2.2.1.length:Int)-1))=true/\True->ix a1.2.2.1 a0.2.2.1.length)/\((v0.2.2.2&&decide (a1.2.2.1 < (a0.2.2.1.length:Int)-1)&&!(a0.2.2.1.getD a1.2.2.1.toNat (d6 y217)).2.2.2&&a1.2.2.2.1==0)=true/\True->(M7 a1.2.2.2.2.1 false).isSome=true)/\True) <|
  some (v0.2.2.2&&decide (a1.2.2.1 < (a0.2.2.1.length:Int)-1)&&!(a0.2.2.1.getD a1.2.2.1.toNat (d6 y217)).2.2.2&&a1.2.2.2.1==0&&vl (M7 a1.2.2.2.2.1 false)&&(a1.2.2.2.2.2.length:Int)==0)
 else
  some false
def k0j(v0:I2)(a1:A5)(a0:m4):Bool->Option (Bool)
 | v1 =>
 if v1=true then
  gd (((v0.2.2.2&&a1.2.2.1==(a0.2.2.1.length:Int)-1&&a1.2.2.2.1==0)=true/\True->(M7 a1.2.2.2.2.1 true).isSome=true)/\((v0.2.2.2&&a1.2.2.1==(a0.2.2.1.length:Int)-1&&a1.2.2.2.1==0&&vl (M7 a1.2.2.2.2.1 true))=true/\True->(M7 a1.2.2.2.2.2 true).isSome=true)/\True) <|
  some (v0.2.2.2&&a1.2.2.1==(a0.2.2.1.length:Int)-1&&a1.2.2.2.1==0&&vl (M7 a1.2.2.2.2.1 true)&&vl (M7 a1.2.2.2.2.2 true))
 else
  if(a1.1==4)=true then
   g0L v0 a1 a0 (a1.1==4)
  else
   g0L v0 a1 a0 (a1.1==5)
def A0f(a0:m4)(a1:A5):Option (Bool) :=
 gd (l3 ((a0.2.2.1.length:Int)-1)/\True) <|
 gd (l3 ((a0.2.2.1.length:Int)-1-1)/\(u97 a1.2.1 0 ((a0.2.2.1.length:Int)-1-1)).isSome=true/\((!vl (u97 a1.2.1 0 ((a0.2.2.1.length:Int)-1-1)))=false/\True->(u97 a1.2.2.1 0 ((a0.2.2.1.length:Int)-1)).isSome=true)/\True) <|
 if(!vl (u97 a1.2.1 0 ((a0.2.2.1.length:Int)-1-1))||!vl (u97 a1.2.2.1 0 ((a0.2.2.1.length:Int)-1)))=true then
  some false
 else
  gd (ix a1.2.1 a0.2.2.1.length/\True)<|lt (a0.2.2.1.getD a1.2.1.toNat (d6 y217)) fun v0 =>
  if(a1.1==1)=true then
   gd (((!v0.2.2.2&&a1.2.2.1==(a0.2.2.1.length:Int)-1)=true/\True->(u97 a1.2.2.2.1 1 3).isSome=true)/\((!v0.2.2.2&&a1.2.2.1==(a0.2.2.1.length:Int)-1&&vl (u97 a1.2.2.2.1 1 3))=true/\True->(M7 a1.2.2.2.2.1 true).isSome=true)/\((!v0.2.2.2&&a1.2.2.1==(a0.2.2.1.length:Int)-1&&vl (u97 a1.2.2.2.1 1 3)&&vl (M7 a1.2.2.2.2.1 true))=true/\True->(M7 a1.2.2.2.2.2 true).isSome=true)/\True) <|
   some (!v0.2.2.2&&a1.2.2.1==(a0.2.2.1.length:Int)-1&&vl (u97 a1.2.2.2.1 1 3)&&vl (M7 a1.2.2.2.2.1 true)&&vl (M7 a1.2.2.2.2.2 true))
  else
   if(a1.1==2)=true then
    k0j v0 a1 a0 (a1.1==2)
   else
    k0j v0 a1 a0 (a1.1==3)
def J0E:Ct:=lct 219 [.agg y163,.agg y143] (fun x=>A0f x.1 x.2.1) (fun r:Bool=>B r) (fun _=>())
theorem I0e:Ok prog J0E:=by
 refine okL [.tmp 4] func219 ntmps219 results219 ?_;intro y ⟨a0,a1,_⟩ r H Q hn hr;have:HT _ _:=⟨tc H0W (tc o97 tn)⟩;refine qA (Z (G13 []) (W15 a1 a0))<|qB (Z (G13 [p 5 (I ((a0.2.2.1.length:Int)-1))]) (W15 a1 a0)) H fun H=>vQ<|qB (Z (G13 [p 5 (I ((a0.2.2.1.length:Int)-1)),p 23 (B (!vl (u97 a1.2.1 0 ((a0.2.2.1.length:Int)-1-1))||!vl (u97 a1.2.2.1 0 ((a0.2.2.1.length:Int)-1))))]) (W15 a1 a0)) H fun H=>cD H (fun H=>?_) (fun H=>?_)
 ·refine qA (Z [p 4 (B false)] (W15 a1 a0))<|vTT<|fR<|hr H
 refine vK<|fQ<|qD (fun v0=>Z (G13 [p 5 (I ((a0.2.2.1.length:Int)-1)),p 6 (C v0.2.2.2)]) (W15 a1 a0)) H fun v0 H=>vQ<|qA (Z (G13 [p 5 (I ((a0.2.2.1.length:Int)-1)),p 6 (C v0.2.2.2),p 32 (J a1.1)]) (W15 a1 a0))<|vB<|qA (Z (G13 [p 5 (I ((a0.2.2.1.length:Int)-1)),p 6 (C v0.2.2.2),p 32 (J a1.1),p 33 (B (a1.1==1))]) (W15 a1 a0))<|cD H (fun H=>?_) (fun H=>?_)
 ·refine qB (Z [p 4 (B (!v0.2.2.2&&a1.2.2.1==(a0.2.2.1.length:Int)-1&&vl (u97 a1.2.2.2.1 1 3)&&vl (M7 a1.2.2.2.2.1 true)&&vl (M7 a1.2.2.2.2.2 true)))] (W15 a1 a0)) H fun H=>vTT<|fDD<|fR<|hr H
 refine jN r (fun(v1:Bool)=>Z (G13 [p 5 (I ((a0.2.2.1.length:Int)-1)),p 6 (C v0.2.2.2),p 32 (J a1.1),p 58 (B v1)]) (W15 a1 a0)) (k0j v0 a1 a0) (fun v1 H=>?_) (fun _ n0 e0 t0=>?_)
 ·refine cD H (fun H=>?_) (fun H=>?_)
  ·refine qB (Z [p 4 (B (v0.2.2.2&&a1.2.2.1==(a0.2.2.1.length:Int)-1&&a1.2.2.2.1==0&&vl (M7 a1.2.2.2.2.1 true)&&vl (M7 a1.2.2.2.2.2 true)))] (W15 a1 a0)) H fun H=>vTT<|fDD<|fR<|hr H
  refine jN r (fun(v2:Bool)=>Z (G13 [p 5 (I ((a0.2.2.1.length:Int)-1)),p 6 (C v0.2.2.2),p 83 (B v2)]) (W15 a1 a0)) (g0L v0 a1 a0) (fun v2 H=>?_) (fun _ n1 e1 t1=>?_)
  ·refine cD H (fun H=>?_) (fun H=>?_)
   ·refine qB (Z [p 4 (B (v0.2.2.2&&decide (a1.2.2.1 < (a0.2.2.1.length:Int)-1)&&!(a0.2.2.1.getD a1.2.2.1.toNat (d6 y217)).2.2.2&&a1.2.2.2.1==0&&vl (M7 a1.2.2.2.2.1 false)&&(a1.2.2.2.2.2.length:Int)==0))] (W15 a1 a0)) H fun H=>vTT<|fDD<|fR<|hr H
   refine vK<|fK<|fQ<|qA (Z [p 4 (B false)] (W15 a1 a0))<|vTT<|hr H
  refine qA (Z (G13 [p 5 (I ((a0.2.2.1.length:Int)-1)),p 6 (C v0.2.2.2),p 32 (J a1.1),p 83 (B (a1.1==4))]) (W15 a1 a0))<|cD H (fun H=>?_) (fun H=>?_)
  ·exact vK<|n1 H
  refine zA (Z (G13 [p 5 (I ((a0.2.2.1.length:Int)-1)),p 6 (C v0.2.2.2),p 83 (B (a1.1==5))]) (W15 a1 a0))<|n1 H
 refine qA (Z (G13 [p 5 (I ((a0.2.2.1.length:Int)-1)),p 6 (C v0.2.2.2),p 32 (J a1.1),p 58 (B (a1.1==2))]) (W15 a1 a0))<|cD H (fun H=>?_) (fun H=>?_)
 ·exact vK<|n0 H
 refine zA (Z (G13 [p 5 (I ((a0.2.2.1.length:Int)-1)),p 6 (C v0.2.2.2),p 32 (J a1.1),p 58 (B (a1.1==3))]) (W15 a1 a0))<|n0 H
def q0D:Int->Option (Int×Bool)
 | v8 =>
 some (v8,true)
def n0i(v4:Int)(g1:Int×Int->Option (Int×Bool)):Int->Option (Int×Bool)
 | v7 =>
 gd (l3 (v4+1)/\True) <|
 g1 (v7,v4+1)
def n0h(v4:Int)(v3:Int)(v5:I2)(a0:m4)(g1:Int×Int->Option (Int×Bool)):Unit->Option (Int×Bool)
 | _ =>
 gd ((U3 v5.1).isSome=true/\((!vl (U3 v5.1))=false/\True->(u97 v5.2.2.1 0 500).isSome=true)/\True) <|
 if(!vl (U3 v5.1)||!vl (u97 v5.2.2.1 0 500))=true then
  some (((0:Int),false))
 else
  gd (l3 ((a0.2.2.1.length:Int)-1)/\((v4==(a0.2.2.1.length:Int)-1&&(v5.2.1 != 2||v5.2.2.1 != 0||v5.2.2.2))=false/\True->l3 ((a0.2.2.1.length:Int)-1))/\True) <|
  if(v4==(a0.2.2.1.length:Int)-1&&(v5.2.1 != 2||v5.2.2.1 != 0||v5.2.2.2)||decide (v4 < (a0.2.2.1.length:Int)-1)&&v5.2.1 != 1)=true then
   some (((0:Int),false))
  else
   if v5.2.2.2=true then
    gd (l3 (v3+1)/\True) <|
    n0i v4 g1 (v3+1)
   else
    n0i v4 g1 v3
def w0i(a0:m4)(v5:I2)(v4:Int)(v3:Int)(g1:Int×Int->Option (Int×Bool))(g4:Int->Option (Int×Bool)):Int->Option (Int×Bool)
 | v6 =>
 if(decide (v6<v4))=true then
  gd (ix v6 a0.2.2.1.length/\True) <|
  if(decide ((a0.2.2.1.getD v6.toNat (d6 y217)).1=v5.1))=true then
   some (((0:Int),false))
  else
   gd (l3 (v6+1)/\True) <|
   g4 (v6+1)
 else
  n0h v4 v3 v5 a0 g1 ()
def w0j(a0:m4)(g1:Int×Int->Option (Int×Bool)):Int×Int->Option (Int×Bool)
 | (v3,v4) =>
 if(decide (v4 < (a0.2.2.1.length:Int)))=true then
  gd (ix v4 a0.2.2.1.length/\True)<|lt (a0.2.2.1.getD v4.toNat (d6 y217)) fun v5 =>
  lp (w0i a0 v5 v4 v3 g1) 0
 else
  q0D v3
def B0D(a0:m4):Option (Int×Bool) :=
 if(decide ((a0.2.2.1.length:Int)<2)||decide (5 < (a0.2.2.1.length:Int)))=true then
  some (((0:Int),false))
 else
  lp (w0j a0) (0,0)
def J0F:Ct:=lct 218 [.agg y163] (fun x=>B0D x.1) (fun r:Int×Bool=>AV.tup [I r.1,B r.2]) (fun _=>())
theorem I0f:Ok prog J0F:=by
 refine okL [.tmp 2,.tmp 3] func218 ntmps218 results218 ?_;intro y ⟨a0,_⟩ r H Q hn hr;have:HT _ _:=⟨tc o97 (tc E0H tn)⟩;refine qA (Z [p 1 (R 1)] [(1,K 163 y163 a0)])<|qA (Z [p 1 (R 1),p 4 (I (a0.2.2.1.length:Int))] [(1,K 163 y163 a0)])<|vQ<|qA (Z [p 1 (R 1),p 4 (I (a0.2.2.1.length:Int)),p 17 (B (decide ((a0.2.2.1.length:Int)<2)||decide (5 < (a0.2.2.1.length:Int))))] [(1,K 163 y163 a0)])<|cD H (fun H=>?_) (fun H=>?_)
 ·refine qA (Z [p 2 (I 0),p 3 (B false)] [(1,K 163 y163 a0)])<|vTT<|fR<|hr H
 refine vK<|fQ<|qA (Z [p 1 (R 1),p 4 (I (a0.2.2.1.length:Int)),p 5 (I 0)] [(1,K 163 y163 a0)])<|jN r (fun(v8:Int)=>Z [p 5 (I v8)] []) (q0D) (fun v8 H=>?_) (fun _ n0 e0 t0=>?_)
 ·refine qA (Z [p 2 (I v8),p 3 (B true)] [])<|vTT<|hr H
 refine qA (Z [p 1 (R 1),p 4 (I (a0.2.2.1.length:Int)),p 5 (I 0),p 6 (I 0)] [(1,K 163 y163 a0)])<|vB<|lX (fun((v3,v4):Int×Int)=>Z (G34 (a0.2.2.1.length:Int) v3 v4 []) [(1,K 163 y163 a0)]) (0,0) H fun _ g1 b1 e1 t1 ⟨v3,v4⟩ H=>vQ<|qA (Z (G34 (a0.2.2.1.length:Int) v3 v4 [p 20 (B (decide (v4 < (a0.2.2.1.length:Int))))]) [(1,K 163 y163 a0)])<|cD H (fun H=>?_) (fun H=>?_)
 ·refine vK<|fQ<|jN r (fun(v7:Int)=>Z (G34 (a0.2.2.1.length:Int) v7 v4 []) [(1,K 163 y163 a0)]) (n0i v4 g1) (fun v7 H=>?_) (fun _ n2 e2 t2=>?_)
  ·refine zB (Z (G34 (a0.2.2.1.length:Int) v7 (v4+1) []) [(1,K 163 y163 a0)]) H fun H=>b1 H
  refine vB<|qD (fun v5=>Z (G34 (a0.2.2.1.length:Int) v3 v4 [p 7 (R 7)]) (W36 v5 a0)) H fun v5 H=>jN r (fun(_:Unit)=>Z (G34 (a0.2.2.1.length:Int) v3 v4 [p 7 (R 7)]) (W36 v5 a0)) (n0h v4 v3 v5 a0 g1) (fun _ H=>?_) (fun _ n3 e3 t3=>?_)
  ·refine vQ<|qB (Z (G34 (a0.2.2.1.length:Int) v3 v4 [p 7 (R 7),p 51 (B (!vl (U3 v5.1)||!vl (u97 v5.2.2.1 0 500)))]) (W36 v5 a0)) H fun H=>cD H (fun H=>?_) (fun H=>?_)
   ·refine qA (Z [p 2 (I 0),p 3 (B false)] (W36 v5 a0))<|vTT<|fR<|fDD<|t2<|t1<|fDD<|t0<|hr H
   refine vK<|fQ<|vQ<|qB (Z (G34 (a0.2.2.1.length:Int) v3 v4 [p 7 (R 7),p 80 (B (v4==(a0.2.2.1.length:Int)-1&&(v5.2.1 != 2||v5.2.2.1 != 0||v5.2.2.2)||decide (v4 < (a0.2.2.1.length:Int)-1)&&v5.2.1 != 1))]) (W36 v5 a0)) H fun H=>cD H (fun H=>?_) (fun H=>?_)
   ·refine qA (Z [p 2 (I 0),p 3 (B false)] (W36 v5 a0))<|vTT<|fR<|fDD<|t2<|t1<|fDD<|t0<|hr H
   refine vK<|fQ<|qA (Z (G34 (a0.2.2.1.length:Int) v3 v4 [p 82 (C v5.2.2.2)]) (W36 v5 a0))<|cD H (fun H=>?_) (fun H=>?_)
   ·refine zB (Z (G34 (a0.2.2.1.length:Int) (v3+1) v4 []) (W36 v5 a0)) H fun H=>fK<|n2 H
   exact vK<|fK<|n2 H
  refine qA (Z (G34 (a0.2.2.1.length:Int) v3 v4 [p 7 (R 7),p 8 (I 0)]) (W36 v5 a0))<|vB<|lX (fun(v6:Int)=>Z (G34 (a0.2.2.1.length:Int) v3 v4 [p 7 (R 7),p 8 (I v6)]) (W36 v5 a0)) 0 H fun _ g4 b4 e4 t4 v6 H=>vQ<|qA (Z (G34 (a0.2.2.1.length:Int) v3 v4 [p 7 (R 7),p 8 (I v6),p 30 (B (decide (v6<v4)))]) (W36 v5 a0))<|cD H (fun H=>?_) (fun H=>?_)
  ·refine vK<|fQ<|vQ<|vB<|qB (Z (G34 (a0.2.2.1.length:Int) v3 v4 [p 7 (R 7),p 8 (I v6),p 41 (B (decide ((a0.2.2.1.getD v6.toNat (d6 y217)).1=v5.1)))]) (W36 v5 a0)) H fun H=>cD H (fun H=>?_) (fun H=>?_)
   ·refine qA (Z [p 2 (I 0),p 3 (B false)] (W36 v5 a0))<|vTT<|fDD<|fR<|t4<|fDD<|t3<|fDD<|t2<|t1<|fDD<|t0<|hr H
   refine vK<|fK<|fQ<|zB (Z (G34 (a0.2.2.1.length:Int) v3 v4 [p 7 (R 7),p 8 (I (v6+1))]) (W36 v5 a0)) H fun H=>b4 H
  exact vE<|fE<|e4<|fX rfl<|n3 H
 exact vE<|fE<|e1<|fX rfl<|n0 H
def w0r:Unit->Option (Bool)
 | _ =>
 some false
def k0m(v0:Int×Bool)(a0:m4):Unit->Option (Bool)
 | _ =>
 gd (((v0.1==(0:Int))=true/\True->l3 ((a0.2.2.1.length:Int)-(1:Int)))/\((v0.1==(0:Int))=true/\True->(0:Int)<=(a0.2.2.1.length:Int)-(1:Int)/\(a0.2.2.1.length:Int)-(1:Int)<=(18446744073709551615:Int))/\((v0.1==(0:Int))=true/\True->((0:Int)<=(a0.2.2.1.length:Int)-(1:Int)/\(a0.2.2.1.length:Int)-(1:Int)<=(62:Int))/\l3 ((1:Int)*(2:Int) ^ ((a0.2.2.1.length:Int)-(1:Int)).toNat))/\True) <|
 some (v0.1==(0:Int)&&(a0.2.2.2.2.1.length:Int)==(1:Int)*(2:den i64) ^ ((a0.2.2.1.length:Int)-(1:Int)).toNat)
def w0o(a0:m4)(v0:Int×Bool)(g6:Int->Option (Bool)):Int->Option (Bool)
 | v7 =>
 if(decide (v7 < (a0.2.2.2.2.1.length:Int)))=true then
  gd (ix v7 a0.2.2.2.2.1.length/\(u97 (a0.2.2.2.2.1.getD v7.toNat 0) 0 1).isSome=true/\True) <|
  if(!vl (u97 (a0.2.2.2.2.1.getD v7.toNat 0) 0 1))=true then
   some false
  else
   gd (l3 (v7+1)/\True) <|
   g6 (v7+1)
 else
  k0m v0 a0 ()
def n0k(a0:m4)(v0:Int×Bool):Unit->Option (Bool)
 | _ =>
 gd ((B0C a0).isSome=true/\True)<|lt (vl (B0C a0)) fun v6 =>
 if(a0.2.1==1)=true then
  lp (w0o a0 v0) 0
 else
  if(a0.2.1==2)=true then
   gd (((v0.1==(1:Int))=true/\True->ix (1:Int) v6.length)/\((v0.1==(1:Int))=true/\True->Int.toNat (1:Int)<v6.length)/\((v0.1==(1:Int)&&v6.getD (Int.toNat (1:Int)) (0:Int)==(0:Int))=true/\True->ix (2:Int) v6.length)/\((v0.1==(1:Int)&&v6.getD (Int.toNat (1:Int)) (0:Int)==(0:Int))=true/\True->Int.toNat (2:Int)<v6.length)/\((v0.1==(1:Int)&&v6.getD (Int.toNat (1:Int)) (0:Int)==(0:Int))=true/\True->ix (3:Int) v6.length)/\((v0.1==(1:Int)&&v6.getD (Int.toNat (1:Int)) (0:Int)==(0:Int))=true/\True->Int.toNat (3:Int)<v6.length)/\True) <|
   some (v0.1==(1:Int)&&v6.getD (Int.toNat (1:Int)) (0:Int)==(0:Int)&&!decide ((0:Int)<v6.getD (Int.toNat (2:Int)) (0:Int))==decide ((0:Int)<v6.getD (Int.toNat (3:Int)) (0:Int))&&(a0.2.2.2.2.1.length:Int)==(0:Int))
  else
   if(a0.2.1==3)=true then
    gd (((v0.1==(1:Int))=true/\True->ix (1:Int) v6.length)/\((v0.1==(1:Int))=true/\True->Int.toNat (1:Int)<v6.length)/\((v0.1==(1:Int)&&decide ((0:Int)<v6.getD (Int.toNat (1:Int)) (0:Int)))=true/\True->ix (2:Int) v6.length)/\((v0.1==(1:Int)&&decide ((0:Int)<v6.getD (Int.toNat (1:Int)) (0:Int)))=true/\True->Int.toNat (2:Int)<v6.length)/\((v0.1==(1:Int)&&decide ((0:Int)<v6.getD (Int.toNat (1:Int)) (0:Int))&&decide ((0:Int)<v6.getD (Int.toNat (2:Int)) (0:Int)))=true/\True->ix (3:Int) v6.length)/\((v0.1==(1:Int)&&decide ((0:Int)<v6.getD (Int.toNat (1:Int)) (0:Int))&&decide ((0:Int)<v6.getD (Int.toNat (2:Int)) (0:Int)))=true/\True->Int.toNat (3:Int)<v6.length)/\True) <|
    some (v0.1==(1:Int)&&decide ((0:Int)<v6.getD (Int.toNat (1:Int)) (0:Int))&&decide ((0:Int)<v6.getD (Int.toNat (2:Int)) (0:Int))&&v6.getD (Int.toNat (3:Int)) (0:Int)==(0:Int)&&(a0.2.2.2.2.1.length:Int)==(0:Int))
   else
    w0r ()
def w0s(v3:Int)(g1:Int->Option (Bool)):Unit->Option (Bool)
 | _ =>
 gd (l3 (v3+1)/\True) <|
 g1 (v3+1)
def w0p(a0:m4)(v4:A5)(v3:Int)(g1:Int->Option (Bool))(g3:Int->Option (Bool)):Int->Option (Bool)
 | v5 =>
 if(decide (v5<v3))=true then
  gd (ix v5 a0.2.2.2.1.length/\(((a0.2.2.2.1.getD v5.toNat (d6 y143)).1==v4.1)=true/\True->ix v5 a0.2.2.2.1.length)/\(((a0.2.2.2.1.getD v5.toNat (d6 y143)).1==v4.1&&(a0.2.2.2.1.getD v5.toNat (d6 y143)).2.1==v4.2.1)=true/\True->ix v5 a0.2.2.2.1.length)/\True) <|
  if((a0.2.2.2.1.getD v5.toNat (d6 y143)).1==v4.1&&(a0.2.2.2.1.getD v5.toNat (d6 y143)).2.1==v4.2.1&&(a0.2.2.2.1.getD v5.toNat (d6 y143)).2.2.1==v4.2.2.1)=true then
   some false
  else
   gd (l3 (v5+1)/\True) <|
   g3 (v5+1)
 else
  w0s v3 g1 ()
def w0q(a0:m4)(v0:Int×Bool)(g1:Int->Option (Bool)):Int->Option (Bool)
 | v3 =>
 if(decide (v3 < (a0.2.2.2.1.length:Int)))=true then
  gd (ix v3 a0.2.2.2.1.length/\True)<|lt (a0.2.2.2.1.getD v3.toNat (d6 y143)) fun v4 =>
  gd ((A0f a0 v4).isSome=true/\True) <|
  if(!vl (A0f a0 v4))=true then
   some false
  else
   lp (w0p a0 v4 v3 g1) 0
 else
  n0k a0 v0 ()
def A0j(a0:m4):Option (Bool) :=
 gd ((B0D a0).isSome=true/\True)<|lt (vl (B0D a0)) fun v0 =>
 gd (((!v0.2)=false/\True->(U3 a0.1).isSome=true)/\((!v0.2||!vl (U3 a0.1)||decide (8 < (a0.2.2.2.1.length:Int)))=false/\True->(u97 a0.2.2.2.2.2.1 0 100000).isSome=true)/\((!v0.2||!vl (U3 a0.1)||decide (8 < (a0.2.2.2.1.length:Int))||!vl (u97 a0.2.2.2.2.2.1 0 100000))=false/\True->(u97 a0.2.2.2.2.2.2 0 100000).isSome=true)/\True) <|
 if(!v0.2||!vl (U3 a0.1)||decide (8 < (a0.2.2.2.1.length:Int))||!vl (u97 a0.2.2.2.2.2.1 0 100000)||!vl (u97 a0.2.2.2.2.2.2 0 100000))=true then
  some false
 else
  lp (w0q a0 v0) 0
def J0R:Ct:=lct 186 [.agg y163] (fun x=>A0j x.1) (fun r:Bool=>B r) (fun _=>())
theorem I0m:Ok prog J0R:=by
 refine okL [.tmp 2] func186 ntmps186 results186 ?_;intro y ⟨a0,_⟩ r H Q hn hr;have:HT _ _:=⟨tc o97 (tc I0d (tc I0e (tc E0H (tc I0f tn))))⟩;refine qA (Z [p 1 (R 1)] [(1,K 163 y163 a0)])<|qD (fun v0=>Z (G16 v0.1 [p 4 (B v0.2)]) [(1,K 163 y163 a0)]) H fun v0 H=>vQ<|qB (Z (G16 v0.1 [p 40 (B (!v0.2||!vl (U3 a0.1)||decide (8 < (a0.2.2.2.1.length:Int))||!vl (u97 a0.2.2.2.2.2.1 0 100000)||!vl (u97 a0.2.2.2.2.2.2 0 100000)))]) [(1,K 163 y163 a0)]) H fun H=>cD H (fun H=>?_) (fun H=>?_)
 ·refine qA (Z [p 2 (B false)] [(1,K 163 y163 a0)])<|vTT<|fR<|hr H
 refine vK<|fQ<|jN r (fun(_:Unit)=>Z (G16 v0.1 []) [(1,K 163 y163 a0)]) (n0k a0 v0) (fun _ H=>?_) (fun _ n0 e0 t0=>?_)
 ·refine qD (fun v6=>Z (G16 v0.1 [p 8 (O 94)]) (W75 v6 a0)) H fun v6 H=>jN r (fun(_:Unit)=>Z [] []) (w0r) (fun _ H=>?_) (fun _ n4 e4 t4=>?_)
  ·refine qA (Z [p 2 (B false)] [])<|vTT<|hr H
  refine qA (Z (G16 v0.1 [p 8 (O 94),p 96 (J a0.2.1)]) (W75 v6 a0))<|vB<|qA (Z (G16 v0.1 [p 8 (O 94),p 96 (J a0.2.1),p 97 (B (a0.2.1==1))]) (W75 v6 a0))<|cD H (fun H=>?_) (fun H=>?_)
  ·refine jN r (fun(_:Unit)=>Z (G16 v0.1 []) [(1,K 163 y163 a0)]) (k0m v0 a0) (fun _ H=>?_) (fun _ n5 e5 t5=>?_)
   ·refine qB (Z [p 2 (B (v0.1==(0:Int)&&(a0.2.2.2.2.1.length:Int)==(1:Int)*(2:den i64) ^ ((a0.2.2.1.length:Int)-(1:Int)).toNat))] [(1,K 163 y163 a0)]) H fun H=>vTT<|fDD<|t4<|hr H
   refine qA (Z (G16 v0.1 [p 9 (I 0)]) (W75 v6 a0))<|vB<|lX (fun(v7:Int)=>Z (G16 v0.1 [p 9 (I v7)]) [(1,K 163 y163 a0)]) 0 H fun _ g6 b6 e6 t6 v7 H=>vQ<|qA (Z (G16 v0.1 [p 9 (I v7),p 103 (B (decide (v7 < (a0.2.2.2.2.1.length:Int))))]) [(1,K 163 y163 a0)])<|cD H (fun H=>?_) (fun H=>?_)
   ·refine vK<|fQ<|vQ<|vB<|qB (Z (G16 v0.1 [p 9 (I v7),p 112 (B !vl (u97 (a0.2.2.2.2.1.getD v7.toNat 0) 0 1))]) [(1,K 163 y163 a0)]) H fun H=>cD H (fun H=>?_) (fun H=>?_)
    ·refine qA (Z [p 2 (B false)] [(1,K 163 y163 a0)])<|vTT<|fDD<|fR<|t6<|fDD<|t5<|fDD<|t4<|hr H
    refine vK<|fK<|fQ<|zB (Z (G16 v0.1 [p 9 (I (v7+1))]) [(1,K 163 y163 a0)]) H fun H=>b6 H
   exact vE<|fE<|e6<|fX rfl<|n5 H
  refine qA (Z (G16 v0.1 [p 8 (O 94),p 96 (J a0.2.1),p 127 (B (a0.2.1==2))]) (W75 v6 a0))<|cD H (fun H=>?_) (fun H=>?_)
  ·refine qB (Z [p 2 (B (v0.1==(1:Int)&&v6.getD (Int.toNat (1:Int)) (0:Int)==(0:Int)&&!decide ((0:Int)<v6.getD (Int.toNat (2:Int)) (0:Int))==decide ((0:Int)<v6.getD (Int.toNat (3:Int)) (0:Int))&&(a0.2.2.2.2.1.length:Int)==(0:Int)))] (W75 v6 a0)) H fun H=>vTT<|fDD<|t4<|hr H
  refine qA (Z (G16 v0.1 [p 8 (O 94),p 154 (B (a0.2.1==3))]) (W75 v6 a0))<|cD H (fun H=>?_) (fun H=>?_)
  ·refine qB (Z [p 2 (B (v0.1==(1:Int)&&decide ((0:Int)<v6.getD (Int.toNat (1:Int)) (0:Int))&&decide ((0:Int)<v6.getD (Int.toNat (2:Int)) (0:Int))&&v6.getD (Int.toNat (3:Int)) (0:Int)==(0:Int)&&(a0.2.2.2.2.1.length:Int)==(0:Int)))] (W75 v6 a0)) H fun H=>vTT<|fDD<|t4<|hr H
  exact vK<|fK<|n4 H
 refine qA (Z (G16 v0.1 [p 5 (I 0)]) [(1,K 163 y163 a0)])<|vB<|lX (fun(v3:Int)=>Z (G16 v0.1 [p 5 (I v3)]) [(1,K 163 y163 a0)]) 0 H fun _ g1 b1 e1 t1 v3 H=>vQ<|qA (Z (G16 v0.1 [p 5 (I v3),p 45 (B (decide (v3 < (a0.2.2.2.1.length:Int))))]) [(1,K 163 y163 a0)])<|cD H (fun H=>?_) (fun H=>?_)
 ·refine vK<|fQ<|jN r (fun(_:Unit)=>Z (G16 v0.1 [p 5 (I v3)]) [(1,K 163 y163 a0)]) (w0s v3 g1) (fun _ H=>?_) (fun _ n2 e2 t2=>?_)
  ·refine zB (Z (G16 v0.1 [p 5 (I (v3+1))]) [(1,K 163 y163 a0)]) H fun H=>b1 H
  refine vB<|qD (fun v4=>Z (G16 v0.1 [p 5 (I v3),p 6 (R 6)]) (W63 v4 a0)) H fun v4 H=>vQ<|qB (Z (G16 v0.1 [p 5 (I v3),p 6 (R 6),p 56 (B !vl (A0f a0 v4))]) (W63 v4 a0)) H fun H=>cD H (fun H=>?_) (fun H=>?_)
  ·refine qA (Z [p 2 (B false)] (W63 v4 a0))<|vTT<|fR<|fDD<|t2<|t1<|fDD<|t0<|hr H
  refine vK<|fQ<|qA (Z (G16 v0.1 [p 5 (I v3),p 6 (R 6),p 7 (I 0)]) (W63 v4 a0))<|vB<|lX (fun(v5:Int)=>Z (G16 v0.1 [p 5 (I v3),p 6 (R 6),p 7 (I v5)]) (W63 v4 a0)) 0 H fun _ g3 b3 e3 t3 v5 H=>vQ<|qA (Z (G16 v0.1 [p 5 (I v3),p 6 (R 6),p 7 (I v5),p 59 (B (decide (v5<v3)))]) (W63 v4 a0))<|cD H (fun H=>?_) (fun H=>?_)
  ·refine vK<|fQ<|vQ<|vB<|qB (Z (G16 v0.1 [p 5 (I v3),p 6 (R 6),p 7 (I v5),p 92 (B ((a0.2.2.2.1.getD v5.toNat (d6 y143)).1==v4.1&&(a0.2.2.2.1.getD v5.toNat (d6 y143)).2.1==v4.2.1&&(a0.2.2.2.1.getD v5.toNat (d6 y143)).2.2.1==v4.2.2.1))]) (W63 v4 a0)) H fun H=>cD H (fun H=>?_) (fun H=>?_)
   ·refine qA (Z [p 2 (B false)] (W63 v4 a0))<|vTT<|fDD<|fR<|t3<|fDD<|fDD<|t2<|t1<|fDD<|t0<|hr H
   refine vK<|fK<|fQ<|zB (Z (G16 v0.1 [p 5 (I v3),p 6 (R 6),p 7 (I (v5+1))]) (W63 v4 a0)) H fun H=>b3 H
  exact vE<|fE<|e3<|fX rfl<|fK<|n2 H
 exact vE<|fE<|e1<|fX rfl<|n0 H
def n0s(a0:List m4):Unit->Option (Bool)
 | _ =>
 some (decide ((a0.length:Int)<=8))
def x0f(v1:Int)(g1:Int->Option (Bool)):Unit->Option (Bool)
 | _ =>
 gd (l3 (v1+1)/\True) <|
 g1 (v1+1)
def x0d(a0:List m4)(v1:Int)(g1:Int->Option (Bool))(g3:Int->Option (Bool)):Int->Option (Bool)
 | v2 =>
 if(decide (v2<v1))=true then
  gd (ix v2 a0.length/\ix v1 a0.length/\True) <|
  if(decide ((a0.getD v2.toNat (d6 y163)).1=(a0.getD v1.toNat (d6 y163)).1))=true then
   some false
  else
   gd (l3 (v2+1)/\True) <|
   g3 (v2+1)
 else
  x0f v1 g1 ()
def x0e(a0:List m4)(g1:Int->Option (Bool)):Int->Option (Bool)
 | v1 =>
 if(decide (v1 < (a0.length:Int)))=true then
  gd (ix v1 a0.length/\(A0j (a0.getD v1.toNat (d6 y163))).isSome=true/\True) <|
  if(!vl (A0j (a0.getD v1.toNat (d6 y163))))=true then
   some false
  else
   lp (x0d a0 v1 g1) 0
 else
  n0s a0 ()
def A0o(a0:List m4):Option (Bool) :=
 lp (x0e a0) 0
def K0w:Ct:=lct 132 [.agg y163.sl] (fun x=>A0o x.1) (fun r:Bool=>B r) (fun _=>())
theorem I0H:Ok prog K0w:=by
 refine okL [.tmp 2] func132 ntmps132 results132 ?_;intro y ⟨a0,_⟩ r H Q hn hr;have:HT _ _:=⟨tc I0m tn⟩;refine qA (Z [p 1 (R 1)] [(1,bx 26 [L y163 a0])])<|jN r (fun(_:Unit)=>Z [p 1 (R 1)] [(1,bx 26 [L y163 a0])]) (n0s a0) (fun _ H=>?_) (fun _ n0 e0 t0=>?_)
 ·refine qA (Z [p 2 (B (decide ((a0.length:Int)<=8)))] [(1,bx 26 [L y163 a0])])<|vTT<|hr H
 refine qA (Z [p 1 (R 1),p 3 (I 0)] [(1,bx 26 [L y163 a0])])<|vB<|lX (fun(v1:Int)=>Z (G16 v1 []) [(1,bx 26 [L y163 a0])]) 0 H fun _ g1 b1 e1 t1 v1 H=>vQ<|qA (Z (G16 v1 [p 9 (B (decide (v1 < (a0.length:Int))))]) [(1,bx 26 [L y163 a0])])<|cD H (fun H=>?_) (fun H=>?_)
 ·refine vK<|fQ<|jN r (fun(_:Unit)=>Z (G16 v1 []) [(1,bx 26 [L y163 a0])]) (x0f v1 g1) (fun _ H=>?_) (fun _ n2 e2 t2=>?_)
  ·refine zB (Z (G16 (v1+1) []) [(1,bx 26 [L y163 a0])]) H fun H=>b1 H
  refine vB<|vQ<|qB (Z (G16 v1 [p 18 (B !vl (A0j (a0.getD v1.toNat (d6 y163))))]) [(1,bx 26 [L y163 a0])]) H fun H=>cD H (fun H=>?_) (fun H=>?_)
  ·refine qA (Z [p 2 (B false)] [(1,bx 26 [L y163 a0])])<|vTT<|fR<|fDD<|t2<|t1<|fDD<|t0<|hr H
  refine vK<|fQ<|qA (Z (G16 v1 [p 4 (I 0)]) [(1,bx 26 [L y163 a0])])<|vB<|lX (fun(v2:Int)=>Z (G16 v1 [p 4 (I v2)]) [(1,bx 26 [L y163 a0])]) 0 H fun _ g3 b3 e3 t3 v2 H=>vQ<|qA (Z (G16 v1 [p 4 (I v2),p 21 (B (decide (v2<v1)))]) [(1,bx 26 [L y163 a0])])<|cD H (fun H=>?_) (fun H=>?_)
  ·refine vK<|fQ<|vQ<|vB<|qB (Z (G16 v1 [p 4 (I v2),p 36 (B (decide ((a0.getD v2.toNat (d6 y163)).1=(a0.getD v1.toNat (d6 y163)).1)))]) [(1,bx 26 [L y163 a0])]) H fun H=>cD H (fun H=>?_) (fun H=>?_)
   ·refine qA (Z [p 2 (B false)] [(1,bx 26 [L y163 a0])])<|vTT<|fDD<|fR<|t3<|fDD<|fDD<|t2<|t1<|fDD<|t0<|hr H
   refine vK<|fK<|fQ<|zB (Z (G16 v1 [p 4 (I (v2+1))]) [(1,bx 26 [L y163 a0])]) H fun H=>b3 H
  exact vE<|fE<|e3<|fX rfl<|fK<|n2 H
 exact vE<|fE<|e1<|fX rfl<|n0 H
def B0a:Unit->Option (Bool)
 | _ =>
 some true
def v0N(v20:List Int)(g10:Int->Option (Bool)):Int->Option (Bool)
 | v21 =>
 if(decide (v21 < (v20.length:Int)))=true then
  gd (ix v21 v20.length/\v21.toNat<v20.length/\True) <|
  if(v20.getD v21.toNat 0 != 1)=true then
   some false
  else
   gd (l3 (v21+1)/\True) <|
   g10 (v21+1)
 else
  B0a ()
def q0o:List Int->Option (Bool)
 | v20 =>
 lp (v0N v20) 0
def t0z(v16:Int)(g7:Int×List Int->Option (Bool)):List Int->Option (Bool)
 | v19 =>
 gd (l3 (v16+1)/\True) <|
 g7 (v16+1,v19)
def A0X(a1:Y31)(g7:Int×List Int->Option (Bool)):Int×List Int->Option (Bool)
 | (v16,v17) =>
 if(decide (v16 < (a1.2.2.length:Int)))=true then
  gd (ix v16 a1.2.2.length/\True) <|
  if((a1.2.2.getD v16.toNat (d6 y175)).2.1==1)=true then
   gd (ix v16 a1.2.2.length/\ix (a1.2.2.getD v16.toNat (d6 y175)).2.2 v17.length/\(a1.2.2.getD v16.toNat (d6 y175)).2.2.toNat<v17.length/\l3 (v17.getD (a1.2.2.getD v16.toNat (d6 y175)).2.2.toNat 0+1)/\ix (a1.2.2.getD v16.toNat (d6 y175)).2.2 v17.length/\(a1.2.2.getD v16.toNat (d6 y175)).2.2.toNat<v17.length/\True)<|lt (v17.set (a1.2.2.getD v16.toNat (d6 y175)).2.2.toNat (v17.getD (a1.2.2.getD v16.toNat (d6 y175)).2.2.toNat 0+1)) fun v18 =>
   t0z v16 g7 v18
  else
   t0z v16 g7 v17
 else
  q0o v17
def q0p(a1:Y31):List Int->Option (Bool)
 | v13 =>
 lp (A0X a1) (0,v13)
def y0q(a1:Y31)(g5:Int×List Int->Option (Bool)):Int×List Int->Option (Bool)
 | (v9,v10) =>
 if(decide (v9 < (a1.1.length:Int)))=true then
  gd (ix v9 a1.1.length/\True)<|lt (a1.1.getD v9.toNat (d6 y165)) fun v11 =>
  gd (l3 ((v11.2.2.length:Int)-1)/\ix ((v11.2.2.length:Int)-1) v11.2.2.length/\ix (v11.2.2.getD ((v11.2.2.length:Int)-1).toNat 0) v10.length/\Int.toNat (v11.2.2.getD ((v11.2.2.length:Int)-1).toNat 0)<v10.length/\l3 (v10.getD (Int.toNat (v11.2.2.getD ((v11.2.2.length:Int)-1).toNat 0)) 0+1)/\ix (v11.2.2.getD ((v11.2.2.length:Int)-1).toNat 0) v10.length/\Int.toNat (v11.2.2.getD ((v11.2.2.length:Int)-1).toNat 0)<v10.length/\True)<|lt (v10.set (Int.toNat (v11.2.2.getD ((v11.2.2.length:Int)-1).toNat 0)) (v10.getD (Int.toNat (v11.2.2.getD ((v11.2.2.length:Int)-1).toNat 0)) 0+1)) fun v12 =>
  gd (l3 (v9+1)/\True) <|
  g5 (v9+1,v12)
 else
  q0p a1 v10
def q0q(a1:Y31)(v2:List ByteArray):List ByteArray->Option (Bool)
 | v6 =>
 gd ((V6 v2).isSome=true/\((!vl (V6 v2))=false/\True->(V6 v6).isSome=true)/\((!vl (V6 v2)||!vl (V6 v6))=false/\True->(V6 a1.2.1).isSome=true)/\True) <|
 if(!vl (V6 v2)||!vl (V6 v6)||!vl (V6 a1.2.1))=true then
  some false
 else
  gd ((0<=(a1.2.1.length:Int)/\(a1.2.1.length:Int)=(a1.2.1.length:Int)/\(a1.2.1.length:Int).toNat*8<=281474976710656/\(a1.2.1.length:Int)<=9223372036854775807)/\True) <|
  lp (y0q a1) ((0,List.replicate (a1.2.1.length:Int).toNat 0))
def A0Y(a1:Y31)(v2:List ByteArray)(g3:Int×List ByteArray->Option (Bool)):Int×List ByteArray->Option (Bool)
 | (v4,v5) =>
 if(decide (v4 < (a1.2.2.length:Int)))=true then
  gd (ix v4 a1.2.2.length/\(v5.length+[(a1.2.2.getD v4.toNat (d6 y175)).1].length<=9223372036854775807/\(v5.length+[(a1.2.2.getD v4.toNat (d6 y175)).1].length)*16<=140737488355328)/\True) <|
  gd (l3 (v4+1)/\True) <|
  g3 ((v4+1,v5++[(a1.2.2.getD v4.toNat (d6 y175)).1]))
 else
  q0q a1 v2 v5
def q0r(a1:Y31):List ByteArray->Option (Bool)
 | v2 =>
 lp (A0Y a1 v2) (0,[])
def A0Z(a1:Y31)(g1:Int×List ByteArray->Option (Bool)):Int×List ByteArray->Option (Bool)
 | (v0,v1) =>
 if(decide (v0 < (a1.1.length:Int)))=true then
  gd (ix v0 a1.1.length/\(v1.length+[(a1.1.getD v0.toNat (d6 y165)).1].length<=9223372036854775807/\(v1.length+[(a1.1.getD v0.toNat (d6 y165)).1].length)*16<=140737488355328)/\True) <|
  gd (l3 (v0+1)/\True) <|
  g1 ((v0+1,v1++[(a1.1.getD v0.toNat (d6 y165)).1]))
 else
  q0r a1 v1
def u69(a0:List m4)(a1:Y31):Option (Bool) :=
 gd ((A0o a0).isSome=true/\((!vl (A0o a0)||decide (14 < (a1.1.length:Int))||decide (30 < (a1.2.1.length:Int))||decide (8 < (a1.2.2.length:Int)))=false/\True->(B0O a0 a1).isSome=true)/\True) <|
 if(!vl (A0o a0)||decide (14 < (a1.1.length:Int))||decide (30 < (a1.2.1.length:Int))||decide (8 < (a1.2.2.length:Int))||!vl (B0O a0 a1))=true then
  some false
 else
  lp (A0Z a1) (0,[])
def k69:Ct:=lct 69 [.agg y163.sl,.agg y31] (fun x=>u69 x.1 x.2.1) (fun r:Bool=>B r) (fun _=>())
theorem o69:Ok prog k69:=by
 refine okL [.tmp 4] func69 ntmps69 results69 ?_;intro y ⟨a0,a1,_⟩ r H Q hn hr;have:HT _ _:=⟨tc I0F (tc I0G (tc I0H tn))⟩;refine qA (Z (G13 []) (W7 a1 a0))<|vQ<|qB (Z [p 3 (R 3),p 40 (B (!vl (A0o a0)||decide (14 < (a1.1.length:Int))||decide (30 < (a1.2.1.length:Int))||decide (8 < (a1.2.2.length:Int))||!vl (B0O a0 a1)))] (W7 a1 a0)) H fun H=>cD H (fun H=>?_) (fun H=>?_)
 ·refine qA (Z [p 4 (B false)] (W7 a1 a0))<|vTT<|fR<|hr H
 refine vK<|fQ<|qA (Z (G71 []) ((41,A 9 Ty.str [] 0)::W7 a1 a0))<|jN r (fun(v2:List ByteArray)=>Z (G71 []) (W39 v2 a1)) (q0r a1) (fun v2 H=>?_) (fun _ n0 e0 t0=>?_)
 ·refine qA (Z (G71 [p 7 (O 58)]) ((58,A 9 Ty.str [] 0)::W39 v2 a1))<|jN r (fun(v6:List ByteArray)=>Z (G71 [p 7 (O 58)]) ((58,A 9 Ty.str v6 0)::W39 v2 a1)) (q0q a1 v2) (fun v6 H=>?_) (fun _ n2 e2 t2=>?_)
  ·refine vQ<|qB (Z [p 3 (R 3),p 88 (B (!vl (V6 v2)||!vl (V6 v6)||!vl (V6 a1.2.1)))] ((58,A 9 Ty.str v6 0)::W39 v2 a1)) H fun H=>cD H (fun H=>?_) (fun H=>?_)
   ·refine qA (Z [p 4 (B false)] ((58,A 9 Ty.str v6 0)::W39 v2 a1))<|vTT<|fR<|hr H
   refine vK<|fQ<|qB (Z (G56 []) ((92,A 2 i64 (List.replicate (a1.2.1.length:Int).toNat 0) 0)::(58,A 9 Ty.str v6 0)::W39 v2 a1)) H fun H=>jN r (fun(v13:List Int)=>Z (G56 []) (W46 v13 a1)) (q0p a1) (fun v13 H=>?_) (fun _ n4 e4 t4=>?_)
   ·refine jN r (fun(v20:List Int)=>Z [p 9 (O 92)] [(92,A 2 i64 v20 0)]) (q0o) (fun v20 H=>?_) (fun _ n6 e6 t6=>?_)
    ·refine jN r (fun(_:Unit)=>Z [] []) (B0a) (fun _ H=>?_) (fun _ n9 e9 t9=>?_)
     ·refine qA (Z [p 4 (B true)] [])<|vTT<|hr H
     refine qA (Z [p 9 (O 92),p 13 (I 0)] [(92,A 2 i64 v20 0)])<|vB<|lX (fun(v21:Int)=>Z [p 9 (O 92),p 13 (I v21)] [(92,A 2 i64 v20 0)]) 0 H fun _ g10 b10 e10 t10 v21 H=>vQ<|qA (Z [p 9 (O 92),p 13 (I v21),p 145 (B (decide (v21 < (v20.length:Int))))] [(92,A 2 i64 v20 0)])<|cD H (fun H=>?_) (fun H=>?_)
     ·refine vK<|fQ<|vQ<|vB<|qB (Z [p 9 (O 92),p 13 (I v21),p 152 (B (v20.getD v21.toNat 0 != 1))] [(92,A 2 i64 v20 0)]) H fun H=>cD H (fun H=>?_) (fun H=>?_)
      ·refine qA (Z [p 4 (B false)] [(92,A 2 i64 v20 0)])<|vTT<|fDD<|fR<|t10<|fDD<|t9<|hr H
      refine vK<|fK<|fQ<|zB (Z [p 9 (O 92),p 13 (I (v21+1))] [(92,A 2 i64 v20 0)]) H fun H=>b10 H
     exact vE<|fE<|e10<|fX rfl<|n9 H
    refine qA (Z (G56 [p 12 (I 0)]) (W46 v13 a1))<|vB<|lX (fun((v16,v17):Int×List Int)=>Z (G56 [p 12 (I v16)]) (W46 v17 a1)) (0,v13) H fun _ g7 b7 e7 t7 ⟨v16,v17⟩ H=>vQ<|qA (Z (G56 [p 12 (I v16),p 121 (B (decide (v16 < (a1.2.2.length:Int))))]) (W46 v17 a1))<|cD H (fun H=>?_) (fun H=>?_)
    ·refine vK<|fQ<|jN r (fun(v19:List Int)=>Z (G56 [p 12 (I v16)]) (W46 v19 a1)) (t0z v16 g7) (fun v19 H=>?_) (fun _ n8 e8 t8=>?_)
     ·refine zB (Z (G56 [p 12 (I (v16+1))]) (W46 v19 a1)) H fun H=>b7 H
     refine vB<|qB (Z (G56 [p 12 (I v16),p 130 (B ((a1.2.2.getD v16.toNat (d6 y175)).2.1==1))]) (W46 v17 a1)) H fun H=>cD H (fun H=>?_) (fun H=>?_)
     ·refine zD (fun v18=>Z (G56 [p 12 (I v16)]) (W46 v18 a1)) H fun v18 H=>fK<|n8 H
     exact vK<|fK<|n8 H
    exact vE<|fE<|e7<|fX rfl<|n6 H
   refine qA (Z (G56 [p 10 (I 0)]) ((92,A 2 i64 (List.replicate (a1.2.1.length:Int).toNat 0) 0)::(58,A 9 Ty.str v6 0)::W39 v2 a1))<|vB<|lX (fun((v9,v10):Int×List Int)=>Z (G56 [p 10 (I v9)]) (W46 v10 a1)) ((0,List.replicate (a1.2.1.length:Int).toNat 0)) H fun _ g5 b5 e5 t5 ⟨v9,v10⟩ H=>vQ<|qA (Z (G56 [p 10 (I v9),p 97 (B (decide (v9 < (a1.1.length:Int))))]) (W46 v10 a1))<|cD H (fun H=>?_) (fun H=>?_)
   ·refine vK<|fQ<|vQ<|vB<|qD (fun v11=>Z (G56 [p 10 (I v9),p 11 (L i64 v11.2.2)]) (W46 v10 a1)) H fun v11 H=>zD (fun v12=>Z (G56 [p 10 (I v9)]) (W46 v12 a1)) H fun v12 H=>fK<|fQ<|zB (Z (G56 [p 10 (I (v9+1))]) (W46 v12 a1)) H fun H=>b5 H
   exact vE<|fE<|e5<|fX rfl<|n4 H
  refine qA (Z (G71 [p 7 (O 58),p 8 (I 0)]) ((58,A 9 Ty.str [] 0)::W39 v2 a1))<|vB<|lX (fun((v4,v5):Int×List ByteArray)=>Z (G71 [p 7 (O 58),p 8 (I v4)]) ((58,A 9 Ty.str v5 0)::W39 v2 a1)) (0,[]) H fun _ g3 b3 e3 t3 ⟨v4,v5⟩ H=>vQ<|qA (Z (G71 [p 7 (O 58),p 8 (I v4),p 63 (B (decide (v4 < (a1.2.2.length:Int))))]) ((58,A 9 Ty.str v5 0)::W39 v2 a1))<|cD H (fun H=>?_) (fun H=>?_)
  ·refine vK<|fQ<|vQ<|vB<|zB (Z (G71 [p 7 (AV.os 58 1),p 8 (I v4)]) ((58,A 9 Ty.str (v5++[(a1.2.2.getD v4.toNat (d6 y175)).1]) 1)::(73,A 9 Ty.str [(a1.2.2.getD v4.toNat (d6 y175)).1] 0)::W39 v2 a1)) H fun H=>fK<|fQ<|zB (Z (G71 [p 7 (AV.os 58 1),p 8 (I (v4+1))]) ((58,A 9 Ty.str (v5++[(a1.2.2.getD v4.toNat (d6 y175)).1]) 1)::(73,A 9 Ty.str [(a1.2.2.getD v4.toNat (d6 y175)).1] 0)::W39 v2 a1)) H fun H=>b3 H
  exact vE<|fE<|e3<|fX rfl<|n2 H
 refine qA (Z (G71 [p 6 (I 0)]) ((41,A 9 Ty.str [] 0)::W7 a1 a0))<|vB<|lX (fun((v0,v1):Int×List ByteArray)=>Z (G71 [p 6 (I v0)]) (W39 v1 a1)) (0,[]) H fun _ g1 b1 e1 t1 ⟨v0,v1⟩ H=>vQ<|qA (Z (G71 [p 6 (I v0),p 46 (B (decide (v0 < (a1.1.length:Int))))]) (W39 v1 a1))<|cD H (fun H=>?_) (fun H=>?_)
 ·refine vK<|fQ<|vQ<|vB<|zB (Z [p 3 (R 3),p 5 (AV.os 41 1),p 6 (I v0)] [(41,A 9 Ty.str (v1++[(a1.1.getD v0.toNat (d6 y165)).1]) 1),(56,A 9 Ty.str [(a1.1.getD v0.toNat (d6 y165)).1] 0),(3,K 31 y31 a1)]) H fun H=>fK<|fQ<|zB (Z [p 3 (R 3),p 5 (AV.os 41 1),p 6 (I (v0+1))] [(41,A 9 Ty.str (v1++[(a1.1.getD v0.toNat (d6 y165)).1]) 1),(56,A 9 Ty.str [(a1.1.getD v0.toNat (d6 y165)).1] 0),(3,K 31 y31 a1)]) H fun H=>b1 H
 exact vE<|fE<|e1<|fX rfl<|n0 H
def B0A:Unit->Option (Bool)
 | _ =>
 some true
def B0z(a0:Y34)(g1:Int->Option (Bool)):Int->Option (Bool)
 | v1 =>
 if(decide (v1 < (a0.2.2.length:Int)))=true then
  gd (ix v1 a0.2.2.length/\(u71 a0.2.1 v1).isSome=true/\(u70 (a0.2.2.getD v1.toNat (d6 l6)) (↑(vl (u71 a0.2.1 v1)).length:Int)).isSome=true/\True)<|lt (vl (u71 a0.2.1 v1)) fun v2 =>
  if(!vl (u70 (a0.2.2.getD v1.toNat (d6 l6)) (v2.length:Int)))=true then
   some false
  else
   gd (l3 (v1+1)/\True) <|
   g1 (v1+1)
 else
  B0A ()
def u23(a0:Y34):Option (Bool) :=
 gd ((u69 a0.1 a0.2.1).isSome=true/\True) <|
 if(!vl (u69 a0.1 a0.2.1)||(a0.2.2.length:Int) != (a0.2.1.2.1.length:Int))=true then
  some false
 else
  lp (B0z a0) 0
def k23:Ct:=lct 23 [.agg y34] (fun x=>u23 x.1) (fun r:Bool=>B r) (fun _=>())
theorem o23:Ok prog k23:=by
 refine okL [.tmp 2] func23 ntmps23 results23 ?_;intro y ⟨a0,_⟩ r H Q hn hr;have:HT _ _:=⟨tc o70 (tc o71 (tc o69 tn))⟩;refine qA (Z [p 1 (R 1)] [(1,K 34 y34 a0)])<|vQ<|qB (Z [p 1 (R 1),p 19 (B (!vl (u69 a0.1 a0.2.1)||(a0.2.2.length:Int) != (a0.2.1.2.1.length:Int)))] [(1,K 34 y34 a0)]) H fun H=>cD H (fun H=>?_) (fun H=>?_)
 ·refine qA (Z [p 2 (B false)] [(1,K 34 y34 a0)])<|vTT<|fR<|hr H
 refine vK<|fQ<|jN r (fun(_:Unit)=>Z [] []) (B0A) (fun _ H=>?_) (fun _ n0 e0 t0=>?_)
 ·refine qA (Z [p 2 (B true)] [])<|vTT<|hr H
 refine qA (Z [p 1 (R 1),p 3 (I 0)] [(1,K 34 y34 a0)])<|vB<|lX (fun(v1:Int)=>Z (G16 v1 []) [(1,K 34 y34 a0)]) 0 H fun _ g1 b1 e1 t1 v1 H=>vQ<|qA (Z (G16 v1 [p 24 (B (decide (v1 < (a0.2.2.length:Int))))]) [(1,K 34 y34 a0)])<|cD H (fun H=>?_) (fun H=>?_)
 ·refine vK<|fQ<|vQ<|vB<|qD (fun v2=>Z (G16 v1 [p 38 (B !vl (u70 (a0.2.2.getD v1.toNat (d6 l6)) (v2.length:Int)))]) [(35,A 2 i64 v2 0),(1,K 34 y34 a0)]) H fun v2 H=>cD H (fun H=>?_) (fun H=>?_)
  ·refine qA (Z [p 2 (B false)] [(35,A 2 i64 v2 0),(1,K 34 y34 a0)])<|vTT<|fDD<|fR<|t1<|fDD<|t0<|hr H
  refine vK<|fK<|fQ<|zB (Z (G16 (v1+1) []) [(35,A 2 i64 v2 0),(1,K 34 y34 a0)]) H fun H=>b1 H
 exact vE<|fE<|e1<|fX rfl<|n0 H
def u58(a0:Y34)(a1:List Int):Option (Int) :=
 gd ((u23 a0).isSome=true/\True) <|
 if(!vl (u23 a0))=true then
  some 1
 else
  gd ((u59 a0).isSome=true/\(B0Q a1 (↑(vl (u59 a0)).length:Int)).isSome=true/\True)<|lt (vl (u59 a0)) fun v0 =>
  if(!vl (B0Q a1 (v0.length:Int)))=true then
   some 2
  else
   some 0
def k58:Ct:=lct 58 [.agg y34,.dat i64.sl] (fun x=>u58 x.1 x.2.1) (fun r:Int=>I r) (fun _=>())
theorem o58:Ok prog k58:=by
 refine okL [.tmp 4] func58 ntmps58 results58 ?_;intro y ⟨a0,a1,_⟩ r H Q hn hr;have:HT _ _:=⟨tc I0Q (tc o59 (tc o23 tn))⟩;refine qA (Z [p 1 (L i64 a1),p 2 (R 2)] [(2,K 34 y34 a0)])<|vQ<|qB (Z [p 1 (L i64 a1),p 2 (R 2),p 7 (B !vl (u23 a0))] [(2,K 34 y34 a0)]) H fun H=>cD H (fun H=>?_) (fun H=>?_)
 ·refine qA (Z [p 4 (I 1)] [(2,K 34 y34 a0)])<|vTT<|fR<|hr H
 refine vK<|fQ<|vQ<|qD (fun v0=>Z [p 13 (B !vl (B0Q a1 (v0.length:Int)))] [(10,A 48 y48 v0 0),(2,K 34 y34 a0)]) H fun v0 H=>cD H (fun H=>?_) (fun H=>?_)
 ·refine qA (Z [p 4 (I 2)] [(10,A 48 y48 v0 0),(2,K 34 y34 a0)])<|vTT<|fR<|hr H
 refine vK<|fQ<|qA (Z [p 4 (I 0)] [(10,A 48 y48 v0 0),(2,K 34 y34 a0)])<|vTT<|hr H
def B0G:Unit->Option (Bool)
 | _ =>
 some false
def B0F(a0:List Int)(a1:Int)(g1:Int->Option (Bool)):Int->Option (Bool)
 | v0 =>
 if(decide (v0 < (a0.length:Int)))=true then
  gd (ix v0 a0.length/\True) <|
  if(a0.getD v0.toNat 0==a1)=true then
   some true
  else
   gd (l3 (v0+1)/\True) <|
   g1 (v0+1)
 else
  B0G ()
def u18(a0:List Int)(a1:Int):Option (Bool) :=
 lp (B0F a0 a1) 0
def k18:Ct:=lct 18 [.dat i64.sl,.dat i64] (fun x=>u18 x.1 x.2.1) (fun r:Bool=>B r) (fun _=>())
theorem o18:Ok prog k18:=by
 refine okL [.tmp 4] func18 ntmps18 results18 ?_;intro y ⟨a0,a1,_⟩ r H Q hn hr;have:HT _ _:=⟨@tn prog⟩;refine qA (Z (G59 a0 a1 []) [])<|jN r (fun(_:Unit)=>Z [] []) (B0G) (fun _ H=>?_) (fun _ n0 e0 t0=>?_)
 ·refine qA (Z [p 4 (B false)] [])<|vTT<|hr H
 refine qA (Z (G59 a0 a1 [p 5 (I 0)]) [])<|vB<|lX (fun(v0:Int)=>Z (G59 a0 a1 [p 5 (I v0)]) []) 0 H fun _ g1 b1 e1 t1 v0 H=>vQ<|qA (Z (G59 a0 a1 [p 5 (I v0),p 9 (B (decide (v0 < (a0.length:Int))))]) [])<|cD H (fun H=>?_) (fun H=>?_)
 ·refine vK<|fQ<|vQ<|vB<|qB (Z (G59 a0 a1 [p 5 (I v0),p 17 (B (a0.getD v0.toNat 0==a1))]) []) H fun H=>cD H (fun H=>?_) (fun H=>?_)
  ·refine qA (Z [p 4 (B true)] [])<|vTT<|fDD<|fR<|t1<|fDD<|t0<|hr H
  refine vK<|fK<|fQ<|zB (Z (G59 a0 a1 [p 5 (I (v0+1))]) []) H fun H=>b1 H
 exact vE<|fE<|e1<|fX rfl<|n0 H
def u19(a0:Y34):Option (List Y48×Int) :=
 gd ((u23 a0).isSome=true/\True) <|
 if(!vl (u23 a0))=true then
  some (([],(1:Int)))
 else
  gd ((u59 a0).isSome=true/\True)<|lt (vl (u59 a0)) fun v0 =>
  some ((v0,(0:Int)))
def k19:Ct:=lct 19 [.agg y34] (fun x=>u19 x.1) (fun r:List Y48×Int=>AV.tup [AV.ow 48 true y48 r.1,I r.2]) (fun _=>())
theorem o19:Ok prog k19:=by
 refine okL [.tmp 2,.tmp 3] func19 ntmps19 results19 ?_;intro y ⟨a0,_⟩ r H Q hn hr;have:HT _ _:=⟨tc o59 (tc o23 tn)⟩;refine qA (Z [p 1 (R 1)] [(1,K 34 y34 a0)])<|vQ<|qB (Z [p 1 (R 1),p 6 (B !vl (u23 a0))] [(1,K 34 y34 a0)]) H fun H=>cD H (fun H=>?_) (fun H=>?_)
 ·refine qA (Z [p 2 (O 7),p 3 (I 1)] [(7,A 48 y48 [] 0),(1,K 34 y34 a0)])<|vTT<|fR<|hr H
 refine vK<|fQ<|qD (fun v0=>Z [p 2 (O 9),p 3 (I 0)] [(9,A 48 y48 v0 0),(1,K 34 y34 a0)]) H fun v0 H=>vTT<|hr H
def w0U(a0:y9)(a1:Int):Option (Bool) :=
 gd ((B1 a0).isSome=true/\l3 (vl (B1 a0)-1)/\(w8 a1 0 (vl (B1 a0)-1)).isSome=true/\True) <|
 some (vl (w8 a1 0 (vl (B1 a0)-1)))
def K0t:Ct:=lct 135 [.dat y100.pt,.dat i64] (fun x=>w0U x.1 x.2.1) (fun r:Bool=>B r) (fun _=>())
theorem I0E:Ok prog K0t:=by
 refine okL [.tmp 4] func135 ntmps135 results135 ?_;intro y ⟨a0,a1,_⟩ r H Q hn hr;have:HT _ _:=⟨tc p0Y (tc C0l tn)⟩;refine qA (Z [p 0 (D y100.pt a0),p 1 (J a1)] [])<|qB (Z [p 4 (B (vl (w8 a1 0 (vl (B1 a0)-1))))] []) H fun H=>vTT<|hr H
def u72(a0:Y34)(a1:List Int)(a2:Int):Option (Int ⊕ (y9×List Bool)×Int) :=
 if(isL (u56 a0 a1))=true then
  gd (isL (u56 a0 a1)=true/\True) <|
  if(vL (u56 a0 a1)==0)=true then
   none
  else
   some (Sum.inl (vL (u56 a0 a1)))
 else
  gd (isR (u56 a0 a1)=true/\True) <|
  gd ((((vR (u56 a0 a1)).2==0)=true/\True->(w0U (vR (u56 a0 a1)).1.1 a2).isSome=true)/\True) <|
  if((vR (u56 a0 a1)).2==0&&!vl (w0U (vR (u56 a0 a1)).1.1 a2))=true then
   some (Sum.inl 4)
  else
   some (Sum.inr (vR (u56 a0 a1)))
def k72:Ct:=lct 72 [.agg y34,.dat i64.sl,.dat i64] (fun x=>u72 x.1 x.2.1 x.2.2.1) (two (fun r:Int=>AV.tup [AV.v (Value.pointer none),I r]) (fun r:(y9×List Bool)×Int=>AV.tup [AV.ob 127 [D y100.pt r.1.1,AV.ow 4 true Ty.bool r.1.2],I r.2])) (fun _=>())
def I0X:Ct:=C0w 72 [.agg y34,.dat i64.sl,.dat i64] (fun x=>u72 x.1 x.2.1 x.2.2.1) (fun r:Int=>AV.tup [AV.v (Value.pointer none),I r]) ()
def I0W:Ct:=C0v 72 [.agg y34,.dat i64.sl,.dat i64] (fun x=>u72 x.1 x.2.1 x.2.2.1) (fun r:(y9×List Bool)×Int=>AV.tup [AV.ob 127 [D y100.pt r.1.1,AV.ow 4 true Ty.bool r.1.2],I r.2]) ()
theorem o72:Ok prog k72:=by
 refine okL [.tmp 6,.tmp 7] func72 ntmps72 results72 ?_;intro y ⟨a0,a1,a2,_⟩ r H Q hn hr;have:HT _ _:=⟨tc I0E tn⟩;refine qA (Z [p 1 (L i64 a1),p 2 (J a2),p 3 (R 3)] [(3,K 34 y34 a0)])<|sp H (fun H=>?_) (fun H=>?_)
 ·have:HT _ _:=⟨tc F0E (HT.h)⟩;refine qB (Z [p 2 (J a2),p 8 (AV.v (Value.pointer none)),p 9 (I (vL (u56 a0 a1)))] [(3,K 34 y34 a0)]) H fun H=>?_;by_cases hz:(vL (u56 a0 a1)==0)=true
  ·rw[if_pos hz] at H;exact vQ<|D0R H
  rw[if_neg hz] at H;have hz:(vL (u56 a0 a1)==0)=false:=by simpa using hz
  refine vQ (vQ (B0S (tp:=8) (tc:=9) (tb:=26) (z:=vL (u56 a0 a1)) rfl rfl rfl (fun w Q' k=>?_) (fQ ?_)))
  ·refine q0k (j0g rfl rfl (j0g rfl rfl (y0k hz (j0g rfl rfl ?_))))
   iterate 7 refine j0h rfl rfl rfl rfl ?_
   refine j0g rfl rfl (oN ?_);exact z0A (by ((repeat (refine t0T rfl ?_)); exact y0M)) k
  refine cf (by kernel_rfl)<|vK<|fQ<|qA (Z [p 6 (AV.v (Value.pointer none)),p 7 (I (vL (u56 a0 a1)))] [(3,K 34 y34 a0)])<|vTT<|hr H
 have:HT _ _:=⟨tc F0D (HT.h)⟩;refine qB (Z [p 2 (J a2),p 8 (R 1013),p 9 (I (vR (u56 a0 a1)).2)] (W78 (vR (u56 a0 a1)).1.1 (vR (u56 a0 a1)).1.2 a0)) H fun H=>vQ<|qB (Z [p 8 (R 1013),p 9 (I (vR (u56 a0 a1)).2),p 26 (B ((vR (u56 a0 a1)).2==0&&!vl (w0U (vR (u56 a0 a1)).1.1 a2)))] (W78 (vR (u56 a0 a1)).1.1 (vR (u56 a0 a1)).1.2 a0)) H fun H=>cD H (fun H=>?_) (fun H=>?_)
 ·refine qA (Z [p 6 (AV.v (Value.pointer none)),p 7 (I 4)] (W78 (vR (u56 a0 a1)).1.1 (vR (u56 a0 a1)).1.2 a0))<|vTT<|fR<|hr H
 refine vK<|fQ<|qA (Z [p 6 (R 1013),p 7 (I (vR (u56 a0 a1)).2)] (W78 (vR (u56 a0 a1)).1.1 (vR (u56 a0 a1)).1.2 a0))<|vTT<|hr H
theorem H0F:Ok prog I0X:=E0v o72
theorem H0E:Ok prog I0W:=E0t o72
def D0w(a0:Y48)(a1:Int):Option (Bool) :=
 some (a0.2.1==a1)
def K0r:Ct:=lct 137 [.agg y48,.dat (.pt i64)] (fun x=>D0w x.1 x.2.1) (fun r:Bool=>B r) (fun _=>())
theorem F0L:Ok prog K0r:=by
 refine okL [.tmp 3] func137 ntmps137 results137 ?_;intro y ⟨a0,a1,_⟩ r H Q hn hr;have:HT _ _:=⟨@tn prog⟩;refine qA (Z [p 1 (D i64.pt a1),p 2 (R 2)] [(2,K 48 y48 a0)])<|qA (Z [p 3 (B (a0.2.1==a1))] [(2,K 48 y48 a0)])<|vTT<|hr H
def i0B:List Int->Option (List Int)
 | v6 =>
 some v6
def f0A(v3:Int)(g1:List Int×Int->Option (List Int)):List Int->Option (List Int)
 | v5 =>
 gd (l3 (v3+1)/\True) <|
 g1 (v5,v3+1)
def i0A(a0:H2)(a1:Int)(g1:List Int×Int->Option (List Int)):List Int×Int->Option (List Int)
 | (v2,v3) =>
 if(decide (v3 < (a0.1.2.2.1.length:Int)))=true then
  gd (ix v3 a0.1.2.2.1.length/\True)<|lt (a0.1.2.2.1.getD v3.toNat (d6 y48)) fun v4 =>
  gd (ix v3 a0.2.length/\(a0.2.getD v3.toNat false=true/\True->(D0w v4 a1).isSome=true)/\True) <|
  if(a0.2.getD v3.toNat false&&vl (D0w v4 a1))=true then
   gd ((v2.length+[v3].length<=9223372036854775807/\(v2.length+[v3].length)*8<=140737488355328)/\True) <|
   f0A v3 g1 (v2++[v3])
  else
   f0A v3 g1 v2
 else
  i0B v2
def g0z(a0:H2)(a1:Int):Option (List Int) :=
 lp (i0A a0 a1) ([],0)
def v0d:Ct:=lct 116 [.dat y127.pt,.fn 137 (.pt i64)] (fun x=>g0z x.1 x.2.1) (fun r:List Int=>AV.ow 2 true i64 r) (fun _=>())
theorem n0Z:Ok prog v0d:=by
 refine okL [.tmp 4] func116 ntmps116 results116 ?_;intro y ⟨a0,a1,_⟩ r H Q hn hr;have:HT _ _:=⟨tc F0L tn⟩;refine qA (Z [p 0 (D y127.pt a0),p 1 (AV.fn 137 [D i64.pt a1])] [])<|qA (Z [p 0 (D y127.pt a0),p 1 (AV.fn 137 [D i64.pt a1]),p 5 (nil)] [])<|jN r (fun(v6:List Int)=>Z [p 5 (O 36)] [(36,A 2 i64 v6 0)]) (i0B) (fun v6 H=>?_) (fun _ n0 e0 t0=>?_)
 ·refine qA (Z [p 4 (O 36)] [(36,A 2 i64 v6 0)])<|vTT<|hr H
 refine qA (Z [p 0 (D y127.pt a0),p 1 (AV.fn 137 [D i64.pt a1]),p 5 (nil),p 14 (L y48 a0.1.2.2.1),p 15 (I (a0.1.2.2.1.length:Int)),p 16 (I 0)] [])<|vB<|lX (fun((v2,v3):List Int×Int)=>Z [p 0 (D y127.pt a0),p 1 (AV.fn 137 [D i64.pt a1]),p 5 (O 36),p 14 (L y48 a0.1.2.2.1),p 15 (I (a0.1.2.2.1.length:Int)),p 16 (I v3)] [(36,A 2 i64 v2 0)]) ([],0) H fun _ g1 b1 e1 t1 ⟨v2,v3⟩ H=>qA (Z [p 0 (D y127.pt a0),p 1 (AV.fn 137 [D i64.pt a1]),p 5 (O 36),p 14 (L y48 a0.1.2.2.1),p 15 (I (a0.1.2.2.1.length:Int)),p 16 (I v3),p 17 (B (decide (v3 < (a0.1.2.2.1.length:Int))))] [(36,A 2 i64 v2 0)])<|vQ<|cD H (fun H=>?_) (fun H=>?_)
 ·refine vK<|fQ<|jN r (fun(v5:List Int)=>Z [p 0 (D y127.pt a0),p 1 (AV.fn 137 [D i64.pt a1]),p 5 (O 36),p 14 (L y48 a0.1.2.2.1),p 15 (I (a0.1.2.2.1.length:Int)),p 16 (I v3)] [(36,A 2 i64 v5 0)]) (f0A v3 g1) (fun v5 H=>?_) (fun _ n2 e2 t2=>?_)
  ·refine zB (Z [p 0 (D y127.pt a0),p 1 (AV.fn 137 [D i64.pt a1]),p 5 (O 36),p 14 (L y48 a0.1.2.2.1),p 15 (I (a0.1.2.2.1.length:Int)),p 16 (I (v3+1))] [(36,A 2 i64 v5 0)]) H fun H=>b1 H
  refine vB<|qD (fun v4=>Z [p 0 (D y127.pt a0),p 1 (AV.fn 137 [D i64.pt a1]),p 5 (O 36),p 6 (I v3),p 7 (R 7),p 14 (L y48 a0.1.2.2.1),p 15 (I (a0.1.2.2.1.length:Int)),p 16 (I v3)] (W84 v4 v2)) H fun v4 H=>qB (Z [p 0 (D y127.pt a0),p 1 (AV.fn 137 [D i64.pt a1]),p 5 (O 36),p 6 (I v3),p 14 (L y48 a0.1.2.2.1),p 15 (I (a0.1.2.2.1.length:Int)),p 16 (I v3),p 32 (B (a0.2.getD v3.toNat false&&vl (D0w v4 a1)))] (W84 v4 v2)) H fun H=>cD H (fun H=>?_) (fun H=>?_)
  ·refine zB (Z [p 0 (D y127.pt a0),p 1 (AV.fn 137 [D i64.pt a1]),p 5 (AV.os 36 1),p 14 (L y48 a0.1.2.2.1),p 15 (I (a0.1.2.2.1.length:Int)),p 16 (I v3)] [(36,A 2 i64 (v2++[v3]) 1),(35,A 2 i64 [v3] 0),(7,K 48 y48 v4)]) H fun H=>fK<|n2 H
  exact vK<|fK<|n2 H
 exact vE<|fE<|e1<|fX rfl<|n0 H
def u74(a0:H2)(a1:Int):Option (List Int) :=
 gd ((g0z a0 a1).isSome=true/\True)<|lt (vl (g0z a0 a1)) fun v0 =>
 some v0
def k74:Ct:=lct 74 [.dat y127.pt,.dat i64] (fun x=>u74 x.1 x.2.1) (fun r:List Int=>AV.ow 2 true i64 r) (fun _=>())
theorem o74:Ok prog k74:=by
 refine okL [.tmp 4] func74 ntmps74 results74 ?_;intro y ⟨a0,a1,_⟩ r H Q hn hr;have:HT _ _:=⟨tc j0C (tc o0a (tc n0Z (tc F0L tn)))⟩;refine qA (Z [p 0 (D y127.pt a0),p 3 (R 3)] [(3,bx 2 [J a1])])<|qD (fun v0=>Z [p 4 (O 7)] [(7,A 2 i64 v0 0),(3,bx 2 [J a1])]) H fun v0 H=>vTT<|hr H
def u77(a0:Y48):Option (Int×Int) :=
 some (a0.1,a0.2.1)
def k77:Ct:=lct 77 [.agg y48] (fun x=>u77 x.1) (fun r:Int×Int=>AV.tup [I r.1,I r.2]) (fun _=>())
theorem o77:Ok prog k77:=by
 refine okL [.tmp 2,.tmp 3] func77 ntmps77 results77 ?_;intro y ⟨a0,_⟩ r H Q hn hr;have:HT _ _:=⟨@tn prog⟩;refine qA (Z [p 1 (R 1)] [(1,K 48 y48 a0)])<|qA (Z [p 2 (J a0.1),p 3 (J a0.2.1)] [(1,K 48 y48 a0)])<|vTT<|hr H
def n0b:List Bool->Option (List Bool)
 | v21 =>
 some v21
def m0Z(v10:List (List Int))(g4:List Int×List Bool->Option (List Bool)):List Int×List Bool->Option (List Bool)
 | (v17,v18) =>
 if(decide (0 < (v17.length:Int)))=true then
  gd (ix (0:Int) v17.length/\Int.toNat (0:Int)<v17.length/\True) <|
  gd (((0:Int)<=(1:Int)/\(1:Int)<=(v17.length:Int)/\(v17.length:Int)<=(v17.length:Int))/\True) <|
  gd (ix (v17.getD (Int.toNat (0:Int)) (0:Int)) v18.length/\Int.toNat (v17.getD (Int.toNat (0:Int)) (0:Int))<v18.length/\True) <|
  if(!v18.getD (Int.toNat (v17.getD (Int.toNat (0:Int)) (0:Int))) false)=true then
   gd (ix (v17.getD (Int.toNat (0:Int)) (0:Int)) v18.length/\Int.toNat (v17.getD (Int.toNat (0:Int)) (0:Int))<v18.length/\True)<|lt (v18.set (Int.toNat (v17.getD (Int.toNat (0:Int)) (0:Int))) true) fun v19 =>
   gd (ix (v17.getD (Int.toNat (0:Int)) (0:Int)) v10.length/\((List.drop (Int.toNat (1:Int)) v17).length+List.length (v10.getD (Int.toNat (v17.getD (Int.toNat (0:Int)) (0:Int))) [])<=9223372036854775807/\((List.drop (Int.toNat (1:Int)) v17).length+List.length (v10.getD (Int.toNat (v17.getD (Int.toNat (0:Int)) (0:Int))) []))*8<=140737488355328)/\True)<|lt (List.drop (Int.toNat (1:Int)) v17++v10.getD (Int.toNat (v17.getD (Int.toNat (0:Int)) (0:Int))) []) fun v20 =>
   g4 (v20,v19)
  else
   g4 ((List.drop (Int.toNat (1:Int)) v17,v18))
 else
  n0b v18
def e0U(a1:List Int)(a0:H2):List (List Int)->Option (List Bool)
 | v10 =>
 gd ((B1 a0.1).isSome=true/\(0<=vl (B1 a0.1)/\vl (B1 a0.1)=vl (B1 a0.1)/\(vl (B1 a0.1)).toNat*1<=281474976710656/\vl (B1 a0.1)<=9223372036854775807)/\True)<|lt (vl (B1 a0.1)) fun v11 =>
 gd ((w0T a1).isSome=true/\True)<|lt (vl (w0T a1)) fun v12 =>
 lp (m0Z v10) (v12,List.replicate v11.toNat false)
def j0j(v5:Int)(g1:Int×List (List Int)->Option (List Bool)):List (List Int)->Option (List Bool)
 | v9 =>
 gd (l3 (v5+1)/\True) <|
 g1 (v5+1,v9)
def n0a(a0:H2)(a1:List Int)(g1:Int×List (List Int)->Option (List Bool)):Int×List (List Int)->Option (List Bool)
 | (v5,v6) =>
 if(decide (v5 < (a0.1.2.2.1.length:Int)))=true then
  gd (ix v5 a0.1.2.2.1.length/\True)<|lt (a0.1.2.2.1.getD v5.toNat (d6 y48)) fun v7 =>
  gd ((u77 v7).isSome=true/\True)<|lt (vl (u77 v7)) fun v8 =>
  gd (ix v5 a0.2.length/\True) <|
  if(a0.2.getD v5.toNat false)=true then
   gd (ix v8.1 v6.length/\v8.1.toNat<v6.length/\((v6.getD v8.1.toNat []).length+[v8.2].length<=9223372036854775807/\((v6.getD v8.1.toNat []).length+[v8.2].length)*8<=140737488355328)/\ix v8.1 v6.length/\(v8.1.toNat<v6.length/\v8.1.toNat=v8.1.toNat)/\True) <|
   j0j v5 g1 (v6.set v8.1.toNat (v6.getD v8.1.toNat []++[v8.2]))
  else
   j0j v5 g1 v6
 else
  e0U a1 a0 v6
def e0q(a0:H2)(a1:List Int):Option (List Bool) :=
 gd ((B1 a0.1).isSome=true/\(0<=vl (B1 a0.1)/\vl (B1 a0.1)=vl (B1 a0.1)/\(vl (B1 a0.1)).toNat*24<=281474976710656/\vl (B1 a0.1)<=9223372036854775807)/\True)<|lt (vl (B1 a0.1)) fun v0 =>
 lp (n0a a0 a1) (0,List.replicate v0.toNat [])
def C0y:Ct:=lct 76 [.dat y127.pt,.dat i64.sl,.nof 77] (fun x=>e0q x.1 x.2.1) (fun r:List Bool=>AV.ow 4 true Ty.bool r) (fun _=>())
theorem C0h:Ok prog C0y:=by
 refine okL [.tmp 6] func76 ntmps76 results76 ?_;intro y ⟨a0,a1,_,_⟩ r H Q hn hr;have:HT _ _:=⟨tc E0I (tc C0l (tc o77 tn))⟩;refine qA (Z (G26 a0 a1 [p 2 (AV.fn 77 [])]) [])<|qD (fun v0=>Z (G26 a0 a1 [p 2 (AV.fn 77 []),p 7 (AV.og 20)]) [(20,Ob.grd 35 2 true i64 (List.replicate v0.toNat []) none)]) H fun v0 H=>jN r (fun(v10:List (List Int))=>Z (G26 a0 a1 [p 7 (AV.og 20)]) [(20,Ob.grd 35 2 true i64 v10 none)]) (e0U a1 a0) (fun v10 H=>?_) (fun _ n0 e0 t0=>?_)
 ·refine qD (fun v11=>Z [p 1 (L i64 a1),p 7 (AV.og 20),p 12 (O 63)] [(63,A 4 Ty.bool (List.replicate v11.toNat false) 0),(20,Ob.grd 35 2 true i64 v10 none)]) H fun v11 H=>qD (fun v12=>Z [p 7 (AV.og 20),p 12 (O 63),p 13 (O 65)] [(65,A 2 i64 v12 0),(63,A 4 Ty.bool (List.replicate v11.toNat false) 0),(20,Ob.grd 35 2 true i64 v10 none)]) H fun v12 H=>jN r (fun(v21:List Bool)=>Z [p 12 (O 63)] [(63,A 4 Ty.bool v21 0)]) (n0b) (fun v21 H=>?_) (fun _ n3 e3 t3=>?_)
  ·refine qA (Z [p 6 (O 63)] [(63,A 4 Ty.bool v21 0)])<|vTT<|hr H
  refine vB<|fZ 20 (Z (G43 v10 [p 13 (O 65)]) (W69 v12 (List.replicate v11.toNat false)))<|lX (fun((v17,v18):List Int×List Bool)=>Z (G43 v10 [p 13 (O 65)]) (W69 v17 v18)) (v12,List.replicate v11.toNat false) H fun _ g4 b4 e4 t4 ⟨v17,v18⟩ H=>vQ<|qA (Z (G43 v10 [p 13 (O 65),p 68 (B (decide (0 < (v17.length:Int))))]) (W69 v17 v18))<|cD H (fun H=>?_) (fun H=>?_)
  ·refine vK<|fQ<|vB<|qB (Z (G43 v10 [p 13 (O 65),p 14 (I (v17.getD (Int.toNat (0:Int)) (0:Int)))]) (W69 v17 v18)) H fun H=>qB (Z (G43 v10 [p 13 (AV.os 65 1),p 14 (I (v17.getD (Int.toNat (0:Int)) (0:Int)))]) [(65,A 2 i64 (List.drop (Int.toNat (1:Int)) v17) 1),(63,A 4 Ty.bool v18 0)]) H fun H=>qB (Z (G43 v10 [p 13 (AV.os 65 1),p 14 (I (v17.getD (Int.toNat (0:Int)) (0:Int))),p 78 (B !v18.getD (Int.toNat (v17.getD (Int.toNat (0:Int)) (0:Int))) false)]) [(65,A 2 i64 (List.drop (Int.toNat (1:Int)) v17) 1),(63,A 4 Ty.bool v18 0)]) H fun H=>cD H (fun H=>?_) (fun H=>?_)
   ·refine qD (fun v19=>Z (G43 v10 [p 13 (AV.os 65 1),p 14 (I (v17.getD (Int.toNat (0:Int)) (0:Int)))]) [(63,A 4 Ty.bool v19 0),(65,A 2 i64 (List.drop (Int.toNat (1:Int)) v17) 1)]) H fun v19 H=>zD (fun v20=>Z (G43 v10 [p 13 (AV.os 65 2)]) [(65,A 2 i64 v20 2),(63,A 4 Ty.bool v19 0)]) H fun v20 H=>fK<|b4 H
   exact vK<|fK<|b4 H
  exact vE<|fE<|e4<|fX rfl<|n3 H
 refine qA (Z (G26 a0 a1 [p 2 (AV.fn 77 []),p 7 (AV.og 20),p 27 (L y48 a0.1.2.2.1),p 28 (I (a0.1.2.2.1.length:Int)),p 29 (I 0)]) [(20,Ob.grd 35 2 true i64 (List.replicate v0.toNat []) none)])<|vB<|lX (fun((v5,v6):Int×List (List Int))=>Z (G26 a0 a1 [p 2 (AV.fn 77 []),p 7 (AV.og 20),p 27 (L y48 a0.1.2.2.1),p 28 (I (a0.1.2.2.1.length:Int)),p 29 (I v5)]) [(20,Ob.grd 35 2 true i64 v6 none)]) (0,List.replicate v0.toNat []) H fun _ g1 b1 e1 t1 ⟨v5,v6⟩ H=>qA (Z (G26 a0 a1 [p 2 (AV.fn 77 []),p 7 (AV.og 20),p 27 (L y48 a0.1.2.2.1),p 28 (I (a0.1.2.2.1.length:Int)),p 29 (I v5),p 30 (B (decide (v5 < (a0.1.2.2.1.length:Int))))]) [(20,Ob.grd 35 2 true i64 v6 none)])<|vQ<|cD H (fun H=>?_) (fun H=>?_)
 ·refine vK<|fQ<|jN r (fun(v9:List (List Int))=>Z (G26 a0 a1 [p 2 (AV.fn 77 []),p 7 (AV.og 20),p 27 (L y48 a0.1.2.2.1),p 28 (I (a0.1.2.2.1.length:Int)),p 29 (I v5)]) [(20,Ob.grd 35 2 true i64 v9 none)]) (j0j v5 g1) (fun v9 H=>?_) (fun _ n2 e2 t2=>?_)
  ·refine zB (Z (G26 a0 a1 [p 2 (AV.fn 77 []),p 7 (AV.og 20),p 27 (L y48 a0.1.2.2.1),p 28 (I (a0.1.2.2.1.length:Int)),p 29 (I (v5+1))]) [(20,Ob.grd 35 2 true i64 v9 none)]) H fun H=>b1 H
  refine vB<|qD (fun v7=>Z (G26 a0 a1 [p 2 (AV.fn 77 []),p 7 (AV.og 20),p 8 (I v5),p 9 (R 9),p 27 (L y48 a0.1.2.2.1),p 28 (I (a0.1.2.2.1.length:Int)),p 29 (I v5)]) (W73 v7 v6)) H fun v7 H=>qD (fun v8=>Z (G26 a0 a1 [p 2 (AV.fn 77 []),p 7 (AV.og 20),p 8 (I v5),p 10 (I v8.1),p 11 (I v8.2),p 27 (L y48 a0.1.2.2.1),p 28 (I (a0.1.2.2.1.length:Int)),p 29 (I v5)]) (W73 v7 v6)) H fun v8 H=>qB (Z (G26 a0 a1 [p 2 (AV.fn 77 []),p 7 (AV.og 20),p 10 (I v8.1),p 11 (I v8.2),p 27 (L y48 a0.1.2.2.1),p 28 (I (a0.1.2.2.1.length:Int)),p 29 (I v5),p 46 (C (a0.2.getD v5.toNat false))]) (W73 v7 v6)) H fun H=>cD H (fun H=>?_) (fun H=>?_)
  ·refine zB (Z (G26 a0 a1 [p 2 (AV.fn 77 []),p 7 (AV.og 20),p 27 (L y48 a0.1.2.2.1),p 28 (I (a0.1.2.2.1.length:Int)),p 29 (I v5)]) [(20,Ob.grd 35 2 true i64 (v6.set v8.1.toNat (v6.getD v8.1.toNat []++[v8.2])) none),(52,A 2 i64 [] 2),(54,A 2 i64 [v8.2] 0),(9,K 48 y48 v7)]) H fun H=>fK<|n2 H
  exact vK<|fK<|n2 H
 exact vE<|fE<|e1<|fX rfl<|n0 H
def z0q:Ct:=lct 76 [.dat y127.pt,.dat i64.sl,.nof 77] (fun x=>e0q x.1 x.2.1) (fun r=>frz ((fun r:List Bool=>AV.ow 4 true Ty.bool r) r)) (fun _=>())
theorem y0Z:Ok prog z0q:=k0S C0h
def q0Q:List Bool->Option (List Bool)
 | v29 =>
 some v29
def q0P(v22:Int)(g2:Bool×Int×List Bool->Option (List Bool)):List Bool×Bool->Option (List Bool)
 | (v27,v28) =>
 gd (l3 (v22+1)/\True) <|
 g2 (v28,v22+1,v27)
def n0p(v22:Int)(v23:List Bool)(v21:Bool)(a2:List Bool)(g2:Bool×Int×List Bool->Option (List Bool)):Int×Int->Option (List Bool)
 | (v25,v26) =>
 gd (ix v22 a2.length/\(a2.getD v22.toNat false=true/\True->ix v25 v23.length)/\(a2.getD v22.toNat false=true/\True->v25.toNat<v23.length)/\((a2.getD v22.toNat false&&v23.getD v25.toNat false)=true/\True->ix v26 v23.length)/\((a2.getD v22.toNat false&&v23.getD v25.toNat false)=true/\True->v26.toNat<v23.length)/\True) <|
 if(a2.getD v22.toNat false&&v23.getD v25.toNat false&&!v23.getD v26.toNat false)=true then
  gd (ix v26 v23.length/\v26.toNat<v23.length/\True) <|
  q0P v22 g2 (v23.set v26.toNat true,true)
 else
  q0P v22 g2 (v23,v21)
def q0O(a2:List Bool)(a4:Bool)(a1:List Y48)(g1:Bool×List Bool->Option (List Bool))(g2:Bool×Int×List Bool->Option (List Bool)):Bool×Int×List Bool->Option (List Bool)
 | (v21,v22,v23) =>
 if(decide (v22 < (a1.length:Int)))=true then
  gd (ix v22 a1.length/\ix v22 a1.length/\True)<|lt (a1.getD v22.toNat (d6 y48)) fun v24 =>
  if(!a4)=true then
   n0p v22 v23 v21 a2 g2 (v24.2.1,v24.1)
  else
   n0p v22 v23 v21 a2 g2 (v24.1,v24.2.1)
 else
  g1 (v21,v23)
def w0S(a2:List Bool)(a4:Bool)(a1:List Y48)(g1:Bool×List Bool->Option (List Bool)):Bool×List Bool->Option (List Bool)
 | (v14,v15) =>
 if v14=true then
  lp (q0O a2 a4 a1 g1) (false,0,v15)
 else
  q0Q v15
def y0F(a0:Int)(a1:List Y48)(a2:List Bool)(a3:Int)(a4:Bool):Option (List Bool) :=
 gd ((0<=a0/\a0=a0/\a0.toNat*1<=281474976710656/\a0<=9223372036854775807)/\True) <|
 gd (ix a3 (List.replicate a0.toNat false).length/\a3.toNat < (List.replicate a0.toNat false).length/\True) <|
 lp (w0S a2 a4 a1) ((true,(List.replicate a0.toNat false).set a3.toNat true))
def K0p:Ct:=lct 141 [.dat i64,.dat y48.sl,.dat Ty.bool.sl,.dat i64,.dat Ty.bool] (fun x=>y0F x.1 x.2.1 x.2.2.1 x.2.2.2.1 x.2.2.2.2.1) (fun r:List Bool=>AV.ow 4 true Ty.bool r) (fun _=>())
theorem I0D:Ok prog K0p:=by
 refine okL [.tmp 10] func141 ntmps141 results141 ?_;intro y ⟨a0,a1,a2,a3,a4,_⟩ r H Q hn hr;have:HT _ _:=⟨@tn prog⟩;refine qA (Z [p 0 (J a0),p 1 (L y48 a1),p 2 (L Ty.bool a2),p 3 (J a3),p 4 (C a4)] [])<|qB (Z [p 1 (L y48 a1),p 2 (L Ty.bool a2),p 3 (J a3),p 4 (C a4),p 11 (O 17)] [(17,A 4 Ty.bool (List.replicate a0.toNat false) 0)]) H fun H=>qB (Z (G19 a1 a2 a4 []) [(17,A 4 Ty.bool ((List.replicate a0.toNat false).set a3.toNat true) 0)]) H fun H=>jN r (fun(v29:List Bool)=>Z [p 11 (O 17)] [(17,A 4 Ty.bool v29 0)]) (q0Q) (fun v29 H=>?_) (fun _ n0 e0 t0=>?_)
 ·refine qA (Z [p 10 (O 17)] [(17,A 4 Ty.bool v29 0)])<|vTT<|hr H
 refine qA (Z (G19 a1 a2 a4 [p 12 (B true)]) [(17,A 4 Ty.bool ((List.replicate a0.toNat false).set a3.toNat true) 0)])<|vB<|lX (fun((v14,v15):Bool×List Bool)=>Z (G19 a1 a2 a4 [p 12 (B v14)]) [(17,A 4 Ty.bool v15 0)]) ((true,(List.replicate a0.toNat false).set a3.toNat true)) H fun _ g1 b1 e1 t1 ⟨v14,v15⟩ H=>vQ<|qA (Z (G19 a1 a2 a4 [p 21 (B v14)]) [(17,A 4 Ty.bool v15 0)])<|cD H (fun H=>?_) (fun H=>?_)
 ·refine vK<|fQ<|vB<|qA (Z (G19 a1 a2 a4 [p 12 (B false)]) [(17,A 4 Ty.bool v15 0)])<|qA (Z (G19 a1 a2 a4 [p 12 (B false),p 13 (I 0)]) [(17,A 4 Ty.bool v15 0)])<|vB<|lX (fun((v21,v22,v23):Bool×Int×List Bool)=>Z (G19 a1 a2 a4 [p 12 (B v21),p 13 (I v22)]) [(17,A 4 Ty.bool v23 0)]) (false,0,v15) H fun _ g2 b2 e2 t2 ⟨v21,v22,v23⟩ H=>vQ<|qA (Z (G19 a1 a2 a4 [p 12 (B v21),p 13 (I v22),p 25 (B (decide (v22 < (a1.length:Int))))]) [(17,A 4 Ty.bool v23 0)])<|cD H (fun H=>?_) (fun H=>?_)
  ·refine vK<|fQ<|jN r (fun((v27,v28):List Bool×Bool)=>Z (G19 a1 a2 a4 [p 12 (B v28),p 13 (I v22)]) [(17,A 4 Ty.bool v27 0)]) (q0P v22 g2) (fun⟨v27,v28⟩ H=>?_) (fun _ n3 e3 t3=>?_)
   ·refine zB (Z (G19 a1 a2 a4 [p 12 (B v28),p 13 (I (v22+1))]) [(17,A 4 Ty.bool v27 0)]) H fun H=>b2 H
   refine vB<|qD (fun v24=>Z (G19 a1 a2 a4 [p 12 (B v21),p 13 (I v22),p 14 (J v24.1),p 15 (J v24.2.1)]) [(17,A 4 Ty.bool v23 0)]) H fun v24 H=>jN r (fun((v25,v26):Int×Int)=>Z (G19 a1 a2 a4 [p 12 (B v21),p 13 (I v22),p 14 (J v25),p 15 (J v26)]) [(17,A 4 Ty.bool v23 0)]) (n0p v22 v23 v21 a2 g2) (fun⟨v25,v26⟩ H=>?_) (fun _ n4 e4 t4=>?_)
   ·refine qB (Z (G19 a1 a2 a4 [p 12 (B v21),p 13 (I v22),p 15 (J v26),p 58 (B (a2.getD v22.toNat false&&v23.getD v25.toNat false&&!v23.getD v26.toNat false))]) [(17,A 4 Ty.bool v23 0)]) H fun H=>cD H (fun H=>?_) (fun H=>?_)
    ·refine qB (Z (G19 a1 a2 a4 [p 13 (I v22)]) [(17,A 4 Ty.bool (v23.set v26.toNat true) 0)]) H fun H=>zA (Z (G19 a1 a2 a4 [p 12 (B true),p 13 (I v22)]) [(17,A 4 Ty.bool (v23.set v26.toNat true) 0)])<|fK<|n3 H
    exact vK<|fK<|n3 H
   refine qA (Z (G19 a1 a2 a4 [p 12 (B v21),p 13 (I v22),p 14 (J v24.1),p 15 (J v24.2.1),p 39 (B !a4)]) [(17,A 4 Ty.bool v23 0)])<|cD H (fun H=>?_) (fun H=>?_)
   ·refine zA (Z (G19 a1 a2 a4 [p 12 (B v21),p 13 (I v22),p 14 (J v24.2.1),p 15 (J v24.1)]) [(17,A 4 Ty.bool v23 0)])<|n4 H
   exact vK<|n4 H
  exact vE<|fE<|e2<|fX rfl<|fK<|b1 H
 exact vE<|fE<|e1<|fX rfl<|n0 H
def u79(a0:Y48):Option (Int×Int) :=
 some (a0.2.1,a0.1)
def k79:Ct:=lct 79 [.agg y48] (fun x=>u79 x.1) (fun r:Int×Int=>AV.tup [I r.1,I r.2]) (fun _=>())
theorem o79:Ok prog k79:=by
 refine okL [.tmp 2,.tmp 3] func79 ntmps79 results79 ?_;intro y ⟨a0,_⟩ r H Q hn hr;have:HT _ _:=⟨@tn prog⟩;refine qA (Z [p 1 (R 1)] [(1,K 48 y48 a0)])<|qA (Z [p 2 (J a0.2.1),p 3 (J a0.1)] [(1,K 48 y48 a0)])<|vTT<|hr H
def m0X:List Bool->Option (List Bool)
 | v21 =>
 some v21
def t0w(v10:List (List Int))(g4:List Int×List Bool->Option (List Bool)):List Int×List Bool->Option (List Bool)
 | (v17,v18) =>
 if(decide (0 < (v17.length:Int)))=true then
  gd (ix (0:Int) v17.length/\Int.toNat (0:Int)<v17.length/\True) <|
  gd (((0:Int)<=(1:Int)/\(1:Int)<=(v17.length:Int)/\(v17.length:Int)<=(v17.length:Int))/\True) <|
  gd (ix (v17.getD (Int.toNat (0:Int)) (0:Int)) v18.length/\Int.toNat (v17.getD (Int.toNat (0:Int)) (0:Int))<v18.length/\True) <|
  if(!v18.getD (Int.toNat (v17.getD (Int.toNat (0:Int)) (0:Int))) false)=true then
   gd (ix (v17.getD (Int.toNat (0:Int)) (0:Int)) v18.length/\Int.toNat (v17.getD (Int.toNat (0:Int)) (0:Int))<v18.length/\True)<|lt (v18.set (Int.toNat (v17.getD (Int.toNat (0:Int)) (0:Int))) true) fun v19 =>
   gd (ix (v17.getD (Int.toNat (0:Int)) (0:Int)) v10.length/\((List.drop (Int.toNat (1:Int)) v17).length+List.length (v10.getD (Int.toNat (v17.getD (Int.toNat (0:Int)) (0:Int))) [])<=9223372036854775807/\((List.drop (Int.toNat (1:Int)) v17).length+List.length (v10.getD (Int.toNat (v17.getD (Int.toNat (0:Int)) (0:Int))) []))*8<=140737488355328)/\True)<|lt (List.drop (Int.toNat (1:Int)) v17++v10.getD (Int.toNat (v17.getD (Int.toNat (0:Int)) (0:Int))) []) fun v20 =>
   g4 (v20,v19)
  else
   g4 ((List.drop (Int.toNat (1:Int)) v17,v18))
 else
  m0X v18
def m0Y(a1:List Int)(a0:H2):List (List Int)->Option (List Bool)
 | v10 =>
 gd ((B1 a0.1).isSome=true/\(0<=vl (B1 a0.1)/\vl (B1 a0.1)=vl (B1 a0.1)/\(vl (B1 a0.1)).toNat*1<=281474976710656/\vl (B1 a0.1)<=9223372036854775807)/\True)<|lt (vl (B1 a0.1)) fun v11 =>
 gd ((w0T a1).isSome=true/\True)<|lt (vl (w0T a1)) fun v12 =>
 lp (t0w v10) (v12,List.replicate v11.toNat false)
def j0i(v5:Int)(g1:Int×List (List Int)->Option (List Bool)):List (List Int)->Option (List Bool)
 | v9 =>
 gd (l3 (v5+1)/\True) <|
 g1 (v5+1,v9)
def t0x(a0:H2)(a1:List Int)(g1:Int×List (List Int)->Option (List Bool)):Int×List (List Int)->Option (List Bool)
 | (v5,v6) =>
 if(decide (v5 < (a0.1.2.2.1.length:Int)))=true then
  gd (ix v5 a0.1.2.2.1.length/\True)<|lt (a0.1.2.2.1.getD v5.toNat (d6 y48)) fun v7 =>
  gd ((u79 v7).isSome=true/\True)<|lt (vl (u79 v7)) fun v8 =>
  gd (ix v5 a0.2.length/\True) <|
  if(a0.2.getD v5.toNat false)=true then
   gd (ix v8.1 v6.length/\v8.1.toNat<v6.length/\((v6.getD v8.1.toNat []).length+[v8.2].length<=9223372036854775807/\((v6.getD v8.1.toNat []).length+[v8.2].length)*8<=140737488355328)/\ix v8.1 v6.length/\(v8.1.toNat<v6.length/\v8.1.toNat=v8.1.toNat)/\True) <|
   j0i v5 g1 (v6.set v8.1.toNat (v6.getD v8.1.toNat []++[v8.2]))
  else
   j0i v5 g1 v6
 else
  m0Y a1 a0 v6
def v0M(a0:H2)(a1:List Int):Option (List Bool) :=
 gd ((B1 a0.1).isSome=true/\(0<=vl (B1 a0.1)/\vl (B1 a0.1)=vl (B1 a0.1)/\(vl (B1 a0.1)).toNat*24<=281474976710656/\vl (B1 a0.1)<=9223372036854775807)/\True)<|lt (vl (B1 a0.1)) fun v0 =>
 lp (t0x a0 a1) (0,List.replicate v0.toNat [])
def C0x:Ct:=lct 76 [.dat y127.pt,.dat i64.sl,.nof 79] (fun x=>v0M x.1 x.2.1) (fun r:List Bool=>AV.ow 4 true Ty.bool r) (fun _=>())
theorem C0g:Ok prog C0x:=by
 refine okL [.tmp 6] func76 ntmps76 results76 ?_;intro y ⟨a0,a1,_,_⟩ r H Q hn hr;have:HT _ _:=⟨tc E0I (tc C0l (tc o79 tn))⟩;refine qA (Z (G26 a0 a1 [p 2 (AV.fn 79 [])]) [])<|qD (fun v0=>Z (G26 a0 a1 [p 2 (AV.fn 79 []),p 7 (AV.og 20)]) [(20,Ob.grd 35 2 true i64 (List.replicate v0.toNat []) none)]) H fun v0 H=>jN r (fun(v10:List (List Int))=>Z (G26 a0 a1 [p 7 (AV.og 20)]) [(20,Ob.grd 35 2 true i64 v10 none)]) (m0Y a1 a0) (fun v10 H=>?_) (fun _ n0 e0 t0=>?_)
 ·refine qD (fun v11=>Z [p 1 (L i64 a1),p 7 (AV.og 20),p 12 (O 63)] [(63,A 4 Ty.bool (List.replicate v11.toNat false) 0),(20,Ob.grd 35 2 true i64 v10 none)]) H fun v11 H=>qD (fun v12=>Z [p 7 (AV.og 20),p 12 (O 63),p 13 (O 65)] [(65,A 2 i64 v12 0),(63,A 4 Ty.bool (List.replicate v11.toNat false) 0),(20,Ob.grd 35 2 true i64 v10 none)]) H fun v12 H=>jN r (fun(v21:List Bool)=>Z [p 12 (O 63)] [(63,A 4 Ty.bool v21 0)]) (m0X) (fun v21 H=>?_) (fun _ n3 e3 t3=>?_)
  ·refine qA (Z [p 6 (O 63)] [(63,A 4 Ty.bool v21 0)])<|vTT<|hr H
  refine vB<|fZ 20 (Z (G43 v10 [p 13 (O 65)]) (W69 v12 (List.replicate v11.toNat false)))<|lX (fun((v17,v18):List Int×List Bool)=>Z (G43 v10 [p 13 (O 65)]) (W69 v17 v18)) (v12,List.replicate v11.toNat false) H fun _ g4 b4 e4 t4 ⟨v17,v18⟩ H=>vQ<|qA (Z (G43 v10 [p 13 (O 65),p 68 (B (decide (0 < (v17.length:Int))))]) (W69 v17 v18))<|cD H (fun H=>?_) (fun H=>?_)
  ·refine vK<|fQ<|vB<|qB (Z (G43 v10 [p 13 (O 65),p 14 (I (v17.getD (Int.toNat (0:Int)) (0:Int)))]) (W69 v17 v18)) H fun H=>qB (Z (G43 v10 [p 13 (AV.os 65 1),p 14 (I (v17.getD (Int.toNat (0:Int)) (0:Int)))]) [(65,A 2 i64 (List.drop (Int.toNat (1:Int)) v17) 1),(63,A 4 Ty.bool v18 0)]) H fun H=>qB (Z (G43 v10 [p 13 (AV.os 65 1),p 14 (I (v17.getD (Int.toNat (0:Int)) (0:Int))),p 78 (B !v18.getD (Int.toNat (v17.getD (Int.toNat (0:Int)) (0:Int))) false)]) [(65,A 2 i64 (List.drop (Int.toNat (1:Int)) v17) 1),(63,A 4 Ty.bool v18 0)]) H fun H=>cD H (fun H=>?_) (fun H=>?_)
   ·refine qD (fun v19=>Z (G43 v10 [p 13 (AV.os 65 1),p 14 (I (v17.getD (Int.toNat (0:Int)) (0:Int)))]) [(63,A 4 Ty.bool v19 0),(65,A 2 i64 (List.drop (Int.toNat (1:Int)) v17) 1)]) H fun v19 H=>zD (fun v20=>Z (G43 v10 [p 13 (AV.os 65 2)]) [(65,A 2 i64 v20 2),(63,A 4 Ty.bool v19 0)]) H fun v20 H=>fK<|b4 H
   exact vK<|fK<|b4 H
  exact vE<|fE<|e4<|fX rfl<|n3 H
 refine qA (Z (G26 a0 a1 [p 2 (AV.fn 79 []),p 7 (AV.og 20),p 27 (L y48 a0.1.2.2.1),p 28 (I (a0.1.2.2.1.length:Int)),p 29 (I 0)]) [(20,Ob.grd 35 2 true i64 (List.replicate v0.toNat []) none)])<|vB<|lX (fun((v5,v6):Int×List (List Int))=>Z (G26 a0 a1 [p 2 (AV.fn 79 []),p 7 (AV.og 20),p 27 (L y48 a0.1.2.2.1),p 28 (I (a0.1.2.2.1.length:Int)),p 29 (I v5)]) [(20,Ob.grd 35 2 true i64 v6 none)]) (0,List.replicate v0.toNat []) H fun _ g1 b1 e1 t1 ⟨v5,v6⟩ H=>qA (Z (G26 a0 a1 [p 2 (AV.fn 79 []),p 7 (AV.og 20),p 27 (L y48 a0.1.2.2.1),p 28 (I (a0.1.2.2.1.length:Int)),p 29 (I v5),p 30 (B (decide (v5 < (a0.1.2.2.1.length:Int))))]) [(20,Ob.grd 35 2 true i64 v6 none)])<|vQ<|cD H (fun H=>?_) (fun H=>?_)
 ·refine vK<|fQ<|jN r (fun(v9:List (List Int))=>Z (G26 a0 a1 [p 2 (AV.fn 79 []),p 7 (AV.og 20),p 27 (L y48 a0.1.2.2.1),p 28 (I (a0.1.2.2.1.length:Int)),p 29 (I v5)]) [(20,Ob.grd 35 2 true i64 v9 none)]) (j0i v5 g1) (fun v9 H=>?_) (fun _ n2 e2 t2=>?_)
  ·refine zB (Z (G26 a0 a1 [p 2 (AV.fn 79 []),p 7 (AV.og 20),p 27 (L y48 a0.1.2.2.1),p 28 (I (a0.1.2.2.1.length:Int)),p 29 (I (v5+1))]) [(20,Ob.grd 35 2 true i64 v9 none)]) H fun H=>b1 H
  refine vB<|qD (fun v7=>Z (G26 a0 a1 [p 2 (AV.fn 79 []),p 7 (AV.og 20),p 8 (I v5),p 9 (R 9),p 27 (L y48 a0.1.2.2.1),p 28 (I (a0.1.2.2.1.length:Int)),p 29 (I v5)]) (W73 v7 v6)) H fun v7 H=>qD (fun v8=>Z (G26 a0 a1 [p 2 (AV.fn 79 []),p 7 (AV.og 20),p 8 (I v5),p 10 (I v8.1),p 11 (I v8.2),p 27 (L y48 a0.1.2.2.1),p 28 (I (a0.1.2.2.1.length:Int)),p 29 (I v5)]) (W73 v7 v6)) H fun v8 H=>qB (Z (G26 a0 a1 [p 2 (AV.fn 79 []),p 7 (AV.og 20),p 10 (I v8.1),p 11 (I v8.2),p 27 (L y48 a0.1.2.2.1),p 28 (I (a0.1.2.2.1.length:Int)),p 29 (I v5),p 46 (C (a0.2.getD v5.toNat false))]) (W73 v7 v6)) H fun H=>cD H (fun H=>?_) (fun H=>?_)
  ·refine zB (Z (G26 a0 a1 [p 2 (AV.fn 79 []),p 7 (AV.og 20),p 27 (L y48 a0.1.2.2.1),p 28 (I (a0.1.2.2.1.length:Int)),p 29 (I v5)]) [(20,Ob.grd 35 2 true i64 (v6.set v8.1.toNat (v6.getD v8.1.toNat []++[v8.2])) none),(52,A 2 i64 [] 2),(54,A 2 i64 [v8.2] 0),(9,K 48 y48 v7)]) H fun H=>fK<|n2 H
  exact vK<|fK<|n2 H
 exact vE<|fE<|e1<|fX rfl<|n0 H
def z0p:Ct:=lct 76 [.dat y127.pt,.dat i64.sl,.nof 79] (fun x=>v0M x.1 x.2.1) (fun r=>frz ((fun r:List Bool=>AV.ow 4 true Ty.bool r) r)) (fun _=>())
theorem y0Y:Ok prog z0p:=k0S C0g
def D0r(a0:Y48)(a1:Int):Option (Bool) :=
 some (a0.1==a1&&a0.2.1==a1)
def J0Q:Ct:=lct 187 [.agg y48,.dat (.pt i64)] (fun x=>D0r x.1 x.2.1) (fun r:Bool=>B r) (fun _=>())
theorem F0H:Ok prog J0Q:=by
 refine okL [.tmp 3] func187 ntmps187 results187 ?_;intro y ⟨a0,a1,_⟩ r H Q hn hr;have:HT _ _:=⟨@tn prog⟩;refine qA (Z [p 1 (D i64.pt a1),p 2 (R 2)] [(2,K 48 y48 a0)])<|qA (Z [p 3 (B (a0.1==a1&&a0.2.1==a1))] [(2,K 48 y48 a0)])<|vTT<|hr H
def i0z:List Int->Option (List Int)
 | v6 =>
 some v6
def f0z(v3:Int)(g1:List Int×Int->Option (List Int)):List Int->Option (List Int)
 | v5 =>
 gd (l3 (v3+1)/\True) <|
 g1 (v5,v3+1)
def i0y(a0:H2)(a1:Int)(g1:List Int×Int->Option (List Int)):List Int×Int->Option (List Int)
 | (v2,v3) =>
 if(decide (v3 < (a0.1.2.2.1.length:Int)))=true then
  gd (ix v3 a0.1.2.2.1.length/\True)<|lt (a0.1.2.2.1.getD v3.toNat (d6 y48)) fun v4 =>
  gd (ix v3 a0.2.length/\(a0.2.getD v3.toNat false=true/\True->(D0r v4 a1).isSome=true)/\True) <|
  if(a0.2.getD v3.toNat false&&vl (D0r v4 a1))=true then
   gd ((v2.length+[v3].length<=9223372036854775807/\(v2.length+[v3].length)*8<=140737488355328)/\True) <|
   f0z v3 g1 (v2++[v3])
  else
   f0z v3 g1 v2
 else
  i0z v2
def g0y(a0:H2)(a1:Int):Option (List Int) :=
 lp (i0y a0 a1) ([],0)
def v0c:Ct:=lct 116 [.dat y127.pt,.fn 187 (.pt i64)] (fun x=>g0y x.1 x.2.1) (fun r:List Int=>AV.ow 2 true i64 r) (fun _=>())
theorem u0E:Ok prog v0c:=by
 refine okL [.tmp 4] func116 ntmps116 results116 ?_;intro y ⟨a0,a1,_⟩ r H Q hn hr;have:HT _ _:=⟨tc F0H tn⟩;refine qA (Z [p 0 (D y127.pt a0),p 1 (AV.fn 187 [D i64.pt a1])] [])<|qA (Z [p 0 (D y127.pt a0),p 1 (AV.fn 187 [D i64.pt a1]),p 5 (nil)] [])<|jN r (fun(v6:List Int)=>Z [p 5 (O 36)] [(36,A 2 i64 v6 0)]) (i0z) (fun v6 H=>?_) (fun _ n0 e0 t0=>?_)
 ·refine qA (Z [p 4 (O 36)] [(36,A 2 i64 v6 0)])<|vTT<|hr H
 refine qA (Z [p 0 (D y127.pt a0),p 1 (AV.fn 187 [D i64.pt a1]),p 5 (nil),p 14 (L y48 a0.1.2.2.1),p 15 (I (a0.1.2.2.1.length:Int)),p 16 (I 0)] [])<|vB<|lX (fun((v2,v3):List Int×Int)=>Z [p 0 (D y127.pt a0),p 1 (AV.fn 187 [D i64.pt a1]),p 5 (O 36),p 14 (L y48 a0.1.2.2.1),p 15 (I (a0.1.2.2.1.length:Int)),p 16 (I v3)] [(36,A 2 i64 v2 0)]) ([],0) H fun _ g1 b1 e1 t1 ⟨v2,v3⟩ H=>qA (Z [p 0 (D y127.pt a0),p 1 (AV.fn 187 [D i64.pt a1]),p 5 (O 36),p 14 (L y48 a0.1.2.2.1),p 15 (I (a0.1.2.2.1.length:Int)),p 16 (I v3),p 17 (B (decide (v3 < (a0.1.2.2.1.length:Int))))] [(36,A 2 i64 v2 0)])<|vQ<|cD H (fun H=>?_) (fun H=>?_)
 ·refine vK<|fQ<|jN r (fun(v5:List Int)=>Z [p 0 (D y127.pt a0),p 1 (AV.fn 187 [D i64.pt a1]),p 5 (O 36),p 14 (L y48 a0.1.2.2.1),p 15 (I (a0.1.2.2.1.length:Int)),p 16 (I v3)] [(36,A 2 i64 v5 0)]) (f0z v3 g1) (fun v5 H=>?_) (fun _ n2 e2 t2=>?_)
  ·refine zB (Z [p 0 (D y127.pt a0),p 1 (AV.fn 187 [D i64.pt a1]),p 5 (O 36),p 14 (L y48 a0.1.2.2.1),p 15 (I (a0.1.2.2.1.length:Int)),p 16 (I (v3+1))] [(36,A 2 i64 v5 0)]) H fun H=>b1 H
  refine vB<|qD (fun v4=>Z [p 0 (D y127.pt a0),p 1 (AV.fn 187 [D i64.pt a1]),p 5 (O 36),p 6 (I v3),p 7 (R 7),p 14 (L y48 a0.1.2.2.1),p 15 (I (a0.1.2.2.1.length:Int)),p 16 (I v3)] (W84 v4 v2)) H fun v4 H=>qB (Z [p 0 (D y127.pt a0),p 1 (AV.fn 187 [D i64.pt a1]),p 5 (O 36),p 6 (I v3),p 14 (L y48 a0.1.2.2.1),p 15 (I (a0.1.2.2.1.length:Int)),p 16 (I v3),p 32 (B (a0.2.getD v3.toNat false&&vl (D0r v4 a1)))] (W84 v4 v2)) H fun H=>cD H (fun H=>?_) (fun H=>?_)
  ·refine zB (Z [p 0 (D y127.pt a0),p 1 (AV.fn 187 [D i64.pt a1]),p 5 (AV.os 36 1),p 14 (L y48 a0.1.2.2.1),p 15 (I (a0.1.2.2.1.length:Int)),p 16 (I v3)] [(36,A 2 i64 (v2++[v3]) 1),(35,A 2 i64 [v3] 0),(7,K 48 y48 v4)]) H fun H=>fK<|n2 H
  exact vK<|fK<|n2 H
 exact vE<|fE<|e1<|fX rfl<|n0 H
def A0n(a0:H2)(a1:Int):Option (Bool) :=
 gd ((g0y a0 a1).isSome=true/\True)<|lt (vl (g0y a0 a1)) fun v0 =>
 some (decide (0 < (v0.length:Int)))
def K0o:Ct:=lct 142 [.dat y127.pt,.dat i64] (fun x=>A0n x.1 x.2.1) (fun r:Bool=>B r) (fun _=>())
theorem I0C:Ok prog K0o:=by
 refine okL [.tmp 4] func142 ntmps142 results142 ?_;intro y ⟨a0,a1,_⟩ r H Q hn hr;have:HT _ _:=⟨tc j0C (tc o0a (tc n0Z (tc u0E (tc F0H tn))))⟩;refine qA (Z [p 0 (D y127.pt a0),p 3 (R 3)] [(3,bx 2 [J a1])])<|qD (fun v0=>Z [p 4 (B (decide (0 < (v0.length:Int))))] [(7,A 2 i64 v0 0),(3,bx 2 [J a1])]) H fun v0 H=>vTT<|hr H
end Go.Proofs.YtphnknndgfgepaaGreatDoor
end
