/- Functions of this program as plain functions of data, and that they are so: printed by program. -/
import Derived.Test.YtphnknndgfgepaaGreatDoorF74b
section
namespace Go.Proofs.YtphnknndgfgepaaGreatDoor
open Go Go.Proofs Go.Proofs.Sv Go.Proofs.Xv Go.Proofs.Xl Go.RowKit
open Tryz
def u278J0:List Int×Int×Int×List Int->Option (List Int×Y152)
 | (v10,v11,v12,v13) =>
 some (v13,v10,v11,v12)
def u278L1(a1:Int)(g1:Int×Int×List Int×Int×Int×List Int->Option (List Int×Y152)):Int×Int×List Int×Int×Int×List Int->Option (List Int×Y152)
 | (v3,v4,v5,v6,v7,v8) =>
 if(decide (0<v4))=true then
  gd ((v8.length+[v3].length<=9223372036854775807/\(v8.length+[v3].length)*8<=140737488355328)/\True) <|
  gd (in64 (v3+1)/\(u88 (v5,v6,v7) a1).isSome=true/\in64 (v3+1+(vl (u88 (v5,v6,v7) a1)).1)/\True)<|lt (vl (u88 (v5,v6,v7) a1)) fun v9 =>
  gd (in64 (v4-1)/\True) <|
  g1 (v3+1+v9.1,v4-1,v9.2.1,v9.2.2.1,v9.2.2.2,v8++[v3])
 else
  u278J0 (v5,v6,v7,v8)
def u278(a0:Y152)(a1:Int):Option (List Int×Y152) :=
 gd ((u88 a0 a1).isSome=true/\True)<|lt (vl (u88 a0 a1)) fun v0 =>
 gd ((u88 v0.2 3).isSome=true/\in64 (1+(vl (u88 v0.2 3)).1)/\True)<|lt (vl (u88 v0.2 3)) fun v1 =>
 lp (u278L1 a1) (v0.1,1+v1.1,v1.2.1,v1.2.2.1,v1.2.2.2,[])
def k278:Ct:=lct 278 [.io 152 y152,.dat i64] (fun x=>u278 x.1 x.2.1) (fun r:List Int×Y152=>AV.ow 2 true i64 r.1) (fun r=>r.2)
theorem o278:Ok prog k278:=by
 refine okL [.tmp 4] func278 ntmps278 results278 ?_;intro y ⟨a0,a1,_⟩ r H Q hn hr;have:HT _ _:=⟨tc o88 tn⟩;refine qA (Z (G11 a1 []) [(500000,K 152 y152 a0)])<|qA (Z (G11 a1 [p 5 (O 8)]) [(8,A 2 i64 [] 0),(500000,K 152 y152 a0)])<|qD (fun v0=>Z (G11 a1 [p 5 (O 8),p 6 (I v0.1)]) [(500000,K 152 y152 v0.2),(8,A 2 i64 [] 0)]) H fun v0 H=>jN r (fun((v10,v11,v12,v13):List Int×Int×Int×List Int)=>Z [p 5 (O 8)] [(500000,bx 152 (Q63 v10 v11 v12)),(8,A 2 i64 v13 0)]) (u278J0) (fun⟨v10,v11,v12,v13⟩ H=>?_) (fun _ n0 e0 t0=>?_)
 ·refine qA (Z [p 4 (O 8)] [(500000,bx 152 (Q63 v10 v11 v12)),(8,A 2 i64 v13 0)])<|vTT<|hr H
 refine qD (fun v1=>Z (G11 a1 [p 5 (O 8),p 6 (I v0.1),p 7 (I (1+v1.1))]) [(500000,K 152 y152 v1.2),(8,A 2 i64 [] 0)]) H fun v1 H=>vB<|lX (fun((v3,v4,v5,v6,v7,v8):Int×Int×List Int×Int×Int×List Int)=>Z (G11 a1 [p 5 (O 8),p 6 (I v3),p 7 (I v4)]) [(500000,bx 152 [L b8 v5,J v6,J v7]),(8,A 2 i64 v8 0)]) (v0.1,1+v1.1,v1.2.1,v1.2.2.1,v1.2.2.2,[]) H fun _ g1 b1 e1 t1 ⟨v3,v4,v5,v6,v7,v8⟩ H=>vQ<|qA (Z (G11 a1 [p 5 (O 8),p 6 (I v3),p 7 (I v4),p 16 (B (decide (0<v4)))]) [(500000,bx 152 [L b8 v5,J v6,J v7]),(8,A 2 i64 v8 0)])<|cD H (fun H=>?_) (fun H=>?_)
 ·refine vK<|fQ<|vQ<|vB<|qB (Z (G11 a1 [p 5 (AV.os 8 1),p 6 (I v3),p 7 (I v4)]) [(8,A 2 i64 (v8++[v3]) 1),(21,A 2 i64 [v3] 0),(500000,bx 152 [L b8 v5,J v6,J v7])]) H fun H=>zD (fun v9=>Z (G11 a1 [p 5 (AV.os 8 1),p 6 (I (v3+1+v9.1)),p 7 (I v4)]) [(500000,K 152 y152 v9.2),(8,A 2 i64 (v8++[v3]) 1),(21,A 2 i64 [v3] 0)]) H fun v9 H=>fK<|fQ<|zB (Z (G11 a1 [p 5 (AV.os 8 1),p 6 (I (v3+1+v9.1)),p 7 (I (v4-1))]) [(500000,K 152 y152 v9.2),(8,A 2 i64 (v8++[v3]) 1),(21,A 2 i64 [v3] 0)]) H fun H=>b1 H
 exact vE<|fE<|e1<|fX rfl<|n0 H
def u270J0(v0:List Int×Y152)(v1:List Int×Y152):List Int×List Int×Int×Int->Option (Y140×Y152)
 | (v31,v32,v33,v34) =>
 some (((v0.1,v1.1,v31),v32,v33,v34))
def u270J3(v14:Int)(v15:List Int)(g1:Int×List Int×List Int×Int×Int->Option (Y140×Y152)):Int×List Int×Int×Int->Option (Y140×Y152)
 | (v27,v28,v29,v30) =>
 gd ((v15.length+[v27].length<=9223372036854775807/\(v15.length+[v27].length)*8<=140737488355328)/\True) <|
 gd (in64 (v14+1)/\True) <|
 g1 (v14+1,v15++[v27],v28,v29,v30)
def u270J2(v14:Int)(v15:List Int)(v1:List Int×Y152)(g1:Int×List Int×List Int×Int×Int->Option (Y140×Y152)):Int×List Int×Int×Int->Option (Y140×Y152)
 | (v21,v22,v23,v24) =>
 if(decide ((v1.1.length:Int)<=v14))=true then
  gd (in64 (v14-(v1.1.length:Int))/\ix (v14-(v1.1.length:Int)) v15.length/\(v14-(v1.1.length:Int)).toNat<v15.length/\(u88 (v22,v23,v24) 20).isSome=true/\in64 (v15.getD (v14-(v1.1.length:Int)).toNat 0+(vl (u88 (v22,v23,v24) 20)).1)/\True)<|lt ((vl (u88 (v22,v23,v24) 20),max v21 (v15.getD (v14-(v1.1.length:Int)).toNat 0+(vl (u88 (v22,v23,v24) 20)).1))) fun(v25,v26) =>
  u270J3 v14 v15 g1 (v26,v25.2.1,v25.2.2.1,v25.2.2.2)
 else
  u270J3 v14 v15 g1 (v21,v22,v23,v24)
def u270L1(v1:List Int×Y152)(a1:Int)(v0:List Int×Y152)(g1:Int×List Int×List Int×Int×Int->Option (Y140×Y152)):Int×List Int×List Int×Int×Int->Option (Y140×Y152)
 | (v14,v15,v16,v17,v18) =>
 gd (in64 ((v0.1.length:Int)*(v1.1.length:Int))/\True) <|
 if(decide (v14 < (v0.1.length:Int)*(v1.1.length:Int)))=true then
  gd ((u88 (v16,v17,v18) 10).isSome=true/\in64 (a1+(vl (u88 (v16,v17,v18) 10)).1)/\True)<|lt (vl (u88 (v16,v17,v18) 10)) fun v19 =>
  gd (0 < (v1.1.length:Int)/\True) <|
  if(decide (0<v14.tmod (v1.1.length:Int)))=true then
   gd (in64 (v14-1)/\ix (v14-1) v15.length/\(v14-1).toNat<v15.length/\(u88 v19.2 20).isSome=true/\in64 (v15.getD (v14-1).toNat 0+(vl (u88 v19.2 20)).1)/\True)<|lt (vl (u88 v19.2 20)) fun v20 =>
   u270J2 v14 v15 v1 g1 ((max (a1+v19.1) (v15.getD (v14-1).toNat 0+v20.1),v20.2.1,v20.2.2.1,v20.2.2.2))
  else
   u270J2 v14 v15 v1 g1 (a1+v19.1,v19.2.1,v19.2.2.1,v19.2.2.2)
 else
  u270J0 v0 v1 (v15,v16,v17,v18)
def u270(a0:Y152)(a1:Int):Option (Y140×Y152) :=
 gd ((u278 a0 60).isSome=true/\True)<|lt (vl (u278 a0 60)) fun v0 =>
 gd ((u278 v0.2 40).isSome=true/\True)<|lt (vl (u278 v0.2 40)) fun v1 =>
 lp (u270L1 v1 a1 v0) (0,[],v1.2.1,v1.2.2.1,v1.2.2.2)
def k270:Ct:=lct 270 [.io 152 y152,.dat i64] (fun x=>u270 x.1 x.2.1) (fun r:Y140×Y152=>AV.agg [AV.ow 2 true i64 r.1.1,AV.ow 2 true i64 r.1.2.1,AV.ow 2 true i64 r.1.2.2]) (fun r=>r.2)
theorem o270:Ok prog k270:=by
 refine okL [.cell 4 140] func270 ntmps270 results270 ?_;intro y ⟨a0,a1,_⟩ r H Q hn hr;have:HT _ _:=⟨tc o88 (tc o278 tn)⟩;refine qA (Z (G11 a1 [p 4 (R 4)]) [(4,bx 140 [nil,nil,nil]),(500000,K 152 y152 a0)])<|qD (fun v0=>Z (G11 a1 [p 4 (R 4),p 5 (O 12)]) [(12,A 2 i64 v0.1 0),(500000,K 152 y152 v0.2),(4,bx 140 [nil,nil,nil])]) H fun v0 H=>qD (fun v1=>Z (G11 a1 [p 4 (R 4),p 5 (O 12),p 6 (O 14)]) ((14,A 2 i64 v1.1 0)::(500000,K 152 y152 v1.2)::W17 v0.1)) H fun v1 H=>qA (Z (G11 a1 [p 4 (R 4),p 5 (O 12),p 6 (O 14),p 7 (O 15)]) ((15,A 2 i64 [] 0)::(14,A 2 i64 v1.1 0)::(500000,K 152 y152 v1.2)::W17 v0.1))<|qA (Z (G11 a1 [p 4 (R 4),p 5 (O 12),p 6 (O 14),p 7 (O 15),p 8 (I (v1.1.length:Int))]) ((15,A 2 i64 [] 0)::(14,A 2 i64 v1.1 0)::(500000,K 152 y152 v1.2)::W17 v0.1))<|jN r (fun((v31,v32,v33,v34):List Int×List Int×Int×Int)=>Z [p 4 (R 4),p 5 (O 12),p 6 (O 14),p 7 (O 15)] ((15,A 2 i64 v31 0)::(14,A 2 i64 v1.1 0)::(500000,bx 152 (Q63 v32 v33 v34))::W17 v0.1)) (u270J0 v0 v1) (fun⟨v31,v32,v33,v34⟩ H=>?_) (fun _ n0 e0 t0=>?_)
 ·refine qA (Z [p 4 (R 4)] [(4,bx 140 [AV.os 12 0,AV.os 14 0,AV.os 15 0]),(15,A 2 i64 v31 0),(14,A 2 i64 v1.1 0),(500000,bx 152 (Q63 v32 v33 v34)),(12,A 2 i64 v0.1 0)])<|vTT<|hr H
 refine qA (Z (G11 a1 [p 4 (R 4),p 5 (O 12),p 6 (O 14),p 7 (O 15),p 8 (I (v1.1.length:Int)),p 9 (I 0)]) ((15,A 2 i64 [] 0)::(14,A 2 i64 v1.1 0)::(500000,K 152 y152 v1.2)::W17 v0.1))<|vB<|lX (fun((v14,v15,v16,v17,v18):Int×List Int×List Int×Int×Int)=>Z (G11 a1 [p 4 (R 4),p 5 (O 12),p 6 (O 14),p 7 (O 15),p 8 (I (v1.1.length:Int)),p 9 (I v14)]) ((15,A 2 i64 v15 0)::(14,A 2 i64 v1.1 0)::(500000,bx 152 (Q63 v16 v17 v18))::W17 v0.1)) (0,[],v1.2.1,v1.2.2.1,v1.2.2.2) H fun _ g1 b1 e1 t1 ⟨v14,v15,v16,v17,v18⟩ H=>vQ<|qB (Z (G11 a1 [p 4 (R 4),p 5 (O 12),p 6 (O 14),p 7 (O 15),p 8 (I (v1.1.length:Int)),p 9 (I v14),p 23 (B (decide (v14 < (v0.1.length:Int)*(v1.1.length:Int))))]) ((15,A 2 i64 v15 0)::(14,A 2 i64 v1.1 0)::(500000,bx 152 (Q63 v16 v17 v18))::W17 v0.1)) H fun H=>cD H (fun H=>?_) (fun H=>?_)
 ·refine vK<|fQ<|vQ<|vB<|qD (fun v19=>Z (G11 a1 [p 4 (R 4),p 5 (O 12),p 6 (O 14),p 7 (O 15),p 8 (I (v1.1.length:Int)),p 9 (I v14),p 10 (I (a1+v19.1))]) ((500000,K 152 y152 v19.2)::(15,A 2 i64 v15 0)::(14,A 2 i64 v1.1 0)::W17 v0.1)) H fun v19 H=>jN r (fun((v21,v22,v23,v24):Int×List Int×Int×Int)=>Z (G11 a1 [p 4 (R 4),p 5 (O 12),p 6 (O 14),p 7 (O 15),p 8 (I (v1.1.length:Int)),p 9 (I v14),p 10 (I v21)]) ((500000,bx 152 (Q63 v22 v23 v24))::(15,A 2 i64 v15 0)::(14,A 2 i64 v1.1 0)::W17 v0.1)) (u270J2 v14 v15 v1 g1) (fun⟨v21,v22,v23,v24⟩ H=>?_) (fun _ n2 e2 t2=>?_)
  ·refine jN r (fun((v27,v28,v29,v30):Int×List Int×Int×Int)=>Z (G11 a1 [p 4 (R 4),p 5 (O 12),p 6 (O 14),p 7 (O 15),p 8 (I (v1.1.length:Int)),p 9 (I v14),p 10 (I v27)]) ((500000,bx 152 (Q63 v28 v29 v30))::(15,A 2 i64 v15 0)::(14,A 2 i64 v1.1 0)::W17 v0.1)) (u270J3 v14 v15 g1) (fun⟨v27,v28,v29,v30⟩ H=>?_) (fun _ n3 e3 t3=>?_)
   ·refine zB (Z (G11 a1 [p 4 (R 4),p 5 (O 12),p 6 (O 14),p 7 (AV.os 15 1),p 8 (I (v1.1.length:Int)),p 9 (I v14)]) ((15,A 2 i64 (v15++[v27]) 1)::(60,A 2 i64 [v27] 0)::(500000,bx 152 (Q63 v28 v29 v30))::(14,A 2 i64 v1.1 0)::W17 v0.1)) H fun H=>fK<|fQ<|zB (Z (G11 a1 [p 4 (R 4),p 5 (O 12),p 6 (O 14),p 7 (AV.os 15 1),p 8 (I (v1.1.length:Int)),p 9 (I (v14+1))]) ((15,A 2 i64 (v15++[v27]) 1)::(60,A 2 i64 [v27] 0)::(500000,bx 152 (Q63 v28 v29 v30))::(14,A 2 i64 v1.1 0)::W17 v0.1)) H fun H=>b1 H
   refine qA (Z (G11 a1 [p 4 (R 4),p 5 (O 12),p 6 (O 14),p 7 (O 15),p 8 (I (v1.1.length:Int)),p 9 (I v14),p 10 (I v21),p 46 (B (decide ((v1.1.length:Int)<=v14)))]) ((500000,bx 152 (Q63 v22 v23 v24))::(15,A 2 i64 v15 0)::(14,A 2 i64 v1.1 0)::W17 v0.1))<|cD H (fun H=>?_) (fun H=>?_)
   ·refine zD (fun(v25,v26)=>Z (G11 a1 [p 4 (R 4),p 5 (O 12),p 6 (O 14),p 7 (O 15),p 8 (I (v1.1.length:Int)),p 9 (I v14),p 10 (I v26)]) ((500000,K 152 y152 v25.2)::(15,A 2 i64 v15 0)::(14,A 2 i64 v1.1 0)::W17 v0.1)) H fun⟨v25,v26⟩ H =>
     n3 H
   exact vK<|n3 H
  refine qB (Z (G11 a1 [p 4 (R 4),p 5 (O 12),p 6 (O 14),p 7 (O 15),p 8 (I (v1.1.length:Int)),p 9 (I v14),p 10 (I (a1+v19.1)),p 33 (B (decide (0<v14.tmod (v1.1.length:Int))))]) ((500000,K 152 y152 v19.2)::(15,A 2 i64 v15 0)::(14,A 2 i64 v1.1 0)::W17 v0.1)) H fun H=>cD H (fun H=>?_) (fun H=>?_)
  ·refine zD (fun v20=>Z (G11 a1 [p 4 (R 4),p 5 (O 12),p 6 (O 14),p 7 (O 15),p 8 (I (v1.1.length:Int)),p 9 (I v14),p 10 (I (max (a1+v19.1) (v15.getD (v14-1).toNat 0+v20.1)))]) ((500000,K 152 y152 v20.2)::(15,A 2 i64 v15 0)::(14,A 2 i64 v1.1 0)::W17 v0.1)) H fun v20 H=>n2 H
  exact vK<|n2 H
 exact vE<|fE<|e1<|fX rfl<|n0 H
def k270d:Ct:=lct 270 [.io 152 y152,.dat i64] (fun x=>u270 x.1 x.2.1) (fun r=>frz ((fun r:Y140×Y152=>AV.agg [AV.ow 2 true i64 r.1.1,AV.ow 2 true i64 r.1.2.1,AV.ow 2 true i64 r.1.2.2]) r)) (fun r=>r.2)
theorem o270d:Ok prog k270d:=ok_frz o270
def u257(a0:Y152)(a1:Int):Option (List Y140×Y152) :=
 gd ((u270 a0 a1).isSome=true/\True)<|lt (vl (u270 a0 a1)) fun v0 =>
 gd ((u270 v0.2 a1).isSome=true/\True)<|lt (vl (u270 v0.2 a1)) fun v1 =>
 some ([v0.1,v1.1],v1.2)
def k257:Ct:=lct 257 [.io 152 y152,.dat i64] (fun x=>u257 x.1 x.2.1) (fun r:List Y140×Y152=>AV.ow 140 true y140 r.1) (fun r=>r.2)
theorem o257:Ok prog k257:=by
 refine okL [.tmp 4] func257 ntmps257 results257 ?_;intro y ⟨a0,a1,_⟩ r H Q hn hr;have:HT _ _:=⟨tc o270d tn⟩;refine qA (Z (G11 a1 []) [(500000,K 152 y152 a0)])<|qD (fun v0=>Z (G11 a1 [p 5 (R 5)]) [(5,bx 140 (cellsD true y140 v0.1)),(500000,K 152 y152 v0.2)]) H fun v0 H=>qD (fun v1=>Z [p 4 (O 13)] [(13,A 140 y140 [v0.1,v1.1] 0),(500000,K 152 y152 v1.2),(5,bx 140 (cellsD true y140 v0.1))]) H fun v1 H=>vTT<|hr H
def u240(a0:Y152)(a1:Int)(a2:Int)(a3:Int)(a4:Int):Option (Y143×Y152) :=
 if(decide (4<=a1))=true then
  gd ((u88 a0 10).isSome=true/\in64 (5-(vl (u88 a0 10)).1)/\(u257 (vl (u88 a0 10)).2 (5-(vl (u88 a0 10)).1)).isSome=true/\True)<|lt (vl (u257 (vl (u88 a0 10)).2 (5-(vl (u88 a0 10)).1))) fun v0 =>
  some (((a1,a2,a3,(0:Int),v0.1,[]),v0.2))
 else
  gd ((u88 a0 20).isSome=true/\in64 (5+(vl (u88 a0 20)).1)/\(u257 (vl (u88 a0 20)).2 (5+(vl (u88 a0 20)).1)).isSome=true/\True)<|lt (vl (u257 (vl (u88 a0 20)).2 (5+(vl (u88 a0 20)).1))) fun v1 =>
  gd ((u257 v1.2 10).isSome=true/\True)<|lt (vl (u257 v1.2 10)) fun v2 =>
  some (((a1,a2,a3,a4,v1.1,v2.1),v2.2))
def k240:Ct:=lct 240 [.io 152 y152,.dat i64,.dat i64,.dat i64,.dat i64] (fun x=>u240 x.1 x.2.1 x.2.2.1 x.2.2.2.1 x.2.2.2.2.1) (fun r:Y143×Y152=>AV.agg [I r.1.1,I r.1.2.1,I r.1.2.2.1,I r.1.2.2.2.1,AV.ow 140 true y140 r.1.2.2.2.2.1,AV.ow 140 true y140 r.1.2.2.2.2.2]) (fun r=>r.2)
theorem o240:Ok prog k240:=by
 refine okL [.cell 10 143] func240 ntmps240 results240 ?_;intro y ⟨a0,a1,a2,a3,a4,_⟩ r H Q hn hr;have:HT _ _:=⟨tc o257 (tc o88 tn)⟩;refine qA (Z (G11 a1 [p 2 (J a2),p 3 (J a3),p 4 (J a4),p 10 (R 10)]) [(10,bx 143 [I 0,I 0,I 0,I 0,nil,nil]),(500000,K 152 y152 a0)])<|vQ<|qA (Z (G11 a1 [p 2 (J a2),p 3 (J a3),p 4 (J a4),p 10 (R 10),p 13 (B (decide (4<=a1)))]) [(10,bx 143 [I 0,I 0,I 0,I 0,nil,nil]),(500000,K 152 y152 a0)])<|cD H (fun H=>?_) (fun H=>?_)
 ·refine qD (fun v0=>Z [p 10 (R 10)] [(10,bx 143 [J a1,J a2,J a3,I 0,AV.os 21 0,nil]),(21,A 140 y140 v0.1 0),(500000,K 152 y152 v0.2)]) H fun v0 H=>vTT<|fR<|hr H
 refine vK<|fQ<|qD (fun v1=>Z (G11 a1 [p 2 (J a2),p 3 (J a3),p 4 (J a4),p 10 (R 10),p 11 (O 27)]) [(27,A 140 y140 v1.1 0),(500000,K 152 y152 v1.2),(10,bx 143 [I 0,I 0,I 0,I 0,nil,nil])]) H fun v1 H=>qD (fun v2=>Z [p 10 (R 10)] [(10,bx 143 [J a1,J a2,J a3,J a4,AV.os 27 0,AV.os 34 0]),(34,A 140 y140 v2.1 0),(500000,K 152 y152 v2.2),(27,A 140 y140 v1.1 0)]) H fun v2 H=>vTT<|hr H
def k240d:Ct:=lct 240 [.io 152 y152,.dat i64,.dat i64,.dat i64,.dat i64] (fun x=>u240 x.1 x.2.1 x.2.2.1 x.2.2.2.1 x.2.2.2.2.1) (fun r=>frz ((fun r:Y143×Y152=>AV.agg [I r.1.1,I r.1.2.1,I r.1.2.2.1,I r.1.2.2.2.1,AV.ow 140 true y140 r.1.2.2.2.2.1,AV.ow 140 true y140 r.1.2.2.2.2.2]) r)) (fun r=>r.2)
theorem o240d:Ok prog k240d:=ok_frz o240
def u207J0(a1:ByteArray)(a2:Int)(v4:List Y217)(v0:Int×Y152)(v1:Int×Y152):List Y143×List Int×Int×Int->Option ((ByteArray×Int×List Y217×List Y143×Int×Int)×Y152)
 | (v9,v10,v11,v12) =>
 some (((a1,a2,v4,v9,v0.1,v1.1),v10,v11,v12))
def u207(a0:Y152)(a1:ByteArray)(a2:Int)(a3:Int):Option ((ByteArray×Int×List Y217×List Y143×Int×Int)×Y152) :=
 gd ((u88 a0 50).isSome=true/\(u88 (vl (u88 a0 50)).2 80).isSome=true/\True)<|lt ((vl (u88 a0 50),vl (u88 (vl (u88 a0 50)).2 80))) fun(v0,v1) =>
 gd ((u88 v1.2 9).isSome=true/\in64 (1+(vl (u88 v1.2 9)).1)/\(u88 (vl (u88 v1.2 9)).2 9).isSome=true/\in64 (1+(vl (u88 (vl (u88 v1.2 9)).2 9)).1)/\True)<|lt ((vl (u88 v1.2 9),vl (u88 (vl (u88 v1.2 9)).2 9),[(ByteArray.mk #[(100:UInt8)],(1:Int),(1:Int)+(vl (u88 v1.2 (9:Int))).1,false),(ByteArray.mk #[(99:UInt8),(107:UInt8)],(1:Int),(1:Int)+(vl (u88 (vl (u88 v1.2 (9:Int))).2 (9:Int))).1,true),(ByteArray.mk #[(113:UInt8)],(2:Int),(0:Int),false)])) fun(_v2,v3,v4) =>
 gd ((u240 v3.2 a3 1 2 0).isSome=true/\(u240 (vl (u240 v3.2 a3 1 2 0)).2 4 1 0 0).isSome=true/\(u240 (vl (u240 (vl (u240 v3.2 a3 1 2 0)).2 4 1 0 0)).2 5 1 0 0).isSome=true/\True)<|lt ((vl (u240 v3.2 a3 1 2 0),vl (u240 (vl (u240 v3.2 a3 1 2 0)).2 4 1 0 0),vl (u240 (vl (u240 (vl (u240 v3.2 a3 1 2 0)).2 4 1 0 0)).2 5 1 0 0))) fun(v5,v6,v7) =>
 if(a2==3)=true then
  gd ((u240 v7.2 1 0 2 1).isSome=true/\([v5.1,v6.1,v7.1].length+[(vl (u240 v7.2 1 0 2 1)).1].length<=9223372036854775807/\([v5.1,v6.1,v7.1].length+[(vl (u240 v7.2 1 0 2 1)).1].length)*80<=140737488355328)/\True)<|lt (vl (u240 v7.2 1 0 2 1)) fun v8 =>
  u207J0 a1 a2 v4 v0 v1 ([v5.1,v6.1,v7.1]++[v8.1],v8.2.1,v8.2.2.1,v8.2.2.2)
 else
  u207J0 a1 a2 v4 v0 v1 ([v5.1,v6.1,v7.1],v7.2.1,v7.2.2.1,v7.2.2.2)
def k207:Ct:=lct 207 [.io 152 y152,.dat Ty.str,.dat i64,.dat i64] (fun x=>u207 x.1 x.2.1 x.2.2.1 x.2.2.2.1) (fun r:(ByteArray×Int×List Y217×List Y143×Int×Int)×Y152=>AV.agg [S r.1.1,I r.1.2.1,AV.ow 217 true y217 r.1.2.2.1,AV.ow 143 true y143 r.1.2.2.2.1,AV.v (Value.slice none 0 0),I r.1.2.2.2.2.1,I r.1.2.2.2.2.2]) (fun r=>r.2)
theorem o207:Ok prog k207:=by
 refine okL [.cell 8 163] func207 ntmps207 results207 ?_;intro y ⟨a0,a1,a2,a3,_⟩ r H Q hn hr;have:HT _ _:=⟨tc o240d (tc o88 tn)⟩;refine qA (Z [p 0 (R 500000),p 1 (U a1),p 2 (J a2),p 3 (J a3),p 8 (R 8)] [(8,bx 163 (Q62 (ByteArray.mk #[]) 0 0 0)),(500000,K 152 y152 a0)])<|qD (fun(v0,v1)=>Z [p 0 (R 500000),p 2 (J a2),p 3 (J a3),p 8 (R 8),p 9 (R 9)] [(9,bx 163 [U a1,J a2,nil,nil,nil,I v0.1,I v1.1]),(500000,K 152 y152 v1.2),(8,bx 163 (Q62 (ByteArray.mk #[]) 0 0 0))]) H fun⟨v0,v1⟩ H =>
  qD (fun(v2,v3,v4)=>Z [p 0 (R 500000),p 2 (J a2),p 3 (J a3),p 8 (R 8),p 9 (R 9)] [(9,bx 163 [U a1,J a2,AV.os 27 0,nil,nil,I v0.1,I v1.1]),(27,A 217 y217 v4 0),(500000,K 152 y152 v3.2),(8,bx 163 (Q62 (ByteArray.mk #[]) 0 0 0))]) H fun⟨v2,v3,v4⟩ H =>
  qD (fun(v5,v6,v7)=>Z [p 0 (R 500000),p 2 (J a2),p 8 (R 8),p 9 (R 9),p 10 (O 36)] ((36,A 143 y143 [v5.1,v6.1,v7.1] 0)::(500000,K 152 y152 v7.2)::W42 a1 a2 v0.1 v1.1 v4)) H fun⟨v5,v6,v7⟩ H =>
  jN r (fun((v9,v10,v11,v12):List Y143×List Int×Int×Int)=>Z [p 8 (R 8),p 9 (R 9),p 10 (O 36)] ((36,A 143 y143 v9 0)::(500000,bx 152 (Q63 v10 v11 v12))::W42 a1 a2 v0.1 v1.1 v4)) (u207J0 a1 a2 v4 v0 v1) (fun⟨v9,v10,v11,v12⟩ H=>?_) (fun _ n0 e0 t0=>?_)
 ·refine qA (Z [p 8 (R 8),p 9 (R 9)] [(9,bx 163 [U a1,J a2,AV.os 27 0,AV.os 36 0,nil,I v0.1,I v1.1]),(36,A 143 y143 v9 0),(500000,bx 152 (Q63 v10 v11 v12)),(27,A 217 y217 v4 0),(8,bx 163 (Q62 (ByteArray.mk #[]) 0 0 0))])<|qA (Z [p 8 (R 8)] [(8,bx 163 [U a1,J a2,AV.os 27 0,AV.os 36 0,nil,I v0.1,I v1.1]),(9,bx 163 [U a1,J a2,AV.os 27 0,AV.os 36 0,nil,I v0.1,I v1.1]),(36,A 143 y143 v9 0),(500000,bx 152 (Q63 v10 v11 v12)),(27,A 217 y217 v4 0)])<|vTT<|hr H
 refine qA (Z [p 0 (R 500000),p 8 (R 8),p 9 (R 9),p 10 (O 36),p 38 (B (a2==3))] ((36,A 143 y143 [v5.1,v6.1,v7.1] 0)::(500000,K 152 y152 v7.2)::W42 a1 a2 v0.1 v1.1 v4))<|cD H (fun H=>?_) (fun H=>?_)
 ·refine zD (fun v8=>Z [p 8 (R 8),p 9 (R 9),p 10 (AV.os 36 1)] ((36,A 143 y143 ([v5.1,v6.1,v7.1]++[v8.1]) 1)::(42,A 143 y143 [v8.1] 0)::(500000,K 152 y152 v8.2)::W42 a1 a2 v0.1 v1.1 v4)) H fun v8 H=>n0 H
 exact vK<|n0 H
def u239J0:Bool×Bool->Option (Int)
 | (v7,v8) =>
 if(v7&&v8)=true then
  some 3
 else
  if v7=true then
   some 1
  else
   if v8=true then
    some 2
   else
    some 0
def u239J2(v4:Int)(g1:Bool×Bool×Int->Option (Int)):Bool×Bool->Option (Int)
 | (v5,v6) =>
 gd (in64 (v4+1)/\True) <|
 g1 (v5,v6,v4+1)
def u239L1(a0:Y163)(a1:Int)(g1:Bool×Bool×Int->Option (Int)):Bool×Bool×Int->Option (Int)
 | (v2,v3,v4) =>
 if(decide (v4 < (a0.2.2.2.2.1.length:Int)))=true then
  gd (((0:Int)<=v4/\(0:Int)<=(1:Int)*(2:den i64) ^ a1.toNat)/\True) <|
  if((↑(v4.toNat &&& ((1:Int)*(2:den i64) ^ a1.toNat).toNat):Int) != (0:Int))=true then
   u239J2 v4 g1 (v2,v3)
  else
   gd ((v2=false/\True->ix v4 a0.2.2.2.2.1.length)/\(v2=false/\True->in64 (v4+(1:Int)*(2:den i64) ^ a1.toNat))/\(v2=false/\True->ix (v4+(1:Int)*(2:den i64) ^ a1.toNat) a0.2.2.2.2.1.length)/\True) <|
   gd ((v3=false/\True->ix v4 a0.2.2.2.2.1.length)/\(v3=false/\True->in64 (v4+(1:Int)*(2:den i64) ^ a1.toNat))/\(v3=false/\True->ix (v4+(1:Int)*(2:den i64) ^ a1.toNat) a0.2.2.2.2.1.length)/\True) <|
   u239J2 v4 g1 ((v2||decide (a0.2.2.2.2.1.getD v4.toNat (0:Int)<a0.2.2.2.2.1.getD (v4+(1:Int)*(2:den i64) ^ a1.toNat).toNat (0:Int)),v3||decide (a0.2.2.2.2.1.getD (v4+(1:Int)*(2:den i64) ^ a1.toNat).toNat (0:Int)<a0.2.2.2.2.1.getD v4.toNat (0:Int))))
 else
  u239J0 (v2,v3)
def u239(a0:Y163)(a1:Int):Option (Int) :=
 gd (((0:Int)<=a1/\a1<=(18446744073709551615:Int))/\(((0:Int)<=a1/\a1<=(62:Int))/\in64 ((1:Int)*(2:Int) ^ a1.toNat))/\True) <|
 lp (u239L1 a0 a1) (false,false,0)
def k239:Ct:=lct 239 [.agg y163,.dat i64] (fun x=>u239 x.1 x.2.1) (fun r:Int=>I r) (fun _=>())
theorem o239:Ok prog k239:=by
 refine okL [.tmp 4] func239 ntmps239 results239 ?_;intro y ⟨a0,a1,_⟩ r H Q hn hr;have:HT _ _:=⟨@tn prog⟩;refine qA (Z (G44 a1 []) [(2,K 163 y163 a0)])<|qA (Z (G44 a1 [p 5 (B false),p 6 (B false)]) [(2,K 163 y163 a0)])<|qB (Z [p 2 (R 2),p 5 (B false),p 6 (B false),p 7 (I ((1:Int)*(2:den i64) ^ a1.toNat))] [(2,K 163 y163 a0)]) H fun H=>jN r (fun((v7,v8):Bool×Bool)=>Z [p 5 (B v7),p 6 (B v8)] []) (u239J0) (fun⟨v7,v8⟩ H=>?_) (fun _ n0 e0 t0=>?_)
 ·refine vQ<|vB<|qA (Z [p 5 (B v7),p 6 (B v8),p 55 (B (v7&&v8))] [])<|cD H (fun H=>?_) (fun H=>?_)
  ·refine qA (Z [p 4 (I 3)] [])<|vTT<|fDD<|fR<|hr H
  refine qA (Z [p 6 (B v8),p 60 (B v7)] [])<|cD H (fun H=>?_) (fun H=>?_)
  ·refine qA (Z [p 4 (I 1)] [])<|vTT<|fDD<|fR<|hr H
  refine qA (Z [p 62 (B v8)] [])<|cD H (fun H=>?_) (fun H=>?_)
  ·refine qA (Z [p 4 (I 2)] [])<|vTT<|fDD<|fR<|hr H
  refine vK<|fK<|fQ<|qA (Z [p 4 (I 0)] [])<|vTT<|hr H
 refine qA (Z [p 2 (R 2),p 5 (B false),p 6 (B false),p 7 (I ((1:Int)*(2:den i64) ^ a1.toNat)),p 8 (I (0:Int))] [(2,K 163 y163 a0)])<|vB<|lX (fun((v2,v3,v4):Bool×Bool×Int)=>Z (G61 v2 v3 ((1:Int)*(2:den i64) ^ a1.toNat) v4 []) [(2,K 163 y163 a0)]) (false,false,0) H fun _ g1 b1 e1 t1 ⟨v2,v3,v4⟩ H=>vQ<|qA (Z (G61 v2 v3 ((1:Int)*(2:den i64) ^ a1.toNat) v4 [p 16 (B (decide (v4 < (a0.2.2.2.2.1.length:Int))))]) [(2,K 163 y163 a0)])<|cD H (fun H=>?_) (fun H=>?_)
 ·refine vK<|fQ<|jN r (fun((v5,v6):Bool×Bool)=>Z (G61 v5 v6 ((1:Int)*(2:den i64) ^ a1.toNat) v4 []) [(2,K 163 y163 a0)]) (u239J2 v4 g1) (fun⟨v5,v6⟩ H=>?_) (fun _ n2 e2 t2=>?_)
  ·refine zB (Z (G61 v5 v6 ((1:Int)*(2:den i64) ^ a1.toNat) (v4+(1:Int)) []) [(2,K 163 y163 a0)]) H fun H=>b1 H
  refine vB<|vQ<|qB (Z (G61 v2 v3 ((1:Int)*(2:den i64) ^ a1.toNat) v4 [p 22 (B ((↑(v4.toNat &&& ((1:Int)*(2:den i64) ^ a1.toNat).toNat):Int) != (0:Int)))]) [(2,K 163 y163 a0)]) H fun H=>cD H (fun H=>?_) (fun H=>?_)
  ·exact vE<|fE<|fX rfl<|n2 H
  refine vK<|fQ<|qB (Z (G61 (v2||decide (a0.2.2.2.2.1.getD v4.toNat (0:Int)<a0.2.2.2.2.1.getD (v4+(1:Int)*(2:den i64) ^ a1.toNat).toNat (0:Int))) v3 ((1:Int)*(2:den i64) ^ a1.toNat) v4 []) [(2,K 163 y163 a0)]) H fun H=>zB (Z (G61 (v2||decide (a0.2.2.2.2.1.getD v4.toNat (0:Int)<a0.2.2.2.2.1.getD (v4+(1:Int)*(2:den i64) ^ a1.toNat).toNat (0:Int))) (v3||decide (a0.2.2.2.2.1.getD (v4+(1:Int)*(2:den i64) ^ a1.toNat).toNat (0:Int)<a0.2.2.2.2.1.getD v4.toNat (0:Int))) ((1:Int)*(2:den i64) ^ a1.toNat) v4 []) [(2,K 163 y163 a0)]) H fun H=>fK<|n2 H
 exact vE<|fE<|e1<|fX rfl<|n0 H
def u206J2(a1:ByteArray)(v18:List Y217)(a2:List Int)(v1:Int×Y152)(v2:Int×Y152):List Y143×List Int×Int×Int->Option (Y163×Y152)
 | (v37,v38,v39,v40) =>
 some (((a1,(1:Int),v18,v37,a2,v1.1,v2.1),v38,v39,v40))
def u206J4(v26:Int)(g3:Int×List Y143×List Int×Int×Int->Option (Y163×Y152)):List Y143×List Int×Int×Int->Option (Y163×Y152)
 | (v33,v34,v35,v36) =>
 gd (in64 (v26+1)/\True) <|
 g3 (v26+1,v33,v34,v35,v36)
def u206L3(v14:List Y217)(a1:ByteArray)(v18:List Y217)(a2:List Int)(v1:Int×Y152)(v2:Int×Y152)(g3:Int×List Y143×List Int×Int×Int->Option (Y163×Y152)):Int×List Y143×List Int×Int×Int->Option (Y163×Y152)
 | (v26,v27,v28,v29,v30) =>
 if(decide (v26 < (v14.length:Int)))=true then
  gd ((u239 (a1,(1:Int),v18,[],a2,v1.1,v2.1) v26).isSome=true/\True)<|lt (vl (u239 (a1,(1:Int),v18,[],a2,v1.1,v2.1) v26)) fun v31 =>
  if(v31 != 0)=true then
   gd ((u240 (v28,v29,v30) 1 v26 (v14.length:Int) v31).isSome=true/\(v27.length+[(vl (u240 (v28,v29,v30) 1 v26 (v14.length:Int) v31)).1].length<=9223372036854775807/\(v27.length+[(vl (u240 (v28,v29,v30) 1 v26 (v14.length:Int) v31)).1].length)*80<=140737488355328)/\True)<|lt (vl (u240 (v28,v29,v30) 1 v26 (v14.length:Int) v31)) fun v32 =>
   u206J4 v26 g3 (v27++[v32.1],v32.2.1,v32.2.2.1,v32.2.2.2)
  else
   u206J4 v26 g3 (v27,v28,v29,v30)
 else
  u206J2 a1 v18 a2 v1 v2 (v27,v28,v29,v30)
def u206J0(a1:ByteArray)(a2:List Int)(v1:Int×Y152)(v2:Int×Y152):List Y217×List Int×Int×Int->Option (Y163×Y152)
 | (v14,v15,v16,v17) =>
 gd ((v14.length+[(ByteArray.mk #[(121:UInt8)],(2:Int),(0:Int),false)].length<=9223372036854775807/\(v14.length+[(ByteArray.mk #[(121:UInt8)],(2:Int),(0:Int),false)].length)*40<=140737488355328)/\True)<|lt ((v14++[(ByteArray.mk #[(121:UInt8)],(2:Int),(0:Int),false)],[(ByteArray.mk #[(121:UInt8)],(2:Int),(0:Int),false)])) fun(v18,_v19) =>
 lp (u206L3 v14 a1 v18 a2 v1 v2) (0,[],v15,v16,v17)
def u206L1(v0:List ByteArray)(a1:ByteArray)(a2:List Int)(v1:Int×Y152)(v2:Int×Y152)(g1:Int×List Y217×List Int×Int×Int->Option (Y163×Y152)):Int×List Y217×List Int×Int×Int->Option (Y163×Y152)
 | (v6,v7,v8,v9,v10) =>
 if(decide (v6 < (a2.length:Int)))=true then
  gd (ix (v7.length:Int) v0.length/\(v7.length:Int).toNat<v0.length/\(u88 (v8,v9,v10) (9:Int)).isSome=true/\in64 ((1:Int)+(vl (u88 (v8,v9,v10) (9:Int))).1)/\(v7.length+[(v0.getD (v7.length:Int).toNat (dflt Ty.str),(1:Int),(1:Int)+(vl (u88 (v8,v9,v10) (9:Int))).1,false)].length<=9223372036854775807/\(v7.length+[(v0.getD (v7.length:Int).toNat (dflt Ty.str),(1:Int),(1:Int)+(vl (u88 (v8,v9,v10) (9:Int))).1,false)].length)*40<=140737488355328)/\True)<|lt ((vl (u88 (v8,v9,v10) 9),v7++[(v0.getD (v7.length:Int).toNat (dflt Ty.str),(1:Int),(1:Int)+(vl (u88 (v8,v9,v10) (9:Int))).1,false)],[(v0.getD (v7.length:Int).toNat (dflt Ty.str),(1:Int),(1:Int)+(vl (u88 (v8,v9,v10) (9:Int))).1,false)])) fun(v11,v12,_v13) =>
  gd (in64 (2*v6)/\True) <|
  g1 (2*v6,v12,v11.2.1,v11.2.2.1,v11.2.2.2)
 else
  u206J0 a1 a2 v1 v2 (v7,v8,v9,v10)
def u206(a0:Y152)(a1:ByteArray)(a2:List Int):Option (Y163×Y152) :=
 lt ([ByteArray.mk #[97],ByteArray.mk #[98],ByteArray.mk #[99],ByteArray.mk #[100]]) fun v0 =>
 gd ((u88 a0 50).isSome=true/\(u88 (vl (u88 a0 50)).2 80).isSome=true/\True)<|lt ((vl (u88 a0 50),vl (u88 (vl (u88 a0 50)).2 80))) fun(v1,v2) =>
 lp (u206L1 v0 a1 a2 v1 v2) (1,[],v2.2.1,v2.2.2.1,v2.2.2.2)
def k206:Ct:=lct 206 [.io 152 y152,.dat Ty.str,.dat i64.sl] (fun x=>u206 x.1 x.2.1 x.2.2.1) (fun r:Y163×Y152=>AV.agg [S r.1.1,I r.1.2.1,AV.ow 217 true y217 r.1.2.2.1,AV.ow 143 true y143 r.1.2.2.2.1,L i64 r.1.2.2.2.2.1,I r.1.2.2.2.2.2.1,I r.1.2.2.2.2.2.2]) (fun r=>r.2)
theorem o206:Ok prog k206:=by
 refine okL [.cell 6 163] func206 ntmps206 results206 ?_;intro y ⟨a0,a1,a2,_⟩ r H Q hn hr;have:HT _ _:=⟨tc o240d (tc o239 (tc o88 tn))⟩;refine qA (Z [p 0 (R 500000),p 1 (U a1),p 2 (L i64 a2),p 6 (R 6)] [(6,bx 163 (Q62 (ByteArray.mk #[]) 0 0 0)),(500000,K 152 y152 a0)])<|qC (fun v0=>Z [p 0 (R 500000),p 1 (U a1),p 2 (L i64 a2),p 6 (R 6),p 7 (O 15)] [(15,A 9 Ty.str v0 0),(6,bx 163 (Q62 (ByteArray.mk #[]) 0 0 0)),(500000,K 152 y152 a0)]) H fun v0 H=>qD (fun(v1,v2)=>Z (G35 a2 []) ((8,bx 163 [U a1,I 1,nil,nil,L i64 a2,I v1.1,I v2.1])::(500000,K 152 y152 v2.2)::W30 v0)) H fun w H=>?_
 obtain⟨v1,v2⟩:=w;refine qA (Z (G35 a2 [p 9 (O 23)]) ((23,A 217 y217 [] 0)::(8,bx 163 [U a1,I 1,nil,nil,L i64 a2,I v1.1,I v2.1])::(500000,K 152 y152 v2.2)::W30 v0))<|jN r (fun((v14,v15,v16,v17):List Y217×List Int×Int×Int)=>Z (G24 [p 8 (R 8),p 9 (O 23)]) ((23,A 217 y217 v14 0)::(8,bx 163 [U a1,I 1,nil,nil,L i64 a2,I v1.1,I v2.1])::W15 v15 v16 v17)) (u206J0 a1 a2 v1 v2) (fun⟨v14,v15,v16,v17⟩ H=>?_) (fun _ n0 e0 t0=>?_)
 ·refine qA (Z (G24 [p 8 (R 8),p 9 (O 23),p 11 (I (v14.length:Int))]) ((23,A 217 y217 v14 0)::(8,bx 163 [U a1,I 1,nil,nil,L i64 a2,I v1.1,I v2.1])::W15 v15 v16 v17))<|qD (fun(v18,v19)=>Z (G24 [p 8 (R 8),p 11 (I (v14.length:Int))]) ((8,bx 163 [U a1,I 1,AV.os 23 1,nil,L i64 a2,I v1.1,I v2.1])::(23,A 217 y217 v18 1)::(46,A 217 y217 v19 0)::W15 v15 v16 v17)) H fun w H=>?_
  obtain⟨v18,v19⟩:=w;refine qA (Z (G24 [p 8 (R 8),p 11 (I (v14.length:Int)),p 12 (O 49)]) ((49,A 143 y143 [] 0)::(8,bx 163 [U a1,I 1,AV.os 23 1,nil,L i64 a2,I v1.1,I v2.1])::(23,A 217 y217 v18 1)::(46,A 217 y217 v19 0)::W15 v15 v16 v17))<|jN r (fun((v37,v38,v39,v40):List Y143×List Int×Int×Int)=>Z [p 6 (R 6),p 8 (R 8),p 12 (O 49)] ((49,A 143 y143 v37 0)::(8,bx 163 [U a1,I 1,AV.os 23 0,nil,L i64 a2,I v1.1,I v2.1])::(23,A 217 y217 v18 0)::W15 v38 v39 v40)) (u206J2 a1 v18 a2 v1 v2) (fun⟨v37,v38,v39,v40⟩ H=>?_) (fun _ n2 e2 t2=>?_)
  ·refine qA (Z [p 6 (R 6),p 8 (R 8)] ((8,bx 163 [U a1,I 1,AV.os 23 0,AV.os 49 0,L i64 a2,I v1.1,I v2.1])::(49,A 143 y143 v37 0)::(23,A 217 y217 v18 0)::W15 v38 v39 v40))<|qA (Z [p 6 (R 6)] [(6,bx 163 [U a1,I 1,AV.os 23 0,AV.os 49 0,L i64 a2,I v1.1,I v2.1]),(8,bx 163 [U a1,I 1,AV.os 23 0,AV.os 49 0,L i64 a2,I v1.1,I v2.1]),(49,A 143 y143 v37 0),(23,A 217 y217 v18 0),(500000,bx 152 (Q63 v38 v39 v40))])<|vTT<|hr H
  refine qA (Z (G24 [p 8 (R 8),p 11 (I (v14.length:Int)),p 12 (O 49),p 13 (I 0)]) ((49,A 143 y143 [] 0)::(8,bx 163 [U a1,I 1,AV.os 23 1,nil,L i64 a2,I v1.1,I v2.1])::(23,A 217 y217 v18 1)::(46,A 217 y217 v19 0)::W15 v15 v16 v17))<|vB<|lX (fun((v26,v27,v28,v29,v30):Int×List Y143×List Int×Int×Int)=>Z (G24 [p 8 (R 8),p 11 (I (v14.length:Int)),p 12 (O 49),p 13 (I v26)]) ((49,A 143 y143 v27 0)::(8,bx 163 [U a1,I 1,AV.os 23 0,nil,L i64 a2,I v1.1,I v2.1])::(23,A 217 y217 v18 0)::W15 v28 v29 v30)) (0,[],v15,v16,v17) H fun _ g3 b3 e3 t3 ⟨v26,v27,v28,v29,v30⟩ H=>vQ<|qA (Z (G24 [p 8 (R 8),p 11 (I (v14.length:Int)),p 12 (O 49),p 13 (I v26),p 52 (B (decide (v26 < (v14.length:Int))))]) ((49,A 143 y143 v27 0)::(8,bx 163 [U a1,I 1,AV.os 23 0,nil,L i64 a2,I v1.1,I v2.1])::(23,A 217 y217 v18 0)::W15 v28 v29 v30))<|cD H (fun H=>?_) (fun H=>?_)
  ·refine vK<|fQ<|jN r (fun((v33,v34,v35,v36):List Y143×List Int×Int×Int)=>Z (G24 [p 8 (R 8),p 11 (I (v14.length:Int)),p 12 (O 49),p 13 (I v26)]) ((49,A 143 y143 v33 0)::(500000,bx 152 (Q63 v34 v35 v36))::W78 a1 a2 v1.1 v2.1 v18)) (u206J4 v26 g3) (fun⟨v33,v34,v35,v36⟩ H=>?_) (fun _ n4 e4 t4=>?_)
   ·refine zB (Z (G24 [p 8 (R 8),p 11 (I (v14.length:Int)),p 12 (O 49),p 13 (I (v26+1))]) ((49,A 143 y143 v33 0)::(500000,bx 152 (Q63 v34 v35 v36))::W78 a1 a2 v1.1 v2.1 v18)) H fun H=>b3 H
   refine vB<|qD (fun v31=>Z (G24 [p 8 (R 8),p 11 (I (v14.length:Int)),p 12 (O 49),p 13 (I v26),p 14 (I v31)]) ((49,A 143 y143 v27 0)::(8,bx 163 [U a1,I 1,AV.os 23 0,nil,L i64 a2,I v1.1,I v2.1])::(23,A 217 y217 v18 0)::W15 v28 v29 v30)) H fun v31 H=>qA (Z (G24 [p 8 (R 8),p 11 (I (v14.length:Int)),p 12 (O 49),p 13 (I v26),p 14 (I v31),p 59 (B (v31 != 0))]) ((49,A 143 y143 v27 0)::(8,bx 163 [U a1,I 1,AV.os 23 0,nil,L i64 a2,I v1.1,I v2.1])::(23,A 217 y217 v18 0)::W15 v28 v29 v30))<|cD H (fun H=>?_) (fun H=>?_)
   ·refine zD (fun v32=>Z (G24 [p 8 (R 8),p 11 (I (v14.length:Int)),p 12 (AV.os 49 1),p 13 (I v26)]) ((49,A 143 y143 (v27++[v32.1]) 1)::(66,A 143 y143 [v32.1] 0)::(500000,K 152 y152 v32.2)::W78 a1 a2 v1.1 v2.1 v18)) H fun v32 H=>fK<|n4 H
   exact vK<|fK<|n4 H
  exact vE<|fE<|e3<|fX rfl<|n2 H
 refine qA (Z (G35 a2 [p 9 (O 23),p 10 (I 1)]) ((23,A 217 y217 [] 0)::(8,bx 163 [U a1,I 1,nil,nil,L i64 a2,I v1.1,I v2.1])::(500000,K 152 y152 v2.2)::W30 v0))<|vB<|lX (fun((v6,v7,v8,v9,v10):Int×List Y217×List Int×Int×Int)=>Z (G35 a2 [p 9 (O 23),p 10 (I v6)]) ((23,A 217 y217 v7 0)::(8,bx 163 [U a1,I 1,nil,nil,L i64 a2,I v1.1,I v2.1])::(500000,bx 152 [L b8 v8,J v9,J v10])::W30 v0)) (1,[],v2.2.1,v2.2.2.1,v2.2.2.2) H fun _ g1 b1 e1 t1 ⟨v6,v7,v8,v9,v10⟩ H=>vQ<|qA (Z (G35 a2 [p 9 (O 23),p 10 (I v6),p 27 (B (decide (v6 < (a2.length:Int))))]) ((23,A 217 y217 v7 0)::(8,bx 163 [U a1,I 1,nil,nil,L i64 a2,I v1.1,I v2.1])::(500000,bx 152 [L b8 v8,J v9,J v10])::W30 v0))<|cD H (fun H=>?_) (fun H=>?_)
 ·refine vK<|fQ<|vQ<|vB<|zD (fun(v11,v12,v13)=>Z (G35 a2 [p 9 (AV.os 23 1),p 10 (I v6)]) ((23,A 217 y217 v12 1)::(40,A 217 y217 v13 0)::(500000,K 152 y152 v11.2)::(8,bx 163 [U a1,I 1,nil,nil,L i64 a2,I v1.1,I v2.1])::W30 v0)) H fun⟨v11,v12,v13⟩ H =>
   fK<|fQ <|
   zB (Z (G35 a2 [p 9 (AV.os 23 1),p 10 (I (2*v6))]) ((23,A 217 y217 v12 1)::(40,A 217 y217 v13 0)::(500000,K 152 y152 v11.2)::(8,bx 163 [U a1,I 1,nil,nil,L i64 a2,I v1.1,I v2.1])::W30 v0)) H fun H =>
   b1 H
 exact vE<|fE<|e1<|fX rfl<|n0 H
def u170(a0:Y152):Option (List Y163×Y152) :=
 gd (True/\(u206 a0 (ByteArray.mk #[105,110,118]) [1,0]).isSome=true/\True) <|
 gd (True/\(u206 (vl (u206 a0 (ByteArray.mk #[105,110,118]) [1,0])).2 (ByteArray.mk #[98,117,102]) [0,1]).isSome=true/\True) <|
 gd (True/\(u206 (vl (u206 (vl (u206 a0 (ByteArray.mk #[105,110,118]) [1,0])).2 (ByteArray.mk #[98,117,102]) [0,1])).2 (ByteArray.mk #[110,97,110,100]) [1,1,1,0]).isSome=true/\True) <|
 gd (True/\(u206 (vl (u206 (vl (u206 (vl (u206 a0 (ByteArray.mk #[105,110,118]) [1,0])).2 (ByteArray.mk #[98,117,102]) [0,1])).2 (ByteArray.mk #[110,97,110,100]) [1,1,1,0])).2 (ByteArray.mk #[120,111,114]) [0,1,1,0]).isSome=true/\True) <|
 gd (True/\(u206 (vl (u206 (vl (u206 (vl (u206 (vl (u206 a0 (ByteArray.mk #[105,110,118]) [1,0])).2 (ByteArray.mk #[98,117,102]) [0,1])).2 (ByteArray.mk #[110,97,110,100]) [1,1,1,0])).2 (ByteArray.mk #[120,111,114]) [0,1,1,0])).2 (ByteArray.mk #[109,117,120]) [0,1,0,1,0,0,1,1]).isSome=true/\True) <|
 gd ((u207 (vl (u206 (vl (u206 (vl (u206 (vl (u206 (vl (u206 a0 (ByteArray.mk #[105,110,118]) [1,0])).2 (ByteArray.mk #[98,117,102]) [0,1])).2 (ByteArray.mk #[110,97,110,100]) [1,1,1,0])).2 (ByteArray.mk #[120,111,114]) [0,1,1,0])).2 (ByteArray.mk #[109,117,120]) [0,1,0,1,0,0,1,1])).2 (ByteArray.mk #[102,108,111,112]) 2 2).isSome=true/\True)<|lt ((vl (u207 (vl (u206 (vl (u206 (vl (u206 (vl (u206 (vl (u206 a0 (ByteArray.mk #[105,110,118]) [1,0])).2 (ByteArray.mk #[98,117,102]) [0,1])).2 (ByteArray.mk #[110,97,110,100]) [1,1,1,0])).2 (ByteArray.mk #[120,111,114]) [0,1,1,0])).2 (ByteArray.mk #[109,117,120]) [0,1,0,1,0,0,1,1])).2 (ByteArray.mk #[102,108,111,112]) 2 2),vl (u206 (vl (u206 (vl (u206 (vl (u206 (vl (u206 a0 (ByteArray.mk #[105,110,118]) [1,0])).2 (ByteArray.mk #[98,117,102]) [0,1])).2 (ByteArray.mk #[110,97,110,100]) [1,1,1,0])).2 (ByteArray.mk #[120,111,114]) [0,1,1,0])).2 (ByteArray.mk #[109,117,120]) [0,1,0,1,0,0,1,1]),vl (u206 (vl (u206 (vl (u206 (vl (u206 a0 (ByteArray.mk #[105,110,118]) [1,0])).2 (ByteArray.mk #[98,117,102]) [0,1])).2 (ByteArray.mk #[110,97,110,100]) [1,1,1,0])).2 (ByteArray.mk #[120,111,114]) [0,1,1,0]),vl (u206 (vl (u206 (vl (u206 a0 (ByteArray.mk #[105,110,118]) [1,0])).2 (ByteArray.mk #[98,117,102]) [0,1])).2 (ByteArray.mk #[110,97,110,100]) [1,1,1,0]),vl (u206 (vl (u206 a0 (ByteArray.mk #[105,110,118]) [1,0])).2 (ByteArray.mk #[98,117,102]) [0,1]),vl (u206 a0 (ByteArray.mk #[105,110,118]) [1,0]))) fun(v0,v1,v2,v3,v4,v5) =>
 gd ((u207 v0.2 (ByteArray.mk #[102,108,111,112,110]) 2 3).isSome=true/\True)<|lt (vl (u207 v0.2 (ByteArray.mk #[102,108,111,112,110]) 2 3)) fun v6 =>
 gd ((u207 v6.2 (ByteArray.mk #[108,97,116,99,104]) 3 2).isSome=true/\True)<|lt (vl (u207 v6.2 (ByteArray.mk #[108,97,116,99,104]) 3 2)) fun v7 =>
 lt ([v5.1,v4.1,v3.1,v2.1,v1.1,(v0.1.1,v0.1.2.1,v0.1.2.2.1,v0.1.2.2.2.1,[],v0.1.2.2.2.2),(v6.1.1,v6.1.2.1,v6.1.2.2.1,v6.1.2.2.2.1,[],v6.1.2.2.2.2),(v7.1.1,v7.1.2.1,v7.1.2.2.1,v7.1.2.2.2.1,[],v7.1.2.2.2.2)]) fun v8 =>
 some (v8,v7.2)
def k170:Ct:=lct 170 [.io 152 y152] (fun x=>u170 x.1) (fun r:List Y163×Y152=>AV.agg [AV.ow 163 false y163 r.1]) (fun r=>r.2)
theorem o170:Ok prog k170:=by
 refine okL [.cell 2 26] func170 ntmps170 results170 ?_;intro y ⟨a0,_⟩ r H Q hn hr;have:HT _ _:=⟨tc o207 (tc o206 tn)⟩;refine qA (Z (G22 []) [(2,bx 26 [nil]),(500000,K 152 y152 a0)])<|qA (Z (G22 [p 3 (R 3)]) [(3,bx 26 [nil]),(2,bx 26 [nil]),(500000,K 152 y152 a0)])<|vQ<|zF tok (HT.h) 2 [14] [0,2,3,4] (Z (G22 [p 3 (R 3),p 4 (R 4)]) [(4,bx 163 (Q6 (vl (u206 a0 (ByteArray.mk #[105,110,118]) [1,0])).1)),(1015,A 143 y143 (vl (u206 a0 (ByteArray.mk #[105,110,118]) [1,0])).1.2.2.2.1 0),(15,A 217 y217 (vl (u206 a0 (ByteArray.mk #[105,110,118]) [1,0])).1.2.2.1 0),(500000,bx 152 (cellsD false y152 (vl (u206 a0 (ByteArray.mk #[105,110,118]) [1,0])).2)),(3,bx 26 [nil]),(2,bx 26 [nil])]) H (by kernel_rfl) fun H=>fQ<|vQ<|zF tok (HT.h) 2 [17] [0,2,3,4,5] (Z (G22 [p 3 (R 3),p 4 (R 4),p 5 (R 5)]) ((5,bx 163 (Q2 (vl (u206 (vl (u206 a0 (ByteArray.mk #[105,110,118]) [1,0])).2 (ByteArray.mk #[98,117,102]) [0,1])).1))::(1018,A 143 y143 (vl (u206 (vl (u206 a0 (ByteArray.mk #[105,110,118]) [1,0])).2 (ByteArray.mk #[98,117,102]) [0,1])).1.2.2.2.1 0)::(18,A 217 y217 (vl (u206 (vl (u206 a0 (ByteArray.mk #[105,110,118]) [1,0])).2 (ByteArray.mk #[98,117,102]) [0,1])).1.2.2.1 0)::(500000,bx 152 (cellsD false y152 (vl (u206 (vl (u206 a0 (ByteArray.mk #[105,110,118]) [1,0])).2 (ByteArray.mk #[98,117,102]) [0,1])).2))::(4,bx 163 (Q6 (vl (u206 a0 (ByteArray.mk #[105,110,118]) [1,0])).1))::W31 (vl (u206 a0 (ByteArray.mk #[105,110,118]) [1,0])).1.2.2.2.1 (vl (u206 a0 (ByteArray.mk #[105,110,118]) [1,0])).1.2.2.1)) H (by kernel_rfl) fun H=>fQ<|vQ<|zF tok (HT.h) 2 [20] [0,2,3,4,5,6] (Z (G22 [p 3 (R 3),p 4 (R 4),p 5 (R 5),p 6 (R 6)]) ((6,bx 163 (Q1 (vl (u206 (vl (u206 (vl (u206 a0 (ByteArray.mk #[105,110,118]) [1,0])).2 (ByteArray.mk #[98,117,102]) [0,1])).2 (ByteArray.mk #[110,97,110,100]) [1,1,1,0])).1))::(1021,A 143 y143 (vl (u206 (vl (u206 (vl (u206 a0 (ByteArray.mk #[105,110,118]) [1,0])).2 (ByteArray.mk #[98,117,102]) [0,1])).2 (ByteArray.mk #[110,97,110,100]) [1,1,1,0])).1.2.2.2.1 0)::(21,A 217 y217 (vl (u206 (vl (u206 (vl (u206 a0 (ByteArray.mk #[105,110,118]) [1,0])).2 (ByteArray.mk #[98,117,102]) [0,1])).2 (ByteArray.mk #[110,97,110,100]) [1,1,1,0])).1.2.2.1 0)::(500000,bx 152 (cellsD false y152 (vl (u206 (vl (u206 (vl (u206 a0 (ByteArray.mk #[105,110,118]) [1,0])).2 (ByteArray.mk #[98,117,102]) [0,1])).2 (ByteArray.mk #[110,97,110,100]) [1,1,1,0])).2))::(5,bx 163 (Q2 (vl (u206 (vl (u206 a0 (ByteArray.mk #[105,110,118]) [1,0])).2 (ByteArray.mk #[98,117,102]) [0,1])).1))::(1018,A 143 y143 (vl (u206 (vl (u206 a0 (ByteArray.mk #[105,110,118]) [1,0])).2 (ByteArray.mk #[98,117,102]) [0,1])).1.2.2.2.1 0)::(18,A 217 y217 (vl (u206 (vl (u206 a0 (ByteArray.mk #[105,110,118]) [1,0])).2 (ByteArray.mk #[98,117,102]) [0,1])).1.2.2.1 0)::(4,bx 163 (Q6 (vl (u206 a0 (ByteArray.mk #[105,110,118]) [1,0])).1))::W31 (vl (u206 a0 (ByteArray.mk #[105,110,118]) [1,0])).1.2.2.2.1 (vl (u206 a0 (ByteArray.mk #[105,110,118]) [1,0])).1.2.2.1)) H (by kernel_rfl) fun H=>fQ<|vQ<|zF tok (HT.h) 2 [23] [0,2,3,4,5,6,7] (Z (G22 [p 3 (R 3),p 4 (R 4),p 5 (R 5),p 6 (R 6),p 7 (R 7)]) ((7,bx 163 (Q3 (vl (u206 (vl (u206 (vl (u206 (vl (u206 a0 (ByteArray.mk #[105,110,118]) [1,0])).2 (ByteArray.mk #[98,117,102]) [0,1])).2 (ByteArray.mk #[110,97,110,100]) [1,1,1,0])).2 (ByteArray.mk #[120,111,114]) [0,1,1,0])).1))::(1024,A 143 y143 (vl (u206 (vl (u206 (vl (u206 (vl (u206 a0 (ByteArray.mk #[105,110,118]) [1,0])).2 (ByteArray.mk #[98,117,102]) [0,1])).2 (ByteArray.mk #[110,97,110,100]) [1,1,1,0])).2 (ByteArray.mk #[120,111,114]) [0,1,1,0])).1.2.2.2.1 0)::(24,A 217 y217 (vl (u206 (vl (u206 (vl (u206 (vl (u206 a0 (ByteArray.mk #[105,110,118]) [1,0])).2 (ByteArray.mk #[98,117,102]) [0,1])).2 (ByteArray.mk #[110,97,110,100]) [1,1,1,0])).2 (ByteArray.mk #[120,111,114]) [0,1,1,0])).1.2.2.1 0)::(500000,bx 152 (cellsD false y152 (vl (u206 (vl (u206 (vl (u206 (vl (u206 a0 (ByteArray.mk #[105,110,118]) [1,0])).2 (ByteArray.mk #[98,117,102]) [0,1])).2 (ByteArray.mk #[110,97,110,100]) [1,1,1,0])).2 (ByteArray.mk #[120,111,114]) [0,1,1,0])).2))::(6,bx 163 (Q1 (vl (u206 (vl (u206 (vl (u206 a0 (ByteArray.mk #[105,110,118]) [1,0])).2 (ByteArray.mk #[98,117,102]) [0,1])).2 (ByteArray.mk #[110,97,110,100]) [1,1,1,0])).1))::(1021,A 143 y143 (vl (u206 (vl (u206 (vl (u206 a0 (ByteArray.mk #[105,110,118]) [1,0])).2 (ByteArray.mk #[98,117,102]) [0,1])).2 (ByteArray.mk #[110,97,110,100]) [1,1,1,0])).1.2.2.2.1 0)::(21,A 217 y217 (vl (u206 (vl (u206 (vl (u206 a0 (ByteArray.mk #[105,110,118]) [1,0])).2 (ByteArray.mk #[98,117,102]) [0,1])).2 (ByteArray.mk #[110,97,110,100]) [1,1,1,0])).1.2.2.1 0)::(5,bx 163 (Q2 (vl (u206 (vl (u206 a0 (ByteArray.mk #[105,110,118]) [1,0])).2 (ByteArray.mk #[98,117,102]) [0,1])).1))::(1018,A 143 y143 (vl (u206 (vl (u206 a0 (ByteArray.mk #[105,110,118]) [1,0])).2 (ByteArray.mk #[98,117,102]) [0,1])).1.2.2.2.1 0)::(18,A 217 y217 (vl (u206 (vl (u206 a0 (ByteArray.mk #[105,110,118]) [1,0])).2 (ByteArray.mk #[98,117,102]) [0,1])).1.2.2.1 0)::(4,bx 163 (Q6 (vl (u206 a0 (ByteArray.mk #[105,110,118]) [1,0])).1))::W31 (vl (u206 a0 (ByteArray.mk #[105,110,118]) [1,0])).1.2.2.2.1 (vl (u206 a0 (ByteArray.mk #[105,110,118]) [1,0])).1.2.2.1)) H (by kernel_rfl) fun H=>fQ<|vQ<|zF tok (HT.h) 2 [26] [0,2,3,4,5,6,7,8] (Z (G22 [p 3 (R 3),p 4 (R 4),p 5 (R 5),p 6 (R 6),p 7 (R 7),p 8 (R 8)]) ((8,bx 163 (Q8 (vl (u206 (vl (u206 (vl (u206 (vl (u206 (vl (u206 a0 (ByteArray.mk #[105,110,118]) [1,0])).2 (ByteArray.mk #[98,117,102]) [0,1])).2 (ByteArray.mk #[110,97,110,100]) [1,1,1,0])).2 (ByteArray.mk #[120,111,114]) [0,1,1,0])).2 (ByteArray.mk #[109,117,120]) [0,1,0,1,0,0,1,1])).1))::(1027,A 143 y143 (vl (u206 (vl (u206 (vl (u206 (vl (u206 (vl (u206 a0 (ByteArray.mk #[105,110,118]) [1,0])).2 (ByteArray.mk #[98,117,102]) [0,1])).2 (ByteArray.mk #[110,97,110,100]) [1,1,1,0])).2 (ByteArray.mk #[120,111,114]) [0,1,1,0])).2 (ByteArray.mk #[109,117,120]) [0,1,0,1,0,0,1,1])).1.2.2.2.1 0)::(27,A 217 y217 (vl (u206 (vl (u206 (vl (u206 (vl (u206 (vl (u206 a0 (ByteArray.mk #[105,110,118]) [1,0])).2 (ByteArray.mk #[98,117,102]) [0,1])).2 (ByteArray.mk #[110,97,110,100]) [1,1,1,0])).2 (ByteArray.mk #[120,111,114]) [0,1,1,0])).2 (ByteArray.mk #[109,117,120]) [0,1,0,1,0,0,1,1])).1.2.2.1 0)::(500000,bx 152 (cellsD false y152 (vl (u206 (vl (u206 (vl (u206 (vl (u206 (vl (u206 a0 (ByteArray.mk #[105,110,118]) [1,0])).2 (ByteArray.mk #[98,117,102]) [0,1])).2 (ByteArray.mk #[110,97,110,100]) [1,1,1,0])).2 (ByteArray.mk #[120,111,114]) [0,1,1,0])).2 (ByteArray.mk #[109,117,120]) [0,1,0,1,0,0,1,1])).2))::(7,bx 163 (Q3 (vl (u206 (vl (u206 (vl (u206 (vl (u206 a0 (ByteArray.mk #[105,110,118]) [1,0])).2 (ByteArray.mk #[98,117,102]) [0,1])).2 (ByteArray.mk #[110,97,110,100]) [1,1,1,0])).2 (ByteArray.mk #[120,111,114]) [0,1,1,0])).1))::(1024,A 143 y143 (vl (u206 (vl (u206 (vl (u206 (vl (u206 a0 (ByteArray.mk #[105,110,118]) [1,0])).2 (ByteArray.mk #[98,117,102]) [0,1])).2 (ByteArray.mk #[110,97,110,100]) [1,1,1,0])).2 (ByteArray.mk #[120,111,114]) [0,1,1,0])).1.2.2.2.1 0)::(24,A 217 y217 (vl (u206 (vl (u206 (vl (u206 (vl (u206 a0 (ByteArray.mk #[105,110,118]) [1,0])).2 (ByteArray.mk #[98,117,102]) [0,1])).2 (ByteArray.mk #[110,97,110,100]) [1,1,1,0])).2 (ByteArray.mk #[120,111,114]) [0,1,1,0])).1.2.2.1 0)::(6,bx 163 (Q1 (vl (u206 (vl (u206 (vl (u206 a0 (ByteArray.mk #[105,110,118]) [1,0])).2 (ByteArray.mk #[98,117,102]) [0,1])).2 (ByteArray.mk #[110,97,110,100]) [1,1,1,0])).1))::(1021,A 143 y143 (vl (u206 (vl (u206 (vl (u206 a0 (ByteArray.mk #[105,110,118]) [1,0])).2 (ByteArray.mk #[98,117,102]) [0,1])).2 (ByteArray.mk #[110,97,110,100]) [1,1,1,0])).1.2.2.2.1 0)::(21,A 217 y217 (vl (u206 (vl (u206 (vl (u206 a0 (ByteArray.mk #[105,110,118]) [1,0])).2 (ByteArray.mk #[98,117,102]) [0,1])).2 (ByteArray.mk #[110,97,110,100]) [1,1,1,0])).1.2.2.1 0)::(5,bx 163 (Q2 (vl (u206 (vl (u206 a0 (ByteArray.mk #[105,110,118]) [1,0])).2 (ByteArray.mk #[98,117,102]) [0,1])).1))::(1018,A 143 y143 (vl (u206 (vl (u206 a0 (ByteArray.mk #[105,110,118]) [1,0])).2 (ByteArray.mk #[98,117,102]) [0,1])).1.2.2.2.1 0)::(18,A 217 y217 (vl (u206 (vl (u206 a0 (ByteArray.mk #[105,110,118]) [1,0])).2 (ByteArray.mk #[98,117,102]) [0,1])).1.2.2.1 0)::(4,bx 163 (Q6 (vl (u206 a0 (ByteArray.mk #[105,110,118]) [1,0])).1))::W31 (vl (u206 a0 (ByteArray.mk #[105,110,118]) [1,0])).1.2.2.2.1 (vl (u206 a0 (ByteArray.mk #[105,110,118]) [1,0])).1.2.2.1)) H (by kernel_rfl) fun H=>fQ<|qD (fun(v0,v1,v2,v3,v4,v5)=>Z (G22 [p 3 (R 3),p 4 (R 4),p 5 (R 5),p 6 (R 6),p 7 (R 7),p 8 (R 8),p 9 (R 9)]) ((9,bx 163 (Q13 v0.1))::(1029,A 143 y143 v0.1.2.2.2.1 0)::(29,A 217 y217 v0.1.2.2.1 0)::(500000,K 152 y152 v0.2)::(8,bx 163 (Q8 v1.1))::(1027,A 143 y143 v1.1.2.2.2.1 0)::(27,A 217 y217 v1.1.2.2.1 0)::(7,bx 163 (Q3 v2.1))::(1024,A 143 y143 v2.1.2.2.2.1 0)::(24,A 217 y217 v2.1.2.2.1 0)::(6,bx 163 (Q1 v3.1))::(1021,A 143 y143 v3.1.2.2.2.1 0)::(21,A 217 y217 v3.1.2.2.1 0)::(5,bx 163 (Q2 v4.1))::(1018,A 143 y143 v4.1.2.2.2.1 0)::(18,A 217 y217 v4.1.2.2.1 0)::(4,bx 163 (Q6 v5.1))::W31 v5.1.2.2.2.1 v5.1.2.2.1)) H fun⟨v0,v1,v2,v3,v4,v5⟩ H =>
  qD (fun v6=>Z (G22 [p 3 (R 3),p 4 (R 4),p 5 (R 5),p 6 (R 6),p 7 (R 7),p 8 (R 8),p 9 (R 9),p 10 (R 10)]) ((10,bx 163 [S v6.1.1,I v6.1.2.1,AV.os 31 0,AV.os 1031 0,nil,I v6.1.2.2.2.2.1,I v6.1.2.2.2.2.2])::(1031,A 143 y143 v6.1.2.2.2.1 0)::(31,A 217 y217 v6.1.2.2.1 0)::(500000,K 152 y152 v6.2)::(9,bx 163 (Q13 v0.1))::(1029,A 143 y143 v0.1.2.2.2.1 0)::(29,A 217 y217 v0.1.2.2.1 0)::(8,bx 163 (Q8 v1.1))::(1027,A 143 y143 v1.1.2.2.2.1 0)::(27,A 217 y217 v1.1.2.2.1 0)::(7,bx 163 (Q3 v2.1))::(1024,A 143 y143 v2.1.2.2.2.1 0)::(24,A 217 y217 v2.1.2.2.1 0)::(6,bx 163 (Q1 v3.1))::(1021,A 143 y143 v3.1.2.2.2.1 0)::(21,A 217 y217 v3.1.2.2.1 0)::(5,bx 163 (Q2 v4.1))::(1018,A 143 y143 v4.1.2.2.2.1 0)::(18,A 217 y217 v4.1.2.2.1 0)::(4,bx 163 (Q6 v5.1))::W31 v5.1.2.2.2.1 v5.1.2.2.1)) H fun v6 H =>
  qD (fun v7=>Z (G10 [p 4 (R 4),p 5 (R 5),p 6 (R 6),p 7 (R 7),p 8 (R 8),p 9 (R 9),p 10 (R 10),p 11 (R 11)]) ((11,bx 163 [S v7.1.1,I v7.1.2.1,AV.os 33 0,AV.os 1033 0,nil,I v7.1.2.2.2.2.1,I v7.1.2.2.2.2.2])::(1033,A 143 y143 v7.1.2.2.2.1 0)::(33,A 217 y217 v7.1.2.2.1 0)::(500000,K 152 y152 v7.2)::(10,bx 163 [S v6.1.1,I v6.1.2.1,AV.os 31 0,AV.os 1031 0,nil,I v6.1.2.2.2.2.1,I v6.1.2.2.2.2.2])::(1031,A 143 y143 v6.1.2.2.2.1 0)::(31,A 217 y217 v6.1.2.2.1 0)::(9,bx 163 (Q13 v0.1))::(1029,A 143 y143 v0.1.2.2.2.1 0)::(29,A 217 y217 v0.1.2.2.1 0)::(8,bx 163 (Q8 v1.1))::(1027,A 143 y143 v1.1.2.2.2.1 0)::(27,A 217 y217 v1.1.2.2.1 0)::(7,bx 163 (Q3 v2.1))::(1024,A 143 y143 v2.1.2.2.2.1 0)::(24,A 217 y217 v2.1.2.2.1 0)::(6,bx 163 (Q1 v3.1))::(1021,A 143 y143 v3.1.2.2.2.1 0)::(21,A 217 y217 v3.1.2.2.1 0)::(5,bx 163 (Q2 v4.1))::(1018,A 143 y143 v4.1.2.2.2.1 0)::(18,A 217 y217 v4.1.2.2.1 0)::(4,bx 163 (Q6 v5.1))::W31 v5.1.2.2.2.1 v5.1.2.2.1)) H fun v7 H=>?_
 refine fZs [33,1033,31,1031,29,1029,27,1027,24,1024,21,1021,18,1018,15,1015] (Z (G10 [p 4 (R 4),p 5 (R 5),p 6 (R 6),p 7 (R 7),p 8 (R 8),p 9 (R 9),p 10 (R 10),p 11 (R 11)]) [(11,bx 163 (Q10 v7.1)),(500000,K 152 y152 v7.2),(10,bx 163 (Q10 v6.1)),(9,bx 163 (Q10 v0.1)),(8,bx 163 (Q7 v1.1)),(7,bx 163 (Q7 v2.1)),(6,bx 163 (Q7 v3.1)),(5,bx 163 (Q7 v4.1)),(4,bx 163 (Q7 v5.1)),(3,bx 26 [nil]),(2,bx 26 [nil])])<|qC (fun v8=>Z (G10 []) [(3,bx 26 [AV.os 42 0]),(42,Ob.arr 163 false y163 v8 0),(11,bx 163 (Q10 v7.1)),(500000,K 152 y152 v7.2),(10,bx 163 (Q10 v6.1)),(9,bx 163 (Q10 v0.1)),(8,bx 163 (Q7 v1.1)),(7,bx 163 (Q7 v2.1)),(6,bx 163 (Q7 v3.1)),(5,bx 163 (Q7 v4.1)),(4,bx 163 (Q7 v5.1)),(2,bx 26 [nil])]) H fun v8 H=>qA (Z [p 2 (R 2)] [(2,bx 26 [AV.os 42 0]),(3,bx 26 [AV.os 42 0]),(42,Ob.arr 163 false y163 v8 0),(11,bx 163 (Q10 v7.1)),(500000,K 152 y152 v7.2),(10,bx 163 (Q10 v6.1)),(9,bx 163 (Q10 v0.1)),(8,bx 163 (Q7 v1.1)),(7,bx 163 (Q7 v2.1)),(6,bx 163 (Q7 v3.1)),(5,bx 163 (Q7 v4.1)),(4,bx 163 (Q7 v5.1))])<|vTT<|hr H
def u209(a0:Int)(a1:Int):Option (Y110) :=
 gd ((0<=a0/\a0=a0/\a0.toNat*8<=281474976710656/\a0<=9223372036854775807)/\True) <|
 some ([-1],[0],[a1],List.replicate a0.toNat 0)
def k209:Ct:=lct 209 [.dat i64,.dat i64] (fun x=>u209 x.1 x.2.1) (fun r:Y110=>AV.agg [AV.ow 2 true i64 r.1,AV.ow 2 true i64 r.2.1,AV.ow 2 true i64 r.2.2.1,AV.ow 2 true i64 r.2.2.2]) (fun _=>())
theorem o209:Ok prog k209:=by
 refine okL [.cell 4 110] func209 ntmps209 results209 ?_;intro y ⟨a0,a1,_⟩ r H Q hn hr;have:HT _ _:=⟨@tn prog⟩;refine qA (Z [p 0 (J a0),p 1 (J a1),p 4 (R 4)] [(4,bx 110 [nil,nil,nil,nil])])<|qB (Z [p 4 (R 4)] [(4,bx 110 [AV.os 5 0,AV.os 6 0,AV.os 8 0,AV.os 10 0]),(10,A 2 i64 (List.replicate a0.toNat 0) 0),(8,A 2 i64 [a1] 0),(6,A 2 i64 [0] 0),(5,A 2 i64 [-1] 0)]) H fun H=>vTT<|hr H
def u208q(g208:Int->Option ByteArray)(a0:Int):Option (ByteArray) :=
 if(decide (a0<0))=true then
  gd (in64 (-a0)/\(g208 (-a0)).isSome=true/\(ByteArray.mk #[45]).size+(vl (g208 (-a0))).size<=9223372036854775807/\True)<|lt (vl (g208 (-a0))) fun v0 =>
  some (ByteArray.mk #[45]++v0)
 else
  if(decide (a0<10))=true then
   gd (in64 (48+a0)/\True/\0<[(48+a0) % 256].length/\True) <|
   some (strOfNums [(48+a0) % 256])
  else
   gd ((0:Int) < (10:Int)/\(g208 (a0.tdiv (10:Int))).isSome=true/\(0:Int) < (10:Int)/\in64 ((48:Int)+a0.tmod (10:Int))/\True/\0<[((48:Int)+a0.tmod (10:Int)) % (256:Int)].length/\(vl (g208 (a0.tdiv (10:Int)))).size+(strOfNums [((48:Int)+a0.tmod (10:Int)) % (256:Int)]).size<=9223372036854775807/\True)<|lt (vl (g208 (a0.tdiv 10))) fun v1 =>
   some (v1++strOfNums [(48+a0.tmod 10) % 256])
theorem o208q(g208:Int->Option ByteArray)(o208:Ok prog (lct 208 [.dat i64] (fun x=>g208 x.1) (fun r=>S r) (fun _=>()))):Ok prog (lct 208 [.dat i64] (fun x=>u208q g208 x.1) (fun r:ByteArray=>S r) (fun _=>())):=by
 refine okL [.tmp 2] func208 ntmps208 results208 ?_;intro y ⟨a0,_⟩ r H Q hn hr;have:HT _ _:=⟨tc o208 tn⟩;refine qA (Z [p 0 (J a0)] [])<|vQ<|qA (Z [p 0 (J a0),p 4 (B (decide (a0<0)))] [])<|cD H (fun H=>?_) (fun H=>?_)
 ·refine qD (fun v0=>Z [p 2 (S (ByteArray.mk #[45]++v0))] []) H fun v0 H=>vTT<|fR<|hr H
 refine vK<|fQ<|vQ<|qA (Z [p 0 (J a0),p 10 (B (decide (a0<10)))] [])<|cD H (fun H=>?_) (fun H=>?_)
 ·refine qB (Z [p 2 (S (strOfNums [(48+a0) % 256]))] [(14,A 5 b8 [(48+a0) % 256] 0)]) H fun H=>vTT<|fR<|hr H
 refine vK<|fQ<|qD (fun v1=>Z [p 2 (S (v1++strOfNums [(48+a0.tmod 10) % 256]))] [(23,A 5 b8 [(48+a0.tmod 10) % 256] 0)]) H fun v1 H=>vTT<|hr H
def u208n:Nat->Int->Option ByteArray
 | 0,_=>none
 | m+1,n=>u208q (u208n m) n
theorem o208n:∀m,Ok prog (lct 208 [.dat i64] (fun x=>u208n m x.1) (fun r=>S r) (fun _=>()))
 | 0=>⟨by kernel_rfl,fun _ hq=>by cases hq⟩
 | m+1=>o208q (u208n m) (o208n m)
def u208(n:Int):Option ByteArray:=u208n 25 n
def k208:Ct:=lct 208 [.dat i64] (fun x=>u208 x.1) (fun r=>S r) (fun _=>())
theorem o208:Ok prog k208:=o208n 25
abbrev sd(s:Y152):Prop:=0<=s.2.1/\0<=s.2.2/\s.2.2<2147483647
abbrev P171(x:denPs [.io 152 y152,.dat i64,.dat .bool]):Prop:=sd x.1/\2<=x.2.1/\x.2.1<=6
abbrev T171(r:Y31×Y152):Prop:=sd r.2/\(r.1.1.length<=6/\∀i∈r.1.1,i.2.2.length<=4)/\(1<=r.1.2.1.length/\r.1.2.1.length<=20)/\(1<=r.1.2.2.length/\r.1.2.2.length<=5)/\Xd.cnt y31 r.1<=2000
abbrev P172(x:denPs [.io 152 y152,.dat i64]):Prop:=sd x.1/\0<=x.2.1/\x.2.1<=40
abbrev T172(r:Y110×Y152):Prop:=sd r.2/\1<=r.1.1.length/\1<=r.1.2.1.length/\1<=r.1.2.2.1.length/\Xd.cnt y110 r.1<=60
abbrev P112(x:denPs [.io 152 y152,.dat i64,.dat .bool]):Prop:=sd x.1/\2<=x.2.1/\x.2.1<=6
abbrev T112(r:Y34×Y152):Prop:=sd r.2/\1<=r.1.2.2.length/\(∀w∈r.1.2.2,1<=w.1.length/\1<=w.2.1.length/\1<=w.2.2.1.length)/\1<=r.1.2.1.2.2.length/\Xd.cnt y34 r.1<=10000
abbrev T111(r:Y34×Y152):Prop:=sd r.2/\Xd.cnt y34 r.1<=20000
abbrev T54(r:Y34×Y152):Prop:=sd r.2/\Xd.cnt y34 r.1<=20000
abbrev T20(r:Y34×List Int×Int):Prop:=Xd.cnt y34 r.1<=20000/\r.2.1.length<=20000
end Go.Proofs.YtphnknndgfgepaaGreatDoor
end
