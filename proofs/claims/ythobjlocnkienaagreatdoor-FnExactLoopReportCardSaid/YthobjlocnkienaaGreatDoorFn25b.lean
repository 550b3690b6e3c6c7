/- Functions of this program as plain functions of data, and that they are so: printed by program. -/
import Derived.Test.YthobjlocnkienaaGreatDoorFn25a
section
namespace Go.Proofs.YthobjlocnkienaaGreatDoor
open Go Go.Proofs Go.Proofs.Sv Go.Proofs.Xv Go.Proofs.Xl Go.RowKit
open Tryz
def u40(a0:Y29):Option (Y43) :=
 gd ((u81 a0.1).isSome=true/\True)<|lt (vl (u81 a0.1)) fun v0 =>
 gd ((u82 a0.2.1).isSome=true/\True)<|lt (vl (u82 a0.2.1)) fun v1 =>
 gd ((u83 a0.2.2).isSome=true/\True)<|lt (vl (u83 a0.2.2)) fun v2 =>
 some (v0,v1,v2)
def k40:Ct:=lct 40 [.agg y29] (fun x=>u40 x.1) (fun r:Y43=>AV.agg [AV.ow 150 true y150 r.1,AV.ow 9 true Ty.str r.2.1,AV.ow 190 true y190 r.2.2]) (fun _=>())
theorem o40:Ok prog k40:=by
 refine okL [.cell 2 43] func40 ntmps40 results40 ?_;intro y ⟨a0,_⟩ r H Q hn hr;have:HT _ _:=⟨tc o83 (tc o82 (tc o81 tn))⟩;refine qA (Z [p 1 (R 1),p 2 (R 2)] [(2,Ob.box 43 [nil,nil,nil]),(1,K 29 y29 a0)])<|qA (Z [p 1 (R 1),p 2 (R 2),p 3 (R 3)] [(3,Ob.box 43 [nil,nil,nil]),(2,Ob.box 43 [nil,nil,nil]),(1,K 29 y29 a0)])<|qD (fun v0=>Z [p 1 (R 1),p 2 (R 2),p 3 (R 3)] [(3,Ob.box 43 [AV.os 6 0,nil,nil]),(6,A 150 y150 v0 0),(2,Ob.box 43 [nil,nil,nil]),(1,K 29 y29 a0)]) H fun v0 H=>qD (fun v1=>Z [p 1 (R 1),p 2 (R 2),p 3 (R 3)] [(3,Ob.box 43 [AV.os 6 0,AV.os 10 0,nil]),(10,A 9 Ty.str v1 0),(6,A 150 y150 v0 0),(2,Ob.box 43 [nil,nil,nil]),(1,K 29 y29 a0)]) H fun v1 H=>qD (fun v2=>Z [p 2 (R 2),p 3 (R 3)] [(3,Ob.box 43 [AV.os 6 0,AV.os 10 0,AV.os 14 0]),(14,A 190 y190 v2 0),(10,A 9 Ty.str v1 0),(6,A 150 y150 v0 0),(2,Ob.box 43 [nil,nil,nil]),(1,K 29 y29 a0)]) H fun v2 H=>qA (Z [p 2 (R 2)] [(2,Ob.box 43 [AV.os 6 0,AV.os 10 0,AV.os 14 0]),(3,Ob.box 43 [AV.os 6 0,AV.os 10 0,AV.os 14 0]),(14,A 190 y190 v2 0),(10,A 9 Ty.str v1 0),(6,A 150 y150 v0 0),(1,K 29 y29 a0)])<|vTT<|hr H
def u238(a0:Y288):Option (Y261) :=
 gd ((u13 a0.1).isSome=true/\True)<|lt (vl (u13 a0.1)) fun v0 =>
 gd ((u13 a0.2.1).isSome=true/\True)<|lt (vl (u13 a0.2.1)) fun v1 =>
 gd ((u13 a0.2.2).isSome=true/\True)<|lt (vl (u13 a0.2.2)) fun v2 =>
 some (v0,v1,v2)
def k238:Ct:=lct 238 [.agg y288] (fun x=>u238 x.1) (fun r:Y261=>AV.agg [AV.ow 2 true i64 r.1,AV.ow 2 true i64 r.2.1,AV.ow 2 true i64 r.2.2]) (fun _=>())
theorem o238:Ok prog k238:=by
 refine okL [.cell 2 261] func238 ntmps238 results238 ?_;intro y ⟨a0,_⟩ r H Q hn hr;have:HT _ _:=⟨tc o13 tn⟩;refine qA (Z [p 1 (R 1),p 2 (R 2)] [(2,Ob.box 261 [nil,nil,nil]),(1,K 288 y288 a0)])<|qA (Z [p 1 (R 1),p 2 (R 2),p 3 (R 3)] [(3,Ob.box 261 [nil,nil,nil]),(2,Ob.box 261 [nil,nil,nil]),(1,K 288 y288 a0)])<|qD (fun v0=>Z [p 1 (R 1),p 2 (R 2),p 3 (R 3)] [(3,Ob.box 261 [AV.os 6 0,nil,nil]),(6,A 2 i64 v0 0),(2,Ob.box 261 [nil,nil,nil]),(1,K 288 y288 a0)]) H fun v0 H=>qD (fun v1=>Z [p 1 (R 1),p 2 (R 2),p 3 (R 3)] [(3,Ob.box 261 [AV.os 6 0,AV.os 10 0,nil]),(10,A 2 i64 v1 0),(6,A 2 i64 v0 0),(2,Ob.box 261 [nil,nil,nil]),(1,K 288 y288 a0)]) H fun v1 H=>qD (fun v2=>Z [p 2 (R 2),p 3 (R 3)] [(3,Ob.box 261 [AV.os 6 0,AV.os 10 0,AV.os 14 0]),(14,A 2 i64 v2 0),(10,A 2 i64 v1 0),(6,A 2 i64 v0 0),(2,Ob.box 261 [nil,nil,nil]),(1,K 288 y288 a0)]) H fun v2 H=>qA (Z [p 2 (R 2)] [(2,Ob.box 261 [AV.os 6 0,AV.os 10 0,AV.os 14 0]),(3,Ob.box 261 [AV.os 6 0,AV.os 10 0,AV.os 14 0]),(14,A 2 i64 v2 0),(10,A 2 i64 v1 0),(6,A 2 i64 v0 0),(1,K 288 y288 a0)])<|vTT<|hr H
def k238d:Ct:=lct 238 [.agg y288] (fun x=>u238 x.1) (fun r=>frz ((fun r:Y261=>AV.agg [AV.ow 2 true i64 r.1,AV.ow 2 true i64 r.2.1,AV.ow 2 true i64 r.2.2]) r)) (fun _=>())
theorem o238d:Ok prog k238d:=ok_frz o238
def u224J0:List Y261->Option (List Y261)
 | v5 =>
 some v5
def u224L1(a0:List Y288)(g1:Int×List Y261->Option (List Y261)):Int×List Y261->Option (List Y261)
 | (v2,v3) =>
 if(decide (v2 < (a0.length:Int)))=true then
  gd (ix v2 a0.length/\(u238 (a0.getD v2.toNat (dflt y288))).isSome=true/\ix v2 v3.length/\v2.toNat<v3.length/\True)<|lt (vl (u238 (a0.getD v2.toNat (dflt y288)))) fun v4 =>
  gd (in64 (v2+1)/\True) <|
  g1 (v2+1,v3.set v2.toNat v4)
 else
  u224J0 v3
def u224(a0:List Y288):Option (List Y261) :=
 gd ((0<=(a0.length:Int)/\(a0.length:Int)=(a0.length:Int)/\(a0.length:Int).toNat*72<=281474976710656/\(a0.length:Int)<=9223372036854775807)/\True) <|
 lp (u224L1 a0) ((0,List.replicate (a0.length:Int).toNat ([],[],[])))
def k224:Ct:=lct 224 [.dat y288.sl] (fun x=>u224 x.1) (fun r:List Y261=>AV.ow 261 true y261 r) (fun _=>())
theorem o224:Ok prog k224:=by
 refine okL [.tmp 2] func224 ntmps224 results224 ?_;intro y ⟨a0,_⟩ r H Q hn hr;have:HT _ _:=⟨tc o238d tn⟩;refine qA (Z [p 0 (L y288 a0)] [])<|qB (Z [p 0 (L y288 a0),p 3 (O 7)] [(7,A 261 y261 (List.replicate (a0.length:Int).toNat ([],[],[])) 0)]) H fun H=>jN r (fun(v5:List Y261)=>Z [p 3 (O 7)] [(7,A 261 y261 v5 0)]) (u224J0) (fun v5 H=>?_) (fun _ n0 e0 t0=>?_)
 ·refine qA (Z [p 2 (O 7)] [(7,A 261 y261 v5 0)])<|vTT<|hr H
 refine qA (Z [p 0 (L y288 a0),p 3 (O 7),p 4 (I 0)] [(7,A 261 y261 (List.replicate (a0.length:Int).toNat ([],[],[])) 0)])<|vB<|lX (fun((v2,v3):Int×List Y261)=>Z [p 0 (L y288 a0),p 3 (O 7),p 4 (I v2)] [(7,A 261 y261 v3 0)]) ((0,List.replicate (a0.length:Int).toNat ([],[],[]))) H fun _ g1 b1 e1 t1 ⟨v2,v3⟩ H=>vQ<|qA (Z [p 0 (L y288 a0),p 3 (O 7),p 4 (I v2),p 11 (B (decide (v2 < (a0.length:Int))))] [(7,A 261 y261 v3 0)])<|cD H (fun H=>?_) (fun H=>?_)
 ·refine vK<|fQ<|vQ<|vB<|zD (fun v4=>Z [p 0 (L y288 a0),p 3 (O 7),p 4 (I v2)] [(7,A 261 y261 (v3.set v2.toNat v4) 0)]) H fun v4 H=>fK<|fQ<|zB (Z [p 0 (L y288 a0),p 3 (O 7),p 4 (I (v2+1))] [(7,A 261 y261 (v3.set v2.toNat v4) 0)]) H fun H=>b1 H
 exact vE<|fE<|e1<|fX rfl<|n0 H
def u205(a0:Y255):Option (Y153) :=
 gd ((u224 a0.2.2.2.2.1).isSome=true/\True)<|lt (vl (u224 a0.2.2.2.2.1)) fun v0 =>
 gd ((u224 a0.2.2.2.2.2).isSome=true/\True)<|lt (vl (u224 a0.2.2.2.2.2)) fun v1 =>
 some (a0.1,a0.2.1,a0.2.2.1,a0.2.2.2.1,v0,v1)
def k205:Ct:=lct 205 [.agg y255] (fun x=>u205 x.1) (fun r:Y153=>AV.agg [I r.1,I r.2.1,I r.2.2.1,I r.2.2.2.1,AV.ow 261 true y261 r.2.2.2.2.1,AV.ow 261 true y261 r.2.2.2.2.2]) (fun _=>())
theorem o205:Ok prog k205:=by
 refine okL [.cell 2 153] func205 ntmps205 results205 ?_;intro y ⟨a0,_⟩ r H Q hn hr;have:HT _ _:=⟨tc o224 tn⟩;refine qA (Z [p 1 (R 1),p 2 (R 2)] [(2,Ob.box 153 [I 0,I 0,I 0,I 0,nil,nil]),(1,K 255 y255 a0)])<|qA (Z [p 1 (R 1),p 2 (R 2),p 3 (R 3)] [(3,Ob.box 153 [I 0,I 0,I 0,I 0,nil,nil]),(2,Ob.box 153 [I 0,I 0,I 0,I 0,nil,nil]),(1,K 255 y255 a0)])<|qA (Z [p 1 (R 1),p 2 (R 2),p 3 (R 3)] [(3,Ob.box 153 [J a0.1,I 0,I 0,I 0,nil,nil]),(2,Ob.box 153 [I 0,I 0,I 0,I 0,nil,nil]),(1,K 255 y255 a0)])<|qA (Z [p 1 (R 1),p 2 (R 2),p 3 (R 3)] [(3,Ob.box 153 [J a0.1,J a0.2.1,I 0,I 0,nil,nil]),(2,Ob.box 153 [I 0,I 0,I 0,I 0,nil,nil]),(1,K 255 y255 a0)])<|qA (Z [p 1 (R 1),p 2 (R 2),p 3 (R 3)] [(3,Ob.box 153 [J a0.1,J a0.2.1,J a0.2.2.1,I 0,nil,nil]),(2,Ob.box 153 [I 0,I 0,I 0,I 0,nil,nil]),(1,K 255 y255 a0)])<|qA (Z [p 1 (R 1),p 2 (R 2),p 3 (R 3)] [(3,Ob.box 153 [J a0.1,J a0.2.1,J a0.2.2.1,J a0.2.2.2.1,nil,nil]),(2,Ob.box 153 [I 0,I 0,I 0,I 0,nil,nil]),(1,K 255 y255 a0)])<|qD (fun v0=>Z [p 1 (R 1),p 2 (R 2),p 3 (R 3)] [(3,Ob.box 153 [J a0.1,J a0.2.1,J a0.2.2.1,J a0.2.2.2.1,AV.os 18 0,nil]),(18,A 261 y261 v0 0),(2,Ob.box 153 [I 0,I 0,I 0,I 0,nil,nil]),(1,K 255 y255 a0)]) H fun v0 H=>qD (fun v1=>Z [p 2 (R 2),p 3 (R 3)] [(3,Ob.box 153 [J a0.1,J a0.2.1,J a0.2.2.1,J a0.2.2.2.1,AV.os 18 0,AV.os 22 0]),(22,A 261 y261 v1 0),(18,A 261 y261 v0 0),(2,Ob.box 153 [I 0,I 0,I 0,I 0,nil,nil]),(1,K 255 y255 a0)]) H fun v1 H=>qA (Z [p 2 (R 2)] [(2,Ob.box 153 [J a0.1,J a0.2.1,J a0.2.2.1,J a0.2.2.2.1,AV.os 18 0,AV.os 22 0]),(3,Ob.box 153 [J a0.1,J a0.2.1,J a0.2.2.1,J a0.2.2.2.1,AV.os 18 0,AV.os 22 0]),(22,A 261 y261 v1 0),(18,A 261 y261 v0 0),(1,K 255 y255 a0)])<|vTT<|hr H
def k205d:Ct:=lct 205 [.agg y255] (fun x=>u205 x.1) (fun r=>frz ((fun r:Y153=>AV.agg [I r.1,I r.2.1,I r.2.2.1,I r.2.2.2.1,AV.ow 261 true y261 r.2.2.2.2.1,AV.ow 261 true y261 r.2.2.2.2.2]) r)) (fun _=>())
theorem o205d:Ok prog k205d:=ok_frz o205
def u176J0:List Y153->Option (List Y153)
 | v5 =>
 some v5
def u176L1(a0:List Y255)(g1:Int×List Y153->Option (List Y153)):Int×List Y153->Option (List Y153)
 | (v2,v3) =>
 if(decide (v2 < (a0.length:Int)))=true then
  gd (ix v2 a0.length/\(u205 (a0.getD v2.toNat (dflt y255))).isSome=true/\ix v2 v3.length/\v2.toNat<v3.length/\True)<|lt (vl (u205 (a0.getD v2.toNat (dflt y255)))) fun v4 =>
  gd (in64 (v2+1)/\True) <|
  g1 (v2+1,v3.set v2.toNat v4)
 else
  u176J0 v3
def u176(a0:List Y255):Option (List Y153) :=
 gd ((0<=(a0.length:Int)/\(a0.length:Int)=(a0.length:Int)/\(a0.length:Int).toNat*80<=281474976710656/\(a0.length:Int)<=9223372036854775807)/\True)<|lt (List.replicate (a0.length:Int).toNat ((0:Int),(0:Int),(0:Int),(0:Int),[],[])) fun v0 =>
 lp (u176L1 a0) (0,v0)
def k176:Ct:=lct 176 [.dat y255.sl] (fun x=>u176 x.1) (fun r:List Y153=>AV.ow 153 true y153 r) (fun _=>())
theorem o176:Ok prog k176:=by
 refine okL [.tmp 2] func176 ntmps176 results176 ?_;intro y ⟨a0,_⟩ r H Q hn hr;have:HT _ _:=⟨tc o205d tn⟩;refine qA (Z [p 0 (L y255 a0)] [])<|qD (fun v0=>Z [p 0 (L y255 a0),p 3 (O 7)] [(7,A 153 y153 v0 0)]) H fun v0 H=>jN r (fun(v5:List Y153)=>Z [p 3 (O 7)] [(7,A 153 y153 v5 0)]) (u176J0) (fun v5 H=>?_) (fun _ n0 e0 t0=>?_)
 ·refine qA (Z [p 2 (O 7)] [(7,A 153 y153 v5 0)])<|vTT<|hr H
 refine qA (Z [p 0 (L y255 a0),p 3 (O 7),p 4 (I 0)] [(7,A 153 y153 v0 0)])<|vB<|lX (fun((v2,v3):Int×List Y153)=>Z [p 0 (L y255 a0),p 3 (O 7),p 4 (I v2)] [(7,A 153 y153 v3 0)]) (0,v0) H fun _ g1 b1 e1 t1 ⟨v2,v3⟩ H=>vQ<|qA (Z [p 0 (L y255 a0),p 3 (O 7),p 4 (I v2),p 11 (B (decide (v2 < (a0.length:Int))))] [(7,A 153 y153 v3 0)])<|cD H (fun H=>?_) (fun H=>?_)
 ·refine vK<|fQ<|vQ<|vB<|zD (fun v4=>Z [p 0 (L y255 a0),p 3 (O 7),p 4 (I v2)] [(7,A 153 y153 (v3.set v2.toNat v4) 0)]) H fun v4 H=>fK<|fQ<|zB (Z [p 0 (L y255 a0),p 3 (O 7),p 4 (I (v2+1))] [(7,A 153 y153 (v3.set v2.toNat v4) 0)]) H fun H=>b1 H
 exact vE<|fE<|e1<|fX rfl<|n0 H
def u204(a0:Y251):Option (Y222) :=
 some a0
def k204:Ct:=lct 204 [.agg y251] (fun x=>u204 x.1) (fun r:Y222=>AV.agg [S r.1,I r.2.1,I r.2.2.1,B r.2.2.2]) (fun _=>())
theorem o204:Ok prog k204:=by
 refine okL [.cell 2 222] func204 ntmps204 results204 ?_;intro y ⟨a0,_⟩ r H Q hn hr;have:HT _ _:=⟨@tn prog⟩;refine qA (Z [p 1 (R 1),p 2 (R 2)] [(2,Ob.box 222 [S (ByteArray.mk #[]),I 0,I 0,B false]),(1,K 251 y251 a0)])<|qA (Z [p 1 (R 1),p 2 (R 2),p 3 (R 3)] [(3,Ob.box 222 [S (ByteArray.mk #[]),I 0,I 0,B false]),(2,Ob.box 222 [S (ByteArray.mk #[]),I 0,I 0,B false]),(1,K 251 y251 a0)])<|qA (Z [p 1 (R 1),p 2 (R 2),p 3 (R 3)] [(3,Ob.box 222 [U a0.1,I 0,I 0,B false]),(2,Ob.box 222 [S (ByteArray.mk #[]),I 0,I 0,B false]),(1,K 251 y251 a0)])<|qA (Z [p 1 (R 1),p 2 (R 2),p 3 (R 3)] [(3,Ob.box 222 [U a0.1,J a0.2.1,I 0,B false]),(2,Ob.box 222 [S (ByteArray.mk #[]),I 0,I 0,B false]),(1,K 251 y251 a0)])<|qA (Z [p 1 (R 1),p 2 (R 2),p 3 (R 3)] [(3,Ob.box 222 [U a0.1,J a0.2.1,J a0.2.2.1,B false]),(2,Ob.box 222 [S (ByteArray.mk #[]),I 0,I 0,B false]),(1,K 251 y251 a0)])<|qA (Z [p 2 (R 2),p 3 (R 3)] [(3,K 222 y222 a0),(2,Ob.box 222 [S (ByteArray.mk #[]),I 0,I 0,B false]),(1,K 251 y251 a0)])<|qA (Z [p 2 (R 2)] [(2,K 222 y222 a0),(3,K 222 y222 a0),(1,K 251 y251 a0)])<|vTT<|hr H
def u175J0:List Y222->Option (List Y222)
 | v5 =>
 some v5
def u175L1(a0:List Y251)(g1:Int×List Y222->Option (List Y222)):Int×List Y222->Option (List Y222)
 | (v2,v3) =>
 if(decide (v2 < (a0.length:Int)))=true then
  gd (ix v2 a0.length/\(u204 (a0.getD v2.toNat (dflt y251))).isSome=true/\ix v2 v3.length/\v2.toNat<v3.length/\True)<|lt (vl (u204 (a0.getD v2.toNat (dflt y251)))) fun v4 =>
  gd (in64 (v2+1)/\True) <|
  g1 (v2+1,v3.set v2.toNat v4)
 else
  u175J0 v3
def u175(a0:List Y251):Option (List Y222) :=
 gd ((0<=(a0.length:Int)/\(a0.length:Int)=(a0.length:Int)/\(a0.length:Int).toNat*40<=281474976710656/\(a0.length:Int)<=9223372036854775807)/\True)<|lt (List.replicate (a0.length:Int).toNat (ByteArray.mk #[],(0:Int),(0:Int),false)) fun v0 =>
 lp (u175L1 a0) (0,v0)
def k175:Ct:=lct 175 [.dat y251.sl] (fun x=>u175 x.1) (fun r:List Y222=>AV.ow 222 true y222 r) (fun _=>())
theorem o175:Ok prog k175:=by
 refine okL [.tmp 2] func175 ntmps175 results175 ?_;intro y ⟨a0,_⟩ r H Q hn hr;have:HT _ _:=⟨tc o204 tn⟩;refine qA (Z [p 0 (L y251 a0)] [])<|qD (fun v0=>Z [p 0 (L y251 a0),p 3 (O 7)] [(7,A 222 y222 v0 0)]) H fun v0 H=>jN r (fun(v5:List Y222)=>Z [p 3 (O 7)] [(7,A 222 y222 v5 0)]) (u175J0) (fun v5 H=>?_) (fun _ n0 e0 t0=>?_)
 ·refine qA (Z [p 2 (O 7)] [(7,A 222 y222 v5 0)])<|vTT<|hr H
 refine qA (Z [p 0 (L y251 a0),p 3 (O 7),p 4 (I 0)] [(7,A 222 y222 v0 0)])<|vB<|lX (fun((v2,v3):Int×List Y222)=>Z [p 0 (L y251 a0),p 3 (O 7),p 4 (I v2)] [(7,A 222 y222 v3 0)]) (0,v0) H fun _ g1 b1 e1 t1 ⟨v2,v3⟩ H=>vQ<|qA (Z [p 0 (L y251 a0),p 3 (O 7),p 4 (I v2),p 11 (B (decide (v2 < (a0.length:Int))))] [(7,A 222 y222 v3 0)])<|cD H (fun H=>?_) (fun H=>?_)
 ·refine vK<|fQ<|vQ<|vB<|zD (fun v4=>Z [p 0 (L y251 a0),p 3 (O 7),p 4 (I v2)] [(7,A 222 y222 (v3.set v2.toNat v4) 0)]) H fun v4 H=>fK<|fQ<|zB (Z [p 0 (L y251 a0),p 3 (O 7),p 4 (I (v2+1))] [(7,A 222 y222 (v3.set v2.toNat v4) 0)]) H fun H=>b1 H
 exact vE<|fE<|e1<|fX rfl<|n0 H
def u135(a0:Y182):Option (Y148) :=
 gd ((u175 a0.2.2.1).isSome=true/\True)<|lt (vl (u175 a0.2.2.1)) fun v0 =>
 gd ((u176 a0.2.2.2.1).isSome=true/\True)<|lt (vl (u176 a0.2.2.2.1)) fun v1 =>
 gd ((u13 a0.2.2.2.2.1).isSome=true/\True)<|lt (vl (u13 a0.2.2.2.2.1)) fun v2 =>
 some (a0.1,a0.2.1,v0,v1,v2,a0.2.2.2.2.2)
def k135:Ct:=lct 135 [.agg y182] (fun x=>u135 x.1) (fun r:Y148=>AV.agg [S r.1,I r.2.1,AV.ow 222 true y222 r.2.2.1,AV.ow 153 true y153 r.2.2.2.1,AV.ow 2 true i64 r.2.2.2.2.1,I r.2.2.2.2.2.1,I r.2.2.2.2.2.2]) (fun _=>())
theorem o135:Ok prog k135:=by
 refine okL [.cell 2 148] func135 ntmps135 results135 ?_;intro y ⟨a0,_⟩ r H Q hn hr;have:HT _ _:=⟨tc o13 (tc o176 (tc o175 tn))⟩;refine qA (Z [p 1 (R 1),p 2 (R 2)] [(2,Ob.box 148 [S (ByteArray.mk #[]),I 0,nil,nil,nil,I 0,I 0]),(1,K 182 y182 a0)])<|qA (Z [p 1 (R 1),p 2 (R 2),p 3 (R 3)] [(3,Ob.box 148 [S (ByteArray.mk #[]),I 0,nil,nil,nil,I 0,I 0]),(2,Ob.box 148 [S (ByteArray.mk #[]),I 0,nil,nil,nil,I 0,I 0]),(1,K 182 y182 a0)])<|qA (Z [p 1 (R 1),p 2 (R 2),p 3 (R 3)] [(3,Ob.box 148 [U a0.1,I 0,nil,nil,nil,I 0,I 0]),(2,Ob.box 148 [S (ByteArray.mk #[]),I 0,nil,nil,nil,I 0,I 0]),(1,K 182 y182 a0)])<|qA (Z [p 1 (R 1),p 2 (R 2),p 3 (R 3)] [(3,Ob.box 148 [U a0.1,J a0.2.1,nil,nil,nil,I 0,I 0]),(2,Ob.box 148 [S (ByteArray.mk #[]),I 0,nil,nil,nil,I 0,I 0]),(1,K 182 y182 a0)])<|qD (fun v0=>Z [p 1 (R 1),p 2 (R 2),p 3 (R 3)] [(3,Ob.box 148 [U a0.1,J a0.2.1,AV.os 12 0,nil,nil,I 0,I 0]),(12,A 222 y222 v0 0),(2,Ob.box 148 [S (ByteArray.mk #[]),I 0,nil,nil,nil,I 0,I 0]),(1,K 182 y182 a0)]) H fun v0 H=>qD (fun v1=>Z [p 1 (R 1),p 2 (R 2),p 3 (R 3)] [(3,Ob.box 148 [U a0.1,J a0.2.1,AV.os 12 0,AV.os 16 0,nil,I 0,I 0]),(16,A 153 y153 v1 0),(12,A 222 y222 v0 0),(2,Ob.box 148 [S (ByteArray.mk #[]),I 0,nil,nil,nil,I 0,I 0]),(1,K 182 y182 a0)]) H fun v1 H=>qD (fun v2=>Z [p 1 (R 1),p 2 (R 2),p 3 (R 3)] [(3,Ob.box 148 [U a0.1,J a0.2.1,AV.os 12 0,AV.os 16 0,AV.os 20 0,I 0,I 0]),(20,A 2 i64 v2 0),(16,A 153 y153 v1 0),(12,A 222 y222 v0 0),(2,Ob.box 148 [S (ByteArray.mk #[]),I 0,nil,nil,nil,I 0,I 0]),(1,K 182 y182 a0)]) H fun v2 H=>qA (Z [p 1 (R 1),p 2 (R 2),p 3 (R 3)] [(3,Ob.box 148 [U a0.1,J a0.2.1,AV.os 12 0,AV.os 16 0,AV.os 20 0,J a0.2.2.2.2.2.1,I 0]),(20,A 2 i64 v2 0),(16,A 153 y153 v1 0),(12,A 222 y222 v0 0),(2,Ob.box 148 [S (ByteArray.mk #[]),I 0,nil,nil,nil,I 0,I 0]),(1,K 182 y182 a0)])<|qA (Z [p 2 (R 2),p 3 (R 3)] [(3,Ob.box 148 [U a0.1,J a0.2.1,AV.os 12 0,AV.os 16 0,AV.os 20 0,J a0.2.2.2.2.2.1,J a0.2.2.2.2.2.2]),(20,A 2 i64 v2 0),(16,A 153 y153 v1 0),(12,A 222 y222 v0 0),(2,Ob.box 148 [S (ByteArray.mk #[]),I 0,nil,nil,nil,I 0,I 0]),(1,K 182 y182 a0)])<|qA (Z [p 2 (R 2)] [(2,Ob.box 148 [U a0.1,J a0.2.1,AV.os 12 0,AV.os 16 0,AV.os 20 0,J a0.2.2.2.2.2.1,J a0.2.2.2.2.2.2]),(3,Ob.box 148 [U a0.1,J a0.2.1,AV.os 12 0,AV.os 16 0,AV.os 20 0,J a0.2.2.2.2.2.1,J a0.2.2.2.2.2.2]),(20,A 2 i64 v2 0),(16,A 153 y153 v1 0),(12,A 222 y222 v0 0),(1,K 182 y182 a0)]) ?_
 exact vTT<|hr H
def k135d:Ct:=lct 135 [.agg y182] (fun x=>u135 x.1) (fun r=>frz ((fun r:Y148=>AV.agg [S r.1,I r.2.1,AV.ow 222 true y222 r.2.2.1,AV.ow 153 true y153 r.2.2.2.1,AV.ow 2 true i64 r.2.2.2.2.1,I r.2.2.2.2.2.1,I r.2.2.2.2.2.2]) r)) (fun _=>())
theorem o135d:Ok prog k135d:=ok_frz o135
def u80J0:List Y148->Option (List Y148)
 | v5 =>
 some v5
def u80L1(a0:List Y182)(g1:Int×List Y148->Option (List Y148)):Int×List Y148->Option (List Y148)
 | (v2,v3) =>
 if(decide (v2 < (a0.length:Int)))=true then
  gd (ix v2 a0.length/\(u135 (a0.getD v2.toNat (dflt y182))).isSome=true/\ix v2 v3.length/\v2.toNat<v3.length/\True)<|lt (vl (u135 (a0.getD v2.toNat (dflt y182)))) fun v4 =>
  gd (in64 (v2+1)/\True) <|
  g1 (v2+1,v3.set v2.toNat v4)
 else
  u80J0 v3
def u80(a0:List Y182):Option (List Y148) :=
 gd ((0<=(a0.length:Int)/\(a0.length:Int)=(a0.length:Int)/\(a0.length:Int).toNat*112<=281474976710656/\(a0.length:Int)<=9223372036854775807)/\True)<|lt (List.replicate (a0.length:Int).toNat (ByteArray.mk #[],(0:Int),[],[],[],(0:Int),(0:Int))) fun v0 =>
 lp (u80L1 a0) (0,v0)
def k80:Ct:=lct 80 [.dat y182.sl] (fun x=>u80 x.1) (fun r:List Y148=>AV.ow 148 true y148 r) (fun _=>())
theorem o80:Ok prog k80:=by
 refine okL [.tmp 2] func80 ntmps80 results80 ?_;intro y ⟨a0,_⟩ r H Q hn hr;have:HT _ _:=⟨tc o135d tn⟩;refine qA (Z [p 0 (L y182 a0)] [])<|qD (fun v0=>Z [p 0 (L y182 a0),p 3 (O 7)] [(7,A 148 y148 v0 0)]) H fun v0 H=>jN r (fun(v5:List Y148)=>Z [p 3 (O 7)] [(7,A 148 y148 v5 0)]) (u80J0) (fun v5 H=>?_) (fun _ n0 e0 t0=>?_)
 ·refine qA (Z [p 2 (O 7)] [(7,A 148 y148 v5 0)])<|vTT<|hr H
 refine qA (Z [p 0 (L y182 a0),p 3 (O 7),p 4 (I 0)] [(7,A 148 y148 v0 0)])<|vB<|lX (fun((v2,v3):Int×List Y148)=>Z [p 0 (L y182 a0),p 3 (O 7),p 4 (I v2)] [(7,A 148 y148 v3 0)]) (0,v0) H fun _ g1 b1 e1 t1 ⟨v2,v3⟩ H=>vQ<|qA (Z [p 0 (L y182 a0),p 3 (O 7),p 4 (I v2),p 11 (B (decide (v2 < (a0.length:Int))))] [(7,A 148 y148 v3 0)])<|cD H (fun H=>?_) (fun H=>?_)
 ·refine vK<|fQ<|vQ<|vB<|zD (fun v4=>Z [p 0 (L y182 a0),p 3 (O 7),p 4 (I v2)] [(7,A 148 y148 (v3.set v2.toNat v4) 0)]) H fun v4 H=>fK<|fQ<|zB (Z [p 0 (L y182 a0),p 3 (O 7),p 4 (I (v2+1))] [(7,A 148 y148 (v3.set v2.toNat v4) 0)]) H fun H=>b1 H
 exact vE<|fE<|e1<|fX rfl<|n0 H
def u39(a0:List Y182):Option (List Y148) :=
 gd ((u80 a0).isSome=true/\True)<|lt (vl (u80 a0)) fun v0 =>
 some v0
def k39:Ct:=lct 39 [.agg y182.sl] (fun x=>u39 x.1) (fun r:List Y148=>AV.agg [AV.ow 148 true y148 r]) (fun _=>())
theorem o39:Ok prog k39:=by
 refine okL [.cell 2 39] func39 ntmps39 results39 ?_;intro y ⟨a0,_⟩ r H Q hn hr;have:HT _ _:=⟨tc o80 tn⟩;refine qA (Z [p 1 (R 1),p 2 (R 2)] [(2,Ob.box 39 [nil]),(1,Ob.box 24 [L y182 a0])])<|qA (Z [p 1 (R 1),p 2 (R 2),p 3 (R 3)] [(3,Ob.box 39 [nil]),(2,Ob.box 39 [nil]),(1,Ob.box 24 [L y182 a0])])<|qD (fun v0=>Z [p 2 (R 2),p 3 (R 3)] [(3,Ob.box 39 [AV.os 6 0]),(6,A 148 y148 v0 0),(2,Ob.box 39 [nil]),(1,Ob.box 24 [L y182 a0])]) H fun v0 H=>qA (Z [p 2 (R 2)] [(2,Ob.box 39 [AV.os 6 0]),(3,Ob.box 39 [AV.os 6 0]),(6,A 148 y148 v0 0),(1,Ob.box 24 [L y182 a0])])<|vTT<|hr H
def u12(a0:Y32):Option (Y46) :=
 gd ((u39 a0.1).isSome=true/\True)<|lt (vl (u39 a0.1)) fun v0 =>
 gd ((u40 a0.2.1).isSome=true/\True)<|lt (vl (u40 a0.2.1)) fun v1 =>
 gd ((u41 a0.2.2).isSome=true/\True)<|lt (vl (u41 a0.2.2)) fun v2 =>
 some (v0,v1,v2)
def k12:Ct:=lct 12 [.agg y32] (fun x=>u12 x.1) (fun r:Y46=>AV.agg [AV.ow 148 true y148 r.1,AV.ow 150 true y150 r.2.1.1,AV.ow 9 true Ty.str r.2.1.2.1,AV.ow 190 true y190 r.2.1.2.2,AV.ow 126 true y126 r.2.2]) (fun _=>())
theorem o12:Ok prog k12:=by
 refine okL [.cell 2 46] func12 ntmps12 results12 ?_;intro y ⟨a0,_⟩ r H Q hn hr;have:HT _ _:=⟨tc o41 (tc o40 (tc o39 tn))⟩;refine qA (Z [p 1 (R 1),p 2 (R 2)] [(2,Ob.box 46 [nil,nil,nil,nil,nil]),(1,K 32 y32 a0)])<|qA (Z [p 1 (R 1),p 2 (R 2),p 3 (R 3)] [(3,Ob.box 46 [nil,nil,nil,nil,nil]),(2,Ob.box 46 [nil,nil,nil,nil,nil]),(1,K 32 y32 a0)])<|qD (fun v0=>Z [p 1 (R 1),p 2 (R 2),p 3 (R 3)] [(3,Ob.box 46 [AV.os 6 0,nil,nil,nil,nil]),(6,A 148 y148 v0 0),(2,Ob.box 46 [nil,nil,nil,nil,nil]),(1,K 32 y32 a0)]) H fun v0 H=>qD (fun v1=>Z [p 1 (R 1),p 2 (R 2),p 3 (R 3)] [(3,Ob.box 46 [AV.os 6 0,AV.os 10 0,AV.os 1010 0,AV.os 2010 0,nil]),(2010,A 190 y190 v1.2.2 0),(1010,A 9 Ty.str v1.2.1 0),(10,A 150 y150 v1.1 0),(6,A 148 y148 v0 0),(2,Ob.box 46 [nil,nil,nil,nil,nil]),(1,K 32 y32 a0)]) H fun v1 H=>qD (fun v2=>Z [p 2 (R 2),p 3 (R 3)] [(3,Ob.box 46 [AV.os 6 0,AV.os 10 0,AV.os 1010 0,AV.os 2010 0,AV.os 14 0]),(14,A 126 y126 v2 0),(2010,A 190 y190 v1.2.2 0),(1010,A 9 Ty.str v1.2.1 0),(10,A 150 y150 v1.1 0),(6,A 148 y148 v0 0),(2,Ob.box 46 [nil,nil,nil,nil,nil]),(1,K 32 y32 a0)]) H fun v2 H=>qA (Z [p 2 (R 2)] [(2,Ob.box 46 [AV.os 6 0,AV.os 10 0,AV.os 1010 0,AV.os 2010 0,AV.os 14 0]),(3,Ob.box 46 [AV.os 6 0,AV.os 10 0,AV.os 1010 0,AV.os 2010 0,AV.os 14 0]),(14,A 126 y126 v2 0),(2010,A 190 y190 v1.2.2 0),(1010,A 9 Ty.str v1.2.1 0),(10,A 150 y150 v1.1 0),(6,A 148 y148 v0 0),(1,K 32 y32 a0)])<|vTT<|hr H
def u45(a0:Y107):Option (Int×Int) :=
 some (a0.2.1,a0.1)
def k45:Ct:=lct 45 [.agg y107] (fun x=>u45 x.1) (fun r:Int×Int=>AV.tup [I r.1,I r.2]) (fun _=>())
theorem o45:Ok prog k45:=by
 refine okL [.tmp 2,.tmp 3] func45 ntmps45 results45 ?_;intro y ⟨a0,_⟩ r H Q hn hr;have:HT _ _:=⟨@tn prog⟩;refine qA (Z [p 1 (R 1)] [(1,K 107 y107 a0)])<|qA (Z [p 2 (J a0.2.1),p 3 (J a0.1)] [(1,K 107 y107 a0)])<|vTT<|hr H
def u139(a0:List Y171):Option (Int) :=
 some (a0.length:Int)
def k139:Ct:=lct 139 [.dat y171.sl] (fun x=>u139 x.1) (fun r:Int=>I r) (fun _=>())
theorem o139:Ok prog k139:=by
 refine okL [.tmp 2] func139 ntmps139 results139 ?_;intro y ⟨a0,_⟩ r H Q hn hr;have:HT _ _:=⟨@tn prog⟩;refine qA (Z [p 0 (L y171 a0)] [])<|qA (Z [p 2 (I (a0.length:Int))] [])<|vTT<|hr H
def u86(a0:Y113):Option (Int) :=
 gd ((u139 a0.2.1).isSome=true/\in64 (2*vl (u139 a0.2.1))/\True)<|lt (vl (u139 a0.2.1)) fun v0 =>
 some (2*v0)
def k86:Ct:=lct 86 [.dat y113.pt] (fun x=>u86 x.1) (fun r:Int=>I r) (fun _=>())
theorem o86:Ok prog k86:=by
 refine okL [.tmp 2] func86 ntmps86 results86 ?_;intro y ⟨a0,_⟩ r H Q hn hr;have:HT _ _:=⟨tc o139 tn⟩;refine qA (Z [p 0 (D y113.pt a0)] [])<|qD (fun v0=>Z [p 2 (I (2*v0))] []) H fun v0 H=>vTT<|hr H
def u138(a0:Int)(a1:Int)(a2:Int):Option (Bool) :=
 some (decide (a1<=a0)&&decide (a0<=a2))
def k138:Ct:=lct 138 [.dat i64,.dat i64,.dat i64] (fun x=>u138 x.1 x.2.1 x.2.2.1) (fun r:Bool=>B r) (fun _=>())
theorem o138:Ok prog k138:=by
 refine okL [.tmp 6] func138 ntmps138 results138 ?_;intro y ⟨a0,a1,a2,_⟩ r H Q hn hr;have:HT _ _:=⟨@tn prog⟩;refine qA (Z [p 0 (J a0),p 1 (J a1),p 2 (J a2)] [])<|qA (Z [p 6 (B (decide (a1<=a0)&&decide (a0<=a2)))] [])<|vTT<|hr H
def u100J2(a0:Y113):List Bool->Option (Y113×List Bool)
 | v8 =>
 some (a0,v8)
def u100L3(a1:List Int)(a0:Y113)(g3:Int×List Bool->Option (Y113×List Bool)):Int×List Bool->Option (Y113×List Bool)
 | (v6,v7) =>
 if(decide (v6 < (a1.length:Int)))=true then
  gd (ix v6 a1.length/\True) <|
  gd (ix (a1.getD v6.toNat 0) v7.length/\Int.toNat (a1.getD v6.toNat 0)<v7.length/\True) <|
  gd (in64 (v6+1)/\True) <|
  g3 ((v6+1,v7.set (Int.toNat (a1.getD v6.toNat 0)) false))
 else
  u100J2 a0 v7
def u100J0(a1:List Int)(a0:Y113):List Bool->Option (Y113×List Bool)
 | v4 =>
 lp (u100L3 a1 a0) (0,v4)
def u100L1(a1:List Int)(a0:Y113)(v0:Int)(g1:Int×List Bool->Option (Y113×List Bool)):Int×List Bool->Option (Y113×List Bool)
 | (v2,v3) =>
 if(decide (v2<v0))=true then
  gd (ix v2 v3.length/\v2.toNat<v3.length/\True) <|
  gd (in64 (v2+1)/\True) <|
  g1 (v2+1,v3.set v2.toNat true)
 else
  u100J0 a1 a0 v3
def u100(a0:Y113)(a1:List Int):Option (Y113×List Bool) :=
 gd ((0<=(a0.2.2.1.length:Int)/\(a0.2.2.1.length:Int)=(a0.2.2.1.length:Int)/\(a0.2.2.1.length:Int).toNat*1<=281474976710656/\(a0.2.2.1.length:Int)<=9223372036854775807)/\True) <|
 lt ((↑(List.replicate (a0.2.2.1.length:Int).toNat false).length:Int)) fun v0 =>
 lp (u100L1 a1 a0 v0) ((0,List.replicate (a0.2.2.1.length:Int).toNat false))
def k100:Ct:=lct 100 [.dat y113.pt,.dat i64.sl] (fun x=>u100 x.1 x.2.1) (fun r:Y113×List Bool=>AV.ob 92 [D y113.pt r.1,AV.ow 4 true Ty.bool r.2]) (fun _=>())
theorem o100:Ok prog k100:=by
 refine okL [.tmp 4] func100 ntmps100 results100 ?_;intro y ⟨a0,a1,_⟩ r H Q hn hr;have:HT _ _:=⟨@tn prog⟩;refine qA (Z [p 0 (D y113.pt a0),p 1 (L i64 a1)] [])<|qB (Z [p 1 (L i64 a1),p 5 (R 17)] [(17,Ob.box 92 [D y113.pt a0,AV.os 15 0]),(15,A 4 Ty.bool (List.replicate (a0.2.2.1.length:Int).toNat false) 0)]) H fun H=>jN r (fun(v4:List Bool)=>Z [p 1 (L i64 a1),p 5 (R 17)] [(17,Ob.box 92 [D y113.pt a0,AV.os 15 0]),(15,A 4 Ty.bool v4 0)]) (u100J0 a1 a0) (fun v4 H=>?_) (fun _ n0 e0 t0=>?_)
 ·refine jN r (fun(v8:List Bool)=>Z [p 5 (R 17)] [(17,Ob.box 92 [D y113.pt a0,AV.os 15 0]),(15,A 4 Ty.bool v8 0)]) (u100J2 a0) (fun v8 H=>?_) (fun _ n2 e2 t2=>?_)
  ·refine qA (Z [p 4 (R 17)] [(17,Ob.box 92 [D y113.pt a0,AV.os 15 0]),(15,A 4 Ty.bool v8 0)])<|vTT<|hr H
  refine qA (Z [p 5 (R 17),p 33 (L i64 a1),p 34 (I (a1.length:Int)),p 35 (I 0)] [(17,Ob.box 92 [D y113.pt a0,AV.os 15 0]),(15,A 4 Ty.bool v4 0)])<|vB<|lX (fun((v6,v7):Int×List Bool)=>Z [p 5 (R 17),p 33 (L i64 a1),p 34 (I (a1.length:Int)),p 35 (I v6)] [(17,Ob.box 92 [D y113.pt a0,AV.os 15 0]),(15,A 4 Ty.bool v7 0)]) (0,v4) H fun _ g3 b3 e3 t3 ⟨v6,v7⟩ H=>qA (Z [p 5 (R 17),p 33 (L i64 a1),p 34 (I (a1.length:Int)),p 35 (I v6),p 36 (B (decide (v6 < (a1.length:Int))))] [(17,Ob.box 92 [D y113.pt a0,AV.os 15 0]),(15,A 4 Ty.bool v7 0)])<|vQ<|cD H (fun H=>?_) (fun H=>?_)
  ·refine vK<|fQ<|vQ<|vB<|qB (Z [p 5 (R 17),p 8 (J (a1.getD v6.toNat 0)),p 33 (L i64 a1),p 34 (I (a1.length:Int)),p 35 (I v6)] [(17,Ob.box 92 [D y113.pt a0,AV.os 15 0]),(15,A 4 Ty.bool v7 0)]) H fun H=>zB (Z [p 5 (R 17),p 33 (L i64 a1),p 34 (I (a1.length:Int)),p 35 (I v6)] [(15,A 4 Ty.bool (v7.set (Int.toNat (a1.getD v6.toNat 0)) false) 0),(17,Ob.box 92 [D y113.pt a0,AV.os 15 0])]) H fun H=>fK<|fQ<|zB (Z [p 5 (R 17),p 33 (L i64 a1),p 34 (I (a1.length:Int)),p 35 (I (v6+1))] [(15,A 4 Ty.bool (v7.set (Int.toNat (a1.getD v6.toNat 0)) false) 0),(17,Ob.box 92 [D y113.pt a0,AV.os 15 0])]) H fun H=>b3 H
  exact vE<|fE<|e3<|fX rfl<|n2 H
 refine qC (fun v0=>Z [p 1 (L i64 a1),p 5 (R 17),p 22 (I v0),p 23 (I 0)] [(17,Ob.box 92 [D y113.pt a0,AV.os 15 0]),(15,A 4 Ty.bool (List.replicate (a0.2.2.1.length:Int).toNat false) 0)]) H fun v0 H=>vB<|lX (fun((v2,v3):Int×List Bool)=>Z [p 1 (L i64 a1),p 5 (R 17),p 22 (I v0),p 23 (I v2)] [(17,Ob.box 92 [D y113.pt a0,AV.os 15 0]),(15,A 4 Ty.bool v3 0)]) ((0,List.replicate (a0.2.2.1.length:Int).toNat false)) H fun _ g1 b1 e1 t1 ⟨v2,v3⟩ H=>qA (Z [p 1 (L i64 a1),p 5 (R 17),p 22 (I v0),p 23 (I v2),p 24 (B (decide (v2<v0)))] [(17,Ob.box 92 [D y113.pt a0,AV.os 15 0]),(15,A 4 Ty.bool v3 0)])<|vQ<|cD H (fun H=>?_) (fun H=>?_)
 ·refine vK<|fQ<|vQ<|vB<|qA (Z [p 1 (L i64 a1),p 5 (R 17),p 6 (I v2),p 22 (I v0),p 23 (I v2)] [(17,Ob.box 92 [D y113.pt a0,AV.os 15 0]),(15,A 4 Ty.bool v3 0)])<|zB (Z [p 1 (L i64 a1),p 5 (R 17),p 22 (I v0),p 23 (I v2)] [(15,A 4 Ty.bool (v3.set v2.toNat true) 0),(17,Ob.box 92 [D y113.pt a0,AV.os 15 0])]) H fun H=>fK<|fQ<|zB (Z [p 1 (L i64 a1),p 5 (R 17),p 22 (I v0),p 23 (I (v2+1))] [(15,A 4 Ty.bool (v3.set v2.toNat true) 0),(17,Ob.box 92 [D y113.pt a0,AV.os 15 0])]) H fun H=>b1 H
 exact vE<|fE<|e1<|fX rfl<|n0 H
def u148J0:Unit->Option (Bool)
 | _ =>
 some true
def u148L1(a0:List Int)(g1:Int->Option (Bool)):Int->Option (Bool)
 | v0 =>
 if(decide (v0 < (a0.length:Int)))=true then
  gd (in64 (v0-1)/\ix (v0-1) a0.length/\ix v0 a0.length/\True) <|
  if(decide (a0.getD v0.toNat 0<=a0.getD (v0-1).toNat 0))=true then
   some false
  else
   gd (in64 (v0+1)/\True) <|
   g1 (v0+1)
 else
  u148J0 ()
def u148(a0:List Int):Option (Bool) :=
 lp (u148L1 a0) 1
def k148:Ct:=lct 148 [.dat i64.sl] (fun x=>u148 x.1) (fun r:Bool=>B r) (fun _=>())
theorem o148:Ok prog k148:=by
 refine okL [.tmp 2] func148 ntmps148 results148 ?_;intro y ⟨a0,_⟩ r H Q hn hr;have:HT _ _:=⟨@tn prog⟩;refine qA (Z [p 0 (L i64 a0)] [])<|jN r (fun(_:Unit)=>Z [] []) (u148J0) (fun _ H=>?_) (fun _ n0 e0 t0=>?_)
 ·refine qA (Z [p 2 (B true)] [])<|vTT<|hr H
 refine qA (Z [p 0 (L i64 a0),p 3 (I 1)] [])<|vB<|lX (fun(v0:Int)=>Z [p 0 (L i64 a0),p 3 (I v0)] []) 1 H fun _ g1 b1 e1 t1 v0 H=>vQ<|qA (Z [p 0 (L i64 a0),p 3 (I v0),p 7 (B (decide (v0 < (a0.length:Int))))] [])<|cD H (fun H=>?_) (fun H=>?_)
 ·refine vK<|fQ<|vQ<|vB<|qB (Z [p 0 (L i64 a0),p 3 (I v0),p 19 (B (decide (a0.getD v0.toNat 0<=a0.getD (v0-1).toNat 0)))] []) H fun H=>cD H (fun H=>?_) (fun H=>?_)
  ·refine qA (Z [p 2 (B false)] [])<|vTT<|fDD<|fR<|t1<|fDD<|t0<|hr H
  refine vK<|fK<|fQ<|zB (Z [p 0 (L i64 a0),p 3 (I (v0+1))] []) H fun H=>b1 H
 exact vE<|fE<|e1<|fX rfl<|n0 H
def u181(a0:Int)(a1:Int)(a2:Int):Option (Bool) :=
 gd ((u138 a0 a1 a2).isSome=true/\True) <|
 some (!vl (u138 a0 a1 a2))
def k181:Ct:=lct 181 [.dat i64,.dat (.pt i64),.dat (.pt i64)] (fun x=>u181 x.1 x.2.1 x.2.2.1) (fun r:Bool=>B r) (fun _=>())
theorem o181:Ok prog k181:=by
 refine okL [.tmp 4] func181 ntmps181 results181 ?_;intro y ⟨a0,a1,a2,_⟩ r H Q hn hr;have:HT _ _:=⟨tc o138 tn⟩;refine qA (Z [p 0 (J a0),p 1 (D i64.pt a1),p 2 (D i64.pt a2)] [])<|qB (Z [p 4 (B !vl (u138 a0 a1 a2))] []) H fun H=>vTT<|hr H
def u208c181J0:Unit->Option (Int)
 | _ =>
 some (-1)
def u208c181L1(a0:List Int)(a1:Int×Int)(g1:Int->Option (Int)):Int->Option (Int)
 | v0 =>
 if(decide (v0 < (a0.length:Int)))=true then
  gd (ix v0 a0.length/\(u181 (a0.getD v0.toNat 0) a1.1 a1.2).isSome=true/\True) <|
  if(vl (u181 (a0.getD v0.toNat 0) a1.1 a1.2))=true then
   some v0
  else
   gd (in64 (v0+1)/\True) <|
   g1 (v0+1)
 else
  u208c181J0 ()
def u208c181(a0:List Int)(a1:Int×Int):Option (Int) :=
 lp (u208c181L1 a0 a1) 0
def k208c181:Ct:=lct 208 [.dat i64.sl,.fn 181 (.pr i64.pt i64.pt)] (fun x=>u208c181 x.1 x.2.1) (fun r:Int=>I r) (fun _=>())
theorem o208c181:Ok prog k208c181:=by
 refine okL [.tmp 4] func208 ntmps208 results208 ?_;intro y ⟨a0,a1,_⟩ r H Q hn hr;have:HT _ _:=⟨tc o181 tn⟩;refine qA (Z [p 0 (L i64 a0),p 1 (AV.fn 181 [D i64.pt a1.1,D i64.pt a1.2])] [])<|jN r (fun(_:Unit)=>Z [] []) (u208c181J0) (fun _ H=>?_) (fun _ n0 e0 t0=>?_)
 ·refine qA (Z [p 4 (I (-1))] [])<|vTT<|hr H
 refine qA (Z [p 0 (L i64 a0),p 1 (AV.fn 181 [D i64.pt a1.1,D i64.pt a1.2]),p 7 (I (a0.length:Int)),p 8 (I 0)] [])<|vB<|lX (fun(v0:Int)=>Z [p 0 (L i64 a0),p 1 (AV.fn 181 [D i64.pt a1.1,D i64.pt a1.2]),p 7 (I (a0.length:Int)),p 8 (I v0)] []) 0 H fun _ g1 b1 e1 t1 v0 H=>qA (Z [p 0 (L i64 a0),p 1 (AV.fn 181 [D i64.pt a1.1,D i64.pt a1.2]),p 7 (I (a0.length:Int)),p 8 (I v0),p 9 (B (decide (v0 < (a0.length:Int))))] [])<|vQ<|cD H (fun H=>?_) (fun H=>?_)
 ·refine vK<|fQ<|vQ<|vB<|qA (Z [p 0 (L i64 a0),p 1 (AV.fn 181 [D i64.pt a1.1,D i64.pt a1.2]),p 5 (I v0),p 7 (I (a0.length:Int)),p 8 (I v0)] [])<|qB (Z [p 0 (L i64 a0),p 1 (AV.fn 181 [D i64.pt a1.1,D i64.pt a1.2]),p 5 (I v0),p 7 (I (a0.length:Int)),p 8 (I v0),p 16 (B (vl (u181 (a0.getD v0.toNat 0) a1.1 a1.2)))] []) H fun H=>cD H (fun H=>?_) (fun H=>?_)
  ·refine qA (Z [p 4 (I v0)] [])<|vTT<|fDD<|fR<|t1<|fDD<|t0<|hr H
  refine vK<|fK<|fQ<|zB (Z [p 0 (L i64 a0),p 1 (AV.fn 181 [D i64.pt a1.1,D i64.pt a1.2]),p 7 (I (a0.length:Int)),p 8 (I (v0+1))] []) H fun H=>b1 H
 exact vE<|fE<|e1<|fX rfl<|n0 H
def u180c181(a0:List Int)(a1:Int×Int):Option (Bool) :=
 gd ((u208c181 a0 a1).isSome=true/\True)<|lt (vl (u208c181 a0 a1)) fun v0 =>
 some (decide (0<=v0))
def k180c181:Ct:=lct 180 [.dat i64.sl,.fn 181 (.pr (.pt i64) (.pt i64))] (fun x=>u180c181 x.1 x.2.1) (fun r:Bool=>B r) (fun _=>())
theorem o180c181:Ok prog k180c181:=by
 refine okL [.tmp 4] func180 ntmps180 results180 ?_;intro y ⟨a0,a1,_⟩ r H Q hn hr;have:HT _ _:=⟨tc o208c181 (tc o181 tn)⟩;refine qA (Z [p 0 (L i64 a0),p 1 (AV.fn 181 [D i64.pt a1.1,D i64.pt a1.2])] [])<|qD (fun v0=>Z [p 4 (B (decide (0<=v0)))] []) H fun v0 H=>vTT<|hr H
def u146(a0:List Int)(a1:Int)(a2:Int):Option (Bool) :=
 gd ((u180c181 a0 (a1,a2)).isSome=true/\True) <|
 some (!vl (u180c181 a0 (a1,a2)))
def k146:Ct:=lct 146 [.dat i64.sl,.dat i64,.dat i64] (fun x=>u146 x.1 x.2.1 x.2.2.1) (fun r:Bool=>B r) (fun _=>())
theorem o146:Ok prog k146:=by
 refine okL [.tmp 6] func146 ntmps146 results146 ?_;intro y ⟨a0,a1,a2,_⟩ r H Q hn hr;have:HT _ _:=⟨tc o180c181 (tc o181 tn)⟩;refine qA (Z [p 0 (L i64 a0),p 4 (R 4),p 5 (R 5)] [(5,Ob.box 2 [J a2]),(4,Ob.box 2 [J a1])])<|qB (Z [p 6 (B !vl (u180c181 a0 (a1,a2)))] [(5,Ob.box 2 [J a2]),(4,Ob.box 2 [J a1])]) H fun H=>vTT<|hr H
def u147(a0:List Y107):Option (Int) :=
 some (a0.length:Int)
def u99(a0:Y113)(a1:List Int):Option (Bool) :=
 gd ((u147 a0.2.2.1).isSome=true/\in64 (vl (u147 a0.2.2.1)-1)/\(u146 a1 0 (vl (u147 a0.2.2.1)-1)).isSome=true/\(vl (u146 a1 0 (vl (u147 a0.2.2.1)-1))=true/\True->(u148 a1).isSome=true)/\True) <|
 some (vl (u146 a1 0 (vl (u147 a0.2.2.1)-1))&&vl (u148 a1))
def u168(a0:Y43)(a1:List Y148)(a2:Y171):Option (Int) :=
 if(decide (a2.1<0))=true then
  some 0
 else
  gd (ix a2.1 a0.1.length/\ix (a0.1.getD a2.1.toNat (dflt y150)).2.1 a1.length/\ix a2.2.1 (a1.getD (a0.1.getD a2.1.toNat (dflt y150)).2.1.toNat (dflt y148)).2.2.1.length/\True)<|lt ((a1.getD (a0.1.getD a2.1.toNat (dflt y150)).2.1.toNat (dflt y148)).2.2.1.getD a2.2.1.toNat (dflt y222)) fun v0 =>
  some v0.2.2.1
def k168:Ct:=lct 168 [.agg y43,.agg y148.sl,.agg y171] (fun x=>u168 x.1 x.2.1 x.2.2.1) (fun r:Int=>I r) (fun _=>())
theorem o168:Ok prog k168:=by
 refine okL [.tmp 6] func168 ntmps168 results168 ?_;intro y ⟨a0,a1,a2,_⟩ r H Q hn hr;have:HT _ _:=⟨@tn prog⟩;refine qA (Z [p 3 (R 3),p 4 (R 4),p 5 (R 5)] [(5,K 171 y171 a2),(4,Ob.box 39 [L y148 a1]),(3,K 43 y43 a0)])<|vQ<|qA (Z [p 3 (R 3),p 4 (R 4),p 5 (R 5),p 9 (B (decide (a2.1<0)))] [(5,K 171 y171 a2),(4,Ob.box 39 [L y148 a1]),(3,K 43 y43 a0)])<|cD H (fun H=>?_) (fun H=>?_)
 ·refine qA (Z [p 6 (I 0)] [(5,K 171 y171 a2),(4,Ob.box 39 [L y148 a1]),(3,K 43 y43 a0)])<|vTT<|fR<|hr H
 refine vK<|fQ<|qD (fun v0=>Z [p 6 (J v0.2.2.1)] [(5,K 171 y171 a2),(4,Ob.box 39 [L y148 a1]),(3,K 43 y43 a0)]) H fun v0 H=>vTT<|hr H
def u120J4:List Y171->Option (List Y171)
 | v24 =>
 some v24
def u120L5(a0:Y43)(g5:Int×List Y171->Option (List Y171)):Int×List Y171->Option (List Y171)
 | (v21,v22) =>
 if(decide (v21 < (a0.2.2.length:Int)))=true then
  gd (ix v21 a0.2.2.length/\True)<|lt (a0.2.2.getD v21.toNat (dflt y190)) fun v23 =>
  gd ((v22.length+[(-1,v21,v23.2.2,v23.2.1==1)].length<=9223372036854775807/\(v22.length+[(-1,v21,v23.2.2,v23.2.1==1)].length)*32<=140737488355328)/\True) <|
  gd (in64 (v21+1)/\True) <|
  g5 ((v21+1,v22++[(-1,v21,v23.2.2,v23.2.1==1)]))
 else
  u120J4 v22
def u120J0(a0:Y43):List Y171->Option (List Y171)
 | v17 =>
 lp (u120L5 a0) (0,v17)
def u120J2(v8:Int)(g1:List Y171×Int->Option (List Y171)):List Y171->Option (List Y171)
 | v16 =>
 gd (in64 (v8+1)/\True) <|
 g1 (v16,v8+1)
def u120L3(v8:Int)(v9:Y150)(g1:List Y171×Int->Option (List Y171))(g3:Int×List Y171->Option (List Y171)):Int×List Y171->Option (List Y171)
 | (v12,v13) =>
 if(decide (v12 < (v9.2.2.length:Int)))=true then
  gd (ix v12 v9.2.2.length/\True) <|
  gd (in64 ((v9.2.2.length:Int)-1)/\(v13.length+[(v8,v12,v9.2.2.getD v12.toNat 0,v12==(v9.2.2.length:Int)-1)].length<=9223372036854775807/\(v13.length+[(v8,v12,v9.2.2.getD v12.toNat 0,v12==(v9.2.2.length:Int)-1)].length)*32<=140737488355328)/\True)<|lt ((v13++[(v8,v12,v9.2.2.getD v12.toNat 0,v12==(v9.2.2.length:Int)-1)],[(v8,v12,v9.2.2.getD v12.toNat 0,v12==(v9.2.2.length:Int)-1)])) fun(v14,v15) =>
  gd (in64 (v12+1)/\True) <|
  g3 (v12+1,v14)
 else
  u120J2 v8 g1 v13
def u120L1(a0:Y43)(g1:List Y171×Int->Option (List Y171)):List Y171×Int->Option (List Y171)
 | (v7,v8) =>
 if(decide (v8 < (a0.1.length:Int)))=true then
  gd (ix v8 a0.1.length/\True)<|lt (a0.1.getD v8.toNat (dflt y150)) fun v9 =>
  lp (u120L3 v8 v9 g1) (0,v7)
 else
  u120J0 a0 v7
def u120(a0:Y43):Option (List Y171) :=
 lp (u120L1 a0) ([],0)
def k120:Ct:=lct 120 [.agg y43] (fun x=>u120 x.1) (fun r:List Y171=>AV.ow 171 true y171 r) (fun _=>())
theorem o120:Ok prog k120:=by
 refine okL [.tmp 2] func120 ntmps120 results120 ?_;intro y ⟨a0,_⟩ r H Q hn hr;have:HT _ _:=⟨@tn prog⟩;refine qA (Z [p 1 (R 1)] [(1,K 43 y43 a0)])<|qA (Z [p 1 (R 1),p 3 (nil)] [(1,K 43 y43 a0)])<|jN r (fun(v17:List Y171)=>Z [p 1 (R 1),p 3 (O 38)] [(1,K 43 y43 a0),(38,A 171 y171 v17 0)]) (u120J0 a0) (fun v17 H=>?_) (fun _ n0 e0 t0=>?_)
 ·refine jN r (fun(v24:List Y171)=>Z [p 3 (O 38)] [(38,A 171 y171 v24 0)]) (u120J4) (fun v24 H=>?_) (fun _ n4 e4 t4=>?_)
  ·refine qA (Z [p 2 (O 38)] [(38,A 171 y171 v24 0)])<|vTT<|hr H
  refine qA (Z [p 3 (O 38),p 42 (L y190 a0.2.2),p 43 (I (a0.2.2.length:Int)),p 44 (I 0)] [(1,K 43 y43 a0),(38,A 171 y171 v17 0)])<|vB<|lX (fun((v21,v22):Int×List Y171)=>Z [p 3 (O 38),p 42 (L y190 a0.2.2),p 43 (I (a0.2.2.length:Int)),p 44 (I v21)] [(38,A 171 y171 v22 0)]) (0,v17) H fun _ g5 b5 e5 t5 ⟨v21,v22⟩ H=>qA (Z [p 3 (O 38),p 42 (L y190 a0.2.2),p 43 (I (a0.2.2.length:Int)),p 44 (I v21),p 45 (B (decide (v21 < (a0.2.2.length:Int))))] [(38,A 171 y171 v22 0)])<|vQ<|cD H (fun H=>?_) (fun H=>?_)
  ·refine vK<|fQ<|vQ<|vB<|qD (fun v23=>Z [p 3 (O 38),p 8 (I v21),p 9 (R 9),p 42 (L y190 a0.2.2),p 43 (I (a0.2.2.length:Int)),p 44 (I v21)] [(9,K 190 y190 v23),(38,A 171 y171 v22 0)]) H fun v23 H=>zB (Z [p 3 (AV.os 38 1),p 42 (L y190 a0.2.2),p 43 (I (a0.2.2.length:Int)),p 44 (I v21)] [(38,A 171 y171 (v22++[(-1,v21,v23.2.2,v23.2.1==1)]) 1),(57,A 171 y171 [(-1,v21,v23.2.2,v23.2.1==1)] 0),(9,K 190 y190 v23)]) H fun H=>fK<|fQ<|zB (Z [p 3 (AV.os 38 1),p 42 (L y190 a0.2.2),p 43 (I (a0.2.2.length:Int)),p 44 (I (v21+1))] [(38,A 171 y171 (v22++[(-1,v21,v23.2.2,v23.2.1==1)]) 1),(57,A 171 y171 [(-1,v21,v23.2.2,v23.2.1==1)] 0),(9,K 190 y190 v23)]) H fun H=>b5 H
  exact vE<|fE<|e5<|fX rfl<|n4 H
 refine qA (Z [p 1 (R 1),p 3 (nil),p 11 (L y150 a0.1),p 12 (I (a0.1.length:Int)),p 13 (I 0)] [(1,K 43 y43 a0)])<|vB<|lX (fun((v7,v8):List Y171×Int)=>Z [p 1 (R 1),p 3 (O 38),p 11 (L y150 a0.1),p 12 (I (a0.1.length:Int)),p 13 (I v8)] [(1,K 43 y43 a0),(38,A 171 y171 v7 0)]) ([],0) H fun _ g1 b1 e1 t1 ⟨v7,v8⟩ H=>qA (Z [p 1 (R 1),p 3 (O 38),p 11 (L y150 a0.1),p 12 (I (a0.1.length:Int)),p 13 (I v8),p 14 (B (decide (v8 < (a0.1.length:Int))))] [(1,K 43 y43 a0),(38,A 171 y171 v7 0)])<|vQ<|cD H (fun H=>?_) (fun H=>?_)
 ·refine vK<|fQ<|jN r (fun(v16:List Y171)=>Z [p 1 (R 1),p 3 (O 38),p 11 (L y150 a0.1),p 12 (I (a0.1.length:Int)),p 13 (I v8)] [(1,K 43 y43 a0),(38,A 171 y171 v16 0)]) (u120J2 v8 g1) (fun v16 H=>?_) (fun _ n2 e2 t2=>?_)
  ·refine zB (Z [p 1 (R 1),p 3 (O 38),p 11 (L y150 a0.1),p 12 (I (a0.1.length:Int)),p 13 (I (v8+1))] [(1,K 43 y43 a0),(38,A 171 y171 v16 0)]) H fun H=>b1 H
  refine vB<|qD (fun v9=>Z [p 1 (R 1),p 3 (O 38),p 4 (I v8),p 5 (R 5),p 11 (L y150 a0.1),p 12 (I (a0.1.length:Int)),p 13 (I v8)] [(5,K 150 y150 v9),(1,K 43 y43 a0),(38,A 171 y171 v7 0)]) H fun v9 H=>qA (Z [p 1 (R 1),p 3 (O 38),p 4 (I v8),p 5 (R 5),p 11 (L y150 a0.1),p 12 (I (a0.1.length:Int)),p 13 (I v8),p 19 (L i64 v9.2.2),p 20 (I (v9.2.2.length:Int)),p 21 (I 0)] [(5,K 150 y150 v9),(1,K 43 y43 a0),(38,A 171 y171 v7 0)])<|vB<|lX (fun((v12,v13):Int×List Y171)=>Z [p 1 (R 1),p 3 (O 38),p 4 (I v8),p 5 (R 5),p 11 (L y150 a0.1),p 12 (I (a0.1.length:Int)),p 13 (I v8),p 19 (L i64 v9.2.2),p 20 (I (v9.2.2.length:Int)),p 21 (I v12)] [(5,K 150 y150 v9),(1,K 43 y43 a0),(38,A 171 y171 v13 0)]) (0,v7) H fun _ g3 b3 e3 t3 ⟨v12,v13⟩ H=>qA (Z [p 1 (R 1),p 3 (O 38),p 4 (I v8),p 5 (R 5),p 11 (L y150 a0.1),p 12 (I (a0.1.length:Int)),p 13 (I v8),p 19 (L i64 v9.2.2),p 20 (I (v9.2.2.length:Int)),p 21 (I v12),p 22 (B (decide (v12 < (v9.2.2.length:Int))))] [(5,K 150 y150 v9),(1,K 43 y43 a0),(38,A 171 y171 v13 0)])<|vQ<|cD H (fun H=>?_) (fun H=>?_)
  ·refine vK<|fQ<|vQ<|vB<|qB (Z [p 1 (R 1),p 3 (O 38),p 4 (I v8),p 5 (R 5),p 6 (I v12),p 7 (J (v9.2.2.getD v12.toNat 0)),p 11 (L y150 a0.1),p 12 (I (a0.1.length:Int)),p 13 (I v8),p 19 (L i64 v9.2.2),p 20 (I (v9.2.2.length:Int)),p 21 (I v12)] [(5,K 150 y150 v9),(1,K 43 y43 a0),(38,A 171 y171 v13 0)]) H fun H=>zD (fun(v14,v15)=>Z [p 1 (R 1),p 3 (AV.os 38 1),p 4 (I v8),p 5 (R 5),p 11 (L y150 a0.1),p 12 (I (a0.1.length:Int)),p 13 (I v8),p 19 (L i64 v9.2.2),p 20 (I (v9.2.2.length:Int)),p 21 (I v12)] [(38,A 171 y171 v14 1),(37,A 171 y171 v15 0),(5,K 150 y150 v9),(1,K 43 y43 a0)]) H fun⟨v14,v15⟩ H =>
    fK<|fQ <|
    zB (Z [p 1 (R 1),p 3 (AV.os 38 1),p 4 (I v8),p 5 (R 5),p 11 (L y150 a0.1),p 12 (I (a0.1.length:Int)),p 13 (I v8),p 19 (L i64 v9.2.2),p 20 (I (v9.2.2.length:Int)),p 21 (I (v12+1))] [(38,A 171 y171 v14 1),(37,A 171 y171 v15 0),(5,K 150 y150 v9),(1,K 43 y43 a0)]) H fun H =>
    b3 H
  exact vE<|fE<|e3<|fX rfl<|fK<|n2 H
 exact vE<|fE<|e1<|fX rfl<|n0 H
def u167J0:List Int->Option (List Int)
 | v7 =>
 some v7
def u167J2(v4:Int)(g1:List Int×Int->Option (List Int)):List Int->Option (List Int)
 | v6 =>
 gd (in64 (v4+1)/\True) <|
 g1 (v6,v4+1)
def u167L1(a1:Int)(v0:List Y171)(g1:List Int×Int->Option (List Int)):List Int×Int->Option (List Int)
 | (v3,v4) =>
 if(decide (v4 < (v0.length:Int)))=true then
  gd (ix v4 v0.length/\v4.toNat<v0.length/\True)<|lt (v0.getD v4.toNat (dflt y171)) fun v5 =>
  if(v5.2.2.1==a1&&!v5.2.2.2)=true then
   gd ((v3.length+[v4].length<=9223372036854775807/\(v3.length+[v4].length)*8<=140737488355328)/\True) <|
   u167J2 v4 g1 (v3++[v4])
  else
   u167J2 v4 g1 v3
 else
  u167J0 v3
def u167(a0:Y43)(a1:Int):Option (List Int) :=
 gd ((u120 a0).isSome=true/\True)<|lt (vl (u120 a0)) fun v0 =>
 lp (u167L1 a1 v0) ([],0)
def k167:Ct:=lct 167 [.agg y43,.dat i64] (fun x=>u167 x.1 x.2.1) (fun r:List Int=>AV.ow 2 true i64 r) (fun _=>())
theorem o167:Ok prog k167:=by
 refine okL [.tmp 4] func167 ntmps167 results167 ?_;intro y ⟨a0,a1,_⟩ r H Q hn hr;have:HT _ _:=⟨tc o120 tn⟩;refine qA (Z [p 1 (J a1),p 2 (R 2)] [(2,K 43 y43 a0)])<|qA (Z [p 1 (J a1),p 2 (R 2),p 5 (nil)] [(2,K 43 y43 a0)])<|jN r (fun(v7:List Int)=>Z [p 5 (O 28)] [(28,A 2 i64 v7 0)]) (u167J0) (fun v7 H=>?_) (fun _ n0 e0 t0=>?_)
 ·refine qA (Z [p 4 (O 28)] [(28,A 2 i64 v7 0)])<|vTT<|hr H
 refine qD (fun v0=>Z [p 1 (J a1),p 5 (nil),p 9 (O 9),p 10 (I (v0.length:Int)),p 11 (I 0)] [(9,A 171 y171 v0 0),(2,K 43 y43 a0)]) H fun v0 H=>vB<|lX (fun((v3,v4):List Int×Int)=>Z [p 1 (J a1),p 5 (O 28),p 9 (O 9),p 10 (I (v0.length:Int)),p 11 (I v4)] [(9,A 171 y171 v0 0),(28,A 2 i64 v3 0)]) ([],0) H fun _ g1 b1 e1 t1 ⟨v3,v4⟩ H=>qA (Z [p 1 (J a1),p 5 (O 28),p 9 (O 9),p 10 (I (v0.length:Int)),p 11 (I v4),p 12 (B (decide (v4 < (v0.length:Int))))] [(9,A 171 y171 v0 0),(28,A 2 i64 v3 0)])<|vQ<|cD H (fun H=>?_) (fun H=>?_)
 ·refine vK<|fQ<|jN r (fun(v6:List Int)=>Z [p 1 (J a1),p 5 (O 28),p 9 (O 9),p 10 (I (v0.length:Int)),p 11 (I v4)] [(28,A 2 i64 v6 0),(9,A 171 y171 v0 0)]) (u167J2 v4 g1) (fun v6 H=>?_) (fun _ n2 e2 t2=>?_)
  ·refine zB (Z [p 1 (J a1),p 5 (O 28),p 9 (O 9),p 10 (I (v0.length:Int)),p 11 (I (v4+1))] [(28,A 2 i64 v6 0),(9,A 171 y171 v0 0)]) H fun H=>b1 H
  refine vB<|qD (fun v5=>Z [p 1 (J a1),p 5 (O 28),p 6 (I v4),p 7 (R 7),p 9 (O 9),p 10 (I (v0.length:Int)),p 11 (I v4)] [(7,Ob.box 171 (cellsD true y171 v5)),(9,A 171 y171 v0 0),(28,A 2 i64 v3 0)]) H fun v5 H=>qA (Z [p 1 (J a1),p 5 (O 28),p 6 (I v4),p 9 (O 9),p 10 (I (v0.length:Int)),p 11 (I v4),p 24 (B (v5.2.2.1==a1&&!v5.2.2.2))] [(7,Ob.box 171 (cellsD true y171 v5)),(9,A 171 y171 v0 0),(28,A 2 i64 v3 0)])<|cD H (fun H=>?_) (fun H=>?_)
  ·refine zB (Z [p 1 (J a1),p 5 (AV.os 28 1),p 9 (O 9),p 10 (I (v0.length:Int)),p 11 (I v4)] [(28,A 2 i64 (v3++[v4]) 1),(27,A 2 i64 [v4] 0),(7,Ob.box 171 (cellsD true y171 v5)),(9,A 171 y171 v0 0)]) H fun H=>fK<|n2 H
  exact vK<|fK<|n2 H
 exact vE<|fE<|e1<|fX rfl<|n0 H
def u124J2:List Int->Option (List Int)
 | v15 =>
 some v15
def u124L3(v0:Y126)(g3:Int×List Int->Option (List Int)):Int×List Int->Option (List Int)
 | (v12,v13) =>
 if(decide (0<v12))=true then
  gd (ix v12 v0.1.length/\ix (v0.1.getD v12.toNat 0) v13.length/\Int.toNat (v0.1.getD v12.toNat 0)<v13.length/\ix v12 v13.length/\v12.toNat<v13.length/\in64 (v13.getD (Int.toNat (v0.1.getD v12.toNat 0)) 0+v13.getD v12.toNat 0)/\ix (v0.1.getD v12.toNat 0) v13.length/\Int.toNat (v0.1.getD v12.toNat 0)<v13.length/\True)<|lt (v13.set (Int.toNat (v0.1.getD v12.toNat 0)) (v13.getD (Int.toNat (v0.1.getD v12.toNat 0)) 0+v13.getD v12.toNat 0)) fun v14 =>
  gd (in64 (v12-1)/\True) <|
  g3 (v12-1,v14)
 else
  u124J2 v13
def u124J0(v0:Y126):List Int->Option (List Int)
 | v10 =>
 gd (in64 ((v10.length:Int)-1)/\True) <|
 lp (u124L3 v0) (((v10.length:Int)-1,v10))
def u124L1(a0:Y46)(v2:List Y171)(v3:List Int)(v0:Y126)(g1:Int×List Int->Option (List Int)):Int×List Int->Option (List Int)
 | (v6,v7) =>
 if(decide (v6 < (v3.length:Int)))=true then
  gd (ix v6 v3.length/\v6.toNat<v3.length/\True) <|
  gd (ix v6 v0.2.2.2.length/\ix (v0.2.2.2.getD v6.toNat 0) v7.length/\Int.toNat (v0.2.2.2.getD v6.toNat 0)<v7.length/\ix (v3.getD v6.toNat 0) v2.length/\Int.toNat (v3.getD v6.toNat 0)<v2.length/\(u168 a0.2.1 a0.1 (v2.getD (Int.toNat (v3.getD v6.toNat 0)) (dflt y171))).isSome=true/\in64 (v7.getD (Int.toNat (v0.2.2.2.getD v6.toNat 0)) 0+vl (u168 a0.2.1 a0.1 (v2.getD (Int.toNat (v3.getD v6.toNat 0)) (dflt y171))))/\ix (v0.2.2.2.getD v6.toNat 0) v7.length/\Int.toNat (v0.2.2.2.getD v6.toNat 0)<v7.length/\True)<|lt ((vl (u168 a0.2.1 a0.1 (v2.getD (Int.toNat (v3.getD v6.toNat 0)) (dflt y171))),v7.set (Int.toNat (v0.2.2.2.getD v6.toNat 0)) (v7.getD (Int.toNat (v0.2.2.2.getD v6.toNat 0)) 0+vl (u168 a0.2.1 a0.1 (v2.getD (Int.toNat (v3.getD v6.toNat 0)) (dflt y171)))))) fun(v8,v9) =>
  gd (in64 (v6+1)/\True) <|
  g1 (v6+1,v9)
 else
  u124J0 v0 v7
def u124(a0:Y46)(a1:Int):Option (List Int) :=
 gd (ix a1 a0.2.2.length/\True)<|lt (a0.2.2.getD a1.toNat (dflt y126)) fun v0 =>
 gd ((u87 v0.2.2.1).isSome=true/\True)<|lt (vl (u87 v0.2.2.1)) fun v1 =>
 gd ((u120 a0.2.1).isSome=true/\True)<|lt (vl (u120 a0.2.1)) fun v2 =>
 gd ((u167 a0.2.1 a1).isSome=true/\True)<|lt (vl (u167 a0.2.1 a1)) fun v3 =>
 lp (u124L1 a0 v2 v3 v0) (0,v1)
def k124:Ct:=lct 124 [.agg y46,.dat i64] (fun x=>u124 x.1 x.2.1) (fun r:List Int=>AV.ow 2 true i64 r) (fun _=>())
theorem o124:Ok prog k124:=by
 refine okL [.tmp 4] func124 ntmps124 results124 ?_;intro y ⟨a0,a1,_⟩ r H Q hn hr;have:HT _ _:=⟨tc o168 (tc o167 (tc o120 (tc o87 tn)))⟩;refine qA (Z [p 1 (J a1),p 2 (R 2)] [(2,K 46 y46 a0)])<|qD (fun v0=>Z [p 1 (J a1),p 2 (R 2),p 5 (R 5)] [(5,K 126 y126 v0),(2,K 46 y46 a0)]) H fun v0 H=>qD (fun v1=>Z [p 1 (J a1),p 2 (R 2),p 5 (R 5),p 6 (O 18)] [(18,A 2 i64 v1 0),(5,K 126 y126 v0),(2,K 46 y46 a0)]) H fun v1 H=>qD (fun v2=>Z [p 1 (J a1),p 2 (R 2),p 5 (R 5),p 6 (O 18),p 7 (O 21)] [(21,A 171 y171 v2 0),(18,A 2 i64 v1 0),(5,K 126 y126 v0),(2,K 46 y46 a0)]) H fun v2 H=>jN r (fun(v10:List Int)=>Z [p 5 (R 5),p 6 (O 18)] [(18,A 2 i64 v10 0),(5,K 126 y126 v0)]) (u124J0 v0) (fun v10 H=>?_) (fun _ n0 e0 t0=>?_)
 ·refine jN r (fun(v15:List Int)=>Z [p 6 (O 18)] [(18,A 2 i64 v15 0)]) (u124J2) (fun v15 H=>?_) (fun _ n2 e2 t2=>?_)
  ·refine qA (Z [p 4 (O 18)] [(18,A 2 i64 v15 0)])<|vTT<|hr H
  refine qB (Z [p 5 (R 5),p 6 (O 18),p 10 (I ((v10.length:Int)-1))] [(18,A 2 i64 v10 0),(5,K 126 y126 v0)]) H fun H=>vB<|lX (fun((v12,v13):Int×List Int)=>Z [p 5 (R 5),p 6 (O 18),p 10 (I v12)] [(18,A 2 i64 v13 0),(5,K 126 y126 v0)]) (((v10.length:Int)-1,v10)) H fun _ g3 b3 e3 t3 ⟨v12,v13⟩ H=>vQ<|qA (Z [p 5 (R 5),p 6 (O 18),p 10 (I v12),p 56 (B (decide (0<v12)))] [(18,A 2 i64 v13 0),(5,K 126 y126 v0)])<|cD H (fun H=>?_) (fun H=>?_)
  ·refine vK<|fQ<|vQ<|vB<|zD (fun v14=>Z [p 5 (R 5),p 6 (O 18),p 10 (I v12)] [(18,A 2 i64 v14 0),(5,K 126 y126 v0)]) H fun v14 H=>fK<|fQ<|zB (Z [p 5 (R 5),p 6 (O 18),p 10 (I (v12-1))] [(18,A 2 i64 v14 0),(5,K 126 y126 v0)]) H fun H=>b3 H
  exact vE<|fE<|e3<|fX rfl<|n2 H
 refine qD (fun v3=>Z [p 2 (R 2),p 5 (R 5),p 6 (O 18),p 7 (O 21),p 25 (O 25),p 26 (I (v3.length:Int)),p 27 (I 0)] [(25,A 2 i64 v3 0),(21,A 171 y171 v2 0),(18,A 2 i64 v1 0),(5,K 126 y126 v0),(2,K 46 y46 a0)]) H fun v3 H=>vB<|lX (fun((v6,v7):Int×List Int)=>Z [p 2 (R 2),p 5 (R 5),p 6 (O 18),p 7 (O 21),p 25 (O 25),p 26 (I (v3.length:Int)),p 27 (I v6)] [(25,A 2 i64 v3 0),(21,A 171 y171 v2 0),(18,A 2 i64 v7 0),(5,K 126 y126 v0),(2,K 46 y46 a0)]) (0,v1) H fun _ g1 b1 e1 t1 ⟨v6,v7⟩ H=>qA (Z [p 2 (R 2),p 5 (R 5),p 6 (O 18),p 7 (O 21),p 25 (O 25),p 26 (I (v3.length:Int)),p 27 (I v6),p 28 (B (decide (v6 < (v3.length:Int))))] [(25,A 2 i64 v3 0),(21,A 171 y171 v2 0),(18,A 2 i64 v7 0),(5,K 126 y126 v0),(2,K 46 y46 a0)])<|vQ<|cD H (fun H=>?_) (fun H=>?_)
 ·refine vK<|fQ<|vQ<|vB<|qB (Z [p 2 (R 2),p 5 (R 5),p 6 (O 18),p 7 (O 21),p 8 (I v6),p 9 (I (v3.getD v6.toNat 0)),p 25 (O 25),p 26 (I (v3.length:Int)),p 27 (I v6)] [(25,A 2 i64 v3 0),(21,A 171 y171 v2 0),(18,A 2 i64 v7 0),(5,K 126 y126 v0),(2,K 46 y46 a0)]) H fun H=>zD (fun(v8,v9)=>Z [p 2 (R 2),p 5 (R 5),p 6 (O 18),p 7 (O 21),p 25 (O 25),p 26 (I (v3.length:Int)),p 27 (I v6)] [(18,A 2 i64 v9 0),(25,A 2 i64 v3 0),(21,A 171 y171 v2 0),(5,K 126 y126 v0),(2,K 46 y46 a0)]) H fun⟨v8,v9⟩ H =>
   fK<|fQ <|
   zB (Z [p 2 (R 2),p 5 (R 5),p 6 (O 18),p 7 (O 21),p 25 (O 25),p 26 (I (v3.length:Int)),p 27 (I (v6+1))] [(18,A 2 i64 v9 0),(25,A 2 i64 v3 0),(21,A 171 y171 v2 0),(5,K 126 y126 v0),(2,K 46 y46 a0)]) H fun H =>
   b1 H
 exact vE<|fE<|e1<|fX rfl<|n0 H
def u169J0:List Int->Option (List Int)
 | v6 =>
 some v6
def u169L1(v1:Y126)(v0:List Int)(g1:Int×List Int->Option (List Int)):Int×List Int->Option (List Int)
 | (v3,v4) =>
 if(decide (v3 < (v4.length:Int)))=true then
  gd (ix v3 v1.1.length/\ix (v1.1.getD v3.toNat 0) v4.length/\Int.toNat (v1.1.getD v3.toNat 0)<v4.length/\ix v3 v1.2.1.length/\ix v3 v0.length/\v3.toNat<v0.length/\in64 (v1.2.1.getD v3.toNat 0*v0.getD v3.toNat 0)/\in64 (v4.getD (Int.toNat (v1.1.getD v3.toNat 0)) 0+v1.2.1.getD v3.toNat 0*v0.getD v3.toNat 0)/\ix v3 v4.length/\v3.toNat<v4.length/\True)<|lt (v4.set v3.toNat (v4.getD (Int.toNat (v1.1.getD v3.toNat 0)) 0+v1.2.1.getD v3.toNat 0*v0.getD v3.toNat 0)) fun v5 =>
  gd (in64 (v3+1)/\True) <|
  g1 (v3+1,v5)
 else
  u169J0 v4
def u169(a0:Y46)(a1:Int):Option (List Int) :=
 gd (ix a1 a0.2.2.length/\(u124 a0 a1).isSome=true/\True)<|lt ((vl (u124 a0 a1),a0.2.2.getD a1.toNat (dflt y126))) fun(v0,v1) =>
 gd ((0<=(v0.length:Int)/\(v0.length:Int)=(v0.length:Int)/\(v0.length:Int).toNat*8<=281474976710656/\(v0.length:Int)<=9223372036854775807)/\True) <|
 lp (u169L1 v1 v0) ((1,List.replicate (v0.length:Int).toNat 0))
def k169:Ct:=lct 169 [.agg y46,.dat i64] (fun x=>u169 x.1 x.2.1) (fun r:List Int=>AV.ow 2 true i64 r) (fun _=>())
theorem o169:Ok prog k169:=by
 refine okL [.tmp 4] func169 ntmps169 results169 ?_;intro y ⟨a0,a1,_⟩ r H Q hn hr;have:HT _ _:=⟨tc o124 tn⟩;refine qA (Z [p 1 (J a1),p 2 (R 2)] [(2,K 46 y46 a0)])<|qD (fun(v0,v1)=>Z [p 5 (R 5),p 6 (O 16)] [(5,K 126 y126 v1),(16,A 2 i64 v0 0),(2,K 46 y46 a0)]) H fun w H=>?_
 obtain⟨v0,v1⟩:=w;refine qB (Z [p 5 (R 5),p 6 (O 16),p 7 (O 19)] [(19,A 2 i64 (List.replicate (v0.length:Int).toNat 0) 0),(5,K 126 y126 v1),(16,A 2 i64 v0 0),(2,K 46 y46 a0)]) H fun H=>jN r (fun(v6:List Int)=>Z [p 7 (O 19)] [(19,A 2 i64 v6 0)]) (u169J0) (fun v6 H=>?_) (fun _ n0 e0 t0=>?_)
 ·refine qA (Z [p 4 (O 19)] [(19,A 2 i64 v6 0)])<|vTT<|hr H
 refine qA (Z [p 5 (R 5),p 6 (O 16),p 7 (O 19),p 8 (I 1)] [(19,A 2 i64 (List.replicate (v0.length:Int).toNat 0) 0),(5,K 126 y126 v1),(16,A 2 i64 v0 0),(2,K 46 y46 a0)])<|vB<|lX (fun((v3,v4):Int×List Int)=>Z [p 5 (R 5),p 6 (O 16),p 7 (O 19),p 8 (I v3)] [(19,A 2 i64 v4 0),(5,K 126 y126 v1),(16,A 2 i64 v0 0)]) ((1,List.replicate (v0.length:Int).toNat 0)) H fun _ g1 b1 e1 t1 ⟨v3,v4⟩ H=>vQ<|qA (Z [p 5 (R 5),p 6 (O 16),p 7 (O 19),p 8 (I v3),p 23 (B (decide (v3 < (v4.length:Int))))] [(19,A 2 i64 v4 0),(5,K 126 y126 v1),(16,A 2 i64 v0 0)])<|cD H (fun H=>?_) (fun H=>?_)
 ·refine vK<|fQ<|vQ<|vB<|zD (fun v5=>Z [p 5 (R 5),p 6 (O 16),p 7 (O 19),p 8 (I v3)] [(19,A 2 i64 v5 0),(5,K 126 y126 v1),(16,A 2 i64 v0 0)]) H fun v5 H=>fK<|fQ<|zB (Z [p 5 (R 5),p 6 (O 16),p 7 (O 19),p 8 (I (v3+1))] [(19,A 2 i64 v5 0),(5,K 126 y126 v1),(16,A 2 i64 v0 0)]) H fun H=>b1 H
 exact vE<|fE<|e1<|fX rfl<|n0 H
def u125J0:List Int->Option (List Int)
 | v6 =>
 some v6
def u125L1(v0:List Int)(v1:Y126)(g1:List Int×Int->Option (List Int)):List Int×Int->Option (List Int)
 | (v3,v4) =>
 if(decide (v4 < (v1.2.2.2.length:Int)))=true then
  gd (ix v4 v1.2.2.2.length/\True) <|
  gd (ix (v1.2.2.2.getD v4.toNat 0) v0.length/\Int.toNat (v1.2.2.2.getD v4.toNat 0)<v0.length/\(v3.length+[v0.getD (Int.toNat (v1.2.2.2.getD v4.toNat 0)) 0].length<=9223372036854775807/\(v3.length+[v0.getD (Int.toNat (v1.2.2.2.getD v4.toNat 0)) 0].length)*8<=140737488355328)/\True)<|lt (v3++[v0.getD (Int.toNat (v1.2.2.2.getD v4.toNat 0)) 0]) fun v5 =>
  gd (in64 (v4+1)/\True) <|
  g1 (v5,v4+1)
 else
  u125J0 v3
def u125(a0:Y46)(a1:Int):Option (List Int) :=
 gd ((u169 a0 a1).isSome=true/\True)<|lt (vl (u169 a0 a1)) fun v0 =>
 gd (ix a1 a0.2.2.length/\True)<|lt (a0.2.2.getD a1.toNat (dflt y126)) fun v1 =>
 lp (u125L1 v0 v1) ([],0)
def k125:Ct:=lct 125 [.agg y46,.dat i64] (fun x=>u125 x.1 x.2.1) (fun r:List Int=>AV.ow 2 true i64 r) (fun _=>())
theorem o125:Ok prog k125:=by
 refine okL [.tmp 4] func125 ntmps125 results125 ?_;intro y ⟨a0,a1,_⟩ r H Q hn hr;have:HT _ _:=⟨tc o169 tn⟩;refine qA (Z [p 1 (J a1),p 2 (R 2)] [(2,K 46 y46 a0)])<|qD (fun v0=>Z [p 1 (J a1),p 2 (R 2),p 5 (O 11)] [(11,A 2 i64 v0 0),(2,K 46 y46 a0)]) H fun v0 H=>qA (Z [p 1 (J a1),p 2 (R 2),p 5 (O 11),p 6 (nil)] [(11,A 2 i64 v0 0),(2,K 46 y46 a0)])<|jN r (fun(v6:List Int)=>Z [p 6 (O 29)] [(29,A 2 i64 v6 0)]) (u125J0) (fun v6 H=>?_) (fun _ n0 e0 t0=>?_)
 ·refine qA (Z [p 4 (O 29)] [(29,A 2 i64 v6 0)])<|vTT<|hr H
 refine qD (fun v1=>Z [p 5 (O 11),p 6 (nil),p 17 (L i64 v1.2.2.2),p 18 (I (v1.2.2.2.length:Int)),p 19 (I 0)] [(11,A 2 i64 v0 0),(2,K 46 y46 a0)]) H fun v1 H=>vB<|lX (fun((v3,v4):List Int×Int)=>Z [p 5 (O 11),p 6 (O 29),p 17 (L i64 v1.2.2.2),p 18 (I (v1.2.2.2.length:Int)),p 19 (I v4)] [(11,A 2 i64 v0 0),(29,A 2 i64 v3 0)]) ([],0) H fun _ g1 b1 e1 t1 ⟨v3,v4⟩ H=>qA (Z [p 5 (O 11),p 6 (O 29),p 17 (L i64 v1.2.2.2),p 18 (I (v1.2.2.2.length:Int)),p 19 (I v4),p 20 (B (decide (v4 < (v1.2.2.2.length:Int))))] [(11,A 2 i64 v0 0),(29,A 2 i64 v3 0)])<|vQ<|cD H (fun H=>?_) (fun H=>?_)
 ·refine vK<|fQ<|vQ<|vB<|qB (Z [p 5 (O 11),p 6 (O 29),p 8 (J (v1.2.2.2.getD v4.toNat 0)),p 17 (L i64 v1.2.2.2),p 18 (I (v1.2.2.2.length:Int)),p 19 (I v4)] [(11,A 2 i64 v0 0),(29,A 2 i64 v3 0)]) H fun H=>zD (fun v5=>Z [p 5 (O 11),p 6 (AV.os 29 1),p 17 (L i64 v1.2.2.2),p 18 (I (v1.2.2.2.length:Int)),p 19 (I v4)] [(29,A 2 i64 v5 1),(28,A 2 i64 [v0.getD (Int.toNat (v1.2.2.2.getD v4.toNat 0)) 0] 0),(11,A 2 i64 v0 0)]) H fun v5 H=>fK<|fQ<|zB (Z [p 5 (O 11),p 6 (AV.os 29 1),p 17 (L i64 v1.2.2.2),p 18 (I (v1.2.2.2.length:Int)),p 19 (I (v4+1))] [(29,A 2 i64 v5 1),(28,A 2 i64 [v0.getD (Int.toNat (v1.2.2.2.getD v4.toNat 0)) 0] 0),(11,A 2 i64 v0 0)]) H fun H=>b1 H
 exact vE<|fE<|e1<|fX rfl<|n0 H
def k125d:Ct:=lct 125 [.agg y46,.dat i64] (fun x=>u125 x.1 x.2.1) (fun r=>frz ((fun r:List Int=>AV.ow 2 true i64 r) r)) (fun _=>())
theorem o125d:Ok prog k125d:=ok_frz o125
def u123(a0:List Int):Option (Int) :=
 some (a0.length:Int)
def k123:Ct:=lct 123 [.dat i64.sl] (fun x=>u123 x.1) (fun r:Int=>I r) (fun _=>())
theorem o123:Ok prog k123:=by
 refine okL [.tmp 2] func123 ntmps123 results123 ?_;intro y ⟨a0,_⟩ r H Q hn hr;have:HT _ _:=⟨@tn prog⟩;refine qA (Z [p 0 (L i64 a0)] [])<|qA (Z [p 2 (I (a0.length:Int))] [])<|vTT<|hr H
def u166(a0:Y153):Option (List (Int×Int)) :=
 if(a0.1==2)=true then
  some ([((0:Int),(0:Int)),((0:Int),(1:Int))])
 else
  if(a0.1==3)=true then
   some ([((1:Int),(0:Int)),((1:Int),(1:Int))])
  else
   if(a0.1 != 1)=true then
    some []
   else
    if(a0.2.2.2.1==1)=true then
     some ([((0:Int),(0:Int)),((1:Int),(1:Int))])
    else
     if(a0.2.2.2.1==2)=true then
      some ([((0:Int),(1:Int)),((1:Int),(0:Int))])
     else
      lt ([((0:Int),(0:Int)),((0:Int),(1:Int)),((1:Int),(0:Int)),((1:Int),(1:Int))]) fun v0 =>
      some v0
def k166:Ct:=lct 166 [.agg y153] (fun x=>u166 x.1) (fun r:List (Int×Int)=>AV.ow 215 true (i64.pr i64) r) (fun _=>())
theorem o166:Ok prog k166:=by
 refine okL [.tmp 2] func166 ntmps166 results166 ?_;intro y ⟨a0,_⟩ r H Q hn hr;have:HT _ _:=⟨@tn prog⟩;refine qA (Z [p 1 (R 1)] [(1,K 153 y153 a0)])<|qA (Z [p 1 (R 1),p 3 (O 7)] [(7,A 215 (i64.pr i64) [((0:Int),(0:Int)),((1:Int),(1:Int))] 0),(1,K 153 y153 a0)])<|qA (Z [p 1 (R 1),p 3 (O 7),p 4 (O 10)] [(10,A 215 (i64.pr i64) [((0:Int),(1:Int)),((1:Int),(0:Int))] 0),(7,A 215 (i64.pr i64) [((0:Int),(0:Int)),((1:Int),(1:Int))] 0),(1,K 153 y153 a0)])<|vQ<|vB<|qA (Z [p 1 (R 1),p 3 (O 7),p 4 (O 10),p 11 (B (a0.1==(2:Int)))] [(10,A 215 (i64.pr i64) [((0:Int),(1:Int)),((1:Int),(0:Int))] 0),(7,A 215 (i64.pr i64) [((0:Int),(0:Int)),((1:Int),(1:Int))] 0),(1,K 153 y153 a0)])<|cD H (fun H=>?_) (fun H=>?_)
 ·refine qA (Z [p 2 (O 17)] [(17,A 215 (i64.pr i64) [((0:Int),(0:Int)),((0:Int),(1:Int))] 0),(10,A 215 (i64.pr i64) [((0:Int),(1:Int)),((1:Int),(0:Int))] 0),(7,A 215 (i64.pr i64) [((0:Int),(0:Int)),((1:Int),(1:Int))] 0),(1,K 153 y153 a0)])<|vTT<|fDD<|fR<|hr H
 refine qA (Z [p 1 (R 1),p 3 (O 7),p 4 (O 10),p 18 (B (a0.1==(3:Int)))] [(10,A 215 (i64.pr i64) [((0:Int),(1:Int)),((1:Int),(0:Int))] 0),(7,A 215 (i64.pr i64) [((0:Int),(0:Int)),((1:Int),(1:Int))] 0),(1,K 153 y153 a0)])<|cD H (fun H=>?_) (fun H=>?_)
 ·refine qA (Z [p 2 (O 24)] [(24,A 215 (i64.pr i64) [((1:Int),(0:Int)),((1:Int),(1:Int))] 0),(10,A 215 (i64.pr i64) [((0:Int),(1:Int)),((1:Int),(0:Int))] 0),(7,A 215 (i64.pr i64) [((0:Int),(0:Int)),((1:Int),(1:Int))] 0),(1,K 153 y153 a0)])<|vTT<|fDD<|fR<|hr H
 refine qA (Z [p 1 (R 1),p 3 (O 7),p 4 (O 10),p 25 (B (a0.1 != (1:Int)))] [(10,A 215 (i64.pr i64) [((0:Int),(1:Int)),((1:Int),(0:Int))] 0),(7,A 215 (i64.pr i64) [((0:Int),(0:Int)),((1:Int),(1:Int))] 0),(1,K 153 y153 a0)])<|cD H (fun H=>?_) (fun H=>?_)
 ·refine qA (Z [p 2 (nil)] [(10,A 215 (i64.pr i64) [((0:Int),(1:Int)),((1:Int),(0:Int))] 0),(7,A 215 (i64.pr i64) [((0:Int),(0:Int)),((1:Int),(1:Int))] 0),(1,K 153 y153 a0)])<|vTT<|fDD<|fR<|hr H
 refine qA (Z [p 1 (R 1),p 3 (O 7),p 4 (O 10),p 29 (B (a0.2.2.2.1==(1:Int)))] [(10,A 215 (i64.pr i64) [((0:Int),(1:Int)),((1:Int),(0:Int))] 0),(7,A 215 (i64.pr i64) [((0:Int),(0:Int)),((1:Int),(1:Int))] 0),(1,K 153 y153 a0)])<|cD H (fun H=>?_) (fun H=>?_)
 ·refine qA (Z [p 2 (O 7)] [(10,A 215 (i64.pr i64) [((0:Int),(1:Int)),((1:Int),(0:Int))] 0),(7,A 215 (i64.pr i64) [((0:Int),(0:Int)),((1:Int),(1:Int))] 0),(1,K 153 y153 a0)])<|vTT<|fDD<|fR<|hr H
 refine qA (Z [p 4 (O 10),p 34 (B (a0.2.2.2.1==(2:Int)))] [(10,A 215 (i64.pr i64) [((0:Int),(1:Int)),((1:Int),(0:Int))] 0),(7,A 215 (i64.pr i64) [((0:Int),(0:Int)),((1:Int),(1:Int))] 0),(1,K 153 y153 a0)])<|cD H (fun H=>?_) (fun H=>?_)
 ·refine qA (Z [p 2 (O 10)] [(10,A 215 (i64.pr i64) [((0:Int),(1:Int)),((1:Int),(0:Int))] 0),(7,A 215 (i64.pr i64) [((0:Int),(0:Int)),((1:Int),(1:Int))] 0),(1,K 153 y153 a0)])<|vTT<|fDD<|fR<|hr H
 refine vK<|fK<|fQ<|qC (fun v0=>Z [p 2 (O 43)] [(43,A 215 (i64.pr i64) v0 0),(10,A 215 (i64.pr i64) [((0:Int),(1:Int)),((1:Int),(0:Int))] 0),(7,A 215 (i64.pr i64) [((0:Int),(0:Int)),((1:Int),(1:Int))] 0),(1,K 153 y153 a0)]) H fun v0 H=>vTT<|hr H
def u122J0:List Y107->Option (List Y107)
 | v24 =>
 some v24
def u122J2(v12:Int)(g1:List Y107×Int->Option (List Y107)):List Y107->Option (List Y107)
 | v23 =>
 gd (in64 (v12+1)/\True) <|
 g1 (v23,v12+1)
def u122L3(a2:Int)(v13:Y153)(v12:Int)(v14:List (Int×Int))(g1:List Y107×Int->Option (List Y107))(g3:Int×List Y107->Option (List Y107)):Int×List Y107->Option (List Y107)
 | (v18,v19) =>
 if(decide (v18 < (v14.length:Int)))=true then
  gd (ix v18 v14.length/\v18.toNat<v14.length/\True)<|lt (v14.getD v18.toNat (dflt (i64.pr i64))) fun v20 =>
  gd (in64 (a2+v13.2.1)/\in64 ((2:Int)*(a2+v13.2.1))/\ix (0:Int) 2/\in64 ((2:Int)*(a2+v13.2.1)+v20.1)/\in64 (a2+v13.2.2.1)/\in64 ((2:Int)*(a2+v13.2.2.1))/\ix (1:Int) 2/\in64 ((2:Int)*(a2+v13.2.2.1)+v20.2)/\(v19.length+[((2:Int)*(a2+v13.2.1)+v20.1,(2:Int)*(a2+v13.2.2.1)+v20.2,(1:Int),v12)].length<=9223372036854775807/\(v19.length+[((2:Int)*(a2+v13.2.1)+v20.1,(2:Int)*(a2+v13.2.2.1)+v20.2,(1:Int),v12)].length)*32<=140737488355328)/\True)<|lt ((v19++[((2:Int)*(a2+v13.2.1)+v20.1,(2:Int)*(a2+v13.2.2.1)+v20.2,(1:Int),v12)],[((2:Int)*(a2+v13.2.1)+v20.1,(2:Int)*(a2+v13.2.2.1)+v20.2,(1:Int),v12)])) fun(v21,v22) =>
  gd (in64 (v18+1)/\True) <|
  g3 (v18+1,v21)
 else
  u122J2 v12 g1 v19
def u122L1(a2:Int)(v0:Y148)(g1:List Y107×Int->Option (List Y107)):List Y107×Int->Option (List Y107)
 | (v11,v12) =>
 if(decide (v12 < (v0.2.2.2.1.length:Int)))=true then
  gd (ix v12 v0.2.2.2.1.length/\True)<|lt (v0.2.2.2.1.getD v12.toNat (dflt y153)) fun v13 =>
  gd ((u166 v13).isSome=true/\True)<|lt (vl (u166 v13)) fun v14 =>
  lp (u122L3 a2 v13 v12 v14 g1) (0,v11)
 else
  u122J0 v11
def u122(a0:Y46)(a1:Y150)(a2:Int):Option (List Y107) :=
 gd (ix a1.2.1 a0.1.length/\True)<|lt (a0.1.getD a1.2.1.toNat (dflt y148)) fun v0 =>
 lp (u122L1 a2 v0) ([],0)
def k122:Ct:=lct 122 [.agg y46,.agg y150,.dat i64] (fun x=>u122 x.1 x.2.1 x.2.2.1) (fun r:List Y107=>AV.ow 107 true y107 r) (fun _=>())
theorem o122:Ok prog k122:=by
 refine okL [.tmp 6] func122 ntmps122 results122 ?_;intro y ⟨a0,a1,a2,_⟩ r H Q hn hr;have:HT _ _:=⟨tc o166 tn⟩;refine qA (Z [p 2 (J a2),p 3 (R 3),p 4 (R 4)] [(4,K 150 y150 a1),(3,K 46 y46 a0)])<|qA (Z [p 2 (J a2),p 3 (R 3),p 4 (R 4),p 7 (nil)] [(4,K 150 y150 a1),(3,K 46 y46 a0)])<|jN r (fun(v24:List Y107)=>Z [p 7 (O 53)] [(53,A 107 y107 v24 0)]) (u122J0) (fun v24 H=>?_) (fun _ n0 e0 t0=>?_)
 ·refine qA (Z [p 6 (O 53)] [(53,A 107 y107 v24 0)])<|vTT<|hr H
 refine qD (fun v0=>Z [p 2 (J a2),p 7 (nil),p 19 (L y153 v0.2.2.2.1),p 20 (I (v0.2.2.2.1.length:Int)),p 21 (I 0)] [(4,K 150 y150 a1),(3,K 46 y46 a0)]) H fun v0 H=>vB<|lX (fun((v11,v12):List Y107×Int)=>Z [p 2 (J a2),p 7 (O 53),p 19 (L y153 v0.2.2.2.1),p 20 (I (v0.2.2.2.1.length:Int)),p 21 (I v12)] [(53,A 107 y107 v11 0)]) ([],0) H fun _ g1 b1 e1 t1 ⟨v11,v12⟩ H=>qA (Z [p 2 (J a2),p 7 (O 53),p 19 (L y153 v0.2.2.2.1),p 20 (I (v0.2.2.2.1.length:Int)),p 21 (I v12),p 22 (B (decide (v12 < (v0.2.2.2.1.length:Int))))] [(53,A 107 y107 v11 0)])<|vQ<|cD H (fun H=>?_) (fun H=>?_)
 ·refine vK<|fQ<|jN r (fun(v23:List Y107)=>Z [p 2 (J a2),p 7 (O 53),p 19 (L y153 v0.2.2.2.1),p 20 (I (v0.2.2.2.1.length:Int)),p 21 (I v12)] [(53,A 107 y107 v23 0)]) (u122J2 v12 g1) (fun v23 H=>?_) (fun _ n2 e2 t2=>?_)
  ·refine zB (Z [p 2 (J a2),p 7 (O 53),p 19 (L y153 v0.2.2.2.1),p 20 (I (v0.2.2.2.1.length:Int)),p 21 (I (v12+1))] [(53,A 107 y107 v23 0)]) H fun H=>b1 H
  refine vB<|qD (fun v13=>Z [p 2 (J a2),p 7 (O 53),p 8 (I v12),p 9 (R 9),p 19 (L y153 v0.2.2.2.1),p 20 (I (v0.2.2.2.1.length:Int)),p 21 (I v12)] [(9,K 153 y153 v13),(53,A 107 y107 v11 0)]) H fun v13 H=>qD (fun v14=>Z [p 2 (J a2),p 7 (O 53),p 8 (I v12),p 9 (R 9),p 19 (L y153 v0.2.2.2.1),p 20 (I (v0.2.2.2.1.length:Int)),p 21 (I v12),p 27 (O 27),p 28 (I (v14.length:Int)),p 29 (I 0)] [(27,A 215 (i64.pr i64) v14 0),(9,K 153 y153 v13),(53,A 107 y107 v11 0)]) H fun v14 H=>vB<|lX (fun((v18,v19):Int×List Y107)=>Z [p 2 (J a2),p 7 (O 53),p 8 (I v12),p 9 (R 9),p 19 (L y153 v0.2.2.2.1),p 20 (I (v0.2.2.2.1.length:Int)),p 21 (I v12),p 27 (O 27),p 28 (I (v14.length:Int)),p 29 (I v18)] [(27,A 215 (i64.pr i64) v14 0),(9,K 153 y153 v13),(53,A 107 y107 v19 0)]) (0,v11) H fun _ g3 b3 e3 t3 ⟨v18,v19⟩ H=>qA (Z [p 2 (J a2),p 7 (O 53),p 8 (I v12),p 9 (R 9),p 19 (L y153 v0.2.2.2.1),p 20 (I (v0.2.2.2.1.length:Int)),p 21 (I v12),p 27 (O 27),p 28 (I (v14.length:Int)),p 29 (I v18),p 30 (B (decide (v18 < (v14.length:Int))))] [(27,A 215 (i64.pr i64) v14 0),(9,K 153 y153 v13),(53,A 107 y107 v19 0)])<|vQ<|cD H (fun H=>?_) (fun H=>?_)
  ·refine vK<|fQ<|vQ<|vB<|qD (fun v20=>Z [p 2 (J a2),p 7 (O 53),p 8 (I v12),p 9 (R 9),p 11 (R 11),p 19 (L y153 v0.2.2.2.1),p 20 (I (v0.2.2.2.1.length:Int)),p 21 (I v12),p 27 (O 27),p 28 (I (v14.length:Int)),p 29 (I v18)] [(11,Ob.box 215 (cellsD true (i64.pr i64) v20)),(27,A 215 (i64.pr i64) v14 0),(9,K 153 y153 v13),(53,A 107 y107 v19 0)]) H fun v20 H=>zD (fun(v21,v22)=>Z [p 2 (J a2),p 7 (AV.os 53 1),p 8 (I v12),p 9 (R 9),p 19 (L y153 v0.2.2.2.1),p 20 (I (v0.2.2.2.1.length:Int)),p 21 (I v12),p 27 (O 27),p 28 (I (v14.length:Int)),p 29 (I v18)] [(53,A 107 y107 v21 1),(52,A 107 y107 v22 0),(11,Ob.box 215 (cellsD true (i64.pr i64) v20)),(27,A 215 (i64.pr i64) v14 0),(9,K 153 y153 v13)]) H fun⟨v21,v22⟩ H =>
    fK<|fQ <|
    zB (Z [p 2 (J a2),p 7 (AV.os 53 1),p 8 (I v12),p 9 (R 9),p 19 (L y153 v0.2.2.2.1),p 20 (I (v0.2.2.2.1.length:Int)),p 21 (I v12),p 27 (O 27),p 28 (I (v14.length:Int)),p 29 (I (v18+1))] [(53,A 107 y107 v21 1),(52,A 107 y107 v22 0),(11,Ob.box 215 (cellsD true (i64.pr i64) v20)),(27,A 215 (i64.pr i64) v14 0),(9,K 153 y153 v13)]) H fun H =>
    b3 H
  exact vE<|fE<|e3<|fX rfl<|fK<|n2 H
 exact vE<|fE<|e1<|fX rfl<|n0 H
def u70J5(a0:Y46)(v0:List Y171):List Y107×List Int×List (List Int)->Option (Y113)
 | (v97,v98,v99) =>
 some (a0,v0,v97,v98,v99,[])
def u70J7(v71:Int)(g6:Int×List Int×List (List Int)×List Y107->Option (Y113)):List (List Int)×List Int×List Y107->Option (Y113)
 | (v94,v95,v96) =>
 gd (in64 (v71+1)/\True) <|
 g6 (v71+1,v95,v94,v96)
def u70J9(v85:Int)(g8:Int×List Y107->Option (Y113)):List Y107->Option (Y113)
 | v93 =>
 gd (in64 (v85+1)/\True) <|
 g8 (v85+1,v93)
def u70L10(v24:List Int)(v71:Int)(v23:List (List Int))(v85:Int)(g8:Int×List Y107->Option (Y113))(g10:Int×List Y107->Option (Y113)):Int×List Y107->Option (Y113)
 | (v89,v90) =>
 if(decide (v89<2))=true then
  gd (ix v71 v24.length/\v71.toNat<v24.length/\in64 ((2:Int)*v24.getD v71.toNat (0:Int))/\in64 ((2:Int)*v24.getD v71.toNat (0:Int)+v89)/\in64 ((2:Int)*List.getD (v23.getD v71.toNat []) v85.toNat (0:Int))/\in64 ((2:Int)*List.getD (v23.getD v71.toNat []) v85.toNat (0:Int)+v89)/\(v90.length+[((2:Int)*v24.getD v71.toNat (0:Int)+v89,(2:Int)*List.getD (v23.getD v71.toNat []) v85.toNat (0:Int)+v89,(2:Int),v85)].length<=9223372036854775807/\(v90.length+[((2:Int)*v24.getD v71.toNat (0:Int)+v89,(2:Int)*List.getD (v23.getD v71.toNat []) v85.toNat (0:Int)+v89,(2:Int),v85)].length)*32<=140737488355328)/\True)<|lt ((v90++[((2:Int)*v24.getD v71.toNat (0:Int)+v89,(2:Int)*List.getD (v23.getD v71.toNat []) v85.toNat (0:Int)+v89,(2:Int),v85)],[((2:Int)*v24.getD v71.toNat (0:Int)+v89,(2:Int)*List.getD (v23.getD v71.toNat []) v85.toNat (0:Int)+v89,(2:Int),v85)])) fun(v91,v92) =>
  gd (in64 (v89+1)/\True) <|
  g10 (v89+1,v91)
 else
  u70J9 v85 g8 v90
def u70L8(v24:List Int)(v71:Int)(v23:List (List Int))(v73:List (List Int))(v76:List Int)(v72:List Int)(v75:List Int)(g6:Int×List Int×List (List Int)×List Y107->Option (Y113))(g8:Int×List Y107->Option (Y113)):Int×List Y107->Option (Y113)
 | (v85,v86) =>
 if(decide (v85 < (↑(List.length (v23.getD v71.toNat [])):Int)))=true then
  gd (ix v85 (List.length (v23.getD v71.toNat []))/\True) <|
  lp (u70L10 v24 v71 v23 v85 g8) (0,v86)
 else
  u70J7 v71 g6 ((v73++[v76],v72++[v75.getD (Int.toNat (0:Int)) (0:Int)],v86))
def u70L6(v24:List Int)(v23:List (List Int))(a0:Y46)(v0:List Y171)(g6:Int×List Int×List (List Int)×List Y107->Option (Y113)):Int×List Int×List (List Int)×List Y107->Option (Y113)
 | (v71,v72,v73,v74) =>
 if(decide (v71 < (a0.2.2.length:Int)))=true then
  gd ((u124 a0 v71).isSome=true/\ix (0:Int) (vl (u124 a0 v71)).length/\Int.toNat (0:Int) < (vl (u124 a0 v71)).length/\(v72.length+[(vl (u124 a0 v71)).getD (Int.toNat (0:Int)) (0:Int)].length<=9223372036854775807/\(v72.length+[(vl (u124 a0 v71)).getD (Int.toNat (0:Int)) (0:Int)].length)*8<=140737488355328)/\True)<|lt (vl (u124 a0 v71)) fun v75 =>
  gd ((u125 a0 v71).isSome=true/\(v73.length+[vl (u125 a0 v71)].length<=9223372036854775807/\(v73.length+[vl (u125 a0 v71)].length)*24<=140737488355328)/\True)<|lt (vl (u125 a0 v71)) fun v76 =>
  gd (ix v71 v23.length/\True) <|
  lp (u70L8 v24 v71 v23 v73 v76 v72 v75 g6) (0,v74)
 else
  u70J5 a0 v0 (v74,v72,v73)
def u70J2(a0:Y46)(v0:List Y171)(v10:List Y107):List (List Int)×List Int->Option (Y113)
 | (v23,v24) =>
 lp (u70L6 v24 v23 a0 v0) (0,[],[],v10)
def u70J4(v16:Int)(g3:Int×List (List Int)×List Int->Option (Y113)):List Int×List (List Int)->Option (Y113)
 | (v21,v22) =>
 gd (in64 (v16+1)/\True) <|
 g3 (v16+1,v22,v21)
def u70L3(v0:List Y171)(a0:Y46)(v10:List Y107)(g3:Int×List (List Int)×List Int->Option (Y113)):Int×List (List Int)×List Int->Option (Y113)
 | (v16,v17,v18) =>
 if(decide (v16 < (v0.length:Int)))=true then
  gd (ix v16 v0.length/\v16.toNat<v0.length/\True)<|lt (v0.getD v16.toNat (dflt y171)) fun v19 =>
  if v19.2.2.2=true then
   gd (ix v19.2.2.1 v18.length/\v19.2.2.1.toNat<v18.length/\True) <|
   u70J4 v16 g3 (v18.set v19.2.2.1.toNat v16,v17)
  else
   gd (ix v19.2.2.1 v17.length/\v19.2.2.1.toNat<v17.length/\((v17.getD v19.2.2.1.toNat []).length+[v16].length<=9223372036854775807/\((v17.getD v19.2.2.1.toNat []).length+[v16].length)*8<=140737488355328)/\ix v19.2.2.1 v17.length/\(v19.2.2.1.toNat<v17.length/\v19.2.2.1.toNat=v19.2.2.1.toNat)/\True)<|lt (v17.set v19.2.2.1.toNat (v17.getD v19.2.2.1.toNat []++[v16])) fun v20 =>
   u70J4 v16 g3 (v18,v20)
 else
  u70J2 a0 v0 v10 (v17,v18)
def u70J0(v0:List Y171)(a0:Y46):List Y107->Option (Y113)
 | v10 =>
 gd ((0<=(a0.2.2.length:Int)/\(a0.2.2.length:Int)=(a0.2.2.length:Int)/\(a0.2.2.length:Int).toNat*8<=281474976710656/\(a0.2.2.length:Int)<=9223372036854775807)/\True) <|
 gd ((0<=(a0.2.2.length:Int)/\(a0.2.2.length:Int)=(a0.2.2.length:Int)/\(a0.2.2.length:Int).toNat*24<=281474976710656/\(a0.2.2.length:Int)<=9223372036854775807)/\True) <|
 lp (u70L3 v0 a0 v10) ((0,List.replicate (a0.2.2.length:Int).toNat [],List.replicate (a0.2.2.length:Int).toNat 0))
def u70L1(a0:Y46)(v0:List Y171)(g1:Int×Int×List Y107->Option (Y113)):Int×Int×List Y107->Option (Y113)
 | (v4,v5,v6) =>
 if(decide (v5 < (a0.2.1.1.length:Int)))=true then
  gd (ix v5 a0.2.1.1.length/\True)<|lt (a0.2.1.1.getD v5.toNat (dflt y150)) fun v7 =>
  gd ((u122 a0 v7 v4).isSome=true/\(v6.length+(vl (u122 a0 v7 v4)).length<=9223372036854775807/\(v6.length+(vl (u122 a0 v7 v4)).length)*32<=140737488355328)/\True)<|lt (vl (u122 a0 v7 v4)) fun v8 =>
  gd ((u123 v7.2.2).isSome=true/\in64 (v4+vl (u123 v7.2.2))/\True)<|lt (vl (u123 v7.2.2)) fun v9 =>
  gd (in64 (v5+1)/\True) <|
  g1 (v4+v9,v5+1,v6++v8)
 else
  u70J0 v0 a0 v6
def u70(a0:Y46):Option (Y113) :=
 gd ((u120 a0.2.1).isSome=true/\True)<|lt (vl (u120 a0.2.1)) fun v0 =>
 lp (u70L1 a0 v0) (0,0,[])
def k70:Ct:=lct 70 [.agg y46] (fun x=>u70 x.1) (fun r:Y113=>D y113.pt r) (fun _=>())
theorem o70:Ok prog k70:=by
 refine okL [.tmp 2] func70 ntmps70 results70 ?_;intro y ⟨a0,_⟩ r H Q hn hr;have:HT _ _:=⟨tc o125d (tc o124 (tc o123 (tc o122 (tc o120 tn))))⟩;refine qA (Z [p 1 (R 1)] [(1,K 46 y46 a0)])<|qD (fun v0=>Z [p 1 (R 1),p 3 (R 20)] [(20,Ob.box 113 [L y148 a0.1,L y150 a0.2.1.1,L Ty.str a0.2.1.2.1,L y190 a0.2.1.2.2,L y126 a0.2.2,AV.os 18 0,nil,nil,nil,nil]),(18,A 171 y171 v0 0),(1,K 46 y46 a0)]) H fun v0 H=>qA (Z [p 1 (R 1),p 3 (R 20),p 4 (I 0)] [(20,Ob.box 113 [L y148 a0.1,L y150 a0.2.1.1,L Ty.str a0.2.1.2.1,L y190 a0.2.1.2.2,L y126 a0.2.2,AV.os 18 0,nil,nil,nil,nil]),(18,A 171 y171 v0 0),(1,K 46 y46 a0)])<|jN r (fun(v10:List Y107)=>Z [p 1 (R 1),p 3 (R 20)] [(20,Ob.box 113 [L y148 a0.1,L y150 a0.2.1.1,L Ty.str a0.2.1.2.1,L y190 a0.2.1.2.2,L y126 a0.2.2,AV.os 18 0,AV.os 38 0,nil,nil,nil]),(18,A 171 y171 v0 0),(1,K 46 y46 a0),(38,A 107 y107 v10 0)]) (u70J0 v0 a0) (fun v10 H=>?_) (fun _ n0 e0 t0=>?_)
 ·refine qB (Z [p 1 (R 1),p 3 (R 20),p 7 (O 50)] [(50,A 2 i64 (List.replicate (a0.2.2.length:Int).toNat 0) 0),(20,Ob.box 113 [L y148 a0.1,L y150 a0.2.1.1,L Ty.str a0.2.1.2.1,L y190 a0.2.1.2.2,L y126 a0.2.2,AV.os 18 0,AV.os 38 0,nil,nil,nil]),(18,A 171 y171 v0 0),(1,K 46 y46 a0),(38,A 107 y107 v10 0)]) H fun H=>qB (Z [p 1 (R 1),p 3 (R 20),p 7 (O 50),p 8 (AV.og 54)] [(54,Ob.grd 33 2 true i64 (List.replicate (a0.2.2.length:Int).toNat []) none),(50,A 2 i64 (List.replicate (a0.2.2.length:Int).toNat 0) 0),(20,Ob.box 113 [L y148 a0.1,L y150 a0.2.1.1,L Ty.str a0.2.1.2.1,L y190 a0.2.1.2.2,L y126 a0.2.2,AV.os 18 0,AV.os 38 0,nil,nil,nil]),(18,A 171 y171 v0 0),(1,K 46 y46 a0),(38,A 107 y107 v10 0)]) H fun H=>jN r (fun((v23,v24):List (List Int)×List Int)=>Z [p 1 (R 1),p 3 (R 20),p 7 (O 50),p 8 (AV.og 54)] [(54,Ob.grd 33 2 true i64 v23 none),(50,A 2 i64 v24 0),(20,Ob.box 113 [L y148 a0.1,L y150 a0.2.1.1,L Ty.str a0.2.1.2.1,L y190 a0.2.1.2.2,L y126 a0.2.2,AV.os 18 0,AV.os 38 0,nil,nil,nil]),(18,A 171 y171 v0 0),(1,K 46 y46 a0),(38,A 107 y107 v10 0)]) (u70J2 a0 v0 v10) (fun⟨v23,v24⟩ H=>?_) (fun _ n2 e2 t2=>?_)
  ·refine jN r (fun((v97,v98,v99):List Y107×List Int×List (List Int))=>Z [p 3 (R 20)] [(20,Ob.box 113 [L y148 a0.1,L y150 a0.2.1.1,L Ty.str a0.2.1.2.1,L y190 a0.2.1.2.2,L y126 a0.2.2,AV.os 18 0,AV.os 38 0,AV.os 102 0,AV.os 114 0,nil]),(18,A 171 y171 v0 0),(38,A 107 y107 v97 0),(102,A 2 i64 v98 0),(114,A 33 i64.sl v99 0)]) (u70J5 a0 v0) (fun⟨v97,v98,v99⟩ H=>?_) (fun _ n5 e5 t5=>?_)
   ·refine qA (Z [p 2 (R 20)] [(20,Ob.box 113 [L y148 a0.1,L y150 a0.2.1.1,L Ty.str a0.2.1.2.1,L y190 a0.2.1.2.2,L y126 a0.2.2,AV.os 18 0,AV.os 38 0,AV.os 102 0,AV.os 114 0,nil]),(18,A 171 y171 v0 0),(38,A 107 y107 v97 0),(102,A 2 i64 v98 0),(114,A 33 i64.sl v99 0)])<|vTT<|hr H
   refine qA (Z [p 1 (R 1),p 3 (R 20),p 7 (O 50),p 8 (AV.og 54),p 87 (I (a0.2.2.length:Int)),p 88 (I 0)] [(54,Ob.grd 33 2 true i64 v23 none),(50,A 2 i64 v24 0),(20,Ob.box 113 [L y148 a0.1,L y150 a0.2.1.1,L Ty.str a0.2.1.2.1,L y190 a0.2.1.2.2,L y126 a0.2.2,AV.os 18 0,AV.os 38 0,nil,nil,nil]),(18,A 171 y171 v0 0),(1,K 46 y46 a0),(38,A 107 y107 v10 0)])<|vB<|fZ 54 (Z [p 1 (R 1),p 3 (R 20),p 7 (O 50),p 8 (M i64.sl v23),p 87 (I (a0.2.2.length:Int)),p 88 (I 0)] [(50,A 2 i64 v24 0),(20,Ob.box 113 [L y148 a0.1,L y150 a0.2.1.1,L Ty.str a0.2.1.2.1,L y190 a0.2.1.2.2,L y126 a0.2.2,AV.os 18 0,AV.os 38 0,nil,nil,nil]),(18,A 171 y171 v0 0),(1,K 46 y46 a0),(38,A 107 y107 v10 0)])<|lX (fun((v71,v72,v73,v74):Int×List Int×List (List Int)×List Y107)=>Z [p 1 (R 1),p 3 (R 20),p 7 (O 50),p 8 (M i64.sl v23),p 87 (I (a0.2.2.length:Int)),p 88 (I v71)] [(50,A 2 i64 v24 0),(20,Ob.box 113 [L y148 a0.1,L y150 a0.2.1.1,L Ty.str a0.2.1.2.1,L y190 a0.2.1.2.2,L y126 a0.2.2,AV.os 18 0,AV.os 38 0,AV.os 102 0,AV.os 114 0,nil]),(18,A 171 y171 v0 0),(1,K 46 y46 a0),(38,A 107 y107 v74 0),(102,A 2 i64 v72 0),(114,A 33 i64.sl v73 0)]) (0,[],[],v10) H fun _ g6 b6 e6 t6 ⟨v71,v72,v73,v74⟩ H=>qA (Z [p 1 (R 1),p 3 (R 20),p 7 (O 50),p 8 (M i64.sl v23),p 87 (I (a0.2.2.length:Int)),p 88 (I v71),p 89 (B (decide (v71 < (a0.2.2.length:Int))))] [(50,A 2 i64 v24 0),(20,Ob.box 113 [L y148 a0.1,L y150 a0.2.1.1,L Ty.str a0.2.1.2.1,L y190 a0.2.1.2.2,L y126 a0.2.2,AV.os 18 0,AV.os 38 0,AV.os 102 0,AV.os 114 0,nil]),(18,A 171 y171 v0 0),(1,K 46 y46 a0),(38,A 107 y107 v74 0),(102,A 2 i64 v72 0),(114,A 33 i64.sl v73 0)])<|vQ<|cD H (fun H=>?_) (fun H=>?_)
   ·refine vK<|fQ<|jN r (fun((v94,v95,v96):List (List Int)×List Int×List Y107)=>Z [p 1 (R 1),p 3 (R 20),p 7 (O 50),p 8 (M i64.sl v23),p 87 (I (a0.2.2.length:Int)),p 88 (I v71)] [(20,Ob.box 113 [L y148 a0.1,L y150 a0.2.1.1,L Ty.str a0.2.1.2.1,L y190 a0.2.1.2.2,L y126 a0.2.2,AV.os 18 0,AV.os 38 0,AV.os 102 0,AV.os 114 0,nil]),(114,A 33 i64.sl v94 0),(102,A 2 i64 v95 0),(50,A 2 i64 v24 0),(18,A 171 y171 v0 0),(1,K 46 y46 a0),(38,A 107 y107 v96 0)]) (u70J7 v71 g6) (fun⟨v94,v95,v96⟩ H=>?_) (fun _ n7 e7 t7=>?_)
    ·refine zB (Z [p 1 (R 1),p 3 (R 20),p 7 (O 50),p 8 (M i64.sl v23),p 87 (I (a0.2.2.length:Int)),p 88 (I (v71+1))] [(20,Ob.box 113 [L y148 a0.1,L y150 a0.2.1.1,L Ty.str a0.2.1.2.1,L y190 a0.2.1.2.2,L y126 a0.2.2,AV.os 18 0,AV.os 38 0,AV.os 102 0,AV.os 114 0,nil]),(114,A 33 i64.sl v94 0),(102,A 2 i64 v95 0),(50,A 2 i64 v24 0),(18,A 171 y171 v0 0),(1,K 46 y46 a0),(38,A 107 y107 v96 0)]) H fun H=>b6 H
    refine vB<|qA (Z [p 1 (R 1),p 3 (R 20),p 7 (O 50),p 8 (M i64.sl v23),p 11 (I v71),p 87 (I (a0.2.2.length:Int)),p 88 (I v71)] [(50,A 2 i64 v24 0),(20,Ob.box 113 [L y148 a0.1,L y150 a0.2.1.1,L Ty.str a0.2.1.2.1,L y190 a0.2.1.2.2,L y126 a0.2.2,AV.os 18 0,AV.os 38 0,AV.os 102 0,AV.os 114 0,nil]),(18,A 171 y171 v0 0),(1,K 46 y46 a0),(38,A 107 y107 v74 0),(102,A 2 i64 v72 0),(114,A 33 i64.sl v73 0)])<|qD (fun v75=>Z [p 1 (R 1),p 3 (R 20),p 7 (O 50),p 8 (M i64.sl v23),p 11 (I v71),p 87 (I (a0.2.2.length:Int)),p 88 (I v71)] [(20,Ob.box 113 [L y148 a0.1,L y150 a0.2.1.1,L Ty.str a0.2.1.2.1,L y190 a0.2.1.2.2,L y126 a0.2.2,AV.os 18 0,AV.os 38 0,AV.os 102 1,AV.os 114 0,nil]),(102,A 2 i64 (v72++[v75.getD (Int.toNat (0:Int)) (0:Int)]) 1),(101,A 2 i64 [v75.getD (Int.toNat (0:Int)) (0:Int)] 0),(98,A 2 i64 v75 0),(50,A 2 i64 v24 0),(18,A 171 y171 v0 0),(1,K 46 y46 a0),(38,A 107 y107 v74 0),(114,A 33 i64.sl v73 0)]) H fun v75 H=>qD (fun v76=>Z [p 1 (R 1),p 3 (R 20),p 7 (O 50),p 8 (M i64.sl v23),p 11 (I v71),p 87 (I (a0.2.2.length:Int)),p 88 (I v71)] [(20,Ob.box 113 [L y148 a0.1,L y150 a0.2.1.1,L Ty.str a0.2.1.2.1,L y190 a0.2.1.2.2,L y126 a0.2.2,AV.os 18 0,AV.os 38 0,AV.os 102 1,AV.os 114 1,nil]),(114,A 33 i64.sl (v73++[v76]) 1),(113,A 33 i64.sl [v76] 0),(102,A 2 i64 (v72++[v75.getD (Int.toNat (0:Int)) (0:Int)]) 1),(101,A 2 i64 [v75.getD (Int.toNat (0:Int)) (0:Int)] 0),(98,A 2 i64 v75 0),(50,A 2 i64 v24 0),(18,A 171 y171 v0 0),(1,K 46 y46 a0),(38,A 107 y107 v74 0)]) H fun v76 H=>qB (Z [p 1 (R 1),p 3 (R 20),p 7 (O 50),p 8 (M i64.sl v23),p 11 (I v71),p 87 (I (a0.2.2.length:Int)),p 88 (I v71),p 120 (M i64 (v23.getD v71.toNat [])),p 121 (I (↑(List.length (v23.getD v71.toNat [])):Int)),p 122 (I (0:Int))] [(20,Ob.box 113 [L y148 a0.1,L y150 a0.2.1.1,L Ty.str a0.2.1.2.1,L y190 a0.2.1.2.2,L y126 a0.2.2,AV.os 18 0,AV.os 38 0,AV.os 102 1,AV.os 114 1,nil]),(114,A 33 i64.sl (v73++[v76]) 1),(113,A 33 i64.sl [v76] 0),(102,A 2 i64 (v72++[v75.getD (Int.toNat (0:Int)) (0:Int)]) 1),(101,A 2 i64 [v75.getD (Int.toNat (0:Int)) (0:Int)] 0),(98,A 2 i64 v75 0),(50,A 2 i64 v24 0),(18,A 171 y171 v0 0),(1,K 46 y46 a0),(38,A 107 y107 v74 0)]) H fun H=>vB<|lX (fun((v85,v86):Int×List Y107)=>Z [p 1 (R 1),p 3 (R 20),p 7 (O 50),p 8 (M i64.sl v23),p 11 (I v71),p 87 (I (a0.2.2.length:Int)),p 88 (I v71),p 120 (M i64 (v23.getD v71.toNat [])),p 121 (I (↑(List.length (v23.getD v71.toNat [])):Int)),p 122 (I v85)] [(20,Ob.box 113 [L y148 a0.1,L y150 a0.2.1.1,L Ty.str a0.2.1.2.1,L y190 a0.2.1.2.2,L y126 a0.2.2,AV.os 18 0,AV.os 38 0,AV.os 102 0,AV.os 114 0,nil]),(114,A 33 i64.sl (v73++[v76]) 0),(102,A 2 i64 (v72++[v75.getD (Int.toNat (0:Int)) (0:Int)]) 0),(50,A 2 i64 v24 0),(18,A 171 y171 v0 0),(1,K 46 y46 a0),(38,A 107 y107 v86 0)]) (0,v74) H fun _ g8 b8 e8 t8 ⟨v85,v86⟩ H=>qA (Z [p 1 (R 1),p 3 (R 20),p 7 (O 50),p 8 (M i64.sl v23),p 11 (I v71),p 87 (I (a0.2.2.length:Int)),p 88 (I v71),p 120 (M i64 (v23.getD v71.toNat [])),p 121 (I (↑(List.length (v23.getD v71.toNat [])):Int)),p 122 (I v85),p 123 (B (decide (v85 < (↑(List.length (v23.getD v71.toNat [])):Int))))] [(20,Ob.box 113 [L y148 a0.1,L y150 a0.2.1.1,L Ty.str a0.2.1.2.1,L y190 a0.2.1.2.2,L y126 a0.2.2,AV.os 18 0,AV.os 38 0,AV.os 102 0,AV.os 114 0,nil]),(114,A 33 i64.sl (v73++[v76]) 0),(102,A 2 i64 (v72++[v75.getD (Int.toNat (0:Int)) (0:Int)]) 0),(50,A 2 i64 v24 0),(18,A 171 y171 v0 0),(1,K 46 y46 a0),(38,A 107 y107 v86 0)])<|vQ<|cD H (fun H=>?_) (fun H=>?_)
    ·refine vK<|fQ<|jN r (fun(v93:List Y107)=>Z [p 1 (R 1),p 3 (R 20),p 7 (O 50),p 8 (M i64.sl v23),p 11 (I v71),p 87 (I (a0.2.2.length:Int)),p 88 (I v71),p 120 (M i64 (v23.getD v71.toNat [])),p 121 (I (↑(List.length (v23.getD v71.toNat [])):Int)),p 122 (I v85)] [(20,Ob.box 113 [L y148 a0.1,L y150 a0.2.1.1,L Ty.str a0.2.1.2.1,L y190 a0.2.1.2.2,L y126 a0.2.2,AV.os 18 0,AV.os 38 0,AV.os 102 0,AV.os 114 0,nil]),(114,A 33 i64.sl (v73++[v76]) 0),(102,A 2 i64 (v72++[v75.getD (Int.toNat (0:Int)) (0:Int)]) 0),(50,A 2 i64 v24 0),(18,A 171 y171 v0 0),(1,K 46 y46 a0),(38,A 107 y107 v93 0)]) (u70J9 v85 g8) (fun v93 H=>?_) (fun _ n9 e9 t9=>?_)
     ·refine zB (Z [p 1 (R 1),p 3 (R 20),p 7 (O 50),p 8 (M i64.sl v23),p 11 (I v71),p 87 (I (a0.2.2.length:Int)),p 88 (I v71),p 120 (M i64 (v23.getD v71.toNat [])),p 121 (I (↑(List.length (v23.getD v71.toNat [])):Int)),p 122 (I (v85+(1:Int)))] [(20,Ob.box 113 [L y148 a0.1,L y150 a0.2.1.1,L Ty.str a0.2.1.2.1,L y190 a0.2.1.2.2,L y126 a0.2.2,AV.os 18 0,AV.os 38 0,AV.os 102 0,AV.os 114 0,nil]),(114,A 33 i64.sl (v73++[v76]) 0),(102,A 2 i64 (v72++[v75.getD (Int.toNat (0:Int)) (0:Int)]) 0),(50,A 2 i64 v24 0),(18,A 171 y171 v0 0),(1,K 46 y46 a0),(38,A 107 y107 v93 0)]) H fun H=>b8 H
     refine vB<|qB (Z [p 1 (R 1),p 3 (R 20),p 7 (O 50),p 8 (M i64.sl v23),p 11 (I v71),p 12 (I v85),p 13 (I (List.getD (v23.getD v71.toNat []) v85.toNat (0:Int))),p 87 (I (a0.2.2.length:Int)),p 88 (I v71),p 120 (M i64 (v23.getD v71.toNat [])),p 121 (I (↑(List.length (v23.getD v71.toNat [])):Int)),p 122 (I v85)] [(20,Ob.box 113 [L y148 a0.1,L y150 a0.2.1.1,L Ty.str a0.2.1.2.1,L y190 a0.2.1.2.2,L y126 a0.2.2,AV.os 18 0,AV.os 38 0,AV.os 102 0,AV.os 114 0,nil]),(114,A 33 i64.sl (v73++[v76]) 0),(102,A 2 i64 (v72++[v75.getD (Int.toNat (0:Int)) (0:Int)]) 0),(50,A 2 i64 v24 0),(18,A 171 y171 v0 0),(1,K 46 y46 a0),(38,A 107 y107 v86 0)]) H fun H=>qA (Z [p 1 (R 1),p 3 (R 20),p 7 (O 50),p 8 (M i64.sl v23),p 11 (I v71),p 12 (I v85),p 13 (I (List.getD (v23.getD v71.toNat []) v85.toNat (0:Int))),p 87 (I (a0.2.2.length:Int)),p 88 (I v71),p 120 (M i64 (v23.getD v71.toNat [])),p 121 (I (↑(List.length (v23.getD v71.toNat [])):Int)),p 122 (I v85),p 127 (I (0:Int))] [(20,Ob.box 113 [L y148 a0.1,L y150 a0.2.1.1,L Ty.str a0.2.1.2.1,L y190 a0.2.1.2.2,L y126 a0.2.2,AV.os 18 0,AV.os 38 0,AV.os 102 0,AV.os 114 0,nil]),(114,A 33 i64.sl (v73++[v76]) 0),(102,A 2 i64 (v72++[v75.getD (Int.toNat (0:Int)) (0:Int)]) 0),(50,A 2 i64 v24 0),(18,A 171 y171 v0 0),(1,K 46 y46 a0),(38,A 107 y107 v86 0)])<|vB<|lX (fun((v89,v90):Int×List Y107)=>Z [p 1 (R 1),p 3 (R 20),p 7 (O 50),p 8 (M i64.sl v23),p 11 (I v71),p 12 (I v85),p 13 (I (List.getD (v23.getD v71.toNat []) v85.toNat (0:Int))),p 87 (I (a0.2.2.length:Int)),p 88 (I v71),p 120 (M i64 (v23.getD v71.toNat [])),p 121 (I (↑(List.length (v23.getD v71.toNat [])):Int)),p 122 (I v85),p 127 (I v89)] [(20,Ob.box 113 [L y148 a0.1,L y150 a0.2.1.1,L Ty.str a0.2.1.2.1,L y190 a0.2.1.2.2,L y126 a0.2.2,AV.os 18 0,AV.os 38 0,AV.os 102 0,AV.os 114 0,nil]),(114,A 33 i64.sl (v73++[v76]) 0),(102,A 2 i64 (v72++[v75.getD (Int.toNat (0:Int)) (0:Int)]) 0),(50,A 2 i64 v24 0),(18,A 171 y171 v0 0),(1,K 46 y46 a0),(38,A 107 y107 v90 0)]) (0,v86) H fun _ g10 b10 e10 t10 ⟨v89,v90⟩ H=>qA (Z [p 1 (R 1),p 3 (R 20),p 7 (O 50),p 8 (M i64.sl v23),p 11 (I v71),p 12 (I v85),p 13 (I (List.getD (v23.getD v71.toNat []) v85.toNat (0:Int))),p 87 (I (a0.2.2.length:Int)),p 88 (I v71),p 120 (M i64 (v23.getD v71.toNat [])),p 121 (I (↑(List.length (v23.getD v71.toNat [])):Int)),p 122 (I v85),p 127 (I v89),p 128 (B (decide (v89 < (2:Int))))] [(20,Ob.box 113 [L y148 a0.1,L y150 a0.2.1.1,L Ty.str a0.2.1.2.1,L y190 a0.2.1.2.2,L y126 a0.2.2,AV.os 18 0,AV.os 38 0,AV.os 102 0,AV.os 114 0,nil]),(114,A 33 i64.sl (v73++[v76]) 0),(102,A 2 i64 (v72++[v75.getD (Int.toNat (0:Int)) (0:Int)]) 0),(50,A 2 i64 v24 0),(18,A 171 y171 v0 0),(1,K 46 y46 a0),(38,A 107 y107 v90 0)])<|vQ<|cD H (fun H=>?_) (fun H=>?_)
     ·refine vK<|fQ<|vQ<|vB<|qA (Z [p 1 (R 1),p 3 (R 20),p 7 (O 50),p 8 (M i64.sl v23),p 11 (I v71),p 12 (I v85),p 13 (I (List.getD (v23.getD v71.toNat []) v85.toNat (0:Int))),p 14 (I v89),p 87 (I (a0.2.2.length:Int)),p 88 (I v71),p 120 (M i64 (v23.getD v71.toNat [])),p 121 (I (↑(List.length (v23.getD v71.toNat [])):Int)),p 122 (I v85),p 127 (I v89)] [(20,Ob.box 113 [L y148 a0.1,L y150 a0.2.1.1,L Ty.str a0.2.1.2.1,L y190 a0.2.1.2.2,L y126 a0.2.2,AV.os 18 0,AV.os 38 0,AV.os 102 0,AV.os 114 0,nil]),(114,A 33 i64.sl (v73++[v76]) 0),(102,A 2 i64 (v72++[v75.getD (Int.toNat (0:Int)) (0:Int)]) 0),(50,A 2 i64 v24 0),(18,A 171 y171 v0 0),(1,K 46 y46 a0),(38,A 107 y107 v90 0)])<|zD (fun(v91,v92)=>Z [p 1 (R 1),p 3 (R 20),p 7 (O 50),p 8 (M i64.sl v23),p 11 (I v71),p 12 (I v85),p 13 (I (List.getD (v23.getD v71.toNat []) v85.toNat (0:Int))),p 87 (I (a0.2.2.length:Int)),p 88 (I v71),p 120 (M i64 (v23.getD v71.toNat [])),p 121 (I (↑(List.length (v23.getD v71.toNat [])):Int)),p 122 (I v85),p 127 (I v89)] [(20,Ob.box 113 [L y148 a0.1,L y150 a0.2.1.1,L Ty.str a0.2.1.2.1,L y190 a0.2.1.2.2,L y126 a0.2.2,AV.os 18 0,AV.os 38 1,AV.os 102 0,AV.os 114 0,nil]),(38,A 107 y107 v91 1),(148,A 107 y107 v92 0),(114,A 33 i64.sl (v73++[v76]) 0),(102,A 2 i64 (v72++[v75.getD (Int.toNat (0:Int)) (0:Int)]) 0),(50,A 2 i64 v24 0),(18,A 171 y171 v0 0),(1,K 46 y46 a0)]) H fun⟨v91,v92⟩ H =>
       fK<|fQ <|
       zB (Z [p 1 (R 1),p 3 (R 20),p 7 (O 50),p 8 (M i64.sl v23),p 11 (I v71),p 12 (I v85),p 13 (I (List.getD (v23.getD v71.toNat []) v85.toNat (0:Int))),p 87 (I (a0.2.2.length:Int)),p 88 (I v71),p 120 (M i64 (v23.getD v71.toNat [])),p 121 (I (↑(List.length (v23.getD v71.toNat [])):Int)),p 122 (I v85),p 127 (I (v89+(1:Int)))] [(20,Ob.box 113 [L y148 a0.1,L y150 a0.2.1.1,L Ty.str a0.2.1.2.1,L y190 a0.2.1.2.2,L y126 a0.2.2,AV.os 18 0,AV.os 38 1,AV.os 102 0,AV.os 114 0,nil]),(38,A 107 y107 v91 1),(148,A 107 y107 v92 0),(114,A 33 i64.sl (v73++[v76]) 0),(102,A 2 i64 (v72++[v75.getD (Int.toNat (0:Int)) (0:Int)]) 0),(50,A 2 i64 v24 0),(18,A 171 y171 v0 0),(1,K 46 y46 a0)]) H fun H =>
       b10 H
     exact vE<|fE<|e10<|fX rfl<|fK<|n9 H
    exact vE<|fE<|e8<|fX rfl<|fK<|n7 H
   exact vE<|fE<|e6<|fX rfl<|n5 H
  refine qA (Z [p 1 (R 1),p 3 (R 20),p 7 (O 50),p 8 (AV.og 54),p 58 (O 18),p 59 (I (v0.length:Int)),p 60 (I 0)] [(54,Ob.grd 33 2 true i64 (List.replicate (a0.2.2.length:Int).toNat []) none),(50,A 2 i64 (List.replicate (a0.2.2.length:Int).toNat 0) 0),(20,Ob.box 113 [L y148 a0.1,L y150 a0.2.1.1,L Ty.str a0.2.1.2.1,L y190 a0.2.1.2.2,L y126 a0.2.2,AV.os 18 0,AV.os 38 0,nil,nil,nil]),(18,A 171 y171 v0 0),(1,K 46 y46 a0),(38,A 107 y107 v10 0)])<|vB<|lX (fun((v16,v17,v18):Int×List (List Int)×List Int)=>Z [p 1 (R 1),p 3 (R 20),p 7 (O 50),p 8 (AV.og 54),p 58 (O 18),p 59 (I (v0.length:Int)),p 60 (I v16)] [(54,Ob.grd 33 2 true i64 v17 none),(50,A 2 i64 v18 0),(20,Ob.box 113 [L y148 a0.1,L y150 a0.2.1.1,L Ty.str a0.2.1.2.1,L y190 a0.2.1.2.2,L y126 a0.2.2,AV.os 18 0,AV.os 38 0,nil,nil,nil]),(18,A 171 y171 v0 0),(1,K 46 y46 a0),(38,A 107 y107 v10 0)]) ((0,List.replicate (a0.2.2.length:Int).toNat [],List.replicate (a0.2.2.length:Int).toNat 0)) H fun _ g3 b3 e3 t3 ⟨v16,v17,v18⟩ H=>qA (Z [p 1 (R 1),p 3 (R 20),p 7 (O 50),p 8 (AV.og 54),p 58 (O 18),p 59 (I (v0.length:Int)),p 60 (I v16),p 61 (B (decide (v16 < (v0.length:Int))))] [(54,Ob.grd 33 2 true i64 v17 none),(50,A 2 i64 v18 0),(20,Ob.box 113 [L y148 a0.1,L y150 a0.2.1.1,L Ty.str a0.2.1.2.1,L y190 a0.2.1.2.2,L y126 a0.2.2,AV.os 18 0,AV.os 38 0,nil,nil,nil]),(18,A 171 y171 v0 0),(1,K 46 y46 a0),(38,A 107 y107 v10 0)])<|vQ<|cD H (fun H=>?_) (fun H=>?_)
  ·refine vK<|fQ<|jN r (fun((v21,v22):List Int×List (List Int))=>Z [p 1 (R 1),p 3 (R 20),p 7 (O 50),p 8 (AV.og 54),p 58 (O 18),p 59 (I (v0.length:Int)),p 60 (I v16)] [(50,A 2 i64 v21 0),(54,Ob.grd 33 2 true i64 v22 none),(20,Ob.box 113 [L y148 a0.1,L y150 a0.2.1.1,L Ty.str a0.2.1.2.1,L y190 a0.2.1.2.2,L y126 a0.2.2,AV.os 18 0,AV.os 38 0,nil,nil,nil]),(18,A 171 y171 v0 0),(1,K 46 y46 a0),(38,A 107 y107 v10 0)]) (u70J4 v16 g3) (fun⟨v21,v22⟩ H=>?_) (fun _ n4 e4 t4=>?_)
   ·refine zB (Z [p 1 (R 1),p 3 (R 20),p 7 (O 50),p 8 (AV.og 54),p 58 (O 18),p 59 (I (v0.length:Int)),p 60 (I (v16+1))] [(50,A 2 i64 v21 0),(54,Ob.grd 33 2 true i64 v22 none),(20,Ob.box 113 [L y148 a0.1,L y150 a0.2.1.1,L Ty.str a0.2.1.2.1,L y190 a0.2.1.2.2,L y126 a0.2.2,AV.os 18 0,AV.os 38 0,nil,nil,nil]),(18,A 171 y171 v0 0),(1,K 46 y46 a0),(38,A 107 y107 v10 0)]) H fun H=>b3 H
   refine vB<|qD (fun v19=>Z [p 1 (R 1),p 3 (R 20),p 7 (O 50),p 8 (AV.og 54),p 9 (I v16),p 10 (R 10),p 58 (O 18),p 59 (I (v0.length:Int)),p 60 (I v16)] [(10,Ob.box 171 (cellsD true y171 v19)),(54,Ob.grd 33 2 true i64 v17 none),(50,A 2 i64 v18 0),(20,Ob.box 113 [L y148 a0.1,L y150 a0.2.1.1,L Ty.str a0.2.1.2.1,L y190 a0.2.1.2.2,L y126 a0.2.2,AV.os 18 0,AV.os 38 0,nil,nil,nil]),(18,A 171 y171 v0 0),(1,K 46 y46 a0),(38,A 107 y107 v10 0)]) H fun v19 H=>qA (Z [p 1 (R 1),p 3 (R 20),p 7 (O 50),p 8 (AV.og 54),p 9 (I v16),p 10 (R 10),p 58 (O 18),p 59 (I (v0.length:Int)),p 60 (I v16),p 66 (B v19.2.2.2)] [(10,Ob.box 171 (cellsD true y171 v19)),(54,Ob.grd 33 2 true i64 v17 none),(50,A 2 i64 v18 0),(20,Ob.box 113 [L y148 a0.1,L y150 a0.2.1.1,L Ty.str a0.2.1.2.1,L y190 a0.2.1.2.2,L y126 a0.2.2,AV.os 18 0,AV.os 38 0,nil,nil,nil]),(18,A 171 y171 v0 0),(1,K 46 y46 a0),(38,A 107 y107 v10 0)])<|cD H (fun H=>?_) (fun H=>?_)
   ·refine zB (Z [p 1 (R 1),p 3 (R 20),p 7 (O 50),p 8 (AV.og 54),p 58 (O 18),p 59 (I (v0.length:Int)),p 60 (I v16)] [(50,A 2 i64 (v18.set v19.2.2.1.toNat v16) 0),(10,Ob.box 171 (cellsD true y171 v19)),(54,Ob.grd 33 2 true i64 v17 none),(20,Ob.box 113 [L y148 a0.1,L y150 a0.2.1.1,L Ty.str a0.2.1.2.1,L y190 a0.2.1.2.2,L y126 a0.2.2,AV.os 18 0,AV.os 38 0,nil,nil,nil]),(18,A 171 y171 v0 0),(1,K 46 y46 a0),(38,A 107 y107 v10 0)]) H fun H=>fK<|n4 H
   refine zD (fun v20=>Z [p 1 (R 1),p 3 (R 20),p 7 (O 50),p 8 (AV.og 54),p 58 (O 18),p 59 (I (v0.length:Int)),p 60 (I v16)] [(54,Ob.grd 33 2 true i64 v20 none),(79,A 2 i64 [] 2),(81,A 2 i64 [v16] 0),(10,Ob.box 171 (cellsD true y171 v19)),(50,A 2 i64 v18 0),(20,Ob.box 113 [L y148 a0.1,L y150 a0.2.1.1,L Ty.str a0.2.1.2.1,L y190 a0.2.1.2.2,L y126 a0.2.2,AV.os 18 0,AV.os 38 0,nil,nil,nil]),(18,A 171 y171 v0 0),(1,K 46 y46 a0),(38,A 107 y107 v10 0)]) H fun v20 H=>fK<|n4 H
  exact vE<|fE<|e3<|fX rfl<|n2 H
 refine qA (Z [p 1 (R 1),p 3 (R 20),p 4 (I 0),p 23 (L y150 a0.2.1.1),p 24 (I (a0.2.1.1.length:Int)),p 25 (I 0)] [(20,Ob.box 113 [L y148 a0.1,L y150 a0.2.1.1,L Ty.str a0.2.1.2.1,L y190 a0.2.1.2.2,L y126 a0.2.2,AV.os 18 0,nil,nil,nil,nil]),(18,A 171 y171 v0 0),(1,K 46 y46 a0)])<|vB<|lX (fun((v4,v5,v6):Int×Int×List Y107)=>Z [p 1 (R 1),p 3 (R 20),p 4 (I v4),p 23 (L y150 a0.2.1.1),p 24 (I (a0.2.1.1.length:Int)),p 25 (I v5)] [(20,Ob.box 113 [L y148 a0.1,L y150 a0.2.1.1,L Ty.str a0.2.1.2.1,L y190 a0.2.1.2.2,L y126 a0.2.2,AV.os 18 0,AV.os 38 0,nil,nil,nil]),(18,A 171 y171 v0 0),(1,K 46 y46 a0),(38,A 107 y107 v6 0)]) (0,0,[]) H fun _ g1 b1 e1 t1 ⟨v4,v5,v6⟩ H=>qA (Z [p 1 (R 1),p 3 (R 20),p 4 (I v4),p 23 (L y150 a0.2.1.1),p 24 (I (a0.2.1.1.length:Int)),p 25 (I v5),p 26 (B (decide (v5 < (a0.2.1.1.length:Int))))] [(20,Ob.box 113 [L y148 a0.1,L y150 a0.2.1.1,L Ty.str a0.2.1.2.1,L y190 a0.2.1.2.2,L y126 a0.2.2,AV.os 18 0,AV.os 38 0,nil,nil,nil]),(18,A 171 y171 v0 0),(1,K 46 y46 a0),(38,A 107 y107 v6 0)])<|vQ<|cD H (fun H=>?_) (fun H=>?_)
 ·refine vK<|fQ<|vQ<|vB<|qD (fun v7=>Z [p 1 (R 1),p 3 (R 20),p 4 (I v4),p 6 (R 6),p 23 (L y150 a0.2.1.1),p 24 (I (a0.2.1.1.length:Int)),p 25 (I v5)] [(6,K 150 y150 v7),(20,Ob.box 113 [L y148 a0.1,L y150 a0.2.1.1,L Ty.str a0.2.1.2.1,L y190 a0.2.1.2.2,L y126 a0.2.2,AV.os 18 0,AV.os 38 0,nil,nil,nil]),(18,A 171 y171 v0 0),(1,K 46 y46 a0),(38,A 107 y107 v6 0)]) H fun v7 H=>qD (fun v8=>Z [p 1 (R 1),p 3 (R 20),p 4 (I v4),p 6 (R 6),p 23 (L y150 a0.2.1.1),p 24 (I (a0.2.1.1.length:Int)),p 25 (I v5)] [(20,Ob.box 113 [L y148 a0.1,L y150 a0.2.1.1,L Ty.str a0.2.1.2.1,L y190 a0.2.1.2.2,L y126 a0.2.2,AV.os 18 0,AV.os 38 1,nil,nil,nil]),(38,A 107 y107 (v6++v8) 1),(37,A 107 y107 v8 0),(6,K 150 y150 v7),(18,A 171 y171 v0 0),(1,K 46 y46 a0)]) H fun v8 H=>zD (fun v9=>Z [p 1 (R 1),p 3 (R 20),p 4 (I (v4+v9)),p 23 (L y150 a0.2.1.1),p 24 (I (a0.2.1.1.length:Int)),p 25 (I v5)] [(20,Ob.box 113 [L y148 a0.1,L y150 a0.2.1.1,L Ty.str a0.2.1.2.1,L y190 a0.2.1.2.2,L y126 a0.2.2,AV.os 18 0,AV.os 38 1,nil,nil,nil]),(38,A 107 y107 (v6++v8) 1),(37,A 107 y107 v8 0),(6,K 150 y150 v7),(18,A 171 y171 v0 0),(1,K 46 y46 a0)]) H fun v9 H=>fK<|fQ<|zB (Z [p 1 (R 1),p 3 (R 20),p 4 (I (v4+v9)),p 23 (L y150 a0.2.1.1),p 24 (I (a0.2.1.1.length:Int)),p 25 (I (v5+1))] [(20,Ob.box 113 [L y148 a0.1,L y150 a0.2.1.1,L Ty.str a0.2.1.2.1,L y190 a0.2.1.2.2,L y126 a0.2.2,AV.os 18 0,AV.os 38 1,nil,nil,nil]),(38,A 107 y107 (v6++v8) 1),(37,A 107 y107 v8 0),(6,K 150 y150 v7),(18,A 171 y171 v0 0),(1,K 46 y46 a0)]) H fun H=>b1 H
 exact vE<|fE<|e1<|fX rfl<|n0 H
def u165J0:Unit->Option (Bool)
 | _ =>
 some true
def u165L1(a0:Y126)(g1:Int->Option (Bool)):Int->Option (Bool)
 | v0 =>
 if(decide (v0 < (a0.1.length:Int)))=true then
  gd (ix v0 a0.1.length/\True) <|
  gd (((a0.1.getD v0.toNat (0:Int) != (-1:Int))=false/\(v0==(0:Int))=true/\True->ix (0:Int) a0.2.1.length)/\(decide ((0:Int)<v0)=true/\(v0==(0:Int)&&(a0.1.getD v0.toNat (0:Int) != (-1:Int)||a0.2.1.getD (Int.toNat (0:Int)) (0:Int) != (0:Int)))=false/\True->in64 (v0-(1:Int)))/\(decide ((0:Int)<v0)=true/\(v0==(0:Int)&&(a0.1.getD v0.toNat (0:Int) != (-1:Int)||a0.2.1.getD (Int.toNat (0:Int)) (0:Int) != (0:Int)))=false/\True->(u138 (a0.1.getD v0.toNat (0:Int)) (0:Int) (v0-(1:Int))).isSome=true)/\True) <|
  if(v0==(0:Int)&&(a0.1.getD v0.toNat (0:Int) != (-1:Int)||a0.2.1.getD (Int.toNat (0:Int)) (0:Int) != (0:Int))||decide ((0:Int)<v0)&&!vl (u138 (a0.1.getD v0.toNat (0:Int)) (0:Int) (v0-(1:Int))))=true then
   some false
  else
   gd (in64 (v0+1)/\True) <|
   g1 (v0+1)
 else
  u165J0 ()
def u165(a0:Y126):Option (Bool) :=
 lp (u165L1 a0) 0
def k165:Ct:=lct 165 [.agg y126] (fun x=>u165 x.1) (fun r:Bool=>B r) (fun _=>())
theorem o165:Ok prog k165:=by
 refine okL [.tmp 2] func165 ntmps165 results165 ?_;intro y ⟨a0,_⟩ r H Q hn hr;have:HT _ _:=⟨tc o138 tn⟩;refine qA (Z [p 1 (R 1)] [(1,K 126 y126 a0)])<|jN r (fun(_:Unit)=>Z [] []) (u165J0) (fun _ H=>?_) (fun _ n0 e0 t0=>?_)
 ·refine qA (Z [p 2 (B true)] [])<|vTT<|hr H
 refine qA (Z [p 1 (R 1),p 6 (L i64 a0.1),p 7 (I (a0.1.length:Int)),p 8 (I 0)] [(1,K 126 y126 a0)])<|vB<|lX (fun(v0:Int)=>Z [p 1 (R 1),p 6 (L i64 a0.1),p 7 (I (a0.1.length:Int)),p 8 (I v0)] [(1,K 126 y126 a0)]) 0 H fun _ g1 b1 e1 t1 v0 H=>qA (Z [p 1 (R 1),p 6 (L i64 a0.1),p 7 (I (a0.1.length:Int)),p 8 (I v0),p 9 (B (decide (v0 < (a0.1.length:Int))))] [(1,K 126 y126 a0)])<|vQ<|cD H (fun H=>?_) (fun H=>?_)
 ·refine vK<|fQ<|vQ<|vB<|qB (Z [p 1 (R 1),p 3 (I v0),p 4 (J (a0.1.getD v0.toNat 0)),p 6 (L i64 a0.1),p 7 (I (a0.1.length:Int)),p 8 (I v0)] [(1,K 126 y126 a0)]) H fun H=>qB (Z [p 1 (R 1),p 6 (L i64 a0.1),p 7 (I (a0.1.length:Int)),p 8 (I v0),p 36 (B (v0==(0:Int)&&(a0.1.getD v0.toNat (0:Int) != (-1:Int)||a0.2.1.getD (Int.toNat (0:Int)) (0:Int) != (0:Int))||decide ((0:Int)<v0)&&!vl (u138 (a0.1.getD v0.toNat (0:Int)) (0:Int) (v0-(1:Int)))))] [(1,K 126 y126 a0)]) H fun H=>cD H (fun H=>?_) (fun H=>?_)
  ·refine qA (Z [p 2 (B false)] [(1,K 126 y126 a0)])<|vTT<|fDD<|fR<|t1<|fDD<|t0<|hr H
  refine vK<|fK<|fQ<|zB (Z [p 1 (R 1),p 6 (L i64 a0.1),p 7 (I (a0.1.length:Int)),p 8 (I (v0+1))] [(1,K 126 y126 a0)]) H fun H=>b1 H
 exact vE<|fE<|e1<|fX rfl<|n0 H
def u121(a0:Y126)(a1:Int):Option (Bool) :=
 gd ((u123 a0.1).isSome=true/\True)<|lt (vl (u123 a0.1)) fun v0 =>
 gd ((u138 v0 1 8).isSome=true/\(vl (u138 v0 1 8)=true/\True->(u123 a0.2.1).isSome=true)/\((vl (u138 v0 1 8)&&vl (u123 a0.2.1)==v0)=true/\True->(u123 a0.2.2.1).isSome=true)/\((vl (u138 v0 1 8)&&vl (u123 a0.2.1)==v0&&vl (u123 a0.2.2.1)==v0)=true/\True->(u165 a0).isSome=true)/\((vl (u138 v0 1 8)&&vl (u123 a0.2.1)==v0&&vl (u123 a0.2.2.1)==v0&&vl (u165 a0))=true/\True->(u146 a0.2.1 0 1000).isSome=true)/\((vl (u138 v0 1 8)&&vl (u123 a0.2.1)==v0&&vl (u123 a0.2.2.1)==v0&&vl (u165 a0)&&vl (u146 a0.2.1 0 1000))=true/\True->(u146 a0.2.2.1 0 500).isSome=true)/\((vl (u138 v0 1 8)&&vl (u123 a0.2.1)==v0&&vl (u123 a0.2.2.1)==v0&&vl (u165 a0)&&vl (u146 a0.2.1 0 1000)&&vl (u146 a0.2.2.1 0 500))=true/\True->(u123 a0.2.2.2).isSome=true)/\((vl (u138 v0 1 8)&&vl (u123 a0.2.1)==v0&&vl (u123 a0.2.2.1)==v0&&vl (u165 a0)&&vl (u146 a0.2.1 0 1000)&&vl (u146 a0.2.2.1 0 500)&&vl (u123 a0.2.2.2)==a1)=true/\True->in64 (v0-1))/\((vl (u138 v0 1 8)&&vl (u123 a0.2.1)==v0&&vl (u123 a0.2.2.1)==v0&&vl (u165 a0)&&vl (u146 a0.2.1 0 1000)&&vl (u146 a0.2.2.1 0 500)&&vl (u123 a0.2.2.2)==a1)=true/\True->(u146 a0.2.2.2 0 (v0-1)).isSome=true)/\True)<|lt ((vl (u123 a0.2.1),vl (u123 a0.2.2.1),vl (u123 a0.2.2.2))) fun(v1,v2,v3) =>
 some (vl (u138 v0 1 8)&&v1==v0&&v2==v0&&vl (u165 a0)&&vl (u146 a0.2.1 0 1000)&&vl (u146 a0.2.2.1 0 500)&&v3==a1&&vl (u146 a0.2.2.2 0 (v0-1)))
def k121:Ct:=lct 121 [.agg y126,.dat i64] (fun x=>u121 x.1 x.2.1) (fun r:Bool=>B r) (fun _=>())
theorem o121:Ok prog k121:=by
 refine okL [.tmp 4] func121 ntmps121 results121 ?_;intro y ⟨a0,a1,_⟩ r H Q hn hr;have:HT _ _:=⟨tc o146 (tc o123 (tc o165 (tc o138 tn)))⟩;refine qA (Z [p 1 (J a1),p 2 (R 2)] [(2,K 126 y126 a0)])<|qD (fun v0=>Z [p 1 (J a1),p 2 (R 2),p 5 (I v0)] [(2,K 126 y126 a0)]) H fun v0 H=>qD (fun(v1,v2,v3)=>Z [p 4 (B (vl (u138 v0 1 8)&&v1==v0&&v2==v0&&vl (u165 a0)&&vl (u146 a0.2.1 0 1000)&&vl (u146 a0.2.2.1 0 500)&&v3==a1&&vl (u146 a0.2.2.2 0 (v0-1))))] [(2,K 126 y126 a0)]) H fun⟨v1,v2,v3⟩ H =>
  vTT<|hr H
def u164(a0:Int):Option (Bool) :=
 some (a0 != 1)
def k164:Ct:=lct 164 [.dat i64] (fun x=>u164 x.1) (fun r:Bool=>B r) (fun _=>())
theorem o164:Ok prog k164:=by
 refine okL [.tmp 2] func164 ntmps164 results164 ?_;intro y ⟨a0,_⟩ r H Q hn hr;have:HT _ _:=⟨@tn prog⟩;refine qA (Z [p 0 (J a0)] [])<|qA (Z [p 2 (B (a0 != 1))] [])<|vTT<|hr H
def u189(a0:List ByteArray):Option (Int) :=
 some (a0.length:Int)
def k189:Ct:=lct 189 [.dat Ty.str.sl] (fun x=>u189 x.1) (fun r:Int=>I r) (fun _=>())
theorem o189:Ok prog k189:=by
 refine okL [.tmp 2] func189 ntmps189 results189 ?_;intro y ⟨a0,_⟩ r H Q hn hr;have:HT _ _:=⟨@tn prog⟩;refine qA (Z [p 0 (L Ty.str a0)] [])<|qA (Z [p 2 (I (a0.length:Int))] [])<|vTT<|hr H
def u162(a0:Y43)(a1:Int):Option (Bool) :=
 gd ((u189 a0.2.1).isSome=true/\in64 (vl (u189 a0.2.1)-1)/\(u138 a1 0 (vl (u189 a0.2.1)-1)).isSome=true/\True) <|
 some (vl (u138 a1 0 (vl (u189 a0.2.1)-1)))
def k162:Ct:=lct 162 [.agg y43,.dat i64] (fun x=>u162 x.1 x.2.1) (fun r:Bool=>B r) (fun _=>())
theorem o162:Ok prog k162:=by
 refine okL [.tmp 4] func162 ntmps162 results162 ?_;intro y ⟨a0,a1,_⟩ r H Q hn hr;have:HT _ _:=⟨tc o138 (tc o189 tn)⟩;refine qA (Z [p 1 (J a1),p 2 (R 2)] [(2,K 43 y43 a0)])<|qB (Z [p 4 (B (vl (u138 a1 0 (vl (u189 a0.2.1)-1))))] [(2,K 43 y43 a0)]) H fun H=>vTT<|hr H
def u187(a0:List Y148):Option (Int) :=
 some (a0.length:Int)
def k187:Ct:=lct 187 [.dat y148.sl] (fun x=>u187 x.1) (fun r:Int=>I r) (fun _=>())
theorem o187:Ok prog k187:=by
 refine okL [.tmp 2] func187 ntmps187 results187 ?_;intro y ⟨a0,_⟩ r H Q hn hr;have:HT _ _:=⟨@tn prog⟩;refine qA (Z [p 0 (L y148 a0)] [])<|qA (Z [p 2 (I (a0.length:Int))] [])<|vTT<|hr H
def u188(a0:Int)(a1:Y43):Option (Bool) :=
 gd ((u162 a1 a0).isSome=true/\True) <|
 some (!vl (u162 a1 a0))
def k188:Ct:=lct 188 [.dat i64,.dat (.pt y43)] (fun x=>u188 x.1 x.2.1) (fun r:Bool=>B r) (fun _=>())
theorem o188:Ok prog k188:=by
 refine okL [.tmp 3] func188 ntmps188 results188 ?_;intro y ⟨a0,a1,_⟩ r H Q hn hr;have:HT _ _:=⟨tc o162 tn⟩;refine qA (Z [p 0 (J a0),p 1 (D y43.pt a1)] [])<|qB (Z [p 3 (B !vl (u162 a1 a0))] []) H fun H=>vTT<|hr H
def u208c188J0:Unit->Option (Int)
 | _ =>
 some (-1)
def u208c188L1(a0:List Int)(a1:Y43)(g1:Int->Option (Int)):Int->Option (Int)
 | v0 =>
 if(decide (v0 < (a0.length:Int)))=true then
  gd (ix v0 a0.length/\(u188 (a0.getD v0.toNat 0) a1).isSome=true/\True) <|
  if(vl (u188 (a0.getD v0.toNat 0) a1))=true then
   some v0
  else
   gd (in64 (v0+1)/\True) <|
   g1 (v0+1)
 else
  u208c188J0 ()
def u208c188(a0:List Int)(a1:Y43):Option (Int) :=
 lp (u208c188L1 a0 a1) 0
def k208c188:Ct:=lct 208 [.dat i64.sl,.fn 188 y43.pt] (fun x=>u208c188 x.1 x.2.1) (fun r:Int=>I r) (fun _=>())
theorem o208c188:Ok prog k208c188:=by
 refine okL [.tmp 4] func208 ntmps208 results208 ?_;intro y ⟨a0,a1,_⟩ r H Q hn hr;have:HT _ _:=⟨tc o188 tn⟩;refine qA (Z [p 0 (L i64 a0),p 1 (AV.fn 188 [D y43.pt a1])] [])<|jN r (fun(_:Unit)=>Z [] []) (u208c188J0) (fun _ H=>?_) (fun _ n0 e0 t0=>?_)
 ·refine qA (Z [p 4 (I (-1))] [])<|vTT<|hr H
 refine qA (Z [p 0 (L i64 a0),p 1 (AV.fn 188 [D y43.pt a1]),p 7 (I (a0.length:Int)),p 8 (I 0)] [])<|vB<|lX (fun(v0:Int)=>Z [p 0 (L i64 a0),p 1 (AV.fn 188 [D y43.pt a1]),p 7 (I (a0.length:Int)),p 8 (I v0)] []) 0 H fun _ g1 b1 e1 t1 v0 H=>qA (Z [p 0 (L i64 a0),p 1 (AV.fn 188 [D y43.pt a1]),p 7 (I (a0.length:Int)),p 8 (I v0),p 9 (B (decide (v0 < (a0.length:Int))))] [])<|vQ<|cD H (fun H=>?_) (fun H=>?_)
 ·refine vK<|fQ<|vQ<|vB<|qA (Z [p 0 (L i64 a0),p 1 (AV.fn 188 [D y43.pt a1]),p 5 (I v0),p 7 (I (a0.length:Int)),p 8 (I v0)] [])<|qB (Z [p 0 (L i64 a0),p 1 (AV.fn 188 [D y43.pt a1]),p 5 (I v0),p 7 (I (a0.length:Int)),p 8 (I v0),p 16 (B (vl (u188 (a0.getD v0.toNat 0) a1)))] []) H fun H=>cD H (fun H=>?_) (fun H=>?_)
  ·refine qA (Z [p 4 (I v0)] [])<|vTT<|fDD<|fR<|t1<|fDD<|t0<|hr H
  refine vK<|fK<|fQ<|zB (Z [p 0 (L i64 a0),p 1 (AV.fn 188 [D y43.pt a1]),p 7 (I (a0.length:Int)),p 8 (I (v0+1))] []) H fun H=>b1 H
 exact vE<|fE<|e1<|fX rfl<|n0 H
def u180c188(a0:List Int)(a1:Y43):Option (Bool) :=
 gd ((u208c188 a0 a1).isSome=true/\True)<|lt (vl (u208c188 a0 a1)) fun v0 =>
 some (decide (0<=v0))
def k180c188:Ct:=lct 180 [.dat i64.sl,.fn 188 (.pt y43)] (fun x=>u180c188 x.1 x.2.1) (fun r:Bool=>B r) (fun _=>())
theorem o180c188:Ok prog k180c188:=by
 refine okL [.tmp 4] func180 ntmps180 results180 ?_;intro y ⟨a0,a1,_⟩ r H Q hn hr;have:HT _ _:=⟨tc o208c181 (tc o208c188 (tc o188 tn))⟩;refine qA (Z [p 0 (L i64 a0),p 1 (AV.fn 188 [D y43.pt a1])] [])<|qD (fun v0=>Z [p 4 (B (decide (0<=v0)))] []) H fun v0 H=>vTT<|hr H
def u161(a0:Y43)(a1:List Y148)(a2:Y150):Option (Bool) :=
 gd ((u187 a1).isSome=true/\in64 (vl (u187 a1)-1)/\(u138 a2.2.1 0 (vl (u187 a1)-1)).isSome=true/\(vl (u138 a2.2.1 0 (vl (u187 a1)-1))=true/\True->ix a2.2.1 a1.length)/\((vl (u138 a2.2.1 0 (vl (u187 a1)-1))&&(a2.2.2.length:Int)==(↑(a1.getD a2.2.1.toNat (dflt y148)).2.2.1.length:Int))=true/\True->(u180c188 a2.2.2 a0).isSome=true)/\True) <|
 some (vl (u138 a2.2.1 0 (vl (u187 a1)-1))&&(a2.2.2.length:Int)==(↑(a1.getD a2.2.1.toNat (dflt y148)).2.2.1.length:Int)&&!vl (u180c188 a2.2.2 a0))
def k161:Ct:=lct 161 [.agg y43,.agg y148.sl,.agg y150] (fun x=>u161 x.1 x.2.1 x.2.2.1) (fun r:Bool=>B r) (fun _=>())
theorem o161:Ok prog k161:=by
 refine okL [.tmp 6] func161 ntmps161 results161 ?_;intro y ⟨a0,a1,a2,_⟩ r H Q hn hr;have:HT _ _:=⟨tc o180c181 (tc o180c188 (tc o188 (tc o138 (tc o187 tn))))⟩;refine qA (Z [p 3 (R 3),p 4 (R 4),p 5 (R 5)] [(5,K 150 y150 a2),(4,Ob.box 39 [L y148 a1]),(3,K 43 y43 a0)])<|qB (Z [p 6 (B (vl (u138 a2.2.1 0 (vl (u187 a1)-1))&&(a2.2.2.length:Int)==(↑(a1.getD a2.2.1.toNat (dflt y148)).2.2.1.length:Int)&&!vl (u180c188 a2.2.2 a0)))] [(5,K 150 y150 a2),(4,Ob.box 39 [L y148 a1]),(3,K 43 y43 a0)]) H fun H=>vTT<|hr H
def u235J0:Unit->Option (Int)
 | _ =>
 some (-1)
def u235L1(a1:ByteArray)(a0:List ByteArray)(g1:Int->Option (Int)):Int->Option (Int)
 | v0 =>
 if(decide (v0 < (a0.length:Int)))=true then
  gd (ix v0 a0.length/\True) <|
  if(decide (a1=a0.getD v0.toNat (dflt Ty.str)))=true then
   some v0
  else
   gd (in64 (v0+1)/\True) <|
   g1 (v0+1)
 else
  u235J0 ()
def u235(a0:List ByteArray)(a1:ByteArray):Option (Int) :=
 lp (u235L1 a1 a0) 0
def k235:Ct:=lct 235 [.dat Ty.str.sl,.dat Ty.str] (fun x=>u235 x.1 x.2.1) (fun r:Int=>I r) (fun _=>())
theorem o235:Ok prog k235:=by
 refine okL [.tmp 4] func235 ntmps235 results235 ?_;intro y ⟨a0,a1,_⟩ r H Q hn hr;have:HT _ _:=⟨@tn prog⟩;refine qA (Z [p 0 (L Ty.str a0),p 1 (U a1)] [])<|jN r (fun(_:Unit)=>Z [] []) (u235J0) (fun _ H=>?_) (fun _ n0 e0 t0=>?_)
 ·refine qA (Z [p 4 (I (-1))] [])<|vTT<|hr H
 refine qA (Z [p 0 (L Ty.str a0),p 1 (U a1),p 7 (I (a0.length:Int)),p 8 (I 0)] [])<|vB<|lX (fun(v0:Int)=>Z [p 0 (L Ty.str a0),p 1 (U a1),p 7 (I (a0.length:Int)),p 8 (I v0)] []) 0 H fun _ g1 b1 e1 t1 v0 H=>qA (Z [p 0 (L Ty.str a0),p 1 (U a1),p 7 (I (a0.length:Int)),p 8 (I v0),p 9 (B (decide (v0 < (a0.length:Int))))] [])<|vQ<|cD H (fun H=>?_) (fun H=>?_)
 ·refine vK<|fQ<|vQ<|vB<|qA (Z [p 0 (L Ty.str a0),p 1 (U a1),p 5 (I v0),p 7 (I (a0.length:Int)),p 8 (I v0)] [])<|qB (Z [p 0 (L Ty.str a0),p 1 (U a1),p 5 (I v0),p 7 (I (a0.length:Int)),p 8 (I v0),p 16 (B (decide (a1=a0.getD v0.toNat (dflt Ty.str))))] []) H fun H=>cD H (fun H=>?_) (fun H=>?_)
  ·refine qA (Z [p 4 (I v0)] [])<|vTT<|fDD<|fR<|t1<|fDD<|t0<|hr H
  refine vK<|fK<|fQ<|zB (Z [p 0 (L Ty.str a0),p 1 (U a1),p 7 (I (a0.length:Int)),p 8 (I (v0+1))] []) H fun H=>b1 H
 exact vE<|fE<|e1<|fX rfl<|n0 H
def u216(a0:List ByteArray)(a1:ByteArray):Option (Bool) :=
 gd ((u235 a0 a1).isSome=true/\True)<|lt (vl (u235 a0 a1)) fun v0 =>
 some (decide (0<=v0))
def k216:Ct:=lct 216 [.dat Ty.str.sl,.dat Ty.str] (fun x=>u216 x.1 x.2.1) (fun r:Bool=>B r) (fun _=>())
theorem o216:Ok prog k216:=by
 refine okL [.tmp 4] func216 ntmps216 results216 ?_;intro y ⟨a0,a1,_⟩ r H Q hn hr;have:HT _ _:=⟨tc o235 tn⟩;refine qA (Z [p 0 (L Ty.str a0),p 1 (U a1)] [])<|qD (fun v0=>Z [p 4 (B (decide (0<=v0)))] []) H fun v0 H=>vTT<|hr H
def u212(a0:ByteArray):Option (Bool) :=
 gd ((u138 (a0.size:Int) (1:Int) (8:Int)).isSome=true/\(vl (u138 (a0.size:Int) (1:Int) (8:Int))=true/\True->(u227 a0 (ByteArray.mk #[(97:UInt8),(98:UInt8),(99:UInt8),(100:UInt8),(101:UInt8),(102:UInt8),(103:UInt8),(104:UInt8),(105:UInt8),(106:UInt8),(107:UInt8),(108:UInt8),(109:UInt8),(110:UInt8),(111:UInt8),(112:UInt8),(113:UInt8),(114:UInt8),(115:UInt8),(116:UInt8),(117:UInt8),(118:UInt8),(119:UInt8),(120:UInt8),(121:UInt8),(122:UInt8),(48:UInt8),(49:UInt8),(50:UInt8),(51:UInt8),(52:UInt8),(53:UInt8),(54:UInt8),(55:UInt8),(56:UInt8),(57:UInt8)])).isSome=true)/\((vl (u138 (a0.size:Int) (1:Int) (8:Int))&&decide (vl (u227 a0 (ByteArray.mk #[(97:UInt8),(98:UInt8),(99:UInt8),(100:UInt8),(101:UInt8),(102:UInt8),(103:UInt8),(104:UInt8),(105:UInt8),(106:UInt8),(107:UInt8),(108:UInt8),(109:UInt8),(110:UInt8),(111:UInt8),(112:UInt8),(113:UInt8),(114:UInt8),(115:UInt8),(116:UInt8),(117:UInt8),(118:UInt8),(119:UInt8),(120:UInt8),(121:UInt8),(122:UInt8),(48:UInt8),(49:UInt8),(50:UInt8),(51:UInt8),(52:UInt8),(53:UInt8),(54:UInt8),(55:UInt8),(56:UInt8),(57:UInt8)]))=ByteArray.mk #[]))=true/\True->ix (0:Int) a0.size)/\((vl (u138 (a0.size:Int) (1:Int) (8:Int))&&decide (vl (u227 a0 (ByteArray.mk #[(97:UInt8),(98:UInt8),(99:UInt8),(100:UInt8),(101:UInt8),(102:UInt8),(103:UInt8),(104:UInt8),(105:UInt8),(106:UInt8),(107:UInt8),(108:UInt8),(109:UInt8),(110:UInt8),(111:UInt8),(112:UInt8),(113:UInt8),(114:UInt8),(115:UInt8),(116:UInt8),(117:UInt8),(118:UInt8),(119:UInt8),(120:UInt8),(121:UInt8),(122:UInt8),(48:UInt8),(49:UInt8),(50:UInt8),(51:UInt8),(52:UInt8),(53:UInt8),(54:UInt8),(55:UInt8),(56:UInt8),(57:UInt8)]))=ByteArray.mk #[]))=true/\True->(u228 (ByteArray.mk #[(97:UInt8),(98:UInt8),(99:UInt8),(100:UInt8),(101:UInt8),(102:UInt8),(103:UInt8),(104:UInt8),(105:UInt8),(106:UInt8),(107:UInt8),(108:UInt8),(109:UInt8),(110:UInt8),(111:UInt8),(112:UInt8),(113:UInt8),(114:UInt8),(115:UInt8),(116:UInt8),(117:UInt8),(118:UInt8),(119:UInt8),(120:UInt8),(121:UInt8),(122:UInt8)]) (byteAt a0 (Int.toNat (0:Int)))).isSome=true)/\True)<|lt ((vl (u227 a0 (ByteArray.mk #[97,98,99,100,101,102,103,104,105,106,107,108,109,110,111,112,113,114,115,116,117,118,119,120,121,122,48,49,50,51,52,53,54,55,56,57])),vl (u228 (ByteArray.mk #[(97:UInt8),(98:UInt8),(99:UInt8),(100:UInt8),(101:UInt8),(102:UInt8),(103:UInt8),(104:UInt8),(105:UInt8),(106:UInt8),(107:UInt8),(108:UInt8),(109:UInt8),(110:UInt8),(111:UInt8),(112:UInt8),(113:UInt8),(114:UInt8),(115:UInt8),(116:UInt8),(117:UInt8),(118:UInt8),(119:UInt8),(120:UInt8),(121:UInt8),(122:UInt8)]) (byteAt a0 (Int.toNat (0:Int)))))) fun(v0,v1) =>
 some (vl (u138 (a0.size:Int) 1 8)&&decide (v0=ByteArray.mk #[])&&decide (0<=v1))
def k212:Ct:=lct 212 [.dat Ty.str] (fun x=>u212 x.1) (fun r:Bool=>B r) (fun _=>())
theorem o212:Ok prog k212:=by
 refine okL [.tmp 2] func212 ntmps212 results212 ?_;intro y ⟨a0,_⟩ r H Q hn hr;have:HT _ _:=⟨tc o228 (tc o227 (tc o138 tn))⟩;refine qA (Z [p 0 (U a0)] [])<|qD (fun(v0,v1)=>Z [p 2 (B (vl (u138 (a0.size:Int) 1 8)&&decide (v0=ByteArray.mk #[])&&decide (0<=v1)))] []) H fun⟨v0,v1⟩ H =>
  vTT<|hr H
def u186J0:Unit->Option (Bool)
 | _ =>
 some true
def u186L1(a0:List ByteArray)(g1:Int->Option (Bool)):Int->Option (Bool)
 | v0 =>
 if(decide (v0 < (a0.length:Int)))=true then
  gd (ix v0 a0.length/\True) <|
  gd ((u212 (a0.getD v0.toNat (dflt Ty.str))).isSome=true/\((!vl (u212 (a0.getD v0.toNat (dflt Ty.str))))=false/\True->(0:Int)<=(0:Int)/\(0:Int)<=v0/\v0<=(a0.length:Int))/\((!vl (u212 (a0.getD v0.toNat (dflt Ty.str))))=false/\True->(u216 (List.take v0.toNat a0) (a0.getD v0.toNat (dflt Ty.str))).isSome=true)/\True) <|
  if(!vl (u212 (a0.getD v0.toNat (dflt Ty.str)))||vl (u216 (List.take v0.toNat a0) (a0.getD v0.toNat (dflt Ty.str))))=true then
   some false
  else
   gd (in64 (v0+1)/\True) <|
   g1 (v0+1)
 else
  u186J0 ()
def u186(a0:List ByteArray):Option (Bool) :=
 lp (u186L1 a0) 0
def k186:Ct:=lct 186 [.dat Ty.str.sl] (fun x=>u186 x.1) (fun r:Bool=>B r) (fun _=>())
theorem o186:Ok prog k186:=by
 refine okL [.tmp 2] func186 ntmps186 results186 ?_;intro y ⟨a0,_⟩ r H Q hn hr;have:HT _ _:=⟨tc o216 (tc o212 tn)⟩;refine qA (Z [p 0 (L Ty.str a0)] [])<|jN r (fun(_:Unit)=>Z [] []) (u186J0) (fun _ H=>?_) (fun _ n0 e0 t0=>?_)
 ·refine qA (Z [p 2 (B true)] [])<|vTT<|hr H
 refine qA (Z [p 0 (L Ty.str a0),p 5 (L Ty.str a0),p 6 (I (a0.length:Int)),p 7 (I 0)] [])<|vB<|lX (fun(v0:Int)=>Z [p 0 (L Ty.str a0),p 5 (L Ty.str a0),p 6 (I (a0.length:Int)),p 7 (I v0)] []) 0 H fun _ g1 b1 e1 t1 v0 H=>qA (Z [p 0 (L Ty.str a0),p 5 (L Ty.str a0),p 6 (I (a0.length:Int)),p 7 (I v0),p 8 (B (decide (v0 < (a0.length:Int))))] [])<|vQ<|cD H (fun H=>?_) (fun H=>?_)
 ·refine vK<|fQ<|vQ<|vB<|qB (Z [p 0 (L Ty.str a0),p 3 (I v0),p 4 (U (a0.getD v0.toNat (dflt Ty.str))),p 5 (L Ty.str a0),p 6 (I (a0.length:Int)),p 7 (I v0)] []) H fun H=>qB (Z [p 0 (L Ty.str a0),p 5 (L Ty.str a0),p 6 (I (a0.length:Int)),p 7 (I v0),p 21 (B (!vl (u212 (a0.getD v0.toNat (dflt Ty.str)))||vl (u216 (List.take v0.toNat a0) (a0.getD v0.toNat (dflt Ty.str)))))] []) H fun H=>cD H (fun H=>?_) (fun H=>?_)
  ·refine qA (Z [p 2 (B false)] [])<|vTT<|fDD<|fR<|t1<|fDD<|t0<|hr H
  refine vK<|fK<|fQ<|zB (Z [p 0 (L Ty.str a0),p 5 (L Ty.str a0),p 6 (I (a0.length:Int)),p 7 (I (v0+1))] []) H fun H=>b1 H
 exact vE<|fE<|e1<|fX rfl<|n0 H
def u160J2(v4:List ByteArray)(a0:Y43):List ByteArray->Option (Bool)
 | v9 =>
 gd (((decide ((v4.length:Int)<=14)&&decide ((a0.2.1.length:Int)<=30)&&decide ((v9.length:Int)<=8))=true/\True->(u186 v4).isSome=true)/\((decide ((v4.length:Int)<=14)&&decide ((a0.2.1.length:Int)<=30)&&decide ((v9.length:Int)<=8)&&vl (u186 v4))=true/\True->(u186 a0.2.1).isSome=true)/\((decide ((v4.length:Int)<=14)&&decide ((a0.2.1.length:Int)<=30)&&decide ((v9.length:Int)<=8)&&vl (u186 v4)&&vl (u186 a0.2.1))=true/\True->(u186 v9).isSome=true)/\True) <|
 some (decide ((v4.length:Int)<=14)&&decide ((a0.2.1.length:Int)<=30)&&decide ((v9.length:Int)<=8)&&vl (u186 v4)&&vl (u186 a0.2.1)&&vl (u186 v9))
def u160L3(a0:Y43)(v4:List ByteArray)(g3:List ByteArray×Int->Option (Bool)):List ByteArray×Int->Option (Bool)
 | (v6,v7) =>
 if(decide (v7 < (a0.2.2.length:Int)))=true then
  gd (ix v7 a0.2.2.length/\True)<|lt (a0.2.2.getD v7.toNat (dflt y190)) fun v8 =>
  gd ((v6.length+[v8.1].length<=9223372036854775807/\(v6.length+[v8.1].length)*16<=140737488355328)/\True) <|
  gd (in64 (v7+1)/\True) <|
  g3 (v6++[v8.1],v7+1)
 else
  u160J2 v4 a0 v6
def u160J0(a0:Y43):List ByteArray->Option (Bool)
 | v4 =>
 lp (u160L3 a0 v4) ([],0)
def u160L1(a0:Y43)(g1:List ByteArray×Int->Option (Bool)):List ByteArray×Int->Option (Bool)
 | (v1,v2) =>
 if(decide (v2 < (a0.1.length:Int)))=true then
  gd (ix v2 a0.1.length/\True)<|lt (a0.1.getD v2.toNat (dflt y150)) fun v3 =>
  gd ((v1.length+[v3.1].length<=9223372036854775807/\(v1.length+[v3.1].length)*16<=140737488355328)/\True) <|
  gd (in64 (v2+1)/\True) <|
  g1 (v1++[v3.1],v2+1)
 else
  u160J0 a0 v1
def u160(a0:Y43):Option (Bool) :=
 lp (u160L1 a0) ([],0)
def k160:Ct:=lct 160 [.agg y43] (fun x=>u160 x.1) (fun r:Bool=>B r) (fun _=>())
theorem o160:Ok prog k160:=by
 refine okL [.tmp 2] func160 ntmps160 results160 ?_;intro y ⟨a0,_⟩ r H Q hn hr;have:HT _ _:=⟨tc o186 tn⟩;refine qA (Z [p 1 (R 1)] [(1,K 43 y43 a0)])<|qA (Z [p 1 (R 1),p 3 (nil),p 4 (nil)] [(1,K 43 y43 a0)])<|jN r (fun(v4:List ByteArray)=>Z [p 1 (R 1),p 3 (O 20),p 4 (nil)] [(1,K 43 y43 a0),(20,A 9 Ty.str v4 0)]) (u160J0 a0) (fun v4 H=>?_) (fun _ n0 e0 t0=>?_)
 ·refine jN r (fun(v9:List ByteArray)=>Z [p 1 (R 1),p 3 (O 20),p 4 (O 33)] [(1,K 43 y43 a0),(20,A 9 Ty.str v4 0),(33,A 9 Ty.str v9 0)]) (u160J2 v4 a0) (fun v9 H=>?_) (fun _ n2 e2 t2=>?_)
  ·refine qB (Z [p 2 (B (decide ((v4.length:Int)<=14)&&decide ((a0.2.1.length:Int)<=30)&&decide ((v9.length:Int)<=8)&&vl (u186 v4)&&vl (u186 a0.2.1)&&vl (u186 v9)))] [(1,K 43 y43 a0),(20,A 9 Ty.str v4 0),(33,A 9 Ty.str v9 0)]) H fun H=>vTT<|hr H
  refine qA (Z [p 1 (R 1),p 3 (O 20),p 4 (nil),p 23 (L y190 a0.2.2),p 24 (I (a0.2.2.length:Int)),p 25 (I 0)] [(1,K 43 y43 a0),(20,A 9 Ty.str v4 0)])<|vB<|lX (fun((v6,v7):List ByteArray×Int)=>Z [p 1 (R 1),p 3 (O 20),p 4 (O 33),p 23 (L y190 a0.2.2),p 24 (I (a0.2.2.length:Int)),p 25 (I v7)] [(1,K 43 y43 a0),(20,A 9 Ty.str v4 0),(33,A 9 Ty.str v6 0)]) ([],0) H fun _ g3 b3 e3 t3 ⟨v6,v7⟩ H=>qA (Z [p 1 (R 1),p 3 (O 20),p 4 (O 33),p 23 (L y190 a0.2.2),p 24 (I (a0.2.2.length:Int)),p 25 (I v7),p 26 (B (decide (v7 < (a0.2.2.length:Int))))] [(1,K 43 y43 a0),(20,A 9 Ty.str v4 0),(33,A 9 Ty.str v6 0)])<|vQ<|cD H (fun H=>?_) (fun H=>?_)
  ·refine vK<|fQ<|vQ<|vB<|qD (fun v8=>Z [p 1 (R 1),p 3 (O 20),p 4 (O 33),p 8 (R 8),p 23 (L y190 a0.2.2),p 24 (I (a0.2.2.length:Int)),p 25 (I v7)] [(8,K 190 y190 v8),(1,K 43 y43 a0),(20,A 9 Ty.str v4 0),(33,A 9 Ty.str v6 0)]) H fun v8 H=>zB (Z [p 1 (R 1),p 3 (O 20),p 4 (AV.os 33 1),p 23 (L y190 a0.2.2),p 24 (I (a0.2.2.length:Int)),p 25 (I v7)] [(33,A 9 Ty.str (v6++[v8.1]) 1),(32,A 9 Ty.str [v8.1] 0),(8,K 190 y190 v8),(1,K 43 y43 a0),(20,A 9 Ty.str v4 0)]) H fun H=>fK<|fQ<|zB (Z [p 1 (R 1),p 3 (O 20),p 4 (AV.os 33 1),p 23 (L y190 a0.2.2),p 24 (I (a0.2.2.length:Int)),p 25 (I (v7+1))] [(33,A 9 Ty.str (v6++[v8.1]) 1),(32,A 9 Ty.str [v8.1] 0),(8,K 190 y190 v8),(1,K 43 y43 a0),(20,A 9 Ty.str v4 0)]) H fun H=>b3 H
  exact vE<|fE<|e3<|fX rfl<|n2 H
 refine qA (Z [p 1 (R 1),p 3 (nil),p 4 (nil),p 10 (L y150 a0.1),p 11 (I (a0.1.length:Int)),p 12 (I 0)] [(1,K 43 y43 a0)])<|vB<|lX (fun((v1,v2):List ByteArray×Int)=>Z [p 1 (R 1),p 3 (O 20),p 4 (nil),p 10 (L y150 a0.1),p 11 (I (a0.1.length:Int)),p 12 (I v2)] [(1,K 43 y43 a0),(20,A 9 Ty.str v1 0)]) ([],0) H fun _ g1 b1 e1 t1 ⟨v1,v2⟩ H=>qA (Z [p 1 (R 1),p 3 (O 20),p 4 (nil),p 10 (L y150 a0.1),p 11 (I (a0.1.length:Int)),p 12 (I v2),p 13 (B (decide (v2 < (a0.1.length:Int))))] [(1,K 43 y43 a0),(20,A 9 Ty.str v1 0)])<|vQ<|cD H (fun H=>?_) (fun H=>?_)
 ·refine vK<|fQ<|vQ<|vB<|qD (fun v3=>Z [p 1 (R 1),p 3 (O 20),p 4 (nil),p 6 (R 6),p 10 (L y150 a0.1),p 11 (I (a0.1.length:Int)),p 12 (I v2)] [(6,K 150 y150 v3),(1,K 43 y43 a0),(20,A 9 Ty.str v1 0)]) H fun v3 H=>zB (Z [p 1 (R 1),p 3 (AV.os 20 1),p 4 (nil),p 10 (L y150 a0.1),p 11 (I (a0.1.length:Int)),p 12 (I v2)] [(20,A 9 Ty.str (v1++[v3.1]) 1),(19,A 9 Ty.str [v3.1] 0),(6,K 150 y150 v3),(1,K 43 y43 a0)]) H fun H=>fK<|fQ<|zB (Z [p 1 (R 1),p 3 (AV.os 20 1),p 4 (nil),p 10 (L y150 a0.1),p 11 (I (a0.1.length:Int)),p 12 (I (v2+1))] [(20,A 9 Ty.str (v1++[v3.1]) 1),(19,A 9 Ty.str [v3.1] 0),(6,K 150 y150 v3),(1,K 43 y43 a0)]) H fun H=>b1 H
 exact vE<|fE<|e1<|fX rfl<|n0 H
def u254(a0:Y153)(a1:Int):Option (Bool) :=
 some (a0.1==a1)
def k254:Ct:=lct 254 [.agg y153,.dat (.pt i64)] (fun x=>u254 x.1 x.2.1) (fun r:Bool=>B r) (fun _=>())
theorem o254:Ok prog k254:=by
 refine okL [.tmp 3] func254 ntmps254 results254 ?_;intro y ⟨a0,a1,_⟩ r H Q hn hr;have:HT _ _:=⟨@tn prog⟩;refine qA (Z [p 1 (D i64.pt a1),p 2 (R 2)] [(2,K 153 y153 a0)])<|qA (Z [p 3 (B (a0.1==a1))] [(2,K 153 y153 a0)])<|vTT<|hr H
def u253c254J0:Unit->Option (Int)
 | _ =>
 some (-1)
def u253c254L1(a0:List Y153)(a1:Int)(g1:Int->Option (Int)):Int->Option (Int)
 | v0 =>
 if(decide (v0 < (a0.length:Int)))=true then
  gd (ix v0 a0.length/\(u254 (a0.getD v0.toNat (dflt y153)) a1).isSome=true/\True) <|
  if(vl (u254 (a0.getD v0.toNat (dflt y153)) a1))=true then
   some v0
  else
   gd (in64 (v0+1)/\True) <|
   g1 (v0+1)
 else
  u253c254J0 ()
def u253c254(a0:List Y153)(a1:Int):Option (Int) :=
 lp (u253c254L1 a0 a1) 0
def k253c254:Ct:=lct 253 [.dat y153.sl,.fn 254 i64.pt] (fun x=>u253c254 x.1 x.2.1) (fun r:Int=>I r) (fun _=>())
theorem o253c254:Ok prog k253c254:=by
 refine okL [.tmp 4] func253 ntmps253 results253 ?_;intro y ⟨a0,a1,_⟩ r H Q hn hr;have:HT _ _:=⟨tc o254 tn⟩;refine qA (Z [p 0 (L y153 a0),p 1 (AV.fn 254 [D i64.pt a1])] [])<|jN r (fun(_:Unit)=>Z [] []) (u253c254J0) (fun _ H=>?_) (fun _ n0 e0 t0=>?_)
 ·refine qA (Z [p 4 (I (-1))] [])<|vTT<|hr H
 refine qA (Z [p 0 (L y153 a0),p 1 (AV.fn 254 [D i64.pt a1]),p 7 (I (a0.length:Int)),p 8 (I 0)] [])<|vB<|lX (fun(v0:Int)=>Z [p 0 (L y153 a0),p 1 (AV.fn 254 [D i64.pt a1]),p 7 (I (a0.length:Int)),p 8 (I v0)] []) 0 H fun _ g1 b1 e1 t1 v0 H=>qA (Z [p 0 (L y153 a0),p 1 (AV.fn 254 [D i64.pt a1]),p 7 (I (a0.length:Int)),p 8 (I v0),p 9 (B (decide (v0 < (a0.length:Int))))] [])<|vQ<|cD H (fun H=>?_) (fun H=>?_)
 ·refine vK<|fQ<|vQ<|vB<|qA (Z [p 0 (L y153 a0),p 1 (AV.fn 254 [D i64.pt a1]),p 5 (I v0),p 7 (I (a0.length:Int)),p 8 (I v0)] [])<|qB (Z [p 0 (L y153 a0),p 1 (AV.fn 254 [D i64.pt a1]),p 5 (I v0),p 7 (I (a0.length:Int)),p 8 (I v0),p 16 (B (vl (u254 (a0.getD v0.toNat (dflt y153)) a1)))] []) H fun H=>cD H (fun H=>?_) (fun H=>?_)
  ·refine qA (Z [p 4 (I v0)] [])<|vTT<|fDD<|fR<|t1<|fDD<|t0<|hr H
  refine vK<|fK<|fQ<|zB (Z [p 0 (L y153 a0),p 1 (AV.fn 254 [D i64.pt a1]),p 7 (I (a0.length:Int)),p 8 (I (v0+1))] []) H fun H=>b1 H
 exact vE<|fE<|e1<|fX rfl<|n0 H
def u231c254(a0:List Y153)(a1:Int):Option (Bool) :=
 gd ((u253c254 a0 a1).isSome=true/\True)<|lt (vl (u253c254 a0 a1)) fun v0 =>
 some (decide (0<=v0))
def k231c254:Ct:=lct 231 [.dat y153.sl,.fn 254 (.pt i64)] (fun x=>u231c254 x.1 x.2.1) (fun r:Bool=>B r) (fun _=>())
theorem o231c254:Ok prog k231c254:=by
 refine okL [.tmp 4] func231 ntmps231 results231 ?_;intro y ⟨a0,a1,_⟩ r H Q hn hr;have:HT _ _:=⟨tc o253c254 (tc o254 tn)⟩;refine qA (Z [p 0 (L y153 a0),p 1 (AV.fn 254 [D i64.pt a1])] [])<|qD (fun v0=>Z [p 4 (B (decide (0<=v0)))] []) H fun v0 H=>vTT<|hr H
def u234(a0:Y148)(a1:Int):Option (Bool) :=
 gd ((u231c254 a0.2.2.2.1 a1).isSome=true/\True) <|
 some (vl (u231c254 a0.2.2.2.1 a1))
def k234:Ct:=lct 234 [.agg y148,.dat i64] (fun x=>u234 x.1 x.2.1) (fun r:Bool=>B r) (fun _=>())
theorem o234:Ok prog k234:=by
 refine okL [.tmp 4] func234 ntmps234 results234 ?_;intro y ⟨a0,a1,_⟩ r H Q hn hr;have:HT _ _:=⟨tc o231c254 (tc o254 tn)⟩;refine qA (Z [p 2 (R 2),p 3 (R 3)] [(3,Ob.box 2 [J a1]),(2,K 148 y148 a0)])<|qB (Z [p 4 (B (vl (u231c254 a0.2.2.2.1 a1)))] [(3,Ob.box 2 [J a1]),(2,K 148 y148 a0)]) H fun H=>vTT<|hr H
def u229(a0:List Y222):Option (Int) :=
 some (a0.length:Int)
def k229:Ct:=lct 229 [.dat y222.sl] (fun x=>u229 x.1) (fun r:Int=>I r) (fun _=>())
theorem o229:Ok prog k229:=by
 refine okL [.tmp 2] func229 ntmps229 results229 ?_;intro y ⟨a0,_⟩ r H Q hn hr;have:HT _ _:=⟨@tn prog⟩;refine qA (Z [p 0 (L y222 a0)] [])<|qA (Z [p 2 (I (a0.length:Int))] [])<|vTT<|hr H
def u233(a0:Y148):Option (Int) :=
 gd ((u229 a0.2.2.1).isSome=true/\in64 (vl (u229 a0.2.2.1)-1)/\True)<|lt (vl (u229 a0.2.2.1)) fun v0 =>
 some (v0-1)
def k233:Ct:=lct 233 [.agg y148] (fun x=>u233 x.1) (fun r:Int=>I r) (fun _=>())
theorem o233:Ok prog k233:=by
 refine okL [.tmp 2] func233 ntmps233 results233 ?_;intro y ⟨a0,_⟩ r H Q hn hr;have:HT _ _:=⟨tc o229 tn⟩;refine qA (Z [p 1 (R 1)] [(1,K 148 y148 a0)])<|qD (fun v0=>Z [p 2 (I (v0-1))] [(1,K 148 y148 a0)]) H fun v0 H=>vTT<|hr H
def u215J0(a0:Y148):Int->Option (Bool)
 | v6 =>
 if(a0.2.1==1)=true then
  gd (((v6==0)=true/\True->(u233 a0).isSome=true)/\((v6==0)=true/\True->(0<=vl (u233 a0)/\vl (u233 a0)<=62)/\in64 (1*2 ^ (vl (u233 a0)).toNat))/\((v6==0&&(a0.2.2.2.2.1.length:Int)==1*2 ^ (vl (u233 a0)).toNat)=true/\True->(u146 a0.2.2.2.2.1 0 1).isSome=true)/\True)<|lt (vl (u233 a0)) fun v7 =>
  some (v6==0&&(a0.2.2.2.2.1.length:Int)==1*2 ^ v7.toNat&&vl (u146 a0.2.2.2.2.1 0 1))
 else
  if(a0.2.1==2)=true then
   gd (((v6==1&&(a0.2.2.2.2.1.length:Int)==0)=true/\True->(u234 a0 1).isSome=true)/\((v6==1&&(a0.2.2.2.2.1.length:Int)==0&&!vl (u234 a0 1))=true/\True->(u234 a0 2).isSome=true)/\((v6==1&&(a0.2.2.2.2.1.length:Int)==0&&!vl (u234 a0 1))=true/\True->(u234 a0 3).isSome=true)/\True) <|
   some (v6==1&&(a0.2.2.2.2.1.length:Int)==0&&!vl (u234 a0 1)&&!vl (u234 a0 2)==vl (u234 a0 3))
  else
   if(a0.2.1==3)=true then
    gd (((v6==1&&(a0.2.2.2.2.1.length:Int)==0)=true/\True->(u234 a0 1).isSome=true)/\((v6==1&&(a0.2.2.2.2.1.length:Int)==0&&vl (u234 a0 1))=true/\True->(u234 a0 2).isSome=true)/\((v6==1&&(a0.2.2.2.2.1.length:Int)==0&&vl (u234 a0 1)&&vl (u234 a0 2))=true/\True->(u234 a0 3).isSome=true)/\True) <|
    some (v6==1&&(a0.2.2.2.2.1.length:Int)==0&&vl (u234 a0 1)&&vl (u234 a0 2)&&!vl (u234 a0 3))
   else
    some false
def u215J2(v3:Int)(g1:Int×Int->Option (Bool)):Int->Option (Bool)
 | v5 =>
 gd (in64 (v3+1)/\True) <|
 g1 (v5,v3+1)
def u215L1(a0:Y148)(g1:Int×Int->Option (Bool)):Int×Int->Option (Bool)
 | (v2,v3) =>
 if(decide (v3 < (a0.2.2.1.length:Int)))=true then
  gd (ix v3 a0.2.2.1.length/\True)<|lt (a0.2.2.1.getD v3.toNat (dflt y222)) fun v4 =>
  if v4.2.2.2=true then
   gd (in64 (v2+1)/\True) <|
   u215J2 v3 g1 (v2+1)
  else
   u215J2 v3 g1 v2
 else
  u215J0 a0 v2
def u215(a0:Y148):Option (Bool) :=
 lp (u215L1 a0) (0,0)
def k215:Ct:=lct 215 [.agg y148] (fun x=>u215 x.1) (fun r:Bool=>B r) (fun _=>())
theorem o215:Ok prog k215:=by
 refine okL [.tmp 2] func215 ntmps215 results215 ?_;intro y ⟨a0,_⟩ r H Q hn hr;have:HT _ _:=⟨tc o234 (tc o146 (tc o233 tn))⟩;refine qA (Z [p 1 (R 1)] [(1,K 148 y148 a0)])<|qA (Z [p 1 (R 1),p 3 (I 0)] [(1,K 148 y148 a0)])<|jN r (fun(v6:Int)=>Z [p 1 (R 1),p 3 (I v6)] [(1,K 148 y148 a0)]) (u215J0 a0) (fun v6 H=>?_) (fun _ n0 e0 t0=>?_)
 ·refine vQ<|qA (Z [p 1 (R 1),p 3 (I v6),p 19 (J a0.2.1)] [(1,K 148 y148 a0)])<|vB<|qA (Z [p 1 (R 1),p 3 (I v6),p 19 (J a0.2.1),p 20 (B (a0.2.1==1))] [(1,K 148 y148 a0)])<|cD H (fun H=>?_) (fun H=>?_)
  ·refine qD (fun v7=>Z [p 2 (B (v6==0&&(a0.2.2.2.2.1.length:Int)==1*2 ^ v7.toNat&&vl (u146 a0.2.2.2.2.1 0 1)))] [(1,K 148 y148 a0)]) H fun v7 H=>vTT<|fDD<|fR<|hr H
  refine qA (Z [p 1 (R 1),p 3 (I v6),p 19 (J a0.2.1),p 38 (B (a0.2.1==2))] [(1,K 148 y148 a0)])<|cD H (fun H=>?_) (fun H=>?_)
  ·refine qB (Z [p 2 (B (v6==1&&(a0.2.2.2.2.1.length:Int)==0&&!vl (u234 a0 1)&&!vl (u234 a0 2)==vl (u234 a0 3)))] [(1,K 148 y148 a0)]) H fun H=>vTT<|fDD<|fR<|hr H
  refine qA (Z [p 1 (R 1),p 3 (I v6),p 60 (B (a0.2.1==3))] [(1,K 148 y148 a0)])<|cD H (fun H=>?_) (fun H=>?_)
  ·refine qB (Z [p 2 (B (v6==1&&(a0.2.2.2.2.1.length:Int)==0&&vl (u234 a0 1)&&vl (u234 a0 2)&&!vl (u234 a0 3)))] [(1,K 148 y148 a0)]) H fun H=>vTT<|fDD<|fR<|hr H
  refine vK<|fK<|fQ<|qA (Z [p 2 (B false)] [(1,K 148 y148 a0)])<|vTT<|hr H
 refine qA (Z [p 1 (R 1),p 3 (I 0),p 7 (L y222 a0.2.2.1),p 8 (I (a0.2.2.1.length:Int)),p 9 (I 0)] [(1,K 148 y148 a0)])<|vB<|lX (fun((v2,v3):Int×Int)=>Z [p 1 (R 1),p 3 (I v2),p 7 (L y222 a0.2.2.1),p 8 (I (a0.2.2.1.length:Int)),p 9 (I v3)] [(1,K 148 y148 a0)]) (0,0) H fun _ g1 b1 e1 t1 ⟨v2,v3⟩ H=>qA (Z [p 1 (R 1),p 3 (I v2),p 7 (L y222 a0.2.2.1),p 8 (I (a0.2.2.1.length:Int)),p 9 (I v3),p 10 (B (decide (v3 < (a0.2.2.1.length:Int))))] [(1,K 148 y148 a0)])<|vQ<|cD H (fun H=>?_) (fun H=>?_)
 ·refine vK<|fQ<|jN r (fun(v5:Int)=>Z [p 1 (R 1),p 3 (I v5),p 7 (L y222 a0.2.2.1),p 8 (I (a0.2.2.1.length:Int)),p 9 (I v3)] [(1,K 148 y148 a0)]) (u215J2 v3 g1) (fun v5 H=>?_) (fun _ n2 e2 t2=>?_)
  ·refine zB (Z [p 1 (R 1),p 3 (I v5),p 7 (L y222 a0.2.2.1),p 8 (I (a0.2.2.1.length:Int)),p 9 (I (v3+1))] [(1,K 148 y148 a0)]) H fun H=>b1 H
  refine vB<|qD (fun v4=>Z [p 1 (R 1),p 3 (I v2),p 5 (R 5),p 7 (L y222 a0.2.2.1),p 8 (I (a0.2.2.1.length:Int)),p 9 (I v3)] [(5,K 222 y222 v4),(1,K 148 y148 a0)]) H fun v4 H=>qA (Z [p 1 (R 1),p 3 (I v2),p 7 (L y222 a0.2.2.1),p 8 (I (a0.2.2.1.length:Int)),p 9 (I v3),p 14 (C v4.2.2.2)] [(5,K 222 y222 v4),(1,K 148 y148 a0)])<|cD H (fun H=>?_) (fun H=>?_)
  ·refine zB (Z [p 1 (R 1),p 3 (I (v2+1)),p 7 (L y222 a0.2.2.1),p 8 (I (a0.2.2.1.length:Int)),p 9 (I v3)] [(5,K 222 y222 v4),(1,K 148 y148 a0)]) H fun H=>fK<|n2 H
  exact vK<|fK<|n2 H
 exact vE<|fE<|e1<|fX rfl<|n0 H
def u252(a0:Y148)(a1:Int):Option (Bool) :=
 gd ((u233 a0).isSome=true/\in64 (vl (u233 a0)-1)/\(u138 a1 0 (vl (u233 a0)-1)).isSome=true/\True) <|
 some (vl (u138 a1 0 (vl (u233 a0)-1)))
def k252:Ct:=lct 252 [.agg y148,.dat i64] (fun x=>u252 x.1 x.2.1) (fun r:Bool=>B r) (fun _=>())
theorem o252:Ok prog k252:=by
 refine okL [.tmp 4] func252 ntmps252 results252 ?_;intro y ⟨a0,a1,_⟩ r H Q hn hr;have:HT _ _:=⟨tc o138 (tc o233 tn)⟩;refine qA (Z [p 1 (J a1),p 2 (R 2)] [(2,K 148 y148 a0)])<|qB (Z [p 4 (B (vl (u138 a1 0 (vl (u233 a0)-1))))] [(2,K 148 y148 a0)]) H fun H=>vTT<|hr H
def u264J1:Int->Option (Int)
 | v3 =>
 some v3
def u264L2(a0:List Int)(g2:Int×Int->Option (Int)):Int×Int->Option (Int)
 | (v1,v2) =>
 if(decide (v2 < (a0.length:Int)))=true then
  gd (ix v2 a0.length/\True) <|
  gd (in64 (v2+1)/\True) <|
  g2 ((min v1 (a0.getD v2.toNat 0),v2+1))
 else
  u264J1 v1
def u264J0(a0:List Int):Unit->Option (Int)
 | _ =>
 gd (ix 0 a0.length/\True) <|
 lp (u264L2 a0) ((a0.getD (Int.toNat (0:Int)) (0:Int),1))
def u264(a0:List Int):Option (Int) :=
 if(decide ((a0.length:Int)<1))=true then
  none
 else
  u264J0 a0 ()
def k264:Ct:=lct 264 [.dat i64.sl] (fun x=>u264 x.1) (fun r:Int=>I r) (fun _=>())
theorem o264:Ok prog k264:=by
 refine okL [.tmp 2] func264 ntmps264 results264 ?_;intro y ⟨a0,_⟩ r H Q hn hr;have:HT _ _:=⟨@tn prog⟩;refine qA (Z [p 0 (L i64 a0)] [])<|jN r (fun(_:Unit)=>Z [p 0 (L i64 a0)] []) (u264J0 a0) (fun _ H=>?_) (fun _ n0 e0 t0=>?_)
 ·refine qB (Z [p 0 (L i64 a0),p 3 (J (a0.getD (Int.toNat (0:Int)) (0:Int)))] []) H fun H=>jN r (fun(v3:Int)=>Z [p 3 (J v3)] []) (u264J1) (fun v3 H=>?_) (fun _ n1 e1 t1=>?_)
  ·refine qA (Z [p 2 (J v3)] [])<|vTT<|hr H
  refine qA (Z [p 0 (L i64 a0),p 3 (J (a0.getD (Int.toNat (0:Int)) (0:Int))),p 4 (I (1:Int))] [])<|vB<|lX (fun((v1,v2):Int×Int)=>Z [p 0 (L i64 a0),p 3 (J v1),p 4 (I v2)] []) ((a0.getD (Int.toNat (0:Int)) (0:Int),1)) H fun _ g2 b2 e2 t2 ⟨v1,v2⟩ H=>vQ<|qA (Z [p 0 (L i64 a0),p 3 (J v1),p 4 (I v2),p 15 (B (decide (v2 < (a0.length:Int))))] [])<|cD H (fun H=>?_) (fun H=>?_)
  ·refine vK<|fQ<|vQ<|vB<|zB (Z [p 0 (L i64 a0),p 3 (I (min v1 (a0.getD v2.toNat 0))),p 4 (I v2)] []) H fun H=>fK<|fQ<|zB (Z [p 0 (L i64 a0),p 3 (I (min v1 (a0.getD v2.toNat 0))),p 4 (I (v2+1))] []) H fun H=>b2 H
  exact vE<|fE<|e2<|fX rfl<|n1 H
 refine qA (Z [p 0 (L i64 a0),p 7 (B (decide ((a0.length:Int)<1)))] [])<|cD H (fun H=>?_) (fun H=>?_)
 ·exact dead H
 exact vK<|n0 H
def u272(a0:List Int):Option (Bool) :=
 gd ((u123 a0).isSome=true/\(u138 (vl (u123 a0)) 1 4).isSome=true/\(vl (u138 (vl (u123 a0)) 1 4)=true/\True->(u146 a0 0 100000).isSome=true)/\((vl (u138 (vl (u123 a0)) 1 4)&&vl (u146 a0 0 100000))=true/\True->(u148 a0).isSome=true)/\True) <|
 some (vl (u138 (vl (u123 a0)) 1 4)&&vl (u146 a0 0 100000)&&vl (u148 a0))
def k272:Ct:=lct 272 [.dat i64.sl] (fun x=>u272 x.1) (fun r:Bool=>B r) (fun _=>())
theorem o272:Ok prog k272:=by
 refine okL [.tmp 2] func272 ntmps272 results272 ?_;intro y ⟨a0,_⟩ r H Q hn hr;have:HT _ _:=⟨tc o148 (tc o146 (tc o138 (tc o123 tn)))⟩;refine qA (Z [p 0 (L i64 a0)] [])<|qB (Z [p 2 (B (vl (u138 (vl (u123 a0)) 1 4)&&vl (u146 a0 0 100000)&&vl (u148 a0)))] []) H fun H=>vTT<|hr H
def u263(a0:Y261):Option (Bool) :=
 gd ((u272 a0.1).isSome=true/\(vl (u272 a0.1)=true/\True->(u272 a0.2.1).isSome=true)/\((vl (u272 a0.1)&&vl (u272 a0.2.1))=true/\True->in64 ((a0.1.length:Int)*(a0.2.1.length:Int)))/\((vl (u272 a0.1)&&vl (u272 a0.2.1)&&(a0.2.2.length:Int)==(a0.1.length:Int)*(a0.2.1.length:Int))=true/\True->(u146 a0.2.2 (-1000000) 1000000).isSome=true)/\True) <|
 some (vl (u272 a0.1)&&vl (u272 a0.2.1)&&(a0.2.2.length:Int)==(a0.1.length:Int)*(a0.2.1.length:Int)&&vl (u146 a0.2.2 (-1000000) 1000000))
def k263:Ct:=lct 263 [.agg y261] (fun x=>u263 x.1) (fun r:Bool=>B r) (fun _=>())
theorem o263:Ok prog k263:=by
 refine okL [.tmp 2] func263 ntmps263 results263 ?_;intro y ⟨a0,_⟩ r H Q hn hr;have:HT _ _:=⟨tc o146 (tc o272 tn)⟩;refine qA (Z [p 1 (R 1)] [(1,K 261 y261 a0)])<|qB (Z [p 2 (B (vl (u272 a0.1)&&vl (u272 a0.2.1)&&(a0.2.2.length:Int)==(a0.1.length:Int)*(a0.2.1.length:Int)&&vl (u146 a0.2.2 (-1000000) 1000000)))] [(1,K 261 y261 a0)]) H fun H=>vTT<|hr H
def u262(a0:Y261)(a1:Bool):Option (Bool) :=
 gd ((u263 a0).isSome=true/\(a1=true/\(!vl (u263 a0))=false/\True->(u264 a0.2.2).isSome=true)/\True)<|lt (vl (u264 a0.2.2)) fun v0 =>
 some (!vl (u263 a0)||a1&&decide (v0<0))
def k262:Ct:=lct 262 [.agg y261,.dat (.pt Ty.bool)] (fun x=>u262 x.1 x.2.1) (fun r:Bool=>B r) (fun _=>())
theorem o262:Ok prog k262:=by
 refine okL [.tmp 3] func262 ntmps262 results262 ?_;intro y ⟨a0,a1,_⟩ r H Q hn hr;have:HT _ _:=⟨tc o264 (tc o263 tn)⟩;refine qA (Z [p 1 (D Ty.bool.pt a1),p 2 (R 2)] [(2,K 261 y261 a0)])<|qD (fun v0=>Z [p 3 (B (!vl (u263 a0)||a1&&decide (v0<0)))] [(2,K 261 y261 a0)]) H fun v0 H=>vTT<|hr H
def u271c262J0:Unit->Option (Int)
 | _ =>
 some (-1)
def u271c262L1(a0:List Y261)(a1:Bool)(g1:Int->Option (Int)):Int->Option (Int)
 | v0 =>
 if(decide (v0 < (a0.length:Int)))=true then
  gd (ix v0 a0.length/\(u262 (a0.getD v0.toNat (dflt y261)) a1).isSome=true/\True) <|
  if(vl (u262 (a0.getD v0.toNat (dflt y261)) a1))=true then
   some v0
  else
   gd (in64 (v0+1)/\True) <|
   g1 (v0+1)
 else
  u271c262J0 ()
def u271c262(a0:List Y261)(a1:Bool):Option (Int) :=
 lp (u271c262L1 a0 a1) 0
def k271c262:Ct:=lct 271 [.dat y261.sl,.fn 262 Ty.bool.pt] (fun x=>u271c262 x.1 x.2.1) (fun r:Int=>I r) (fun _=>())
theorem o271c262:Ok prog k271c262:=by
 refine okL [.tmp 4] func271 ntmps271 results271 ?_;intro y ⟨a0,a1,_⟩ r H Q hn hr;have:HT _ _:=⟨tc o262 tn⟩;refine qA (Z [p 0 (L y261 a0),p 1 (AV.fn 262 [D Ty.bool.pt a1])] [])<|jN r (fun(_:Unit)=>Z [] []) (u271c262J0) (fun _ H=>?_) (fun _ n0 e0 t0=>?_)
 ·refine qA (Z [p 4 (I (-1))] [])<|vTT<|hr H
 refine qA (Z [p 0 (L y261 a0),p 1 (AV.fn 262 [D Ty.bool.pt a1]),p 7 (I (a0.length:Int)),p 8 (I 0)] [])<|vB<|lX (fun(v0:Int)=>Z [p 0 (L y261 a0),p 1 (AV.fn 262 [D Ty.bool.pt a1]),p 7 (I (a0.length:Int)),p 8 (I v0)] []) 0 H fun _ g1 b1 e1 t1 v0 H=>qA (Z [p 0 (L y261 a0),p 1 (AV.fn 262 [D Ty.bool.pt a1]),p 7 (I (a0.length:Int)),p 8 (I v0),p 9 (B (decide (v0 < (a0.length:Int))))] [])<|vQ<|cD H (fun H=>?_) (fun H=>?_)
 ·refine vK<|fQ<|vQ<|vB<|qA (Z [p 0 (L y261 a0),p 1 (AV.fn 262 [D Ty.bool.pt a1]),p 5 (I v0),p 7 (I (a0.length:Int)),p 8 (I v0)] [])<|qB (Z [p 0 (L y261 a0),p 1 (AV.fn 262 [D Ty.bool.pt a1]),p 5 (I v0),p 7 (I (a0.length:Int)),p 8 (I v0),p 16 (B (vl (u262 (a0.getD v0.toNat (dflt y261)) a1)))] []) H fun H=>cD H (fun H=>?_) (fun H=>?_)
  ·refine qA (Z [p 4 (I v0)] [])<|vTT<|fDD<|fR<|t1<|fDD<|t0<|hr H
  refine vK<|fK<|fQ<|zB (Z [p 0 (L y261 a0),p 1 (AV.fn 262 [D Ty.bool.pt a1]),p 7 (I (a0.length:Int)),p 8 (I (v0+1))] []) H fun H=>b1 H
 exact vE<|fE<|e1<|fX rfl<|n0 H
def u261c262(a0:List Y261)(a1:Bool):Option (Bool) :=
 gd ((u271c262 a0 a1).isSome=true/\True)<|lt (vl (u271c262 a0 a1)) fun v0 =>
 some (decide (0<=v0))
def k261c262:Ct:=lct 261 [.dat y261.sl,.fn 262 (.pt Ty.bool)] (fun x=>u261c262 x.1 x.2.1) (fun r:Bool=>B r) (fun _=>())
theorem o261c262:Ok prog k261c262:=by
 refine okL [.tmp 4] func261 ntmps261 results261 ?_;intro y ⟨a0,a1,_⟩ r H Q hn hr;have:HT _ _:=⟨tc o271c262 (tc o262 tn)⟩;refine qA (Z [p 0 (L y261 a0),p 1 (AV.fn 262 [D Ty.bool.pt a1])] [])<|qD (fun v0=>Z [p 4 (B (decide (0<=v0)))] []) H fun v0 H=>vTT<|hr H
def u250(a0:List Y261)(a1:Bool):Option (Bool) :=
 gd ((((a0.length:Int)==2)=true/\True->(u261c262 a0 a1).isSome=true)/\True) <|
 some ((a0.length:Int)==2&&!vl (u261c262 a0 a1))
def k250:Ct:=lct 250 [.dat y261.sl,.dat Ty.bool] (fun x=>u250 x.1 x.2.1) (fun r:Bool=>B r) (fun _=>())
theorem o250:Ok prog k250:=by
 refine okL [.tmp 4] func250 ntmps250 results250 ?_;intro y ⟨a0,a1,_⟩ r H Q hn hr;have:HT _ _:=⟨tc o261c262 (tc o262 tn)⟩;refine qA (Z [p 0 (L y261 a0),p 3 (R 3)] [(3,Ob.box 4 [C a1])])<|qB (Z [p 4 (B ((a0.length:Int)==2&&!vl (u261c262 a0 a1)))] [(3,Ob.box 4 [C a1])]) H fun H=>vTT<|hr H
def u266(a0:Y222):Option (Bool) :=
 some a0.2.2.2
def k266:Ct:=lct 266 [.agg y222] (fun x=>u266 x.1) (fun r:Bool=>B r) (fun _=>())
theorem o266:Ok prog k266:=by
 refine okL [.tmp 2] func266 ntmps266 results266 ?_;intro y ⟨a0,_⟩ r H Q hn hr;have:HT _ _:=⟨@tn prog⟩;refine qA (Z [p 1 (R 1)] [(1,K 222 y222 a0)])<|qA (Z [p 2 (C a0.2.2.2)] [(1,K 222 y222 a0)])<|vTT<|hr H
def u265c266J0:Unit->Option (Int)
 | _ =>
 some (-1)
def u265c266L1(a0:List Y222)(g1:Int->Option (Int)):Int->Option (Int)
 | v0 =>
 if(decide (v0 < (a0.length:Int)))=true then
  gd (ix v0 a0.length/\(u266 (a0.getD v0.toNat (dflt y222))).isSome=true/\True) <|
  if(vl (u266 (a0.getD v0.toNat (dflt y222))))=true then
   some v0
  else
   gd (in64 (v0+1)/\True) <|
   g1 (v0+1)
 else
  u265c266J0 ()
def u265c266(a0:List Y222):Option (Int) :=
 lp (u265c266L1 a0) 0
def k265c266:Ct:=lct 265 [.dat y222.sl,.nof 266] (fun x=>u265c266 x.1) (fun r:Int=>I r) (fun _=>())
theorem o265c266:Ok prog k265c266:=by
 refine okL [.tmp 4] func265 ntmps265 results265 ?_;intro y ⟨a0,_,_⟩ r H Q hn hr;have:HT _ _:=⟨tc o266 tn⟩;refine qA (Z [p 0 (L y222 a0),p 1 (AV.fn 266 [])] [])<|jN r (fun(_:Unit)=>Z [] []) (u265c266J0) (fun _ H=>?_) (fun _ n0 e0 t0=>?_)
 ·refine qA (Z [p 4 (I (-1))] [])<|vTT<|hr H
 refine qA (Z [p 0 (L y222 a0),p 1 (AV.fn 266 []),p 7 (I (a0.length:Int)),p 8 (I 0)] [])<|vB<|lX (fun(v0:Int)=>Z [p 0 (L y222 a0),p 1 (AV.fn 266 []),p 7 (I (a0.length:Int)),p 8 (I v0)] []) 0 H fun _ g1 b1 e1 t1 v0 H=>qA (Z [p 0 (L y222 a0),p 1 (AV.fn 266 []),p 7 (I (a0.length:Int)),p 8 (I v0),p 9 (B (decide (v0 < (a0.length:Int))))] [])<|vQ<|cD H (fun H=>?_) (fun H=>?_)
 ·refine vK<|fQ<|vQ<|vB<|qA (Z [p 0 (L y222 a0),p 1 (AV.fn 266 []),p 5 (I v0),p 7 (I (a0.length:Int)),p 8 (I v0)] [])<|qB (Z [p 0 (L y222 a0),p 1 (AV.fn 266 []),p 5 (I v0),p 7 (I (a0.length:Int)),p 8 (I v0),p 16 (B (vl (u266 (a0.getD v0.toNat (dflt y222)))))] []) H fun H=>cD H (fun H=>?_) (fun H=>?_)
  ·refine qA (Z [p 4 (I v0)] [])<|vTT<|fDD<|fR<|t1<|fDD<|t0<|hr H
  refine vK<|fK<|fQ<|zB (Z [p 0 (L y222 a0),p 1 (AV.fn 266 []),p 7 (I (a0.length:Int)),p 8 (I (v0+1))] []) H fun H=>b1 H
 exact vE<|fE<|e1<|fX rfl<|n0 H
def u251(a0:Y148):Option (Int) :=
 gd ((u265c266 a0.2.2.1).isSome=true/\True)<|lt (vl (u265c266 a0.2.2.1)) fun v0 =>
 some v0
def k251:Ct:=lct 251 [.agg y148] (fun x=>u251 x.1) (fun r:Int=>I r) (fun _=>())
theorem o251:Ok prog k251:=by
 refine okL [.tmp 2] func251 ntmps251 results251 ?_;intro y ⟨a0,_⟩ r H Q hn hr;have:HT _ _:=⟨tc o266 (tc o265c266 tn)⟩;refine qA (Z [p 1 (R 1)] [(1,K 148 y148 a0)])<|qD (fun v0=>Z [p 2 (I v0)] [(1,K 148 y148 a0)]) H fun v0 H=>vTT<|hr H
def u249(a0:Int):Option (Bool) :=
 some (a0==4||a0==5)
def k249:Ct:=lct 249 [.dat i64] (fun x=>u249 x.1) (fun r:Bool=>B r) (fun _=>())
theorem o249:Ok prog k249:=by
 refine okL [.tmp 2] func249 ntmps249 results249 ?_;intro y ⟨a0,_⟩ r H Q hn hr;have:HT _ _:=⟨@tn prog⟩;refine qA (Z [p 0 (J a0)] [])<|qA (Z [p 2 (B (a0==4||a0==5))] [])<|vTT<|hr H
def u230J0(a0:Y148)(a1:Y153):Bool->Option (Bool)
 | v2 =>
 if v2=true then
  gd (ix a1.2.1 a0.2.2.1.length/\True) <|
  some ((a0.2.2.1.getD a1.2.1.toNat (dflt y222)).2.2.2&&a1.2.2.2.1==0)
 else
  some false
def u230(a0:Y148)(a1:Y153):Option (Bool) :=
 gd ((u249 a1.1).isSome=true/\True) <|
 if(vl (u249 a1.1))=true then
  gd (((a1.2.2.2.1==0&&(a1.2.2.2.2.2.length:Int)==0)=true/\True->(u250 a1.2.2.2.2.1 false).isSome=true)/\((a1.2.2.2.1==0&&(a1.2.2.2.2.2.length:Int)==0&&vl (u250 a1.2.2.2.2.1 false))=true/\True->(u251 a0).isSome=true)/\((a1.2.2.2.1==0&&(a1.2.2.2.2.2.length:Int)==0&&vl (u250 a1.2.2.2.2.1 false)&&a1.2.1==vl (u251 a0)&&decide (0<=a1.2.1))=true/\True->(u252 a0 a1.2.2.1).isSome=true)/\True)<|lt (vl (u251 a0)) fun v0 =>
  some (a1.2.2.2.1==0&&(a1.2.2.2.2.2.length:Int)==0&&vl (u250 a1.2.2.2.2.1 false)&&a1.2.1==v0&&decide (0<=a1.2.1)&&vl (u252 a0 a1.2.2.1)&&a1.2.2.1 != a1.2.1)
 else
  gd ((u250 a1.2.2.2.2.1 true).isSome=true/\((!vl (u250 a1.2.2.2.2.1 true))=false/\True->(u250 a1.2.2.2.2.2 true).isSome=true)/\((!vl (u250 a1.2.2.2.2.1 true)||!vl (u250 a1.2.2.2.2.2 true))=false/\True->(u233 a0).isSome=true)/\((!vl (u250 a1.2.2.2.2.1 true)||!vl (u250 a1.2.2.2.2.2 true)||a1.2.2.1 != vl (u233 a0))=false/\True->(u252 a0 a1.2.1).isSome=true)/\True)<|lt (vl (u233 a0)) fun v1 =>
  if(!vl (u250 a1.2.2.2.2.1 true)||!vl (u250 a1.2.2.2.2.2 true)||a1.2.2.1 != v1||!vl (u252 a0 a1.2.1))=true then
   some false
  else
   if(a1.1==1)=true then
    gd (ix a1.2.1 a0.2.2.1.length/\((!(a0.2.2.1.getD a1.2.1.toNat (dflt y222)).2.2.2)=true/\True->(u138 a1.2.2.2.1 1 3).isSome=true)/\True) <|
    some (!(a0.2.2.1.getD a1.2.1.toNat (dflt y222)).2.2.2&&vl (u138 a1.2.2.2.1 1 3))
   else
    if(a1.1==2)=true then
     u230J0 a0 a1 (a1.1==2)
    else
     u230J0 a0 a1 (a1.1==3)
def k230:Ct:=lct 230 [.agg y148,.agg y153] (fun x=>u230 x.1 x.2.1) (fun r:Bool=>B r) (fun _=>())
theorem o230:Ok prog k230:=by
 refine okL [.tmp 4] func230 ntmps230 results230 ?_;intro y ⟨a0,a1,_⟩ r H Q hn hr;have:HT _ _:=⟨tc o138 (tc o252 (tc o233 (tc o250 (tc o251 (tc o249 tn)))))⟩;refine qA (Z [p 2 (R 2),p 3 (R 3)] [(3,K 153 y153 a1),(2,K 148 y148 a0)])<|vQ<|qB (Z [p 2 (R 2),p 3 (R 3),p 7 (B (vl (u249 a1.1)))] [(3,K 153 y153 a1),(2,K 148 y148 a0)]) H fun H=>cD H (fun H=>?_) (fun H=>?_)
 ·refine qD (fun v0=>Z [p 4 (B (a1.2.2.2.1==0&&(a1.2.2.2.2.2.length:Int)==0&&vl (u250 a1.2.2.2.2.1 false)&&a1.2.1==v0&&decide (0<=a1.2.1)&&vl (u252 a0 a1.2.2.1)&&a1.2.2.1 != a1.2.1))] [(3,K 153 y153 a1),(2,K 148 y148 a0)]) H fun v0 H=>vTT<|fR<|hr H
 refine vK<|fQ<|vQ<|qD (fun v1=>Z [p 2 (R 2),p 3 (R 3),p 70 (B (!vl (u250 a1.2.2.2.2.1 true)||!vl (u250 a1.2.2.2.2.2 true)||a1.2.2.1 != v1||!vl (u252 a0 a1.2.1)))] [(3,K 153 y153 a1),(2,K 148 y148 a0)]) H fun v1 H=>cD H (fun H=>?_) (fun H=>?_)
 ·refine qA (Z [p 4 (B false)] [(3,K 153 y153 a1),(2,K 148 y148 a0)])<|vTT<|fR<|hr H
 refine vK<|fQ<|vQ<|qA (Z [p 2 (R 2),p 3 (R 3),p 72 (J a1.1)] [(3,K 153 y153 a1),(2,K 148 y148 a0)])<|vB<|qA (Z [p 2 (R 2),p 3 (R 3),p 72 (J a1.1),p 73 (B (a1.1==1))] [(3,K 153 y153 a1),(2,K 148 y148 a0)])<|cD H (fun H=>?_) (fun H=>?_)
 ·refine qB (Z [p 4 (B (!(a0.2.2.1.getD a1.2.1.toNat (dflt y222)).2.2.2&&vl (u138 a1.2.2.2.1 1 3)))] [(3,K 153 y153 a1),(2,K 148 y148 a0)]) H fun H=>vTT<|fDD<|fR<|hr H
 refine jN r (fun(v2:Bool)=>Z [p 2 (R 2),p 3 (R 3),p 88 (B v2)] [(3,K 153 y153 a1),(2,K 148 y148 a0)]) (u230J0 a0 a1) (fun v2 H=>?_) (fun _ n0 e0 t0=>?_)
 ·refine cD H (fun H=>?_) (fun H=>?_)
  ·refine qB (Z [p 4 (B ((a0.2.2.1.getD a1.2.1.toNat (dflt y222)).2.2.2&&a1.2.2.2.1==0))] [(3,K 153 y153 a1),(2,K 148 y148 a0)]) H fun H=>vTT<|fDD<|fR<|hr H
  refine vK<|fK<|fQ<|qA (Z [p 4 (B false)] [(3,K 153 y153 a1),(2,K 148 y148 a0)])<|vTT<|hr H
 refine qA (Z [p 2 (R 2),p 3 (R 3),p 72 (J a1.1),p 88 (B (a1.1==2))] [(3,K 153 y153 a1),(2,K 148 y148 a0)])<|cD H (fun H=>?_) (fun H=>?_)
 ·exact vK<|n0 H
 refine zA (Z [p 2 (R 2),p 3 (R 3),p 88 (B (a1.1==3))] [(3,K 153 y153 a1),(2,K 148 y148 a0)])<|n0 H
def u232(a0:Y153)(a1:Y153):Option (Bool) :=
 some (a0.1==a1.1&&a0.2.1==a1.2.1&&a0.2.2.1==a1.2.2.1)
def k232:Ct:=lct 232 [.agg y153,.dat (.pt y153)] (fun x=>u232 x.1 x.2.1) (fun r:Bool=>B r) (fun _=>())
theorem o232:Ok prog k232:=by
 refine okL [.tmp 3] func232 ntmps232 results232 ?_;intro y ⟨a0,a1,_⟩ r H Q hn hr;have:HT _ _:=⟨@tn prog⟩;refine qA (Z [p 1 (D y153.pt a1),p 2 (R 2)] [(2,K 153 y153 a0)])<|qA (Z [p 3 (B (a0.1==a1.1&&a0.2.1==a1.2.1&&a0.2.2.1==a1.2.2.1))] [(2,K 153 y153 a0)])<|vTT<|hr H
def u253c232J0:Unit->Option (Int)
 | _ =>
 some (-1)
def u253c232L1(a0:List Y153)(a1:Y153)(g1:Int->Option (Int)):Int->Option (Int)
 | v0 =>
 if(decide (v0 < (a0.length:Int)))=true then
  gd (ix v0 a0.length/\(u232 (a0.getD v0.toNat (dflt y153)) a1).isSome=true/\True) <|
  if(vl (u232 (a0.getD v0.toNat (dflt y153)) a1))=true then
   some v0
  else
   gd (in64 (v0+1)/\True) <|
   g1 (v0+1)
 else
  u253c232J0 ()
def u253c232(a0:List Y153)(a1:Y153):Option (Int) :=
 lp (u253c232L1 a0 a1) 0
def k253c232:Ct:=lct 253 [.dat y153.sl,.fn 232 y153.pt] (fun x=>u253c232 x.1 x.2.1) (fun r:Int=>I r) (fun _=>())
theorem o253c232:Ok prog k253c232:=by
 refine okL [.tmp 4] func253 ntmps253 results253 ?_;intro y ⟨a0,a1,_⟩ r H Q hn hr;have:HT _ _:=⟨tc o232 tn⟩;refine qA (Z [p 0 (L y153 a0),p 1 (AV.fn 232 [D y153.pt a1])] [])<|jN r (fun(_:Unit)=>Z [] []) (u253c232J0) (fun _ H=>?_) (fun _ n0 e0 t0=>?_)
 ·refine qA (Z [p 4 (I (-1))] [])<|vTT<|hr H
 refine qA (Z [p 0 (L y153 a0),p 1 (AV.fn 232 [D y153.pt a1]),p 7 (I (a0.length:Int)),p 8 (I 0)] [])<|vB<|lX (fun(v0:Int)=>Z [p 0 (L y153 a0),p 1 (AV.fn 232 [D y153.pt a1]),p 7 (I (a0.length:Int)),p 8 (I v0)] []) 0 H fun _ g1 b1 e1 t1 v0 H=>qA (Z [p 0 (L y153 a0),p 1 (AV.fn 232 [D y153.pt a1]),p 7 (I (a0.length:Int)),p 8 (I v0),p 9 (B (decide (v0 < (a0.length:Int))))] [])<|vQ<|cD H (fun H=>?_) (fun H=>?_)
 ·refine vK<|fQ<|vQ<|vB<|qA (Z [p 0 (L y153 a0),p 1 (AV.fn 232 [D y153.pt a1]),p 5 (I v0),p 7 (I (a0.length:Int)),p 8 (I v0)] [])<|qB (Z [p 0 (L y153 a0),p 1 (AV.fn 232 [D y153.pt a1]),p 5 (I v0),p 7 (I (a0.length:Int)),p 8 (I v0),p 16 (B (vl (u232 (a0.getD v0.toNat (dflt y153)) a1)))] []) H fun H=>cD H (fun H=>?_) (fun H=>?_)
  ·refine qA (Z [p 4 (I v0)] [])<|vTT<|fDD<|fR<|t1<|fDD<|t0<|hr H
  refine vK<|fK<|fQ<|zB (Z [p 0 (L y153 a0),p 1 (AV.fn 232 [D y153.pt a1]),p 7 (I (a0.length:Int)),p 8 (I (v0+1))] []) H fun H=>b1 H
 exact vE<|fE<|e1<|fX rfl<|n0 H
def u231c232(a0:List Y153)(a1:Y153):Option (Bool) :=
 gd ((u253c232 a0 a1).isSome=true/\True)<|lt (vl (u253c232 a0 a1)) fun v0 =>
 some (decide (0<=v0))
def k231c232:Ct:=lct 231 [.dat y153.sl,.fn 232 (.pt y153)] (fun x=>u231c232 x.1 x.2.1) (fun r:Bool=>B r) (fun _=>())
theorem o231c232:Ok prog k231c232:=by
 refine okL [.tmp 4] func231 ntmps231 results231 ?_;intro y ⟨a0,a1,_⟩ r H Q hn hr;have:HT _ _:=⟨tc o253c254 (tc o253c232 (tc o232 tn))⟩;refine qA (Z [p 0 (L y153 a0),p 1 (AV.fn 232 [D y153.pt a1])] [])<|qD (fun v0=>Z [p 4 (B (decide (0<=v0)))] []) H fun v0 H=>vTT<|hr H
def u214J0(a0:Y148):Unit->Option (Bool)
 | _ =>
 some (decide ((a0.2.2.2.1.length:Int)<=8))
def u214L1(a0:Y148)(g1:Int->Option (Bool)):Int->Option (Bool)
 | v1 =>
 if(decide (v1 < (a0.2.2.2.1.length:Int)))=true then
  gd (ix v1 a0.2.2.2.1.length/\True)<|lt (a0.2.2.2.1.getD v1.toNat (dflt y153)) fun v2 =>
  gd ((u230 a0 v2).isSome=true/\((!vl (u230 a0 v2))=false/\True->(0:Int)<=(0:Int)/\(0:Int)<=v1/\v1<=(a0.2.2.2.1.length:Int))/\((!vl (u230 a0 v2))=false/\True->(u231c232 (List.take v1.toNat a0.2.2.2.1) v2).isSome=true)/\True) <|
  if(!vl (u230 a0 v2)||vl (u231c232 (List.take v1.toNat a0.2.2.2.1) v2))=true then
   some false
  else
   gd (in64 (v1+1)/\True) <|
   g1 (v1+1)
 else
  u214J0 a0 ()
def u214(a0:Y148):Option (Bool) :=
 lp (u214L1 a0) 0
def k214:Ct:=lct 214 [.agg y148] (fun x=>u214 x.1) (fun r:Bool=>B r) (fun _=>())
theorem o214:Ok prog k214:=by
 refine okL [.tmp 2] func214 ntmps214 results214 ?_;intro y ⟨a0,_⟩ r H Q hn hr;have:HT _ _:=⟨tc o231c254 (tc o231c232 (tc o232 (tc o230 tn)))⟩;refine qA (Z [p 1 (R 1)] [(1,K 148 y148 a0)])<|jN r (fun(_:Unit)=>Z [p 1 (R 1)] [(1,K 148 y148 a0)]) (u214J0 a0) (fun _ H=>?_) (fun _ n0 e0 t0=>?_)
 ·refine qA (Z [p 2 (B (decide ((a0.2.2.2.1.length:Int)<=8)))] [(1,K 148 y148 a0)])<|vTT<|hr H
 refine qA (Z [p 1 (R 1),p 6 (L y153 a0.2.2.2.1),p 7 (I (a0.2.2.2.1.length:Int)),p 8 (I 0)] [(1,K 148 y148 a0)])<|vB<|lX (fun(v1:Int)=>Z [p 1 (R 1),p 6 (L y153 a0.2.2.2.1),p 7 (I (a0.2.2.2.1.length:Int)),p 8 (I v1)] [(1,K 148 y148 a0)]) 0 H fun _ g1 b1 e1 t1 v1 H=>qA (Z [p 1 (R 1),p 6 (L y153 a0.2.2.2.1),p 7 (I (a0.2.2.2.1.length:Int)),p 8 (I v1),p 9 (B (decide (v1 < (a0.2.2.2.1.length:Int))))] [(1,K 148 y148 a0)])<|vQ<|cD H (fun H=>?_) (fun H=>?_)
 ·refine vK<|fQ<|vQ<|vB<|qD (fun v2=>Z [p 1 (R 1),p 3 (I v1),p 4 (R 4),p 6 (L y153 a0.2.2.2.1),p 7 (I (a0.2.2.2.1.length:Int)),p 8 (I v1)] [(4,K 153 y153 v2),(1,K 148 y148 a0)]) H fun v2 H=>qB (Z [p 1 (R 1),p 6 (L y153 a0.2.2.2.1),p 7 (I (a0.2.2.2.1.length:Int)),p 8 (I v1),p 24 (B (!vl (u230 a0 v2)||vl (u231c232 (List.take v1.toNat a0.2.2.2.1) v2)))] [(4,K 153 y153 v2),(1,K 148 y148 a0)]) H fun H=>cD H (fun H=>?_) (fun H=>?_)
  ·refine qA (Z [p 2 (B false)] [(4,K 153 y153 v2),(1,K 148 y148 a0)])<|vTT<|fDD<|fR<|t1<|fDD<|t0<|hr H
  refine vK<|fK<|fQ<|zB (Z [p 1 (R 1),p 6 (L y153 a0.2.2.2.1),p 7 (I (a0.2.2.2.1.length:Int)),p 8 (I (v1+1))] [(4,K 153 y153 v2),(1,K 148 y148 a0)]) H fun H=>b1 H
 exact vE<|fE<|e1<|fX rfl<|n0 H
def u213J0(a0:List Y222):List ByteArray->Option (Bool)
 | v6 =>
 gd ((u229 a0).isSome=true/\(u138 (vl (u229 a0)) 2 5).isSome=true/\(vl (u138 (vl (u229 a0)) 2 5)=true/\True->(u186 v6).isSome=true)/\True) <|
 some (vl (u138 (vl (u229 a0)) 2 5)&&vl (u186 v6))
def u213J2(v3:Int)(g1:List ByteArray×Int->Option (Bool)):List ByteArray->Option (Bool)
 | v5 =>
 gd (in64 (v3+1)/\True) <|
 g1 (v5,v3+1)
def u213L1(a0:List Y222)(g1:List ByteArray×Int->Option (Bool)):List ByteArray×Int->Option (Bool)
 | (v2,v3) =>
 if(decide (v3 < (a0.length:Int)))=true then
  gd (ix v3 a0.length/\True)<|lt (a0.getD v3.toNat (dflt y222)) fun v4 =>
  gd ((v2.length+[v4.1].length<=9223372036854775807/\(v2.length+[v4.1].length)*16<=140737488355328)/\True) <|
  gd (in64 ((a0.length:Int)-1)/\True) <|
  if(v3==(a0.length:Int)-1)=true then
   if(v4.2.1 != 2||v4.2.2.1 != 0||v4.2.2.2)=true then
    some false
   else
    u213J2 v3 g1 (v2++[v4.1])
  else
   gd (((v4.2.1 != 1)=false/\True->(u138 v4.2.2.1 0 500).isSome=true)/\True) <|
   if(v4.2.1 != 1||!vl (u138 v4.2.2.1 0 500))=true then
    some false
   else
    u213J2 v3 g1 (v2++[v4.1])
 else
  u213J0 a0 v2
def u213(a0:List Y222):Option (Bool) :=
 lp (u213L1 a0) ([],0)
def k213:Ct:=lct 213 [.dat y222.sl] (fun x=>u213 x.1) (fun r:Bool=>B r) (fun _=>())
theorem o213:Ok prog k213:=by
 refine okL [.tmp 2] func213 ntmps213 results213 ?_;intro y ⟨a0,_⟩ r H Q hn hr;have:HT _ _:=⟨tc o186 (tc o138 (tc o229 tn))⟩;refine qA (Z [p 0 (L y222 a0)] [])<|qA (Z [p 0 (L y222 a0),p 3 (nil)] [])<|jN r (fun(v6:List ByteArray)=>Z [p 0 (L y222 a0),p 3 (O 17)] [(17,A 9 Ty.str v6 0)]) (u213J0 a0) (fun v6 H=>?_) (fun _ n0 e0 t0=>?_)
 ·refine qB (Z [p 2 (B (vl (u138 (vl (u229 a0)) 2 5)&&vl (u186 v6)))] [(17,A 9 Ty.str v6 0)]) H fun H=>vTT<|hr H
 refine qA (Z [p 0 (L y222 a0),p 3 (nil),p 6 (L y222 a0),p 7 (I (a0.length:Int)),p 8 (I 0)] [])<|vB<|lX (fun((v2,v3):List ByteArray×Int)=>Z [p 0 (L y222 a0),p 3 (O 17),p 6 (L y222 a0),p 7 (I (a0.length:Int)),p 8 (I v3)] [(17,A 9 Ty.str v2 0)]) ([],0) H fun _ g1 b1 e1 t1 ⟨v2,v3⟩ H=>qA (Z [p 0 (L y222 a0),p 3 (O 17),p 6 (L y222 a0),p 7 (I (a0.length:Int)),p 8 (I v3),p 9 (B (decide (v3 < (a0.length:Int))))] [(17,A 9 Ty.str v2 0)])<|vQ<|cD H (fun H=>?_) (fun H=>?_)
 ·refine vK<|fQ<|jN r (fun(v5:List ByteArray)=>Z [p 0 (L y222 a0),p 3 (O 17),p 6 (L y222 a0),p 7 (I (a0.length:Int)),p 8 (I v3)] [(17,A 9 Ty.str v5 0)]) (u213J2 v3 g1) (fun v5 H=>?_) (fun _ n2 e2 t2=>?_)
  ·refine zB (Z [p 0 (L y222 a0),p 3 (O 17),p 6 (L y222 a0),p 7 (I (a0.length:Int)),p 8 (I (v3+1))] [(17,A 9 Ty.str v5 0)]) H fun H=>b1 H
  refine vB<|qD (fun v4=>Z [p 0 (L y222 a0),p 3 (O 17),p 4 (I v3),p 5 (R 5),p 6 (L y222 a0),p 7 (I (a0.length:Int)),p 8 (I v3)] [(5,K 222 y222 v4),(17,A 9 Ty.str v2 0)]) H fun v4 H=>qB (Z [p 0 (L y222 a0),p 3 (AV.os 17 1),p 4 (I v3),p 5 (R 5),p 6 (L y222 a0),p 7 (I (a0.length:Int)),p 8 (I v3)] [(17,A 9 Ty.str (v2++[v4.1]) 1),(16,A 9 Ty.str [v4.1] 0),(5,K 222 y222 v4)]) H fun H=>qB (Z [p 0 (L y222 a0),p 3 (AV.os 17 1),p 5 (R 5),p 6 (L y222 a0),p 7 (I (a0.length:Int)),p 8 (I v3),p 22 (B (v3==(a0.length:Int)-1))] [(17,A 9 Ty.str (v2++[v4.1]) 1),(16,A 9 Ty.str [v4.1] 0),(5,K 222 y222 v4)]) H fun H=>cD H (fun H=>?_) (fun H=>?_)
  ·refine qA (Z [p 0 (L y222 a0),p 3 (AV.os 17 1),p 6 (L y222 a0),p 7 (I (a0.length:Int)),p 8 (I v3),p 34 (B (v4.2.1 != 2||v4.2.2.1 != 0||v4.2.2.2))] [(17,A 9 Ty.str (v2++[v4.1]) 1),(16,A 9 Ty.str [v4.1] 0),(5,K 222 y222 v4)])<|cD H (fun H=>?_) (fun H=>?_)
   ·refine qA (Z [p 2 (B false)] [(17,A 9 Ty.str (v2++[v4.1]) 1),(16,A 9 Ty.str [v4.1] 0),(5,K 222 y222 v4)])<|vTT<|fDD<|t2<|t1<|fDD<|t0<|hr H
   exact vK<|fK<|n2 H
  refine qB (Z [p 0 (L y222 a0),p 3 (AV.os 17 1),p 6 (L y222 a0),p 7 (I (a0.length:Int)),p 8 (I v3),p 43 (B (v4.2.1 != 1||!vl (u138 v4.2.2.1 0 500)))] [(17,A 9 Ty.str (v2++[v4.1]) 1),(16,A 9 Ty.str [v4.1] 0),(5,K 222 y222 v4)]) H fun H=>cD H (fun H=>?_) (fun H=>?_)
  ·refine qA (Z [p 2 (B false)] [(17,A 9 Ty.str (v2++[v4.1]) 1),(16,A 9 Ty.str [v4.1] 0),(5,K 222 y222 v4)])<|vTT<|fDD<|t2<|t1<|fDD<|t0<|hr H
  exact vK<|fK<|n2 H
 exact vE<|fE<|e1<|fX rfl<|n0 H
def u185(a0:Y148):Option (Bool) :=
 gd ((u212 a0.1).isSome=true/\(vl (u212 a0.1)=true/\True->(u213 a0.2.2.1).isSome=true)/\((vl (u212 a0.1)&&vl (u213 a0.2.2.1))=true/\True->(u214 a0).isSome=true)/\((vl (u212 a0.1)&&vl (u213 a0.2.2.1)&&vl (u214 a0))=true/\True->(u138 a0.2.2.2.2.2.1 0 100000).isSome=true)/\((vl (u212 a0.1)&&vl (u213 a0.2.2.1)&&vl (u214 a0)&&vl (u138 a0.2.2.2.2.2.1 0 100000))=true/\True->(u138 a0.2.2.2.2.2.2 0 100000).isSome=true)/\((vl (u212 a0.1)&&vl (u213 a0.2.2.1)&&vl (u214 a0)&&vl (u138 a0.2.2.2.2.2.1 0 100000)&&vl (u138 a0.2.2.2.2.2.2 0 100000))=true/\True->(u215 a0).isSome=true)/\True) <|
 some (vl (u212 a0.1)&&vl (u213 a0.2.2.1)&&vl (u214 a0)&&vl (u138 a0.2.2.2.2.2.1 0 100000)&&vl (u138 a0.2.2.2.2.2.2 0 100000)&&vl (u215 a0))
def k185:Ct:=lct 185 [.agg y148] (fun x=>u185 x.1) (fun r:Bool=>B r) (fun _=>())
theorem o185:Ok prog k185:=by
 refine okL [.tmp 2] func185 ntmps185 results185 ?_;intro y ⟨a0,_⟩ r H Q hn hr;have:HT _ _:=⟨tc o215 (tc o138 (tc o214 (tc o213 (tc o212 tn))))⟩;refine qA (Z [p 1 (R 1)] [(1,K 148 y148 a0)])<|qB (Z [p 2 (B (vl (u212 a0.1)&&vl (u213 a0.2.2.1)&&vl (u214 a0)&&vl (u138 a0.2.2.2.2.2.1 0 100000)&&vl (u138 a0.2.2.2.2.2.2 0 100000)&&vl (u215 a0)))] [(1,K 148 y148 a0)]) H fun H=>vTT<|hr H
end Go.Proofs.YthobjlocnkienaaGreatDoor
end
