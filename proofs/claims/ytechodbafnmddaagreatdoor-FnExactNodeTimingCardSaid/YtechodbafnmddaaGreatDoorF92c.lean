/- Functions of this program as plain functions of data, and that they are so: printed by program. -/
import Derived.Test.YtechodbafnmddaaGreatDoorF92b
section
namespace Go.Proofs.YtechodbafnmddaaGreatDoor
open Go Go.Proofs Go.Proofs.Sv Go.Proofs.Xv Go.Proofs.Xl Go.RowKit
open Tryz
def u4(b:Gy)(i:Gz)(e:List Int)(a:List BV)(c:GA)(l:Int):Option Bool :=
 if(decide (1048576 < (e.length:Int))) then
  some true
 else
  gd ((u7 b 1048576).isSome/\True)<|lt (vl (u7 b 1048576)) fun o =>
  if(decide (o<0)) then
   some true
  else
   gd ((u8 i o).isSome/\True)<|lt (vl (u8 i o)) fun n =>
   if(decide (n<0)) then
    some true
   else
    gd ((u9 a n).isSome/\True)<|lt (vl (u9 a n)) fun m =>
    if(decide (m<0)) then
     some true
    else
     gd ((IW c m).isSome/\True)<|lt (vl (IW c m)) fun u =>
     if(decide (u<0)) then
      some true
     else
      gd ((Y9 b).isSome/\(Cb i).isSome/\(C3 e).isSome/\(Z0 a).isSome/\(u16 c).isSome/\(Lh (vl (Y9 b)) (vl (Cb i)) (vl (C3 e)) (vl (Z0 a)) (vl (u16 c)) l).isSome/\True)<|lt ((vl (Lh (vl (Y9 b)) (vl (Cb i)) (vl (C3 e)) (vl (Z0 a)) (vl (u16 c)) l),vl (u16 c),vl (Z0 a),vl (C3 e),vl (Y9 b))) fun(j,_,_,_,_) =>
      gd ((Y9 b).isSome/\True)<|lt (vl (Y9 b)) fun k =>
      gd ((C3 e).isSome/\True)<|lt (vl (C3 e)) fun h =>
      gd ((Z0 a).isSome/\True)<|lt (vl (Z0 a)) fun f =>
      gd ((u16 c).isSome/\True)<|lt (vl (u16 c)) fun g =>
      gd ((Cb i).isSome/\(Lk k (vl (Cb i)) h f g l).isSome/\True)<|lt (vl (Lk k (vl (Cb i)) h f g l)) fun d =>
      gd (((!d.1==j.1)=false/\True->(CT d.2.1 j.2.1).isSome)/\True) <|
      if(!d.1==j.1||!vl (CT d.2.1 j.2.1)||d.2.2 != j.2.2) then
       some false
      else
       gd ((Y9 b).isSome/\(Kl k (vl (Y9 b))).isSome/\True)<|lt (vl (Y9 b)) fun t =>
       if(!vl (Kl k t)) then
        some false
       else
        gd ((C3 e).isSome/\(H3 h (vl (C3 e))).isSome/\True)<|lt (vl (C3 e)) fun r =>
        if(!vl (H3 h r)) then
         some false
        else
         gd ((Z0 a).isSome/\(Km f (vl (Z0 a))).isSome/\True)<|lt (vl (Z0 a)) fun s =>
         if(!vl (Km f s)) then
          some false
         else
          gd ((u16 c).isSome/\(Ko g (vl (u16 c))).isSome/\True)<|lt (vl (u16 c)) fun q =>
          if(!vl (Ko g q)) then
           some false
          else
           some true
def k4:Ct:=b9 4 [.agg T7,.agg V5,.dat i64.sl,.dat y106.sl,.agg Y3,.dat i64] (fun x=>u4 x.1 x.2.1 x.2.2.1 x.2.2.2.1 x.2.2.2.2.1 x.2.2.2.2.2.1) (fun r:Bool=>B r) (fun _=>())
theorem o4:Ok prog k4:=by
 refine c8 [.tmp 12] func4 ?_;intro y ⟨k,h,i,f,g,j,_⟩ r H Q hn hr;have:=hz (tc o21 (tc QJ (tc o20 (tc QG (tc JR (tc O4 (tc o18 (tc QF (tc Yb (tc o23 (tc o13 (tc o22 (tc Vz (tc o9 (tc o8 (tc o7 tn))))))))))))))));refine iA [2,3,5,6,7,10]<|vQ<|iA [2,3,5,6,7,10,26]<|cD H (fun H=>iA [12]<|a7<|fR<|hr H) fun H=>vK<|fQ<|iA [2,3,5,6,7,10,13]<|iD o7 [2,3,5,6,7,10,13] H fun _ H=>vQ<|iA [2,3,5,6,7,10,13,31]<|cD H (fun H=>iA [12]<|a7<|fR<|hr H) fun H=>vK<|fQ<|iD o8 [2,3,5,6,7,10,13] H fun _ H=>vQ<|iA [2,3,5,6,7,10,13,36]<|cD H (fun H=>iA [12]<|a7<|fR<|hr H) fun H=>vK<|fQ<|iD o9 [2,3,5,6,7,10,13] H fun _ H=>vQ<|iA [2,3,5,6,7,10,13,41]<|cD H (fun H=>iA [12]<|a7<|fR<|hr H) fun H=>vK<|fQ<|iD Vz [2,3,5,6,7,10,13] H fun _ H=>vQ<|iA [2,3,5,6,7,10,46]<|cD H (fun H=>iA [12]<|a7<|fR<|hr H) fun H=>vK<|fQ<|qD (fun(b,c,e,d,a)=>Z [p 2 (L i64 i),p 3 (L y106 f),p 5 (J j),p 6 (R 6),p 7 (R 7),p 10 (R 10),p 14 (B b.1),p 15 (R 15),p 16 (I b.2.2)] [(15,bx 75 (s5 true y75 b.2.1)),(2057,A 73 y73 c.2.2 0),(1057,A 73 y73 c.2.1 0),(57,A 4 Ty.bool c.1 0),(55,A 75 y75 e 0),(53,A 2 i64 d 0),(4049,A 172 y172 a.2.2 0),(3049,A 231 y231 a.2.1.2.2 0),(2049,A 9 Ty.str a.2.1.2.1 0),(1049,A 155 y155 a.2.1.1 0),(49,A 153 y153 a.1 0),(10,K 40 Y3 g),(7,K 34 V5 h),(6,K 32 T7 k)]) H fun⟨b,c,e,d,a⟩ H =>
  iD QF [2,3,5,6,7,10,14,15,16,17] H fun _ H =>
  iD O4 [2,3,5,6,7,10,14,15,16,17,18] H fun _ H =>
  iD QG [2,3,5,6,7,10,14,15,16,17,18,19] H fun _ H =>
  iD QJ [2,3,5,6,7,10,14,15,16,17,18,19,20] H fun _ H =>
  iD o23 [2,3,6,10,14,15,16,17,18,19,20,21,22,23] H fun _ H =>
  vQ <|
  iB [2,3,6,10,17,18,19,20,96] H fun H =>
  cD H (fun H=>iA [12]<|a7<|fR<|hr H) fun H=>vK<|fQ<|vQ<|iD QF [2,3,10,18,19,20,101] H fun _ H=>cD H (fun H=>iA [12]<|a7<|fR<|hr H) fun H=>vK<|fQ<|vQ<|iD O4 [3,10,19,20,106] H fun _ H=>cD H (fun H=>iA [12]<|a7<|fR<|hr H) fun H=>vK<|fQ<|vQ<|iD QG [10,20,111] H fun _ H=>cD H (fun H=>iA [12]<|a7<|fR<|hr H) fun H=>vK<|fQ<|vQ<|iD QJ [116] H fun _ H=>cD H (fun H=>iA [12]<|a7<|fR<|hr H) fun H=>vK<|fQ<|iA [12]<|a7<|hr H
end Go.Proofs.YtechodbafnmddaaGreatDoor
end
