/- Functions of this program as plain functions of data, and that they are so: printed by program. -/
import Derived.Test.YtechodbafnmddaaGreatDoorF91b
section
namespace Go.Proofs.YtechodbafnmddaaGreatDoor
open Go Go.Proofs Go.Proofs.Sv Go.Proofs.Xv Go.Proofs.Xl Go.RowKit
open Tryz
def u3(a:Gf)(h:Gg)(d:List Int)(c:List BF)(b:Gi)(l:Int)(j:Int):Option Bool :=
 if(decide (1048576 < (d.length:Int))) then
  some true
 else
  gd ((u7 a 1048576).isSome/\True)<|lt (vl (u7 a 1048576)) fun n =>
  if(decide (n<0)) then
   some true
  else
   gd ((u8 h n).isSome/\True)<|lt (vl (u8 h n)) fun o =>
   if(decide (o<0)) then
    some true
   else
    gd ((u9 c o).isSome/\True)<|lt (vl (u9 c o)) fun r =>
    if(decide (r<0)) then
     some true
    else
     gd ((Ix b r).isSome/\True)<|lt (vl (Ix b r)) fun v =>
     if(decide (v<0)) then
      some true
     else
      gd ((X6 a).isSome/\(BL h).isSome/\(C4 d).isSome/\(X7 c).isSome/\(u16 b).isSome/\(Jg (vl (X6 a)) (vl (BL h)) (vl (C4 d)) (vl (X7 c)) (vl (u16 b)) l j).isSome/\True)<|lt ((vl (Jg (vl (X6 a)) (vl (BL h)) (vl (C4 d)) (vl (X7 c)) (vl (u16 b)) l j),vl (u16 b),vl (X7 c),vl (C4 d),vl (X6 a))) fun(u,_,_,_,_) =>
      gd ((X6 a).isSome/\True)<|lt (vl (X6 a)) fun k =>
      gd ((C4 d).isSome/\True)<|lt (vl (C4 d)) fun e =>
      gd ((X7 c).isSome/\True)<|lt (vl (X7 c)) fun f =>
      gd ((u16 b).isSome/\True)<|lt (vl (u16 b)) fun g =>
      gd ((BL h).isSome/\(KI k (vl (BL h)) e f g l j).isSome/\True)<|lt (vl (KI k (vl (BL h)) e f g l j)) fun i =>
      if(i.1 != u.1||i.2 != u.2) then
       some false
      else
       gd ((X6 a).isSome/\(JM k (vl (X6 a))).isSome/\True)<|lt (vl (X6 a)) fun t =>
       if(!vl (JM k t)) then
        some false
       else
        gd ((C4 d).isSome/\(G7 e (vl (C4 d))).isSome/\True)<|lt (vl (C4 d)) fun m =>
        if(!vl (G7 e m)) then
         some false
        else
         gd ((X7 c).isSome/\(JO f (vl (X7 c))).isSome/\True)<|lt (vl (X7 c)) fun s =>
         if(!vl (JO f s)) then
          some false
         else
          gd ((u16 b).isSome/\(JQ g (vl (u16 b))).isSome/\True)<|lt (vl (u16 b)) fun q =>
          if(!vl (JQ g q)) then
           some false
          else
           some true
def k3:Ct:=c8 3 [.agg R6,.agg U1,.dat i64.sl,.dat y106.sl,.agg X0,.dat i64,.dat i64] (fun x=>u3 x.1 x.2.1 x.2.2.1 x.2.2.2.1 x.2.2.2.2.1 x.2.2.2.2.2.1 x.2.2.2.2.2.2.1) (fun r:Bool=>B r) (fun _=>())
theorem o3:Ok prog k3:=by
 refine c9 [.tmp 14] func3 ?_;intro y ⟨g,l,f,i,h,j,k,_⟩ r H Q hn hr;have:=hz (tc o21 (tc Qf (tc o20 (tc Qd (tc Jv (tc N6 (tc o18 (tc Qc (tc Zs (tc o13 (tc o11 (tc UL (tc o9 (tc o8 (tc o7 tn)))))))))))))));refine iA [2,3,5,6,7,8,11]<|vQ<|iA [2,3,5,6,7,8,11,26]<|cD H (fun H=>iA [14]<|a8<|fR<|hr H) fun H=>vK<|fQ<|iA [2,3,5,6,7,8,11,15]<|iD o7 [2,3,5,6,7,8,11,15] H fun _ H=>vQ<|iA [2,3,5,6,7,8,11,15,31]<|cD H (fun H=>iA [14]<|a8<|fR<|hr H) fun H=>vK<|fQ<|iD o8 [2,3,5,6,7,8,11,15] H fun _ H=>vQ<|iA [2,3,5,6,7,8,11,15,36]<|cD H (fun H=>iA [14]<|a8<|fR<|hr H) fun H=>vK<|fQ<|iD o9 [2,3,5,6,7,8,11,15] H fun _ H=>vQ<|iA [2,3,5,6,7,8,11,15,41]<|cD H (fun H=>iA [14]<|a8<|fR<|hr H) fun H=>vK<|fQ<|iD UL [2,3,5,6,7,8,11,15] H fun _ H=>vQ<|iA [2,3,5,6,7,8,11,46]<|cD H (fun H=>iA [14]<|a8<|fR<|hr H) fun H=>vK<|fQ<|qD (fun(c,b,e,d,a)=>Z [p 2 (L i64 f),p 3 (L y106 i),p 5 (J j),p 6 (J k),p 7 (R 7),p 8 (R 8),p 11 (R 11),p 16 (I c.1),p 17 (I c.2)] [(2057,A 73 y73 b.2.2 0),(1057,A 73 y73 b.2.1 0),(57,A 4 Ty.bool b.1 0),(55,A 75 y75 e 0),(53,A 2 i64 d 0),(4049,A 172 y172 a.2.2 0),(3049,A 231 y231 a.2.1.2.2 0),(2049,A 9 Ty.str a.2.1.2.1 0),(1049,A 155 y155 a.2.1.1 0),(49,A 153 y153 a.1 0),(11,K 40 X0 h),(8,K 34 U1 l),(7,K 32 R6 g)]) H fun⟨c,b,e,d,a⟩ H =>
  iD Qc [2,3,5,6,7,8,11,16,17,18] H fun _ H =>
  iD N6 [2,3,5,6,7,8,11,16,17,18,19] H fun _ H =>
  iD Qd [2,3,5,6,7,8,11,16,17,18,19,20] H fun _ H =>
  iD Qf [2,3,5,6,7,8,11,16,17,18,19,20,21] H fun _ H =>
  iD Zs [2,3,7,11,16,17,18,19,20,21,22,23] H fun _ H =>
  vQ <|
  iA [2,3,7,11,18,19,20,21,90] <|
  cD H (fun H=>iA [14]<|a8<|fR<|hr H) fun H=>vK<|fQ<|vQ<|iD Qc [2,3,11,19,20,21,95] H fun _ H=>cD H (fun H=>iA [14]<|a8<|fR<|hr H) fun H=>vK<|fQ<|vQ<|iD N6 [3,11,20,21,100] H fun _ H=>cD H (fun H=>iA [14]<|a8<|fR<|hr H) fun H=>vK<|fQ<|vQ<|iD Qd [11,21,105] H fun _ H=>cD H (fun H=>iA [14]<|a8<|fR<|hr H) fun H=>vK<|fQ<|vQ<|iD Qf [110] H fun _ H=>cD H (fun H=>iA [14]<|a8<|fR<|hr H) fun H=>vK<|fQ<|iA [14]<|a8<|hr H
end Go.Proofs.YtechodbafnmddaaGreatDoor
end
