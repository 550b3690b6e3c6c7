/- Functions of this program as plain functions of data, and that they are so: printed by program. -/
import Derived.Test.YtechodbafnmddaaGreatDoorF95b
section
namespace Go.Proofs.YtechodbafnmddaaGreatDoor
open Go Go.Proofs Go.Proofs.Sv Go.Proofs.Xv Go.Proofs.Xl Go.RowKit
open Tryz
def G0l:List l9×List l9×List Bool->Option (B8×Bool)
 | (b,c,a) =>
 some (((a,c,b),true))
def Vl(d:Int)(e:Int×List l9×List l9×List Bool->Option (B8×Bool)):List l9×List l9×List Bool->Option (B8×Bool)
 | (b,a,c) =>
 gd (b7 (d+1)/\True) <|
 e (d+1,b,a,c)
def G0k(d:List Int)(j:j0)(k:p8)(g:List j2)(l:List Bool)(h:List l7)(i:Int×List l9×List l9×List Bool->Option (B8×Bool)):Int×List l9×List l9×List Bool->Option (B8×Bool)
 | (c,f,a,b) =>
 if(decide (c < (d.length:Int))) then
  gd (ix c d.length/\True) <|
  gd ((Gl j k g l h (b,a,f) (d.getD c.toNat 0)).isSome/\True)<|lt (vl (Gl j k g l h (b,a,f) (d.getD c.toNat 0))) fun e =>
  if(!e.1) then
   Vl c i (f,a,b)
  else
   gd ((T6 e.2.2.1).isSome/\True) <|
   if(!vl (T6 e.2.2.1)) then
    some ((([],[],[]),false))
   else
    gd (ix (d.getD c.toNat 0) b.length/\Int.toNat (d.getD c.toNat 0)<b.length/\True) <|
    gd (ix (d.getD c.toNat 0) a.length/\Int.toNat (d.getD c.toNat 0)<a.length/\True) <|
    gd (ix (d.getD c.toNat 0) f.length/\Int.toNat (d.getD c.toNat 0)<f.length/\True) <|
    Vl c i ((f.set (Int.toNat (d.getD c.toNat 0)) e.2.2.2,a.set (Int.toNat (d.getD c.toNat 0)) e.2.2.1,b.set (Int.toNat (d.getD c.toNat 0)) true))
 else
  G0l (f,a,b)
def JT(a:j0)(f:p8)(c:List j2)(g:List Bool)(d:List l7)(e:List Int):Option (B8×Bool) :=
 gd ((M0 a).isSome/\(NM (vl (M0 a))).isSome/\True)<|lt (vl (NM (vl (M0 a)))) fun b =>
 lp (G0k e a f c g d) (0,b.2.2,b.2.1,b.1)
def k68:Ct:=b9 68 [.agg j3,.agg q4,.dat y138.sl,.dat Ty.bool.sl,.dat y75.sl,.dat i64.sl] (fun x=>JT x.1 x.2.1 x.2.2.1 x.2.2.2.1 x.2.2.2.2.1 x.2.2.2.2.2.1) (fun r:B8×Bool=>AV.tup [AV.agg [AV.ow 4 true Ty.bool r.1.1,AV.ow 73 true y73 r.1.2.1,AV.ow 73 true y73 r.1.2.2],B r.2]) (fun _=>())
theorem o68:Ok prog k68:=by
 refine c8 [.cell 12 65,.tmp 13] func68 ?_;intro y ⟨l,q,m,s,k,t,_⟩ r H Q hn hr;have:=hz (tc PU (tc Vk (tc N0R (tc Hq tn))));refine iA [2,3,4,5,6,7,12]<|iD N0R [2,3,4,5,6,7,12,14] H fun j H=>jN r (fun((a,f,g):List l9×List l9×List Bool)=>Z [p 12 (R 12),p 14 (R 14)] [(14,bx 65 [AV.os 21 0,AV.os 1021 0,AV.os 2021 0]),(2021,A 73 y73 a 0),(1021,A 73 y73 f 0),(21,A 4 Ty.bool g 0),(12,bx 65 [nil,nil,nil])]) (G0l) (fun⟨a,f,g⟩ H=>?_) (fun _ z P F=>?_)
 ·refine iA [12,13]<|a7<|hr H
 refine iA [2,3,4,5,6,7,12,14,15]<|vB<|lX (fun((i,o,c,h):Int×List l9×List l9×List Bool)=>Z (G4 m s [p 4 (L y75 k),p 5 (L i64 t),p 6 (R 6),p 7 (R 7),p 12 (R 12),p 14 (R 14),p 15 (I i)]) [(14,bx 65 [AV.os 21 0,AV.os 1021 0,AV.os 2021 0]),(2021,A 73 y73 o 0),(1021,A 73 y73 c 0),(21,A 4 Ty.bool h 0),(12,bx 65 [nil,nil,nil]),(7,K 58 q4 q),(6,K 56 j3 l)]) (0,j.2.2,j.2.1,j.1) H fun _ w v E x ⟨i,o,c,h⟩ H=>vQ<|iA [2,3,4,5,6,7,12,14,15,25]<|cD H (fun H=>?_) (fun H=>?_)
 ·refine vK<|fQ<|jN r (fun((e,b,d):List l9×List l9×List Bool)=>Z (G4 m s [p 4 (L y75 k),p 5 (L i64 t),p 6 (R 6),p 7 (R 7),p 12 (R 12),p 14 (R 14),p 15 (I i)]) [(14,bx 65 [AV.os 21 0,AV.os 1021 0,AV.os 2021 0]),(2021,A 73 y73 e 0),(1021,A 73 y73 b 0),(21,A 4 Ty.bool d 0),(12,bx 65 [nil,nil,nil]),(7,K 58 q4 q),(6,K 56 j3 l)]) (Vl i w) (fun⟨e,b,d⟩ H=>?_) (fun _ n G u=>?_)
  ·refine jB [2,3,4,5,6,7,12,14,15] H fun H=>v H
  refine vB<|iB [2,3,4,5,6,7,12,14,15,16] H fun H=>iD Vk [2,3,4,5,6,7,12,14,15,16,17,18] H fun _ H=>vQ<|iA [2,3,4,5,6,7,12,14,15,16,18,44]<|cD H (fun H=>vE<|fE<|fX rfl<|n H) fun H=>vK<|fQ<|vQ<|iB [2,3,4,5,6,7,12,14,15,16,18,48] H fun H=>cD H (fun H=>iA [12,13]<|a7<|fR<|c9<|u<|x<|c9<|F<|hr H) fun H=>vK<|fQ<|iB [2,3,4,5,6,7,12,14,15,16,18] H fun H=>iB [2,3,4,5,6,7,12,14,15,16,18] H fun H=>jB [2,3,4,5,6,7,12,14,15] H fun H=>fK<|n H
 exact vE<|fE<|E<|fX rfl<|z H
def QT(b:j0)(e:p8)(a:List Int)(f:List l7):Option (B8×Int) :=
 gd ((Hs b e a f).isSome/\True)<|lt (vl (Hs b e a f)) fun d =>
 if(d.2 != 0) then
  some ((([],[],[]),d.2))
 else
  gd ((AA b).isSome/\True)<|lt (vl (AA b)) fun c =>
  gd ((T5 c a).isSome/\(JT b e c (vl (T5 c a)) f d.1).isSome/\True)<|lt ((vl (JT b e c (vl (T5 c a)) f d.1),vl (T5 c a))) fun(g,_) =>
  if(!g.2) then
   some ((([],[],[]),(3:Int)))
  else
   some ((g.1,(0:Int)))
def k25:Ct:=b9 25 [.agg j3,.agg q4,.dat i64.sl,.dat y75.sl] (fun x=>QT x.1 x.2.1 x.2.2.1 x.2.2.2.1) (fun r:B8×Int=>AV.tup [AV.agg [AV.ow 4 true Ty.bool r.1.1,AV.ow 73 true y73 r.1.2.1,AV.ow 73 true y73 r.1.2.2],I r.2]) (fun _=>())
theorem JU:Ok prog k25:=by
 refine c8 [.cell 8 65,.tmp 9] func25 ?_;intro y ⟨c,f,_,_,_⟩ r H Q hn hr;have:=hz (tc o68 (tc PC (tc Dj (tc PW tn))));refine iA [2,3,4,5,8]<|iD PW [2,3,4,5,8,10,11] H fun e H=>vQ<|iA [2,3,4,5,8,10,11,24]<|cD H (fun H=>iA [8,9]<|a7<|fR<|hr H) fun H=>vK<|fQ<|iD Dj [2,3,4,5,8,10,12] H fun d H=>qD (fun(a,b)=>Z [p 8 (R 8),p 13 (R 13),p 14 (B a.2)] [(13,bx 65 [AV.os 38 0,AV.os 1038 0,AV.os 2038 0]),(2038,A 73 y73 a.1.2.2 0),(1038,A 73 y73 a.1.2.1 0),(38,A 4 Ty.bool a.1.1 0),(35,A 4 Ty.bool b 0),(28,A 138 y138 d 0),(20,A 2 i64 e.1 0),(8,bx 65 [nil,nil,nil]),(5,K 58 q4 f),(4,K 56 j3 c)]) H fun⟨a,b⟩ H =>
  vQ <|
  iA [8,13,42] <|
  cD H (fun H=>iA [8,9]<|a7<|fR<|hr H) fun H=>vK<|fQ<|iA [8,9]<|a7<|hr H
def Vm(a:j0)(g:p8)(b:List Int)(h:List l7)(d:B8)(f:Int):Option (Bool×l7×Int) :=
 gd ((Mt a g b h d).isSome/\True)<|lt (vl (Mt a g b h d)) fun i =>
 if(i != 0) then
  some ((false,((0:Int),((0:Int),(0:Int)),(0:Int),(0:Int)),i))
 else
  gd ((M0 a).isSome/\b7 (vl (M0 a)-1)/\(q7 f 0 (vl (M0 a)-1)).isSome/\True) <|
  if(!vl (q7 f 0 (vl (M0 a)-1))) then
   some ((false,((0:Int),((0:Int),(0:Int)),(0:Int),(0:Int)),(4:Int)))
  else
   gd ((AA a).isSome/\True)<|lt (vl (AA a)) fun c =>
   gd ((T5 c b).isSome/\(Gl a g c (vl (T5 c b)) h d f).isSome/\True)<|lt ((vl (Gl a g c (vl (T5 c b)) h d f),vl (T5 c b))) fun(e,_) =>
   if(!e.1) then
    some ((false,((0:Int),((0:Int),(0:Int)),(0:Int),(0:Int)),(0:Int)))
   else
    gd ((T6 e.2.2.1).isSome/\True) <|
    if(!vl (T6 e.2.2.1)) then
     some ((false,((0:Int),((0:Int),(0:Int)),(0:Int),(0:Int)),(3:Int)))
    else
     some ((true,e.2,(0:Int)))
def k22:Ct:=b9 22 [.agg j3,.agg q4,.dat i64.sl,.dat y75.sl,.agg y65,.dat i64] (fun x=>Vm x.1 x.2.1 x.2.2.1 x.2.2.2.1 x.2.2.2.2.1 x.2.2.2.2.2.1) (fun r:Bool×l7×Int=>AV.tup [B r.1,AV.agg (Q2 r.2.1),I r.2.2]) (fun _=>())
theorem o22:Ok prog k22:=by
 refine c8 [.tmp 12,.cell 13 75,.tmp 14] func22 ?_;intro y ⟨d,f,_,_,c,_,_⟩ r H Q hn hr;have:=hz (tc PU (tc Vk (tc PC (tc Dj (tc AW (tc Hq (tc PX tn)))))));refine iA [2,3,5,6,7,10,13]<|vQ<|iD PX [2,3,5,6,7,10,13,15] H fun _ H=>iA [2,3,5,6,7,10,13,15,26]<|cD H (fun H=>iA [12,13,14]<|a7<|fR<|hr H) fun H=>vK<|fQ<|vQ<|iB [2,3,5,6,7,10,13,34] H fun H=>cD H (fun H=>iA [12,13,14]<|a7<|fR<|hr H) fun H=>vK<|fQ<|iD Dj [2,3,5,6,7,10,13,16] H fun e H=>qD (fun(a,b)=>Z [p 13 (R 13),p 17 (B a.1),p 18 (R 18)] [(18,bx 75 (A7 true y75 a.2)),(44,A 4 Ty.bool b 0),(37,A 138 y138 e 0),(13,bx 75 [I 0,I 0,I 0,I 0,I 0]),(10,K 65 y65 c),(7,K 58 q4 f),(6,K 56 j3 d)]) H fun⟨a,b⟩ H =>
  vQ <|
  iA [13,18,52] <|
  cD H (fun H=>iA [12,13,14]<|a7<|fR<|hr H) fun H=>vK<|fQ<|vQ<|iB [13,18,57] H fun H=>cD H (fun H=>iA [12,13,14]<|a7<|fR<|hr H) fun H=>vK<|fQ<|iA [12,13,14]<|a7<|hr H
def Gm(a:l7)(d:Bool)(b:l9)(c:l9):Option (l7×Bool) :=
 if(!d) then
  some ((a.1,b,c),true)
 else
  gd ((NO a.2.1 b).isSome/\(NO a.2.2 c).isSome/\True) <|
  some ((a.1,vl (NO a.2.1 b),vl (NO a.2.2 c)),d)
theorem C0x{st:St}{z:c7 y75×c7 Ty.bool}{a:c7 y75}{b:Bool}(e:some (a,b)=some z)(h:QU st 75 y75 4 .bool z=(a=z.1/\b=z.2)):QU st 75 y75 4 .bool z:=by
 cases e;rw[h];exact⟨rfl,rfl⟩
theorem M0R:NP prog 122 75 y75 4 .bool [.agg y73,.agg y73] (fun x1 x2 x=>Gm x1 x2 x.1 x.2.1):=by
 refine I0I func122 ntmps122 rfl results122 (by kernel_rfl) rfl ?_;intro y x1 x2 ⟨_,_,_⟩ z H Q hQ;have:HG prog Γ:=⟨Bu⟩;have:=hz (tc Q0H (@tn prog));refine iA [0,1,6,7]<|vQ<|iA [0,1,6,7,11]<|cD H (fun H=>iA [0,1]<|a7<|fR<|(hQ _ (C0x H (by kernel_rfl))).2) fun H=>vK<|fQ<|jB [0,1] H fun H=>(hQ _ (C0x H (by kernel_rfl))).1
def G0n:Int×Int×Int×Int×Int×Bool->Option (Bool×l7)
 | (c,e,d,a,f,b) =>
 if(!b) then
  some ((false,(0:Int),((0:Int),(0:Int)),(0:Int),(0:Int)))
 else
  some ((true,c,(e,d),a,f))
def Vn(a:Int)(h:Int×Int×Int×Int×Int×Int×Bool->Option (Bool×l7)):Int×Int×Int×Int×Int×Bool->Option (Bool×l7)
 | (c,b,g,d,e,f) =>
 gd (b7 (a+1)/\True) <|
 h (a+1,c,b,g,d,e,f)
def G0m(e:B8)(m:H3)(o:p8)(l:List Int)(n:Int×Int×Int×Int×Int×Int×Bool->Option (Bool×l7)):Int×Int×Int×Int×Int×Int×Bool->Option (Bool×l7)
 | (b,k,g,i,f,j,h) =>
 if(decide (b < (l.length:Int))) then
  gd (ix b l.length/\b.toNat<l.length/\True) <|
  gd (ix (l.getD b.toNat 0) m.1.2.2.1.length/\True)<|lt (m.1.2.2.1.getD (Int.toNat (l.getD b.toNat 0)) (a6 y138)) fun a =>
  gd (ix a.1 e.1.length/\True) <|
  if(e.1.getD a.1.toNat false) then
   gd (ix a.1 e.2.2.length/\(Cv m.1 o (l.getD b.toNat 0) (e.2.2.getD a.1.toNat (a6 y73))).isSome/\True)<|lt (vl (Cv m.1 o (l.getD b.toNat 0) (e.2.2.getD a.1.toNat (a6 y73)))) fun c =>
   gd ((ix a.1 e.2.1.length/\(BB (e.2.1.getD a.1.toNat (a6 y73)) c.1).isSome/\True)/\(Gm (k,(g,i),f,j) h (vl (BB (e.2.1.getD a.1.toNat (a6 y73)) c.1),c.2,()).1 (vl (BB (e.2.1.getD a.1.toNat (a6 y73)) c.1),c.2,()).2.1).isSome/\True)<|lt (vl (Gm (k,(g,i),f,j) h (vl (BB (e.2.1.getD a.1.toNat (a6 y73)) c.1),c.2,()).1 (vl (BB (e.2.1.getD a.1.toNat (a6 y73)) c.1),c.2,()).2.1)) fun(d:(l7×Bool)) =>
   gd (True) <|
   Vn b n (d.1.1,d.1.2.1.1,d.1.2.1.2,d.1.2.2.1,d.1.2.2.2,d.2)
  else
   Vn b n (k,g,i,f,j,h)
 else
  G0n (k,g,i,f,j,h)
def NQ(k:B8)(a:H3)(i:p8)(b:Int):Int×Int×Int×Int×Int×Bool->Option (Bool×l7)
 | (d,j,e,c,f,g) =>
 gd ((HF a b).isSome/\True)<|lt (vl (HF a b)) fun h =>
 lp (G0m k a i h) (0,d,j,e,c,f,g)
def u64(e:H3)(f:p8)(d:List l7)(g:B8)(b:Int):Option (Bool×l7) :=
 gd ((HH d b).isSome/\True)<|lt (vl (HH d b)) fun a =>
 if a.2 then
  gd (True/\(Gm (b,(Int.ofNat 0,Int.ofNat 0),Int.ofNat 0,Int.ofNat 0) false (a.1.2.1,a.1.2.2,()).1 (a.1.2.1,a.1.2.2,()).2.1).isSome/\True)<|lt (vl (Gm (b,(Int.ofNat 0,Int.ofNat 0),Int.ofNat 0,Int.ofNat 0) false (a.1.2.1,a.1.2.2,()).1 (a.1.2.1,a.1.2.2,()).2.1)) fun(c:(l7×Bool)) =>
  gd (True) <|
  NQ g e f b (c.1.1,c.1.2.1.1,c.1.2.1.2,c.1.2.2.1,c.1.2.2.2,c.2)
 else
  NQ g e f b (b,0,0,0,0,false)
def k64:Ct:=b9 64 [.dat y126.pt,.agg q4,.dat y75.sl,.agg y65,.dat i64] (fun x=>u64 x.1 x.2.1 x.2.2.1 x.2.2.2.1 x.2.2.2.2.1) (fun r:Bool×l7=>AV.tup [B r.1,AV.agg (Q2 r.2)]) (fun _=>())
theorem QV:Ok prog k64:=by
 refine c8 [.tmp 10,.cell 11 75] func64 ?_;intro y ⟨m,n,_,l,V,_⟩ r H Q hn hr;have:=hz (tc N0T (tc Qa (tc Qd (tc Qf tn))));refine iA [0,2,4,6,8,11]<|iA [0,2,4,6,8,11,12]<|iA [0,2,4,6,8,11,12,13]<|jN r (fun((v2,v3,v4,X,Y,v7):Int×Int×Int×Int×Int×Bool)=>Z [p 0 (D y126.pt m),p 4 (J V),p 6 (R 6),p 8 (R 8),p 11 (R 11),p 12 (R 12),p 13 (R 13)] ((12,bx 75 [J v2,J v3,J v4,J X,J Y])::(13,bx 4 [C v7])::W5 l n)) (NQ l m n V) (fun w H=>?_) (fun _ n0 e0 t0=>?_)
 ·obtain⟨v2,v3,v4,X,Y,v7⟩:=w;refine jN r (fun((q,s,v,G,t,u):Int×Int×Int×Int×Int×Bool)=>Z [p 11 (R 11),p 12 (R 12),p 13 (R 13)] [(12,bx 75 [J q,J s,J v,J G,J t]),(13,bx 4 [C u]),(11,bx 75 [I 0,I 0,I 0,I 0,I 0])]) (G0n) (fun⟨q,s,v,G,t,u⟩ H=>?_) (fun _ n1 e1 t1=>?_)
  ·refine vQ<|iA [11,12,85]<|cD H (fun H=>iA [10,11]<|a7<|fR<|hr H) fun H=>vK<|fQ<|iA [10,11]<|a7<|hr H
  refine iD Qd [0,6,8,11,12,13,37,38,39] H fun d H=>vB<|lX (fun((a,i,f,c,b,k,j):Int×Int×Int×Int×Int×Int×Bool)=>Z (Ps m [p 37 (O 37),p 38 (I (d.length:Int)),p 39 (I a)]) ((37,A 2 i64 d 0)::(12,bx 75 [J i,J f,J c,J b,J k])::(13,bx 4 [C j])::W5 l n)) (0,v2,v3,v4,X,Y,v7) H fun _ g2 b2 e2 t2 ⟨a,i,f,c,b,k,j⟩ H=>iA [0,6,8,11,12,13,37,38,39,40]<|vQ<|cD H (fun H=>?_) (fun H=>?_)
  ·refine vK<|fQ<|jN r (fun((F,E,T,P,x,z):Int×Int×Int×Int×Int×Bool)=>Z (Ps m [p 37 (O 37),p 38 (I (d.length:Int)),p 39 (I a)]) ((12,bx 75 [J F,J E,J T,J P,J x])::(13,bx 4 [C z])::(37,A 2 i64 d 0)::W5 l n)) (Vn a g2) (fun⟨F,E,T,P,x,z⟩ H=>?_) (fun _ n3 e3 t3=>?_)
   ·refine jB [0,6,8,11,12,13,37,38,39] H fun H=>b2 H
   refine vB<|iB [0,6,8,11,12,13,17,37,38,39] H fun H=>qD (fun o=>Z (Ps m [p 17 (I (d.getD a.toNat 0)),p 18 (J o.1),p 37 (O 37),p 38 (I (d.length:Int)),p 39 (I a)]) ((37,A 2 i64 d 0)::(12,bx 75 [J i,J f,J c,J b,J k])::(13,bx 4 [C j])::W5 l n)) H fun o H=>iB [0,6,8,11,12,13,17,18,37,38,39,58] H fun H=>cD H (fun H=>iD Qa [0,6,8,11,12,13,18,19,20,37,38,39] H fun g H=>zU Bu (HT.h) M0R [0,6,8,11,12,13,37,38,39] (fun(e:l7×Bool)=>Z (Ps m [p 37 (O 37),p 38 (I (d.length:Int)),p 39 (I a)]) ((12,K 75 y75 e.1)::(13,bx 4 [C e.2])::(20,bx 73 (A7 true y73 g.2))::(19,bx 73 (A7 true y73 g.1))::(37,A 2 i64 d 0)::W5 l n)) (fun(e:l7×Bool)=>True) (x1:=(i,(f,c),b,k)) (x2:=j) (xs:=(vl (BB (l.2.1.getD o.1.toNat (a6 y73)) g.1),g.2,())) H (fun _=>by kernel_rfl) fun e H=>gdC H fun H=>fK<|n3 H) fun H=>vK<|fK<|n3 H
  exact vE<|fE<|e2<|fX rfl<|n1 H
 refine iD Qf [0,4,6,8,11,12,13,14,15] H fun v0 H=>iA [0,4,6,8,11,12,13,14,29]<|cD H (fun H=>zT Bu (HT.h) M0R 4 [0,4,6,8,11,12,13] (fun(W:l7×Bool)=>Z [p 0 (D y126.pt m),p 4 (J V),p 6 (R 6),p 8 (R 8),p 11 (R 11),p 12 (R 12),p 13 (R 13)] ((12,K 75 y75 W.1)::(13,bx 4 [C W.2])::(14,bx 75 (A7 true y75 v0.1))::W5 l n)) (fun(W:l7×Bool)=>True) (x1:=(V,(Int.ofNat 0,Int.ofNat 0),Int.ofNat 0,Int.ofNat 0)) (x2:=false) (xs:=(v0.1.2.1,v0.1.2.2,())) H (fun _=>by kernel_rfl) fun W H=>gdC H fun H=>n0 H) fun H=>vK<|n0 H
def G0j:List l9×List l9×List Bool->Option (B8×Bool)
 | (b,c,a) =>
 some (((a,c,b),true))
def G0i(b:List Int)(h:H3)(i:p8)(g:List l7)(j:Int×List l9×List l9×List Bool->Option (B8×Bool)):Int×List l9×List l9×List Bool->Option (B8×Bool)
 | (a,d,e,f) =>
 if(decide (a < (b.length:Int))) then
  gd (ix a b.length/\True) <|
  gd ((u64 h i g (f,e,d) (b.getD a.toNat 0)).isSome/\True)<|lt (vl (u64 h i g (f,e,d) (b.getD a.toNat 0))) fun c =>
  gd ((c.1=true/\True->(M8 c.2.2.1).isSome)/\True) <|
  if(c.1&&!vl (M8 c.2.2.1)) then
   some ((([],[],[]),false))
  else
   gd (ix (b.getD a.toNat 0) f.length/\Int.toNat (b.getD a.toNat 0)<f.length/\ix (b.getD a.toNat 0) e.length/\Int.toNat (b.getD a.toNat 0)<e.length/\ix (b.getD a.toNat 0) d.length/\Int.toNat (b.getD a.toNat 0)<d.length/\True) <|
   gd (b7 (a+1)/\True) <|
   j ((a+1,d.set (Int.toNat (b.getD a.toNat 0)) c.2.2.2,e.set (Int.toNat (b.getD a.toNat 0)) c.2.2.1,f.set (Int.toNat (b.getD a.toNat 0)) c.1))
 else
  G0j (d,e,f)
def HY(a:H3)(d:p8)(c:List l7)(e:List Int):Option (B8×Bool) :=
 gd ((NN a.1).isSome/\True)<|lt (vl (NN a.1)) fun b =>
 lp (G0i e a d c) (0,b.2.2,b.2.1,b.1)
def k69:Ct:=b9 69 [.dat y126.pt,.agg q4,.dat y75.sl,.dat i64.sl] (fun x=>HY x.1 x.2.1 x.2.2.1 x.2.2.2.1) (fun r:B8×Bool=>AV.tup [AV.agg [AV.ow 4 true Ty.bool r.1.1,AV.ow 73 true y73 r.1.2.1,AV.ow 73 true y73 r.1.2.2],B r.2]) (fun _=>())
theorem o69:Ok prog k69:=by
 refine c8 [.cell 8 65,.tmp 9] func69 ?_;intro y ⟨j,n,l,i,_⟩ r H Q hn hr;have:=hz (tc Nh (tc QV (tc N0Q tn)));refine iA [0,2,3,5,8]<|iD N0Q [0,2,3,5,8,10] H fun d H=>jN r (fun((a,c,b):List l9×List l9×List Bool)=>Z [p 8 (R 8),p 10 (R 10)] [(10,bx 65 [AV.os 19 0,AV.os 1019 0,AV.os 2019 0]),(2019,A 73 y73 a 0),(1019,A 73 y73 c 0),(19,A 4 Ty.bool b 0),(8,bx 65 [nil,nil,nil])]) (G0j) (fun⟨a,c,b⟩ H=>?_) (fun _ q t s=>?_)
 ·refine iA [8,9]<|a7<|hr H
 refine iA [0,2,5,8,10,20,21,22]<|vB<|lX (fun((e,f,h,g):Int×List l9×List l9×List Bool)=>Z [p 0 (D y126.pt j),p 2 (L y75 l),p 5 (R 5),p 8 (R 8),p 10 (R 10),p 20 (L i64 i),p 21 (I (i.length:Int)),p 22 (I e)] [(10,bx 65 [AV.os 19 0,AV.os 1019 0,AV.os 2019 0]),(2019,A 73 y73 f 0),(1019,A 73 y73 h 0),(19,A 4 Ty.bool g 0),(8,bx 65 [nil,nil,nil]),(5,K 58 q4 n)]) (0,d.2.2,d.2.1,d.1) H fun _ u k o m ⟨e,f,h,g⟩ H=>iA [0,2,5,8,10,20,21,22,23]<|vQ<|cD H (fun H=>?_) (fun H=>?_)
 ·refine vK<|fQ<|vQ<|vB<|iB [0,2,5,8,10,12,20,21,22] H fun H=>iD QV [0,2,5,8,10,12,13,14,20,21,22] H fun _ H=>vQ<|iB [0,2,5,8,10,12,13,14,20,21,22,41] H fun H=>cD H (fun H=>iA [8,9]<|a7<|fR<|c9<|fR<|m<|c9<|s<|hr H) fun H=>vK<|fQ<|jB [0,2,5,8,10,20,21,22] H fun H=>fK<|fQ<|jB [0,2,5,8,10,20,21,22] H fun H=>k H
 exact vE<|fE<|o<|fX rfl<|q H
def Cz(c:j0)(f:p8)(b:List Int)(g:List l7):Option (Int ⊕ H3×List Int×Int) :=
 gd ((Fc c).isSome/\((!vl (Fc c))=false/\True->(HO f).isSome)/\True) <|
 if(!vl (Fc c)||!vl (HO f)) then
  some (Sum.inl 1)
 else
  gd ((HR c).isSome/\True)<|lt (vl (HR c)) fun a =>
  gd ((Fe a b).isSome/\((!vl (Fe a b))=false/\True->(HU a g).isSome)/\True) <|
  if(!vl (Fe a b)||!vl (HU a g)) then
   some (Sum.inl 2)
  else
   gd ((HV a b).isSome/\True)<|lt (vl (HV a b)) fun d =>
   gd ((HX d).isSome/\True)<|lt (vl (HX d)) fun e =>
   if(!e.2) then
    some (Sum.inl 7)
   else
    some (Sum.inr (d,e.1,(0:Int)))
def R0n:Ct:=b9 51 [.agg j3,.agg q4,.dat (.sl (.int .i64)),.dat (.sl y75),.nil] (fun x=>Cz x.1 x.2.1 x.2.2.1 x.2.2.2.1) (two (fun r:Int=>AV.tup (Pr r)) (fun r:H3×List Int×Int=>AV.tup [D y126.pt r.1,AV.ow 2 true i64 r.2.1,I r.2.2])) (fun _=>())
def M0c:Ct:=QW 51 [.agg j3,.agg q4,.dat (.sl (.int .i64)),.dat (.sl y75),.nil] (fun x=>Cz x.1 x.2.1 x.2.2.1 x.2.2.2.1) (fun r:Int=>AV.tup (Pr r)) ()
def M0b:Ct:=QX 51 [.agg j3,.agg q4,.dat (.sl (.int .i64)),.dat (.sl y75),.nil] (fun x=>Cz x.1 x.2.1 x.2.2.1 x.2.2.2.1) (fun r:H3×List Int×Int=>AV.tup [D y126.pt r.1,AV.ow 2 true i64 r.2.1,I r.2.2]) ()
theorem M0V:Ok prog R0n:=by
 refine c8 [.tmp 10,.tmp 11,.tmp 12] func51 ?_;intro y ⟨_,_,_,_,_,_⟩ r H Q hn hr;have:=hz (tc QS (tc QM (tc N0U (tc N0V (tc N0W (tc QL (tc N0X (tc N0Y tn))))))));refine iA [2,3,4,5,6]<|vQ<|iB [2,3,4,5,24] H fun H=>cD H (fun H=>iA [10,11,12]<|a7<|fR<|hr H) fun H=>vK<|fQ<|iD QL [2,3,4,13] H fun _ H=>vQ<|vB<|vQ<|D0D [2,3,13] 4 27 rfl (fun f w Q' k=>H4 (F4 rfl rfl (F5 _ (Vo (Bu 112 U0z rfl).2.2.2.2.2 rfl rfl) rfl (F4 rfl rfl (JV rfl rfl rfl rfl (JV rfl rfl rfl rfl (JV rfl rfl rfl rfl (JV rfl rfl rfl rfl (JV rfl rfl rfl rfl (JV rfl rfl rfl rfl (F4 rfl rfl (F4 rfl rfl (oN (X9 (by ((repeat (refine D3 rfl ?_)); exact D4)) k))))))))))))))<|fQ<|cf (by kernel_rfl)<|?_
 refine iB [2,13,38] H fun H=>cD H (fun H=>iA [10,11,12]<|a7<|c9<|fR<|hr H) fun H=>vK<|fK<|fQ<|iD QM [14] H fun _ H=>iD QS [14,15,16] H fun _ H=>vQ<|iA [14,15,58]<|cD H (fun H=>iA [10,11,12]<|a7<|fR<|hr H) fun H=>vK<|fQ<|iA [10,11,12]<|a7<|hr H
theorem L0x:Ok prog M0c:=M0U M0V
theorem L0w:Ok prog M0b:=M0T M0V
def QY(d:j0)(a:p8)(c:List Int)(b:List l7):Option (B8×Int) :=
 if(Ff (Cz d a c b)) then
  gd (Ff (Cz d a c b)=true/\True) <|
  if(vL (Cz d a c b) != 0) then
   some ((([],[],[]),vL (Cz d a c b)))
  else
   none
 else
  gd (NR (Cz d a c b)=true/\True)<|lt (vR (Cz d a c b)) fun e =>
  if(e.2.2 != 0) then
   some ((([],[],[]),e.2.2))
  else
   gd ((HY e.1 a b e.2.1).isSome/\True)<|lt (vl (HY e.1 a b e.2.1)) fun f =>
   if(!f.2) then
    some ((([],[],[]),(3:Int)))
   else
    some ((f.1,(0:Int)))
def k26:Ct:=b9 26 [.agg j3,.agg q4,.dat i64.sl,.dat y75.sl] (fun x=>QY x.1 x.2.1 x.2.2.1 x.2.2.2.1) (fun r:B8×Int=>AV.tup [AV.agg [AV.ow 4 true Ty.bool r.1.1,AV.ow 73 true y73 r.1.2.1,AV.ow 73 true y73 r.1.2.2],I r.2]) (fun _=>())
theorem Fg:Ok prog k26:=by
 refine c8 [.cell 8 65,.tmp 9] func26 ?_;intro y ⟨b,c,_,d,_⟩ r H Q hn hr;have:=hz (tc o69 tn);refine iA [2,3,4,5,8]<|sp H (fun H=>?_) (fun H=>?_)
 ·have:=hz (tc L0x (HT.h));refine iB [3,5,8,10,11,12] H fun H=>vQ<|iA [3,5,8,10,11,12,25]<|cD H (fun H=>iA [8,9]<|a7<|fR<|hr H) fun H=>vK<|fQ<|Qs H
 have:=hz (tc L0w (HT.h));refine qD (fun a=>Z [p 3 (L y75 d),p 5 (R 5),p 8 (R 8),p 10 (D y126.pt a.1),p 11 (O 20),p 12 (I a.2.2)] [(20,A 2 i64 a.2.1 0),(8,bx 65 [nil,nil,nil]),(5,K 58 q4 c),(4,K 56 j3 b)]) H fun a H=>vQ<|iA [3,5,8,10,11,12,25]<|cD H (fun H=>iA [8,9]<|a7<|fR<|hr H) fun H=>vK<|fQ<|iD o69 [8,13,14] H fun _ H=>vQ<|iA [8,13,37]<|cD H (fun H=>iA [8,9]<|a7<|fR<|hr H) fun H=>vK<|fQ<|iA [8,9]<|a7<|hr H
def Ad(c:j0)(g:p8)(b:List Int)(h:List l7)(e:B8):Option (Int ⊕ H3×List Int×Int) :=
 gd ((Fc c).isSome/\((!vl (Fc c))=false/\True->(HO g).isSome)/\True) <|
 if(!vl (Fc c)||!vl (HO g)) then
  some (Sum.inl 1)
 else
  gd ((HR c).isSome/\True)<|lt (vl (HR c)) fun a =>
  gd ((true=true/\True->(Va a e).isSome)/\True) <|
  if(true&&!vl (Va a e)) then
   some (Sum.inl 1)
  else
   gd ((Fe a b).isSome/\((!vl (Fe a b))=false/\True->(HU a h).isSome)/\True) <|
   if(!vl (Fe a b)||!vl (HU a h)) then
    some (Sum.inl 2)
   else
    gd ((HV a b).isSome/\True)<|lt (vl (HV a b)) fun d =>
    gd ((HX d).isSome/\True)<|lt (vl (HX d)) fun f =>
    if(!f.2) then
     some (Sum.inl 7)
    else
     some (Sum.inr (d,f.1,(0:Int)))
def k51:Ct:=b9 51 [.agg j3,.agg q4,.dat i64.sl,.dat y75.sl,.dat y65.pt] (fun x=>Ad x.1 x.2.1 x.2.2.1 x.2.2.2.1 x.2.2.2.2.1) (two (fun r:Int=>AV.tup (Pr r)) (fun r:H3×List Int×Int=>AV.tup [D y126.pt r.1,AV.ow 2 true i64 r.2.1,I r.2.2])) (fun _=>())
def R0p:Ct:=QW 51 [.agg j3,.agg q4,.dat i64.sl,.dat y75.sl,.dat y65.pt] (fun x=>Ad x.1 x.2.1 x.2.2.1 x.2.2.2.1 x.2.2.2.2.1) (fun r:Int=>AV.tup (Pr r)) ()
def R0o:Ct:=QX 51 [.agg j3,.agg q4,.dat i64.sl,.dat y75.sl,.dat y65.pt] (fun x=>Ad x.1 x.2.1 x.2.2.1 x.2.2.2.1 x.2.2.2.2.1) (fun r:H3×List Int×Int=>AV.tup [D y126.pt r.1,AV.ow 2 true i64 r.2.1,I r.2.2]) ()
theorem o51:Ok prog k51:=by
 refine c8 [.tmp 10,.tmp 11,.tmp 12] func51 ?_;intro y ⟨_,_,_,_,_,_⟩ r H Q hn hr;have:=hz (tc QS (tc QM (tc N0U (tc N0V (tc N0W (tc QL (tc N0X (tc N0Y tn))))))));refine iA [2,3,4,5,6]<|vQ<|iB [2,3,4,5,24] H fun H=>cD H (fun H=>iA [10,11,12]<|a7<|fR<|hr H) fun H=>vK<|fQ<|iD QL [2,3,4,13] H fun _ H=>vQ<|vB<|iB [2,3,13,27] H fun H=>cD H (fun H=>iA [10,11,12]<|a7<|c9<|fR<|hr H) fun H=>iB [2,13,38] H fun H=>cD H (fun H=>iA [10,11,12]<|a7<|c9<|fR<|hr H) fun H=>vK<|fK<|fQ<|iD QM [14] H fun _ H=>iD QS [14,15,16] H fun _ H=>vQ<|iA [14,15,58]<|cD H (fun H=>iA [10,11,12]<|a7<|fR<|hr H) fun H=>vK<|fQ<|iA [10,11,12]<|a7<|hr H
theorem M0X:Ok prog R0p:=M0U o51
theorem M0W:Ok prog R0o:=M0T o51
def Vp(e:j0)(b:p8)(d:List Int)(c:List l7)(a:B8)(h:Int):Option (Bool×l7×Int) :=
 if(Ff (Ad e b d c a)) then
  gd (Ff (Ad e b d c a)=true/\True) <|
  if(vL (Ad e b d c a) != 0) then
   some ((false,((0:Int),((0:Int),(0:Int)),(0:Int),(0:Int)),vL (Ad e b d c a)))
  else
   none
 else
  gd (NR (Ad e b d c a)=true/\True)<|lt (vR (Ad e b d c a)) fun g =>
  if(g.2.2 != 0) then
   some ((false,((0:Int),((0:Int),(0:Int)),(0:Int),(0:Int)),g.2.2))
  else
   gd ((Ab g.1.1 h).isSome/\True) <|
   if(!vl (Ab g.1.1 h)) then
    some ((false,((0:Int),((0:Int),(0:Int)),(0:Int),(0:Int)),(4:Int)))
   else
    gd ((u64 g.1 b c a h).isSome/\True)<|lt (vl (u64 g.1 b c a h)) fun f =>
    gd ((f.1=true/\True->(M8 f.2.2.1).isSome)/\True) <|
    if(f.1&&!vl (M8 f.2.2.1)) then
     some ((false,((0:Int),((0:Int),(0:Int)),(0:Int),(0:Int)),(3:Int)))
    else
     some ((f.1,f.2,(0:Int)))
def QZ:Ct:=b9 23 [.agg j3,.agg q4,.dat i64.sl,.dat y75.sl,.agg y65,.dat i64] (fun x=>Vp x.1 x.2.1 x.2.2.1 x.2.2.2.1 x.2.2.2.2.1 x.2.2.2.2.2.1) (fun r:Bool×l7×Int=>AV.tup [B r.1,AV.agg (Q2 r.2.1),I r.2.2]) (fun _=>())
theorem o23:Ok prog QZ:=by
 refine c8 [.tmp 12,.cell 13 75,.tmp 14] func23 ?_;intro y ⟨c,e,g,f,b,d,_⟩ r H Q hn hr;have:=hz (tc Nh (tc QV (tc Ut tn)));refine vQ<|zX Bu (HT.h) 2 [2,3,5,6,7,10,13] (y65) (Z [p 2 (L i64 g),p 3 (L y75 f),p 5 (J d),p 6 (R 6),p 7 (R 7),p 10 (D y65.pt b),p 13 (R 13)] [(13,bx 75 [I 0,I 0,I 0,I 0,I 0]),(7,K 58 q4 e),(6,K 56 j3 c)]) (V:=True) (W:=True) (by kernel_rfl) ⟨trivial,trivial⟩<|fQ<|sp H (fun H=>?_) (fun H=>?_)
 ·have:=hz (tc M0X (HT.h));refine iB [3,5,7,10,13,15,17] H fun H=>vQ<|vB<|iA [3,5,7,10,13,15,17,29]<|cD H (fun H=>iA [12,13,14]<|a7<|c9<|fR<|hr H) fun H=>Qs H
 have:=hz (tc M0W (HT.h));refine qD (fun a=>Z [p 3 (L y75 f),p 5 (J d),p 7 (R 7),p 10 (D y65.pt b),p 13 (R 13),p 15 (D y126.pt a.1),p 17 (I a.2.2)] [(25,A 2 i64 a.2.1 0),(13,bx 75 [I 0,I 0,I 0,I 0,I 0]),(7,K 58 q4 e),(6,K 56 j3 c)]) H fun a H=>vQ<|vB<|iA [3,5,7,10,13,15,17,29]<|cD H (fun H=>iA [12,13,14]<|a7<|c9<|fR<|hr H) fun H=>iB [3,5,7,10,13,15,34] H fun H=>cD H (fun H=>iA [12,13,14]<|a7<|c9<|fR<|hr H) fun H=>vK<|fK<|fQ<|iD QV [13,18,19] H fun _ H=>vQ<|iB [13,18,19,58] H fun H=>cD H (fun H=>iA [12,13,14]<|a7<|fR<|hr H) fun H=>vK<|fQ<|iA [12,13,14]<|a7<|hr H
def Vq(e:j0)(b:p8)(d:List Int)(c:List l7)(a:B8)(h:Int)(f:Int):Option (Int×Int) :=
 if(Ff (Ad e b d c a)) then
  gd (Ff (Ad e b d c a)=true/\True) <|
  if(vL (Ad e b d c a) != 0) then
   some (((0:Int),vL (Ad e b d c a)))
  else
   gd ((Na f).isSome/\True) <|
   if(!vl (Na f)) then
    some (((0:Int),(2:Int)))
   else
    none
 else
  gd (NR (Ad e b d c a)=true/\True)<|lt (vR (Ad e b d c a)) fun g =>
  if(g.2.2 != 0) then
   some (((0:Int),g.2.2))
  else
   gd ((Na f).isSome/\True) <|
   if(!vl (Na f)) then
    some (((0:Int),(2:Int)))
   else
    gd ((Uv g.1 b c a h f).isSome/\True)<|lt (vl (Uv g.1 b c a h f)) fun i =>
    some i
def k17:Ct:=b9 17 [.agg j3,.agg q4,.dat i64.sl,.dat y75.sl,.agg y65,.dat i64,.dat i64] (fun x=>Vq x.1 x.2.1 x.2.2.1 x.2.2.2.1 x.2.2.2.2.1 x.2.2.2.2.2.1 x.2.2.2.2.2.2.1) (fun r:Int×Int=>AV.tup [I r.1,I r.2]) (fun _=>())
theorem o17:Ok prog k17:=by
 refine c8 [.tmp 14,.tmp 15] func17 ?_;intro y ⟨c,f,i,g,b,e,d,_⟩ r H Q hn hr;have:=hz (tc o53 (tc o52 tn));refine vQ<|zX Bu (HT.h) 2 [2,3,5,6,7,8,11] (y65) (Z [p 2 (L i64 i),p 3 (L y75 g),p 5 (J e),p 6 (J d),p 7 (R 7),p 8 (R 8),p 11 (D y65.pt b)] [(8,K 58 q4 f),(7,K 56 j3 c)]) (V:=True) (W:=True) (by kernel_rfl) ⟨trivial,trivial⟩<|fQ<|sp H (fun H=>?_) (fun H=>?_)
 ·have:=hz (tc M0X (HT.h));refine iB [3,5,6,8,11,16,18] H fun H=>vQ<|vB<|iA [3,5,6,8,11,16,18,28]<|cD H (fun H=>iA [14,15]<|a7<|c9<|fR<|hr H) fun H=>iB [3,5,6,8,11,16,32] H fun H=>cD H (fun H=>iA [14,15]<|a7<|c9<|fR<|hr H) fun H=>vK<|fK<|fQ<|Qs H
 have:=hz (tc M0W (HT.h));refine qD (fun a=>Z [p 3 (L y75 g),p 5 (J e),p 6 (J d),p 8 (R 8),p 11 (D y65.pt b),p 16 (D y126.pt a.1),p 18 (I a.2.2)] [(24,A 2 i64 a.2.1 0),(8,K 58 q4 f),(7,K 56 j3 c)]) H fun a H=>vQ<|vB<|iA [3,5,6,8,11,16,18,28]<|cD H (fun H=>iA [14,15]<|a7<|c9<|fR<|hr H) fun H=>iB [3,5,6,8,11,16,32] H fun H=>cD H (fun H=>iA [14,15]<|a7<|c9<|fR<|hr H) fun H=>vK<|fK<|fQ<|iD o53 [14,15] H fun _ H=>a7<|hr H
def u3(b:Ck)(h:Cm)(d:List Int)(c:List AT)(a:LN)(l:Int)(j:Int):Option Bool :=
 if(decide (1048576 < (d.length:Int))) then
  some true
 else
  gd ((u7 b 1048576).isSome/\True)<|lt (vl (u7 b 1048576)) fun t =>
  if(decide (t<0)) then
   some true
  else
   gd ((u8 h t).isSome/\True)<|lt (vl (u8 h t)) fun s =>
   if(decide (s<0)) then
    some true
   else
    gd ((u9 c s).isSome/\True)<|lt (vl (u9 c s)) fun q =>
    if(decide (q<0)) then
     some true
    else
     gd ((LM a q).isSome/\True)<|lt (vl (LM a q)) fun v =>
     if(decide (v<0)) then
      some true
     else
      gd ((N0 b).isSome/\(V5 h).isSome/\(F1 d).isSome/\(N9 c).isSome/\(u16 a).isSome/\(Ue (vl (N0 b)) (vl (V5 h)) (vl (F1 d)) (vl (N9 c)) (vl (u16 a)) l j).isSome/\True)<|lt ((vl (Ue (vl (N0 b)) (vl (V5 h)) (vl (F1 d)) (vl (N9 c)) (vl (u16 a)) l j),vl (u16 a),vl (N9 c),vl (F1 d),vl (N0 b))) fun(u,_,_,_,_) =>
      gd ((N0 b).isSome/\True)<|lt (vl (N0 b)) fun k =>
      gd ((F1 d).isSome/\True)<|lt (vl (F1 d)) fun e =>
      gd ((N9 c).isSome/\True)<|lt (vl (N9 c)) fun g =>
      gd ((u16 a).isSome/\True)<|lt (vl (u16 a)) fun f =>
      gd ((V5 h).isSome/\(Vq k (vl (V5 h)) e g f l j).isSome/\True)<|lt (vl (Vq k (vl (V5 h)) e g f l j)) fun i =>
      if(i.1 != u.1||i.2 != u.2) then
       some false
      else
       gd ((N0 b).isSome/\(FY k (vl (N0 b))).isSome/\True)<|lt (vl (N0 b)) fun n =>
       if(!vl (FY k n)) then
        some false
       else
        gd ((F1 d).isSome/\(L6 e (vl (F1 d))).isSome/\True)<|lt (vl (F1 d)) fun o =>
        if(!vl (L6 e o)) then
         some false
        else
         gd ((N9 c).isSome/\(FZ g (vl (N9 c))).isSome/\True)<|lt (vl (N9 c)) fun m =>
         if(!vl (FZ g m)) then
          some false
         else
          gd ((u16 a).isSome/\(Ga f (vl (u16 a))).isSome/\True)<|lt (vl (u16 a)) fun r =>
          if(!vl (Ga f r)) then
           some false
          else
           some true
def k3:Ct:=b9 3 [.agg T3,.agg T4,.dat i64.sl,.dat y106.sl,.agg FQ,.dat i64,.dat i64] (fun x=>u3 x.1 x.2.1 x.2.2.1 x.2.2.2.1 x.2.2.2.2.1 x.2.2.2.2.2.1 x.2.2.2.2.2.2.1) (fun r:Bool=>B r) (fun _=>())
theorem o3:Ok prog k3:=by
 refine c8 [.tmp 14] func3 ?_;intro y ⟨h,k,f,l,g,j,i,_⟩ r H Q hn hr;have:=hz (tc MZ (tc JF (tc Uj (tc T7 (tc Hw (tc J7 (tc Ui (tc Hu (tc o17 (tc Ug (tc o11 (tc Pt (tc o9 (tc o8 (tc o7 tn)))))))))))))));refine iA [2,3,5,6,7,8,11]<|vQ<|iA [2,3,5,6,7,8,11,26]<|cD H (fun H=>iA [14]<|a7<|fR<|hr H) fun H=>vK<|fQ<|iA [2,3,5,6,7,8,11,15]<|iD o7 [2,3,5,6,7,8,11,15] H fun _ H=>vQ<|iA [2,3,5,6,7,8,11,15,31]<|cD H (fun H=>iA [14]<|a7<|fR<|hr H) fun H=>vK<|fQ<|iD o8 [2,3,5,6,7,8,11,15] H fun _ H=>vQ<|iA [2,3,5,6,7,8,11,15,36]<|cD H (fun H=>iA [14]<|a7<|fR<|hr H) fun H=>vK<|fQ<|iD o9 [2,3,5,6,7,8,11,15] H fun _ H=>vQ<|iA [2,3,5,6,7,8,11,15,41]<|cD H (fun H=>iA [14]<|a7<|fR<|hr H) fun H=>vK<|fQ<|iD Pt [2,3,5,6,7,8,11,15] H fun _ H=>vQ<|iA [2,3,5,6,7,8,11,46]<|cD H (fun H=>iA [14]<|a7<|fR<|hr H) fun H=>vK<|fQ<|qD (fun(c,b,d,e,a)=>Z [p 2 (L i64 f),p 3 (L y106 l),p 5 (J j),p 6 (J i),p 7 (R 7),p 8 (R 8),p 11 (R 11),p 16 (I c.1),p 17 (I c.2)] [(2057,A 73 y73 b.2.2 0),(1057,A 73 y73 b.2.1 0),(57,A 4 Ty.bool b.1 0),(55,A 75 y75 d 0),(53,A 2 i64 e 0),(4049,A 172 y172 a.2.2 0),(3049,A 231 y231 a.2.1.2.2 0),(2049,A 9 Ty.str a.2.1.2.1 0),(1049,A 155 y155 a.2.1.1 0),(49,A 153 y153 a.1 0),(11,K 40 FQ g),(8,K 34 T4 k),(7,K 32 T3 h)]) H fun⟨c,b,d,e,a⟩ H =>
  iD Hu [2,3,5,6,7,8,11,16,17,18] H fun _ H =>
  iD J7 [2,3,5,6,7,8,11,16,17,18,19] H fun _ H =>
  iD T7 [2,3,5,6,7,8,11,16,17,18,19,20] H fun _ H =>
  iD JF [2,3,5,6,7,8,11,16,17,18,19,20,21] H fun _ H =>
  iD o17 [2,3,7,11,16,17,18,19,20,21,22,23] H fun _ H =>
  vQ <|
  iA [2,3,7,11,18,19,20,21,90] <|
  cD H (fun H=>iA [14]<|a7<|fR<|hr H) fun H=>vK<|fQ<|vQ<|iD Hu [2,3,11,19,20,21,95] H fun _ H=>cD H (fun H=>iA [14]<|a7<|fR<|hr H) fun H=>vK<|fQ<|vQ<|iD J7 [3,11,20,21,100] H fun _ H=>cD H (fun H=>iA [14]<|a7<|fR<|hr H) fun H=>vK<|fQ<|vQ<|iD T7 [11,21,105] H fun _ H=>cD H (fun H=>iA [14]<|a7<|fR<|hr H) fun H=>vK<|fQ<|vQ<|iD JF [110] H fun _ H=>cD H (fun H=>iA [14]<|a7<|fR<|hr H) fun H=>vK<|fQ<|iA [14]<|a7<|hr H
def u4(b:Ck)(i:Cm)(e:List Int)(d:List AT)(a:LN)(l:Int):Option Bool :=
 if(decide (1048576 < (e.length:Int))) then
  some true
 else
  gd ((u7 b 1048576).isSome/\True)<|lt (vl (u7 b 1048576)) fun t =>
  if(decide (t<0)) then
   some true
  else
   gd ((u8 i t).isSome/\True)<|lt (vl (u8 i t)) fun s =>
   if(decide (s<0)) then
    some true
   else
    gd ((u9 d s).isSome/\True)<|lt (vl (u9 d s)) fun q =>
    if(decide (q<0)) then
     some true
    else
     gd ((LM a q).isSome/\True)<|lt (vl (LM a q)) fun u =>
     if(decide (u<0)) then
      some true
     else
      gd ((N0 b).isSome/\(V5 i).isSome/\(F1 e).isSome/\(N9 d).isSome/\(u16 a).isSome/\(Vm (vl (N0 b)) (vl (V5 i)) (vl (F1 e)) (vl (N9 d)) (vl (u16 a)) l).isSome/\True)<|lt ((vl (Vm (vl (N0 b)) (vl (V5 i)) (vl (F1 e)) (vl (N9 d)) (vl (u16 a)) l),vl (u16 a),vl (N9 d),vl (F1 e),vl (N0 b))) fun(j,_,_,_,_) =>
      gd ((N0 b).isSome/\True)<|lt (vl (N0 b)) fun k =>
      gd ((F1 e).isSome/\True)<|lt (vl (F1 e)) fun f =>
      gd ((N9 d).isSome/\True)<|lt (vl (N9 d)) fun h =>
      gd ((u16 a).isSome/\True)<|lt (vl (u16 a)) fun g =>
      gd ((V5 i).isSome/\(Vp k (vl (V5 i)) f h g l).isSome/\True)<|lt (vl (Vp k (vl (V5 i)) f h g l)) fun c =>
      gd (((!c.1==j.1)=false/\True->(Hy c.2.1 j.2.1).isSome)/\True) <|
      if(!c.1==j.1||!vl (Hy c.2.1 j.2.1)||c.2.2 != j.2.2) then
       some false
      else
       gd ((N0 b).isSome/\(FY k (vl (N0 b))).isSome/\True)<|lt (vl (N0 b)) fun n =>
       if(!vl (FY k n)) then
        some false
       else
        gd ((F1 e).isSome/\(L6 f (vl (F1 e))).isSome/\True)<|lt (vl (F1 e)) fun o =>
        if(!vl (L6 f o)) then
         some false
        else
         gd ((N9 d).isSome/\(FZ h (vl (N9 d))).isSome/\True)<|lt (vl (N9 d)) fun m =>
         if(!vl (FZ h m)) then
          some false
         else
          gd ((u16 a).isSome/\(Ga g (vl (u16 a))).isSome/\True)<|lt (vl (u16 a)) fun r =>
          if(!vl (Ga g r)) then
           some false
          else
           some true
def k4:Ct:=b9 4 [.agg T3,.agg T4,.dat i64.sl,.dat y106.sl,.agg FQ,.dat i64] (fun x=>u4 x.1 x.2.1 x.2.2.1 x.2.2.2.1 x.2.2.2.2.1 x.2.2.2.2.2.1) (fun r:Bool=>B r) (fun _=>())
theorem o4:Ok prog k4:=by
 refine c8 [.tmp 12] func4 ?_;intro y ⟨h,j,f,k,g,i,_⟩ r H Q hn hr;have:=hz (tc MZ (tc JF (tc Uj (tc T7 (tc Hw (tc J7 (tc Ui (tc Hu (tc o24 (tc o23 (tc Ug (tc o22 (tc Pt (tc o9 (tc o8 (tc o7 tn))))))))))))))));refine iA [2,3,5,6,7,10]<|vQ<|iA [2,3,5,6,7,10,26]<|cD H (fun H=>iA [12]<|a7<|fR<|hr H) fun H=>vK<|fQ<|iA [2,3,5,6,7,10,13]<|iD o7 [2,3,5,6,7,10,13] H fun _ H=>vQ<|iA [2,3,5,6,7,10,13,31]<|cD H (fun H=>iA [12]<|a7<|fR<|hr H) fun H=>vK<|fQ<|iD o8 [2,3,5,6,7,10,13] H fun _ H=>vQ<|iA [2,3,5,6,7,10,13,36]<|cD H (fun H=>iA [12]<|a7<|fR<|hr H) fun H=>vK<|fQ<|iD o9 [2,3,5,6,7,10,13] H fun _ H=>vQ<|iA [2,3,5,6,7,10,13,41]<|cD H (fun H=>iA [12]<|a7<|fR<|hr H) fun H=>vK<|fQ<|iD Pt [2,3,5,6,7,10,13] H fun _ H=>vQ<|iA [2,3,5,6,7,10,46]<|cD H (fun H=>iA [12]<|a7<|fR<|hr H) fun H=>vK<|fQ<|qD (fun(c,b,d,e,a)=>Z [p 2 (L i64 f),p 3 (L y106 k),p 5 (J i),p 6 (R 6),p 7 (R 7),p 10 (R 10),p 14 (B c.1),p 15 (R 15),p 16 (I c.2.2)] [(15,bx 75 (A7 true y75 c.2.1)),(2057,A 73 y73 b.2.2 0),(1057,A 73 y73 b.2.1 0),(57,A 4 Ty.bool b.1 0),(55,A 75 y75 d 0),(53,A 2 i64 e 0),(4049,A 172 y172 a.2.2 0),(3049,A 231 y231 a.2.1.2.2 0),(2049,A 9 Ty.str a.2.1.2.1 0),(1049,A 155 y155 a.2.1.1 0),(49,A 153 y153 a.1 0),(10,K 40 FQ g),(7,K 34 T4 j),(6,K 32 T3 h)]) H fun⟨c,b,d,e,a⟩ H =>
  iD Hu [2,3,5,6,7,10,14,15,16,17] H fun _ H =>
  iD J7 [2,3,5,6,7,10,14,15,16,17,18] H fun _ H =>
  iD T7 [2,3,5,6,7,10,14,15,16,17,18,19] H fun _ H =>
  iD JF [2,3,5,6,7,10,14,15,16,17,18,19,20] H fun _ H =>
  iD o23 [2,3,6,10,14,15,16,17,18,19,20,21,22,23] H fun _ H =>
  vQ <|
  iB [2,3,6,10,17,18,19,20,96] H fun H =>
  cD H (fun H=>iA [12]<|a7<|fR<|hr H) fun H=>vK<|fQ<|vQ<|iD Hu [2,3,10,18,19,20,101] H fun _ H=>cD H (fun H=>iA [12]<|a7<|fR<|hr H) fun H=>vK<|fQ<|vQ<|iD J7 [3,10,19,20,106] H fun _ H=>cD H (fun H=>iA [12]<|a7<|fR<|hr H) fun H=>vK<|fQ<|vQ<|iD T7 [10,20,111] H fun _ H=>cD H (fun H=>iA [12]<|a7<|fR<|hr H) fun H=>vK<|fQ<|vQ<|iD JF [116] H fun _ H=>cD H (fun H=>iA [12]<|a7<|fR<|hr H) fun H=>vK<|fQ<|iA [12]<|a7<|hr H
def Vr:Int->Option Int
 | a =>
 some a
def G0h(c:List Bool)(d:Int×Int->Option Int):Int×Int->Option Int
 | (b,a) =>
 if(decide (a < (c.length:Int))) then
  gd (ix a c.length/\(0:Int) < (3:Int)/\True) <|
  if(!c.getD a.toNat false==(b.tmod 3==0)) then
   some (-1)
  else
   gd (b7 (b+1)/\True) <|
   gd (b7 (a+1)/\True) <|
   d (b+1,a+1)
 else
  Vr b
def Ra(a:List Bool)(b:Int):Option Int :=
 lp (G0h a) (b,0)
def k75:Ct:=b9 75 [.dat Ty.bool.sl,.dat i64] (fun x=>Ra x.1 x.2.1) (fun r:Int=>I r) (fun _=>())
theorem o75:Ok prog k75:=by
 refine c8 [.tmp 4] func75 ?_;intro y ⟨d,g,_⟩ r H Q hn hr;refine iA [0,1]<|jN r (fun(b:Int)=>Z [p 1 (J b)] []) (Vr) (fun b H=>?_) (fun _ i k e=>?_)
 ·refine iA [4]<|a7<|hr H
 refine iA [0,1,5]<|vB<|lX (fun((c,a):Int×Int)=>Z [p 0 (L Ty.bool d),p 1 (J c),p 5 (I a)] []) (g,0) H fun _ l j h f ⟨c,a⟩ H=>vQ<|iA [0,1,5,9]<|cD H (fun H=>?_) (fun H=>?_)
 ·refine vK<|fQ<|vQ<|vB<|vQ<|iB [0,1,5,19] H fun H=>cD H (fun H=>iA [4]<|a7<|fR<|c9<|fR<|f<|c9<|e<|hr H) fun H=>vK<|fQ<|jB [0,1,5] H fun H=>fK<|fQ<|jB [0,1,5] H fun H=>j H
 exact vE<|fE<|h<|fX rfl<|i H
def Vs:Int->Option Int
 | a =>
 some a
def G0g(c:List l9)(d:Int×Int->Option Int):Int×Int->Option Int
 | (b,a) =>
 if(decide (a < (c.length:Int))) then
  gd (ix a c.length/\True) <|
  if((c.getD a.toNat (a6 y73)).1 != b) then
   some (-1)
  else
   gd (b7 (b+1)/\True) <|
   gd (ix a c.length/\True) <|
   if((c.getD a.toNat (a6 y73)).2 != b+1) then
    some (-1)
   else
    gd (b7 (b+1+1)/\True) <|
    gd (b7 (a+1)/\True) <|
    d (b+1+1,a+1)
 else
  Vs b
def JW(a:List l9)(b:Int):Option Int :=
 lp (G0g a) (b,0)
def k76:Ct:=b9 76 [.dat y73.sl,.dat i64] (fun x=>JW x.1 x.2.1) (fun r:Int=>I r) (fun _=>())
theorem Vt:Ok prog k76:=by
 refine c8 [.tmp 4] func76 ?_;intro y ⟨f,g,_⟩ r H Q hn hr;refine iA [0,1]<|jN r (fun(b:Int)=>Z [p 1 (J b)] []) (Vs) (fun b H=>?_) (fun _ i k c=>?_)
 ·refine iA [4]<|a7<|hr H
 refine iA [0,1,5]<|vB<|lX (fun((d,a):Int×Int)=>Z [p 0 (L y73 f),p 1 (J d),p 5 (I a)] []) (g,0) H fun _ l j h e ⟨d,a⟩ H=>vQ<|iA [0,1,5,9]<|cD H (fun H=>?_) (fun H=>?_)
 ·refine vK<|fQ<|vQ<|vB<|vQ<|iB [0,1,5,18] H fun H=>cD H (fun H=>iA [4]<|a7<|fR<|c9<|fR<|e<|c9<|c<|hr H) fun H=>vK<|fQ<|iB [0,1,5] H fun H=>vQ<|iB [0,1,5,27] H fun H=>cD H (fun H=>iA [4]<|a7<|fR<|c9<|fR<|e<|c9<|c<|hr H) fun H=>vK<|fQ<|jB [0,1,5] H fun H=>fK<|fQ<|jB [0,1,5] H fun H=>j H
 exact vE<|fE<|h<|fX rfl<|i H
def Rb(a:B8)(e:Int):Option Int :=
 gd ((Ra a.1 e).isSome/\True)<|lt (vl (Ra a.1 e)) fun c =>
 if(decide (c<0)) then
  some (-1)
 else
  gd ((JW a.2.1 c).isSome/\True)<|lt (vl (JW a.2.1 c)) fun b =>
  if(decide (b<0)) then
   some (-1)
  else
   gd ((JW a.2.2 b).isSome/\True)<|lt (vl (JW a.2.2 b)) fun d =>
   if(decide (d<0)) then
    some (-1)
   else
    some d
def k31:Ct:=b9 31 [.agg y65,.dat i64] (fun x=>Rb x.1 x.2.1) (fun r:Int=>I r) (fun _=>())
theorem o31:Ok prog k31:=by
 refine c8 [.tmp 4] func31 ?_;intro y ⟨_,_,_⟩ r H Q hn hr;have:=hz (tc Vt (tc o75 tn));refine iA [1,2]<|iD o75 [1,2] H fun _ H=>vQ<|iA [1,2,10]<|cD H (fun H=>iA [4]<|a7<|fR<|hr H) fun H=>vK<|fQ<|iD Vt [1,2] H fun _ H=>vQ<|iA [1,2,16]<|cD H (fun H=>iA [4]<|a7<|fR<|hr H) fun H=>vK<|fQ<|iD Vt [1] H fun _ H=>vQ<|iA [1,22]<|cD H (fun H=>iA [4]<|a7<|fR<|hr H) fun H=>vK<|fQ<|iA [4]<|a7<|hr H
end Go.Proofs.YtechodbafnmddaaGreatDoor
end
