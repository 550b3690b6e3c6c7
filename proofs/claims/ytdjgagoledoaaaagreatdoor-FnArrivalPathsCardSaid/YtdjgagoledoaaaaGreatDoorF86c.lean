/- Functions of this program as plain functions of data, and that they are so: printed by program. -/
import Derived.Test.YtdjgagoledoaaaaGreatDoorF86b
section
namespace Go.Proofs.YtdjgagoledoaaaaGreatDoor
open Go Go.Proofs Go.Proofs.Sv Go.Proofs.Xv Go.Proofs.Xl Go.RowKit
open Tryz
def G0l:Bool×Int×Int×Int×Int×Int->Option (Bool×m8)
 | (c,e,b,d,a,f) =>
 some ((c,e,(b,d),a,f))
def Jo(a:Int)(h:Bool×Int×Int×Int×Int×Int×Int->Option (Bool×m8)):Bool×Int×Int×Int×Int×Int->Option (Bool×m8)
 | (c,g,d,f,b,e) =>
 gd (c9 (a+1)/\True) <|
 h (c,a+1,g,d,f,b,e)
def VA(e:Int)(g:Int)(f:Bool×Int×Int×Int×Int×Int×Int->Option (Bool×m8)):Int×Int×Int×Int->Option (Bool×m8)
 | (a,d,b,c) =>
 Jo e f (true,g,b,c,a,d)
def G0j(m:Int)(d:u3)(s:j6)(r:o5)(o:List Bool)(q:List l8)(n:Bool×Int×Int×Int×Int×Int×Int->Option (Bool×m8)):Bool×Int×Int×Int×Int×Int×Int->Option (Bool×m8)
 | (i,c,l,h,g,e,f) =>
 if(decide (c < (q.length:Int))) then
  gd (ix c q.length/\True)<|lt (q.getD c.toNat (b7 y80)) fun a =>
  gd (ix c o.length/\((!o.getD c.toNat false||a.2.1 != m)=false/\True->ix a.1 d.1.length)/\True) <|
  if(!o.getD c.toNat false||a.2.1 != m||!d.1.getD a.1.toNat false) then
   Jo c n (i,l,h,g,e,f)
  else
   gd (ix a.1 d.2.2.length/\(Fk s r a (d.2.2.getD a.1.toNat (b7 y51))).isSome/\True)<|lt (vl (Fk s r a (d.2.2.getD a.1.toNat (b7 y51)))) fun b =>
   gd (ix a.1 d.2.1.length/\c9 ((d.2.1.getD a.1.toNat (b7 y51)).1+b.1.1)/\ix a.1 d.2.1.length/\c9 ((d.2.1.getD a.1.toNat (b7 y51)).2+b.1.2)/\True) <|
   if i then
    gd ((KV ((d.2.1.getD a.1.toNat (b7 y51)).1+b.1.1,(d.2.1.getD a.1.toNat (b7 y51)).2+b.1.2) (h,g)).isSome/\True)<|lt (vl (KV ((d.2.1.getD a.1.toNat (b7 y51)).1+b.1.1,(d.2.1.getD a.1.toNat (b7 y51)).2+b.1.2) (h,g))) fun j =>
    gd ((KV b.2 (e,f)).isSome/\True)<|lt (vl (KV b.2 (e,f))) fun k =>
    VA c m n (k.1,k.2,j.1,j.2)
   else
    VA c m n ((b.2.1,b.2.2,(d.2.1.getD a.1.toNat (b7 y51)).1+b.1.1,(d.2.1.getD a.1.toNat (b7 y51)).2+b.1.2))
 else
  G0l (i,l,h,g,e,f)
def Jp(h:Int)(l:u3)(i:j6)(g:o5)(j:List Bool)(k:List l8):Bool×Int×Int×Int×Int×Int->Option (Bool×m8)
 | (f,e,a,c,b,d) =>
 lp (G0j h l i g j k) (f,0,e,a,c,b,d)
def VB(g:Int)(h:Bool×Int×Int×Int×Int×Int×Int->Option (Bool×m8)):Int×Int×Int×Int×Int×Bool->Option (Bool×m8)
 | (e,c,d,f,a,b) =>
 gd (c9 (g+1)/\True) <|
 h (b,g+1,e,c,d,f,a)
def G0k(f:List m8)(i:Int)(q:u3)(m:j6)(l:o5)(n:List Bool)(o:List l8)(k:Bool×Int×Int×Int×Int×Int×Int->Option (Bool×m8)):Bool×Int×Int×Int×Int×Int×Int->Option (Bool×m8)
 | (j,b,h,c,g,e,d) =>
 if(decide (b < (f.length:Int))) then
  gd (ix b f.length/\True) <|
  if((f.getD b.toNat (b7 y53)).1==i) then
   gd (ix b f.length/\True)<|lt (f.getD b.toNat (b7 y53)) fun a =>
   VB b k (a.1,a.2.1.1,a.2.1.2,a.2.2.1,a.2.2.2,true)
  else
   VB b k (h,c,g,e,d,j)
 else
  Jp i q m l n o (j,h,c,g,e,d)
def Jq(c:j6)(a:o5)(f:List l8)(e:List Bool)(d:List m8)(g:u3)(b:Int):Option (Bool×m8) :=
 lp (G0k d b g c a e f) (false,0,0,0,0,0,0)
def k79:Ct:=k8 79 [.agg l6,.agg o8,.dat y80.sl,.dat Ty.bool.sl,.dat y53.sl,.agg y44,.dat i64] (fun x=>Jq x.1 x.2.1 x.2.2.1 x.2.2.2.1 x.2.2.2.2.1 x.2.2.2.2.2.1 x.2.2.2.2.2.2.1) (fun r:Bool×m8=>AV.tup [B r.1,AV.agg [I r.2.1,I r.2.2.1.1,I r.2.2.1.2,I r.2.2.2.1,I r.2.2.2.2]]) (fun _=>())
theorem o79:Ok prog k79:=by
 refine k9 [.tmp 14,.cell 15 53] func79 ?_;intro y ⟨f,j,i,g,a4,l,b,_⟩ r H Q hn hr;have:=hz (tc TL (tc Pf tn));refine iA [2,3,4,6,7,8,12,15]<|iA [2,3,4,6,7,8,12,15,16]<|iA [2,3,4,6,7,8,12,15,16,17]<|jN r (fun((q,n,v,x,t,E):Bool×Int×Int×Int×Int×Int)=>Z (U6 i g [p 6 (J b),p 7 (R 7),p 8 (R 8),p 12 (R 12),p 15 (R 15),p 16 (B q),p 17 (R 17)]) (W6 n v x t E l j f)) (Jp b l f j g i) (fun w H=>?_) (fun _ n0 e0 t0=>?_)
 ·obtain⟨q,n,v,x,t,E⟩:=w;refine jN r (fun((W,aI,P,aR,aO,aJ):Bool×Int×Int×Int×Int×Int)=>Z [p 15 (R 15),p 16 (B W),p 17 (R 17)] [(17,bx 53 [J aI,J P,J aR,J aO,J aJ]),(15,bx 53 [I 0,I 0,I 0,I 0,I 0])]) (G0l) (fun⟨W,aI,P,aR,aO,aJ⟩ H=>?_) (fun _ n3 e3 t3=>?_)
  ·refine iA [14,15]<|j0<|hr H
  refine iA [2,3,6,7,8,12,15,16,17,19]<|vB<|lX (fun((m,a,k,h,e,c,d):Bool×Int×Int×Int×Int×Int×Int)=>Z (U6 i g [p 6 (J b),p 7 (R 7),p 8 (R 8),p 12 (R 12),p 15 (R 15),p 16 (B m),p 17 (R 17),p 19 (I a)]) (W6 k h e c d l j f)) (q,0,n,v,x,t,E) H fun _ g4 b4 e4 t4 ⟨m,a,k,h,e,c,d⟩ H=>vQ<|iA [2,3,6,7,8,12,15,16,17,19,45]<|cD H (fun H=>?_) (fun H=>?_)
  ·refine vK<|fQ<|jN r (fun((aM,X,V,aG,aK,aQ):Bool×Int×Int×Int×Int×Int)=>Z (U6 i g [p 6 (J b),p 7 (R 7),p 8 (R 8),p 12 (R 12),p 15 (R 15),p 16 (B aM),p 17 (R 17),p 19 (I a)]) (W6 X V aG aK aQ l j f)) (Jo a g4) (fun⟨aM,X,V,aG,aK,aQ⟩ H=>?_) (fun _ n5 e5 t5=>?_)
   ·refine jB [2,3,6,7,8,12,15,16,17,19] H fun H=>b4 H
   refine vB<|qD (fun aP=>Z (U6 i g [p 6 (J b),p 7 (R 7),p 8 (R 8),p 12 (R 12),p 15 (R 15),p 16 (B m),p 17 (R 17),p 19 (I a),p 20 (R 20)]) ((20,K 80 y80 aP)::W6 k h e c d l j f)) H fun aP H=>vQ<|iB [2,3,6,7,8,12,15,16,17,19,20,71] H fun H=>cD H (fun H=>vE<|fE<|fX rfl<|n5 H) fun H=>vK<|fQ<|iD Pf [2,3,6,7,8,12,15,16,17,19,20,21,22] H fun _ H=>iB [2,3,6,7,8,12,15,16,17,19,22,23] H fun H=>jN r (fun((z,o,F,u):Int×Int×Int×Int)=>Z (U6 i g [p 6 (J b),p 7 (R 7),p 8 (R 8),p 12 (R 12),p 15 (R 15),p 17 (R 17),p 19 (I a),p 22 (R 22),p 23 (R 23)]) ((22,bx 51 [I z,I o])::(23,bx 51 [I F,I u])::W6 k h e c d l j f)) (VA a b g4) (fun⟨z,o,F,u⟩ H=>?_) (fun _ n6 e6 t6=>?_)
   ·refine iA [2,3,6,7,8,12,15,16,17,19,22,23]<|jA [2,3,6,7,8,12,15,16,17,19]<|fK<|n5 (s:=(true,b,F,u,z,o)) H (by kernel_rfl)
   refine iA [2,3,6,7,8,12,15,17,19,22,23,106]<|cD H (fun H=>iD TL [2,3,6,7,8,12,15,17,19,22,23] H fun _ H=>jD TL [2,3,6,7,8,12,15,17,19,22,23] H fun _ H=>n6 H) fun H=>vK<|n6 H
  exact vE<|fE<|e4<|fX rfl<|n3 H
 refine iA [2,3,4,6,7,8,12,15,16,17,18]<|vB<|lX (fun((v7,Y,v9,aL,aS,T,aC):Bool×Int×Int×Int×Int×Int×Int)=>Z (U6 i g [p 4 (L y53 a4),p 6 (J b),p 7 (R 7),p 8 (R 8),p 12 (R 12),p 15 (R 15),p 16 (B v7),p 17 (R 17),p 18 (I Y)]) (W6 v9 aL aS T aC l j f)) (false,0,0,0,0,0,0) H fun _ g1 b1 e1 t1 ⟨v7,Y,v9,aL,aS,T,aC⟩ H=>vQ<|iA [2,3,4,6,7,8,12,15,16,17,18,28]<|cD H (fun H=>?_) (fun H=>?_)
 ·refine vK<|fQ<|jN r (fun((aH,aD,aN,aA,G,aB):Int×Int×Int×Int×Int×Bool)=>Z (U6 i g [p 4 (L y53 a4),p 6 (J b),p 7 (R 7),p 8 (R 8),p 12 (R 12),p 15 (R 15),p 16 (B aB),p 17 (R 17),p 18 (I Y)]) (W6 aH aD aN aA G l j f)) (VB Y g1) (fun⟨aH,aD,aN,aA,G,aB⟩ H=>?_) (fun _ n2 e2 t2=>?_)
  ·refine jB [2,3,4,6,7,8,12,15,16,17,18] H fun H=>b1 H
  refine vB<|iB [2,3,4,6,7,8,12,15,16,17,18,37] H fun H=>cD H (fun H=>iA [2,3,4,6,7,8,12,15,16,17,18]<|zD (fun aF=>Z (U6 i g [p 4 (L y53 a4),p 6 (J b),p 7 (R 7),p 8 (R 8),p 12 (R 12),p 15 (R 15),p 16 (B true),p 17 (R 17),p 18 (I Y)]) ((17,K 53 y53 aF)::(15,bx 53 [I 0,I 0,I 0,I 0,I 0])::(12,K 44 y44 l)::Fi j f)) H fun aF H=>fK<|n2 H) fun H=>vK<|fK<|n2 H
 exact vE<|fE<|e1<|fX rfl<|n0 H
def G0Z:List w7×List w7×List Bool->Option (u3×Bool)
 | (c,b,a) =>
 some (((a,b,c),true))
def VC(d:Int)(e:Int×List w7×List w7×List Bool->Option (u3×Bool)):List w7×List w7×List Bool->Option (u3×Bool)
 | (a,b,c) =>
 gd (c9 (d+1)/\True) <|
 e (d+1,a,b,c)
def G0Y(d:List Int)(h:j6)(g:o5)(k:List l8)(j:List Bool)(i:List m8)(l:Int×List w7×List w7×List Bool->Option (u3×Bool)):Int×List w7×List w7×List Bool->Option (u3×Bool)
 | (b,f,a,c) =>
 if(decide (b < (d.length:Int))) then
  gd (ix b d.length/\True) <|
  gd ((Jq h g k j i (c,a,f) (d.getD b.toNat 0)).isSome/\True)<|lt (vl (Jq h g k j i (c,a,f) (d.getD b.toNat 0))) fun e =>
  if(!e.1) then
   VC b l (f,a,c)
  else
   gd ((U8 e.2.2.1).isSome/\True) <|
   if(!vl (U8 e.2.2.1)) then
    some ((([],[],[]),false))
   else
    gd (ix (d.getD b.toNat 0) c.length/\Int.toNat (d.getD b.toNat 0)<c.length/\True) <|
    gd (ix (d.getD b.toNat 0) a.length/\Int.toNat (d.getD b.toNat 0)<a.length/\True) <|
    gd (ix (d.getD b.toNat 0) f.length/\Int.toNat (d.getD b.toNat 0)<f.length/\True) <|
    VC b l ((f.set (Int.toNat (d.getD b.toNat 0)) e.2.2.2,a.set (Int.toNat (d.getD b.toNat 0)) e.2.2.1,c.set (Int.toNat (d.getD b.toNat 0)) true))
 else
  G0Z (f,a,c)
def Jr(a:j6)(c:o5)(f:List l8)(e:List Bool)(d:List m8)(g:List Int):Option (u3×Bool) :=
 gd ((J5 a).isSome/\(KZ (vl (J5 a))).isSome/\True)<|lt (vl (KZ (vl (J5 a)))) fun b =>
 lp (G0Y g a c f e d) (0,b.2.2,b.2.1,b.1)
def k33:Ct:=k8 33 [.agg l6,.agg o8,.dat y80.sl,.dat Ty.bool.sl,.dat y53.sl,.dat i64.sl] (fun x=>Jr x.1 x.2.1 x.2.2.1 x.2.2.2.1 x.2.2.2.2.1 x.2.2.2.2.2.1) (fun r:u3×Bool=>AV.tup [AV.agg [AV.ow 4 true Ty.bool r.1.1,AV.ow 51 true y51 r.1.2.1,AV.ow 51 true y51 r.1.2.2],B r.2]) (fun _=>())
theorem o33:Ok prog k33:=by
 refine k9 [.cell 12 44,.tmp 13] func33 ?_;intro y ⟨n,s,q,o,l,t,_⟩ r H Q hn hr;have:=hz (tc TK (tc o79 (tc ZR (tc Cq tn))));refine iA [2,3,4,5,6,7,12]<|iD ZR [2,3,4,5,6,7,12,14] H fun j H=>jN r (fun((d,g,a):List w7×List w7×List Bool)=>Z [p 12 (R 12),p 14 (R 14)] [(14,bx 44 [AV.os 21 0,AV.os 1021 0,AV.os 2021 0]),(2021,A 51 y51 d 0),(1021,A 51 y51 g 0),(21,A 4 Ty.bool a 0),(12,bx 44 [nil,nil,nil])]) (G0Z) (fun⟨d,g,a⟩ H=>?_) (fun _ v G z=>?_)
 ·refine iA [12,13]<|j0<|hr H
 refine iA [2,3,4,5,6,7,12,14,15]<|vB<|lX (fun((i,k,f,h):Int×List w7×List w7×List Bool)=>Z (U6 q o [p 4 (L y53 l),p 5 (L i64 t),p 6 (R 6),p 7 (R 7),p 12 (R 12),p 14 (R 14),p 15 (I i)]) [(14,bx 44 [AV.os 21 0,AV.os 1021 0,AV.os 2021 0]),(2021,A 51 y51 k 0),(1021,A 51 y51 f 0),(21,A 4 Ty.bool h 0),(12,bx 44 [nil,nil,nil]),(7,K 36 o8 s),(6,K 34 l6 n)]) (0,j.2.2,j.2.1,j.1) H fun _ w x E F ⟨i,k,f,h⟩ H=>vQ<|iA [2,3,4,5,6,7,12,14,15,25]<|cD H (fun H=>?_) (fun H=>?_)
 ·refine vK<|fQ<|jN r (fun((b,c,e):List w7×List w7×List Bool)=>Z (U6 q o [p 4 (L y53 l),p 5 (L i64 t),p 6 (R 6),p 7 (R 7),p 12 (R 12),p 14 (R 14),p 15 (I i)]) [(14,bx 44 [AV.os 21 0,AV.os 1021 0,AV.os 2021 0]),(2021,A 51 y51 b 0),(1021,A 51 y51 c 0),(21,A 4 Ty.bool e 0),(12,bx 44 [nil,nil,nil]),(7,K 36 o8 s),(6,K 34 l6 n)]) (VC i w) (fun⟨b,c,e⟩ H=>?_) (fun _ m P u=>?_)
  ·refine jB [2,3,4,5,6,7,12,14,15] H fun H=>x H
  refine vB<|iB [2,3,4,5,6,7,12,14,15,16] H fun H=>iD o79 [2,3,4,5,6,7,12,14,15,16,17,18] H fun _ H=>vQ<|iA [2,3,4,5,6,7,12,14,15,16,18,44]<|cD H (fun H=>vE<|fE<|fX rfl<|m H) fun H=>vK<|fQ<|vQ<|iB [2,3,4,5,6,7,12,14,15,16,18,48] H fun H=>cD H (fun H=>iA [12,13]<|j0<|fR<|l7<|u<|F<|l7<|z<|hr H) fun H=>vK<|fQ<|iB [2,3,4,5,6,7,12,14,15,16,18] H fun H=>iB [2,3,4,5,6,7,12,14,15,16,18] H fun H=>jB [2,3,4,5,6,7,12,14,15] H fun H=>fK<|m H
 exact vE<|fE<|E<|fX rfl<|v H
def MI(a:j6)(e:o5)(b:List Int)(f:List m8):Option (u3×Int) :=
 gd ((GP a e b f).isSome/\True)<|lt (vl (GP a e b f)) fun d =>
 if(d.2 != 0) then
  some ((([],[],[]),d.2))
 else
  gd ((u32 a).isSome/\True)<|lt (vl (u32 a)) fun c =>
  gd ((Z6 c b).isSome/\(Jr a e c (vl (Z6 c b)) f d.1).isSome/\True)<|lt ((vl (Jr a e c (vl (Z6 c b)) f d.1),vl (Z6 c b))) fun(g,_) =>
  if(!g.2) then
   some ((([],[],[]),(3:Int)))
  else
   some ((g.1,(0:Int)))
def VD:Ct:=k8 10 [.agg l6,.agg o8,.dat i64.sl,.dat y53.sl] (fun x=>MI x.1 x.2.1 x.2.2.1 x.2.2.2.1) (fun r:u3×Int=>AV.tup [AV.agg [AV.ow 4 true Ty.bool r.1.1,AV.ow 51 true y51 r.1.2.1,AV.ow 51 true y51 r.1.2.2],I r.2]) (fun _=>())
theorem o10:Ok prog VD:=by
 refine k9 [.cell 8 44,.tmp 9] func10 ?_;intro y ⟨e,d,_,_,_⟩ r H Q hn hr;have:=hz (tc o33 (tc IU (tc Z7 (tc Py tn))));refine iA [2,3,4,5,8]<|iD Py [2,3,4,5,8,10,11] H fun c H=>vQ<|iA [2,3,4,5,8,10,11,24]<|cD H (fun H=>iA [8,9]<|j0<|fR<|hr H) fun H=>vK<|fQ<|iD Z7 [2,3,4,5,8,10,12] H fun f H=>qD (fun(a,b)=>Z [p 8 (R 8),p 13 (R 13),p 14 (B a.2)] [(13,bx 44 [AV.os 38 0,AV.os 1038 0,AV.os 2038 0]),(2038,A 51 y51 a.1.2.2 0),(1038,A 51 y51 a.1.2.1 0),(38,A 4 Ty.bool a.1.1 0),(35,A 4 Ty.bool b 0),(28,A 80 y80 f 0),(20,A 2 i64 c.1 0),(8,bx 44 [nil,nil,nil]),(5,K 36 o8 d),(4,K 34 l6 e)]) H fun⟨a,b⟩ H =>
  vQ <|
  iA [8,13,42] <|
  cD H (fun H=>iA [8,9]<|j0<|fR<|hr H) fun H=>vK<|fQ<|iA [8,9]<|j0<|hr H
def BI(b:j6)(e:o5)(c:List Int)(g:List m8)(f:u3):Option (Int ⊕ I1×List Int×Int) :=
 gd ((Dm b).isSome/\((!vl (Dm b))=false/\True->(Hj e).isSome)/\True) <|
 if(!vl (Dm b)||!vl (Hj e)) then
  some (Sum.inl 1)
 else
  gd ((GU b).isSome/\True)<|lt (vl (GU b)) fun a =>
  gd ((true=true/\True->(Lz a f).isSome)/\True) <|
  if(true&&!vl (Lz a f)) then
   some (Sum.inl 1)
  else
   gd ((Jm a c).isSome/\((!vl (Jm a c))=false/\True->(Mt a g).isSome)/\True) <|
   if(!vl (Jm a c)||!vl (Mt a g)) then
    some (Sum.inl 2)
   else
    gd ((Mv a c).isSome/\True)<|lt (vl (Mv a c)) fun d =>
    gd ((Mx d).isSome/\True)<|lt (vl (Mx d)) fun h =>
    if(!h.2) then
     some (Sum.inl 7)
    else
     some (Sum.inr (d,h.1,(0:Int)))
def k29:Ct:=k8 29 [.agg l6,.agg o8,.dat i64.sl,.dat y53.sl,.dat y44.pt] (fun x=>BI x.1 x.2.1 x.2.2.1 x.2.2.2.1 x.2.2.2.2.1) (two (fun r:Int=>AV.tup [AV.v (Value.pointer none),AV.v (Value.slice none 0 0),I r]) (fun r:I1×List Int×Int=>AV.tup [D y104.pt r.1,AV.ow 2 true i64 r.2.1,I r.2.2])) (fun _=>())
def P0L:Ct:=MJ 29 [.agg l6,.agg o8,.dat i64.sl,.dat y53.sl,.dat y44.pt] (fun x=>BI x.1 x.2.1 x.2.2.1 x.2.2.2.1 x.2.2.2.2.1) (fun r:Int=>AV.tup [AV.v (Value.pointer none),AV.v (Value.slice none 0 0),I r]) ()
def P0K:Ct:=MK 29 [.agg l6,.agg o8,.dat i64.sl,.dat y53.sl,.dat y44.pt] (fun x=>BI x.1 x.2.1 x.2.2.1 x.2.2.2.1 x.2.2.2.2.1) (fun r:I1×List Int×Int=>AV.tup [D y104.pt r.1,AV.ow 2 true i64 r.2.1,I r.2.2]) ()
theorem o29:Ok prog k29:=by
 refine k9 [.tmp 10,.tmp 11,.tmp 12] func29 ?_;intro y ⟨_,_,_,_,_,_⟩ r H Q hn hr;have:=hz (tc o68 (tc o67 (tc o66 (tc o65 (tc o38 (tc PD (tc o54 (tc o36 tn))))))));refine iA [2,3,4,5,6]<|vQ<|iB [2,3,4,5,24] H fun H=>cD H (fun H=>iA [10,11,12]<|j0<|fR<|hr H) fun H=>vK<|fQ<|iD PD [2,3,4,13] H fun _ H=>vQ<|vB<|iB [2,3,13,27] H fun H=>cD H (fun H=>iA [10,11,12]<|j0<|l7<|fR<|hr H) fun H=>iB [2,13,38] H fun H=>cD H (fun H=>iA [10,11,12]<|j0<|l7<|fR<|hr H) fun H=>vK<|fK<|fQ<|iD o67 [14] H fun _ H=>iD o68 [14,15,16] H fun _ H=>vQ<|iA [14,15,58]<|cD H (fun H=>iA [10,11,12]<|j0<|fR<|hr H) fun H=>vK<|fQ<|iA [10,11,12]<|j0<|hr H
theorem O0C:Ok prog P0L:=VE o29
theorem O0B:Ok prog P0K:=VF o29
def ML(c:I1)(d:o5)(g:List m8)(e:u3)(h:Int)(j:Int×List Int->Option (Int ⊕ List Int×Int)):Int×List Int->Option (Int ⊕ List Int×Int)
 | (f,b) =>
 gd ((Hr c d g e f h).isSome/\True)<|lt (vl (Hr c d g e f h)) fun a =>
 if(a.2 != 0) then
  some (Sum.inl a.2)
 else
  if(decide (a.1<0)) then
   gd ((Js b).isSome/\True)<|lt (vl (Js b)) fun i =>
   some (Sum.inr (i,(0:Int)))
  else
   gd ((b.length+[a.1].length<=9223372036854775807/\(b.length+[a.1].length)*8<=140737488355328)/\True) <|
   gd (ix a.1 c.1.2.2.1.length/\True)<|lt (c.1.2.2.1.getD a.1.toNat (b7 y80)) fun k =>
   j (k.1,b++[a.1])
def T4(b:I1)(a:o5)(e:List m8)(d:u3)(c:Int)(f:Int):Option (Int ⊕ List Int×Int) :=
 lp (ML b a e d f) (c,[])
def k50:Ct:=k8 50 [.dat y104.pt,.agg o8,.dat y53.sl,.agg y44,.dat i64,.dat i64] (fun x=>T4 x.1 x.2.1 x.2.2.1 x.2.2.2.1 x.2.2.2.2.1 x.2.2.2.2.2.1) (two (fun r:Int=>AV.tup [AV.v (Value.slice none 0 0),I r]) (fun r:List Int×Int=>AV.tup [AV.ow 2 true i64 r.1,I r.2])) (fun _=>())
def P0J:Ct:=MJ 50 [.dat y104.pt,.agg o8,.dat y53.sl,.agg y44,.dat i64,.dat i64] (fun x=>T4 x.1 x.2.1 x.2.2.1 x.2.2.2.1 x.2.2.2.2.1 x.2.2.2.2.2.1) (fun r:Int=>AV.tup [AV.v (Value.slice none 0 0),I r]) ()
def P0I:Ct:=MK 50 [.dat y104.pt,.agg o8,.dat y53.sl,.agg y44,.dat i64,.dat i64] (fun x=>T4 x.1 x.2.1 x.2.2.1 x.2.2.2.1 x.2.2.2.2.1 x.2.2.2.2.2.1) (fun r:List Int×Int=>AV.tup [AV.ow 2 true i64 r.1,I r.2]) ()
theorem o50:Ok prog k50:=by
 refine k9 [.tmp 12,.tmp 13] func50 ?_;intro y ⟨d,c,g,e,i,f,_⟩ r H Q hn hr;have:=hz (tc P0B tn);refine vQ<|zX L9 (HT.h) 1 [0,2,4,5,7,9] (y44) (Z [p 0 (D y104.pt d),p 2 (L y53 g),p 4 (J i),p 5 (J f),p 7 (R 7),p 9 (D y44.pt e)] [(7,K 36 o8 c)]) (V:=True) (W:=True) (by kernel_rfl) ⟨trivial,trivial⟩<|fQ<|iA [0,2,4,5,7,9,14]<|vB<|lX (fun((j,b):Int×List Int)=>Z [p 0 (D y104.pt d),p 2 (L y53 g),p 4 (J j),p 5 (J f),p 7 (R 7),p 9 (D y44.pt e),p 14 (O 38)] [(7,K 36 o8 c),(38,A 2 i64 b 0)]) (i,[]) H fun _ n m o l ⟨j,b⟩ H=>vB<|qD (fun a=>Z [p 0 (D y104.pt d),p 2 (L y53 g),p 5 (J f),p 7 (R 7),p 9 (D y44.pt e),p 14 (O 38),p 15 (I a.1),p 16 (I a.2)] [(7,K 36 o8 c),(38,A 2 i64 b 0)]) H fun a H=>vQ<|iA [0,2,5,7,9,14,15,16,28]<|cD H (fun H=>iA [12,13]<|j0<|fR<|l7<|l<|l7<|hr H) fun H=>vK<|fQ<|vQ<|iA [0,2,5,7,9,14,15,31]<|cD H (fun H=>vQ<|C0B O0x rfl rfl rfl rfl rfl H fun _ H=>fQ<|iA [12,13]<|j0<|fR<|l7<|l<|l7<|hr H) fun H=>vK<|fQ<|iB [0,2,5,7,9,14,15] H fun H=>zD (fun k=>Z [p 0 (D y104.pt d),p 2 (L y53 g),p 4 (J k.1),p 5 (J f),p 7 (R 7),p 9 (D y44.pt e),p 14 (AV.os 38 1)] [(38,A 2 i64 (b++[a.1]) 1),(37,A 2 i64 [a.1] 0),(7,K 36 o8 c)]) H fun k H=>fK<|m H
theorem O0A:Ok prog P0J:=VE o50
theorem O0z:Ok prog P0I:=VF o50
def Cz(f:j6)(a:o5)(g:List Int)(c:List m8)(b:u3)(h:Int)(d:Int):Option (Int ⊕ List Int×Int) :=
 if(Bc (BI f a g c b)) then
  gd (Bc (BI f a g c b)=true/\True) <|
  if(vL (BI f a g c b) != 0) then
   some (Sum.inl (vL (BI f a g c b)))
  else
   gd ((Hn d).isSome/\True) <|
   if(!vl (Hn d)) then
    some (Sum.inl 2)
   else
    none
 else
  gd (Jt (BI f a g c b)=true/\True)<|lt (vR (BI f a g c b)) fun e =>
  if(e.2.2 != 0) then
   some (Sum.inl e.2.2)
  else
   gd ((Hn d).isSome/\True) <|
   if(!vl (Hn d)) then
    some (Sum.inl 2)
   else
    if(Bc (T4 e.1 a c b h d)) then
     gd (Bc (T4 e.1 a c b h d)=true/\True) <|
     some (Sum.inl (vL (T4 e.1 a c b h d)))
    else
     gd (Jt (T4 e.1 a c b h d)=true/\True)<|lt (vR (T4 e.1 a c b h d)) fun i =>
     some (Sum.inr i)
def k21:Ct:=k8 21 [.agg l6,.agg o8,.dat i64.sl,.dat y53.sl,.agg y44,.dat i64,.dat i64] (fun x=>Cz x.1 x.2.1 x.2.2.1 x.2.2.2.1 x.2.2.2.2.1 x.2.2.2.2.2.1 x.2.2.2.2.2.2.1) (two (fun r:Int=>AV.tup [AV.v (Value.slice none 0 0),I r]) (fun r:List Int×Int=>AV.tup [AV.ow 2 true i64 r.1,I r.2])) (fun _=>())
def Q0k:Ct:=MJ 21 [.agg l6,.agg o8,.dat i64.sl,.dat y53.sl,.agg y44,.dat i64,.dat i64] (fun x=>Cz x.1 x.2.1 x.2.2.1 x.2.2.2.1 x.2.2.2.2.1 x.2.2.2.2.2.1 x.2.2.2.2.2.2.1) (fun r:Int=>AV.tup [AV.v (Value.slice none 0 0),I r]) ()
def Q0j:Ct:=MK 21 [.agg l6,.agg o8,.dat i64.sl,.dat y53.sl,.agg y44,.dat i64,.dat i64] (fun x=>Cz x.1 x.2.1 x.2.2.1 x.2.2.2.1 x.2.2.2.2.1 x.2.2.2.2.2.1 x.2.2.2.2.2.2.1) (fun r:List Int×Int=>AV.tup [AV.ow 2 true i64 r.1,I r.2]) ()
theorem o21:Ok prog k21:=by
 refine k9 [.tmp 14,.tmp 15] func21 ?_;intro y ⟨c,b,j,g,f,i,e,_⟩ r H Q hn hr;have:=hz (tc o49 tn);refine vQ<|zX L9 (HT.h) 2 [2,3,5,6,7,8,11] (y44) (Z [p 2 (L i64 j),p 3 (L y53 g),p 5 (J i),p 6 (J e),p 7 (R 7),p 8 (R 8),p 11 (D y44.pt f)] (Fi b c)) (V:=True) (W:=True) (by kernel_rfl) ⟨trivial,trivial⟩<|fQ<|sp H (fun H=>?_) (fun H=>?_)
 ·have:=hz (tc O0C (HT.h));refine iB [3,5,6,8,11,16,18] H fun H=>vQ<|vB<|iA [3,5,6,8,11,16,18,28]<|cD H (fun H=>iA [14,15]<|j0<|l7<|fR<|hr H) fun H=>iB [3,5,6,8,11,16,32] H fun H=>cD H (fun H=>iA [14,15]<|j0<|l7<|fR<|hr H) fun H=>vK<|fK<|fQ<|UN H
 have:=hz (tc O0B (HT.h));refine qD (fun a=>Z [p 3 (L y53 g),p 5 (J i),p 6 (J e),p 8 (R 8),p 11 (D y44.pt f),p 16 (D y104.pt a.1),p 18 (I a.2.2)] ((24,A 2 i64 a.2.1 0)::Fi b c)) H fun a H=>vQ<|vB<|iA [3,5,6,8,11,16,18,28]<|cD H (fun H=>iA [14,15]<|j0<|l7<|fR<|hr H) fun H=>iB [3,5,6,8,11,16,32] H fun H=>cD H (fun H=>iA [14,15]<|j0<|l7<|fR<|hr H) fun H=>vK<|fK<|fQ<|sp H (fun H=>?_) (fun H=>?_)
 ·have:=hz (tc O0A (HT.h));refine iB [14,15] H fun H=>j0<|hr H
 have:=hz (tc O0z (HT.h));refine qD (fun d=>Z [p 14 (O 42),p 15 (I d.2)] ((42,A 2 i64 d.1 0)::(24,A 2 i64 a.2.1 0)::Fi b c)) H fun d H=>j0<|hr H
theorem O0R:Ok prog Q0k:=VE o21
theorem O0Q:Ok prog Q0j:=VF o21
def QC(a:Int->Option ByteArray)(b:Int):Option ByteArray :=
 if(decide (b<0)) then
  gd (c9 (-b)/\(a (-b)).isSome/\(ByteArray.mk #[45]).size+(vl (a (-b))).size<=9223372036854775807/\True)<|lt (vl (a (-b))) fun c =>
  some (ByteArray.mk #[45]++c)
 else
  if(decide (b<10)) then
   gd (c9 (48+b)/\True/\0<[(48+b) % 256].length/\True) <|
   some (strOfNums [(48+b) % 256])
  else
   gd ((0:Int) < (10:Int)/\(a (b.tdiv (10:Int))).isSome/\(0:Int) < (10:Int)/\c9 ((48:Int)+b.tmod (10:Int))/\True/\0<[((48:Int)+b.tmod (10:Int)) % (256:Int)].length/\(vl (a (b.tdiv (10:Int)))).size+(strOfNums [((48:Int)+b.tmod (10:Int)) % (256:Int)]).size<=9223372036854775807/\True)<|lt (vl (a (b.tdiv 10))) fun d =>
   some (d++strOfNums [(48+b.tmod 10) % 256])
theorem L0p(g167:Int->Option ByteArray)(VG:Ok prog (k8 167 [.dat i64] (fun x=>g167 x.1) (fun r=>S r) (fun _=>()))):Ok prog (k8 167 [.dat i64] (fun x=>QC g167 x.1) (fun r:ByteArray=>S r) (fun _=>())):=by
 refine k9 [.tmp 2] func167 ?_;intro y ⟨a,_⟩ r H Q hn hr;have:=hz (tc VG tn);refine iA [0]<|vQ<|iA [0,4]<|cD H (fun H=>qD (fun b=>Z [p 2 (S (ByteArray.mk #[45]++b))] []) H fun b H=>j0<|fR<|hr H) fun H=>vK<|fQ<|vQ<|iA [0,10]<|cD H (fun H=>iB [2] H fun H=>j0<|fR<|hr H) fun H=>vK<|fQ<|qD (fun c=>Z [p 2 (S (c++strOfNums [(48+a.tmod 10) % 256]))] [(23,A 5 b8 [(48+a.tmod 10) % 256] 0)]) H fun c H=>j0<|hr H
def Ju:Nat->Int->Option ByteArray
 | 0,_=>none
 | m+1,n=>QC (Ju m) n
theorem I0k:∀m,Ok prog (k8 167 [.dat i64] (fun x=>Ju m x.1) (fun r=>S r) (fun _=>()))
 | 0=>⟨by kernel_rfl,fun _ hq=>by cases hq⟩
 | m+1=>L0p (Ju m) (I0k m)
def CA(n:Int):Option ByteArray:=Ju 25 n
def Q0V:Ct:=k8 167 [.dat i64] (fun x=>CA x.1) (fun r=>S r) (fun _=>())
theorem VG:Ok prog Q0V:=I0k 25
def FC:List m8×List Int×Int×Int->Option (List m8×l5)
 | (b,a,d,c) =>
 some (b,a,d,c)
def QD:List m8×List Int×Int×Int->Option (List m8×l5)
 | (a,f,d,e) =>
 if(decide (0 < (a.length:Int))) then
  gd ((b9 (f,d,e) (a.length:Int)).isSome/\True)<|lt (vl (b9 (f,d,e) (a.length:Int))) fun b =>
  gd ((b9 b.2 30).isSome/\True)<|lt (vl (b9 b.2 30)) fun c =>
  if(c.1==0) then
   gd (ix (0:Int) a.length/\Int.toNat (0:Int)<a.length/\ix b.1 a.length/\b.1.toNat<a.length/\True)<|lt (a.set b.1.toNat ((a.getD (Int.toNat (0:Int)) (b7 y53)).1,(a.getD b.1.toNat (b7 y53)).2)) fun i =>
   FC (i,c.2.1,c.2.2.1,c.2.2.2)
  else
   if(c.1==1) then
    gd (ix b.1 a.length/\b.1.toNat<a.length/\c9 ((a.getD b.1.toNat (b7 y53)).2.1.2+1)/\ix b.1 a.length/\b.1.toNat<a.length/\True)<|lt (a.set b.1.toNat ((a.getD b.1.toNat (b7 y53)).1,((a.getD b.1.toNat (b7 y53)).2.1.2+1,(a.getD b.1.toNat (b7 y53)).2.1.2),(a.getD b.1.toNat (b7 y53)).2.2)) fun g =>
    FC (g,c.2.1,c.2.2.1,c.2.2.2)
   else
    if(c.1==2) then
     gd (ix b.1 a.length/\b.1.toNat<a.length/\True)<|lt (a.set b.1.toNat ((a.getD b.1.toNat (b7 y53)).1,(a.getD b.1.toNat (b7 y53)).2.1,-1,(a.getD b.1.toNat (b7 y53)).2.2.2)) fun h =>
     FC (h,c.2.1,c.2.2.1,c.2.2.2)
    else
     if(c.1==3) then
      gd (ix b.1 a.length/\b.1.toNat<a.length/\True)<|lt (a.set b.1.toNat ((a.getD b.1.toNat (b7 y53)).1,((a.getD b.1.toNat (b7 y53)).2.1.1,(1000000000:Int)),(a.getD b.1.toNat (b7 y53)).2.2)) fun j =>
      FC (j,c.2.1,c.2.2.1,c.2.2.2)
     else
      FC (a,c.2.1,c.2.2.1,c.2.2.2)
 else
  FC (a,f,d,e)
def VH(c:Int)(f:Int×List m8×List Int×Int×Int->Option (List m8×l5)):List m8×List Int×Int×Int->Option (List m8×l5)
 | (a,d,e,b) =>
 gd (c9 (c+1)/\True) <|
 f (c+1,a,d,e,b)
def Bd(a:Int)(f:Int×List m8×List Int×Int×Int->Option (List m8×l5)):List m8×List Int×Int×Int->Option (List m8×l5)
 | (c,b,e,d) =>
 gd (c9 (a+1)/\True) <|
 f (a+1,c,b,e,d)
def G0A(i:Int)(y:List D0)(z:Int×List m8×List Int×Int×Int->Option (List m8×l5))(t:Int×List m8×List Int×Int×Int->Option (List m8×l5)):Int×List m8×List Int×Int×Int->Option (List m8×l5)
 | (d,j,a,c,b) =>
 if(decide (d<2)) then
  gd (True)<|if(decide ((y.getD i.toNat (b7 r7)).1<0)&&(y.getD i.toNat (b7 r7)).2.2.2) then
   gd ((b9 (a,c,b) 8).isSome/\True)<|gd (True)<|if(true&&decide (0 < (vl (b9 (a,c,b) 8)).1)) then
    gd (True)<|gd (True) <|
    if(true||false) then
     gd ((b9 (vl (b9 (a,c,b) 8)).2 200).isSome/\c9 ((vl (b9 (vl (b9 (a,c,b) 8)).2 200)).1-50)/\(b9 (vl (b9 (vl (b9 (a,c,b) 8)).2 200)).2 30).isSome/\True)<|lt ((vl (b9 (vl (b9 (a,c,b) 8)).2 200),vl (b9 (vl (b9 (vl (b9 (a,c,b) 8)).2 200)).2 30),vl (b9 (a,c,b) 8))) fun(n,e,_) =>
     gd (c9 (2*i)/\c9 (2*i+d)/\(b9 e.2 40).isSome/\c9 (n.1-50+(vl (b9 e.2 40)).1)/\(b9 (vl (b9 e.2 40)).2 12).isSome/\c9 (e.1+(vl (b9 (vl (b9 e.2 40)).2 12)).1)/\(j.length+[(2*i+d,(n.1-50,n.1-50+(vl (b9 e.2 40)).1),e.1,e.1+(vl (b9 (vl (b9 e.2 40)).2 12)).1)].length<=9223372036854775807/\(j.length+[(2*i+d,(n.1-50,n.1-50+(vl (b9 e.2 40)).1),e.1,e.1+(vl (b9 (vl (b9 e.2 40)).2 12)).1)].length)*40<=140737488355328)/\True)<|lt ((vl (b9 e.2 40),vl (b9 (vl (b9 e.2 40)).2 12),j++[(2*i+d,(n.1-50,n.1-50+(vl (b9 e.2 40)).1),e.1,e.1+(vl (b9 (vl (b9 e.2 40)).2 12)).1)],[(2*i+d,(n.1-50,n.1-50+(vl (b9 e.2 40)).1),e.1,e.1+(vl (b9 (vl (b9 e.2 40)).2 12)).1)])) fun(_,q,u,_) =>
     Bd d t (u,q.2.1,q.2.2.1,q.2.2.2)
    else
     Bd d t ((j,(vl (b9 (a,c,b) 8)).2.1,(vl (b9 (a,c,b) 8)).2.2.1,(vl (b9 (a,c,b) 8)).2.2.2))
   else
    gd ((b9 (vl (b9 (a,c,b) 8)).2 24).isSome/\True)<|gd (True) <|
    if(false||(vl (b9 (vl (b9 (a,c,b) 8)).2 24)).1==0) then
     gd ((b9 (vl (b9 (vl (b9 (a,c,b) 8)).2 24)).2 200).isSome/\c9 ((vl (b9 (vl (b9 (vl (b9 (a,c,b) 8)).2 24)).2 200)).1-50)/\(b9 (vl (b9 (vl (b9 (vl (b9 (a,c,b) 8)).2 24)).2 200)).2 30).isSome/\True)<|lt ((vl (b9 (vl (b9 (vl (b9 (a,c,b) 8)).2 24)).2 200),vl (b9 (vl (b9 (vl (b9 (vl (b9 (a,c,b) 8)).2 24)).2 200)).2 30),vl (b9 (a,c,b) 8),vl (b9 (vl (b9 (a,c,b) 8)).2 24))) fun(m,g,_,_) =>
     gd (c9 (2*i)/\c9 (2*i+d)/\(b9 g.2 40).isSome/\c9 (m.1-50+(vl (b9 g.2 40)).1)/\(b9 (vl (b9 g.2 40)).2 12).isSome/\c9 (g.1+(vl (b9 (vl (b9 g.2 40)).2 12)).1)/\(j.length+[(2*i+d,(m.1-50,m.1-50+(vl (b9 g.2 40)).1),g.1,g.1+(vl (b9 (vl (b9 g.2 40)).2 12)).1)].length<=9223372036854775807/\(j.length+[(2*i+d,(m.1-50,m.1-50+(vl (b9 g.2 40)).1),g.1,g.1+(vl (b9 (vl (b9 g.2 40)).2 12)).1)].length)*40<=140737488355328)/\True)<|lt ((vl (b9 g.2 40),vl (b9 (vl (b9 g.2 40)).2 12),j++[(2*i+d,(m.1-50,m.1-50+(vl (b9 g.2 40)).1),g.1,g.1+(vl (b9 (vl (b9 g.2 40)).2 12)).1)],[(2*i+d,(m.1-50,m.1-50+(vl (b9 g.2 40)).1),g.1,g.1+(vl (b9 (vl (b9 g.2 40)).2 12)).1)])) fun(_,r,v,_) =>
     Bd d t (v,r.2.1,r.2.2.1,r.2.2.2)
    else
     Bd d t ((j,(vl (b9 (vl (b9 (a,c,b) 8)).2 24)).2.1,(vl (b9 (vl (b9 (a,c,b) 8)).2 24)).2.2.1,(vl (b9 (vl (b9 (a,c,b) 8)).2 24)).2.2.2))
  else
   gd (True)<|gd (True)<|if(false&&false) then
    gd (True)<|gd (True) <|
    if(true||false) then
     gd ((b9 (a,c,b) 200).isSome/\c9 ((vl (b9 (a,c,b) 200)).1-50)/\(b9 (vl (b9 (a,c,b) 200)).2 30).isSome/\True)<|lt ((vl (b9 (a,c,b) 200),vl (b9 (vl (b9 (a,c,b) 200)).2 30))) fun(l,h) =>
     gd (c9 (2*i)/\c9 (2*i+d)/\(b9 h.2 40).isSome/\c9 (l.1-50+(vl (b9 h.2 40)).1)/\(b9 (vl (b9 h.2 40)).2 12).isSome/\c9 (h.1+(vl (b9 (vl (b9 h.2 40)).2 12)).1)/\(j.length+[(2*i+d,(l.1-50,l.1-50+(vl (b9 h.2 40)).1),h.1,h.1+(vl (b9 (vl (b9 h.2 40)).2 12)).1)].length<=9223372036854775807/\(j.length+[(2*i+d,(l.1-50,l.1-50+(vl (b9 h.2 40)).1),h.1,h.1+(vl (b9 (vl (b9 h.2 40)).2 12)).1)].length)*40<=140737488355328)/\True)<|lt ((vl (b9 h.2 40),vl (b9 (vl (b9 h.2 40)).2 12),j++[(2*i+d,(l.1-50,l.1-50+(vl (b9 h.2 40)).1),h.1,h.1+(vl (b9 (vl (b9 h.2 40)).2 12)).1)],[(2*i+d,(l.1-50,l.1-50+(vl (b9 h.2 40)).1),h.1,h.1+(vl (b9 (vl (b9 h.2 40)).2 12)).1)])) fun(_,s,w,_) =>
     Bd d t (w,s.2.1,s.2.2.1,s.2.2.2)
    else
     Bd d t (j,a,c,b)
   else
    gd ((b9 (a,c,b) 24).isSome/\True)<|gd (True) <|
    if(false||(vl (b9 (a,c,b) 24)).1==0) then
     gd ((b9 (vl (b9 (a,c,b) 24)).2 200).isSome/\c9 ((vl (b9 (vl (b9 (a,c,b) 24)).2 200)).1-50)/\(b9 (vl (b9 (vl (b9 (a,c,b) 24)).2 200)).2 30).isSome/\True)<|lt ((vl (b9 (vl (b9 (a,c,b) 24)).2 200),vl (b9 (vl (b9 (vl (b9 (a,c,b) 24)).2 200)).2 30),vl (b9 (a,c,b) 24))) fun(k,f,_) =>
     gd (c9 (2*i)/\c9 (2*i+d)/\(b9 f.2 40).isSome/\c9 (k.1-50+(vl (b9 f.2 40)).1)/\(b9 (vl (b9 f.2 40)).2 12).isSome/\c9 (f.1+(vl (b9 (vl (b9 f.2 40)).2 12)).1)/\(j.length+[(2*i+d,(k.1-50,k.1-50+(vl (b9 f.2 40)).1),f.1,f.1+(vl (b9 (vl (b9 f.2 40)).2 12)).1)].length<=9223372036854775807/\(j.length+[(2*i+d,(k.1-50,k.1-50+(vl (b9 f.2 40)).1),f.1,f.1+(vl (b9 (vl (b9 f.2 40)).2 12)).1)].length)*40<=140737488355328)/\True)<|lt ((vl (b9 f.2 40),vl (b9 (vl (b9 f.2 40)).2 12),j++[(2*i+d,(k.1-50,k.1-50+(vl (b9 f.2 40)).1),f.1,f.1+(vl (b9 (vl (b9 f.2 40)).2 12)).1)],[(2*i+d,(k.1-50,k.1-50+(vl (b9 f.2 40)).1),f.1,f.1+(vl (b9 (vl (b9 f.2 40)).2 12)).1)])) fun(_,o,x,_) =>
     Bd d t (x,o.2.1,o.2.2.1,o.2.2.2)
    else
     Bd d t ((j,(vl (b9 (a,c,b) 24)).2.1,(vl (b9 (a,c,b) 24)).2.2.1,(vl (b9 (a,c,b) 24)).2.2.2))
 else
  VH i z (j,a,c,b)
def G0B(b:List D0)(g:Int×List m8×List Int×Int×Int->Option (List m8×l5)):Int×List m8×List Int×Int×Int->Option (List m8×l5)
 | (a,d,f,c,e) =>
 if(decide (a < (b.length:Int))) then
  gd (ix a b.length/\a.toNat<b.length/\(decide ((b.getD a.toNat (b7 r7)).1<0)=true/\True->ix a b.length)/\(decide ((b.getD a.toNat (b7 r7)).1<0)=true/\True->a.toNat<b.length)/\True) <|
  lp (G0A a b g) (0,d,f,c,e)
 else
  QD (d,f,c,e)
def u64(a:l5)(b:j6):Option (List m8×l5) :=
 gd ((K6 b).isSome/\True) <|
 if(!vl (K6 b)) then
  some ([],a)
 else
  gd ((I5 b.2.1).isSome/\True)<|lt (vl (I5 b.2.1)) fun c =>
  lp (G0B c) (0,[],a.1,a.2.1,a.2.2)
def k64:Ct:=k8 64 [.io 122 m4,.agg l6] (fun x=>u64 x.1 x.2.1) (fun r:List m8×l5=>AV.ow 53 true y53 r.1) (fun r=>r.2)
theorem o64:Ok prog k64:=by
 refine k9 [.tmp 4] func64 ?_;intro y ⟨a0,_,_⟩ r H Q hn hr;have:=hz (tc B4 (tc Z5 (tc Fo tn)));refine iA [0,3]<|iA [0,3,5]<|vQ<|iB [0,3,5,16] H fun H=>cD H (fun H=>iA [4]<|j0<|fR<|hr H) fun H=>vK<|fQ<|iD Z5 [0,5,6] H fun c H=>jN r (fun((E,s,x,aO):List m8×List Int×Int×Int)=>Z [p 0 (R 500000),p 5 (O 13)] [(13,A 53 y53 E 0),(500000,bx 122 (A3 s x aO))]) (QD) (fun⟨E,s,x,aO⟩ H=>?_) (fun _ n0 e0 t0=>?_)
 ·refine jN r (fun((aD,aJ,F,q):List m8×List Int×Int×Int)=>Z [p 5 (O 13)] [(13,A 53 y53 aD 0),(500000,bx 122 (A3 aJ F q))]) (FC) (fun⟨aD,aJ,F,q⟩ H=>?_) (fun _ n5 e5 t5=>?_)
  ·refine iA [4]<|j0<|hr H
  refine iA [0,5,82]<|cD H (fun H=>?_) (fun H=>?_)
  ·refine iD B4 [0,5,12] H fun _ H=>iD B4 [5,12,88] H fun i H=>vB<|iA [5,12,88,89]<|cD H (fun H=>zD (fun u=>Z [p 5 (O 13)] [(13,A 53 y53 u 0),(500000,K 122 m4 i.2)]) H fun u H=>fK<|n5 H) fun H=>iA [5,12,88,99]<|cD H (fun H=>zD (fun aI=>Z [p 5 (O 13)] [(13,A 53 y53 aI 0),(500000,K 122 m4 i.2)]) H fun aI H=>fK<|n5 H) fun H=>iA [5,12,88,113]<|cD H (fun H=>zD (fun t=>Z [p 5 (O 13)] [(13,A 53 y53 t 0),(500000,K 122 m4 i.2)]) H fun t H=>fK<|n5 H) fun H=>iA [5,12,120]<|cD H (fun H=>zD (fun aU=>Z [p 5 (O 13)] [(13,A 53 y53 aU 0),(500000,K 122 m4 i.2)]) H fun aU H=>fK<|n5 H) fun H=>vK<|fK<|n5 H
  exact vK<|n5 H
 refine iA [0,5,6,7]<|vB<|lX (fun((a,aX,aW,aY,aV):Int×List m8×List Int×Int×Int)=>Z (Fh a []) [(20,A 190 r7 c 0),(13,A 53 y53 aX 0),(500000,bx 122 (A3 aW aY aV))]) (0,[],a0.1,a0.2.1,a0.2.2) H fun _ g1 b1 e1 t1 ⟨a,aX,aW,aY,aV⟩ H=>vQ<|iA [0,5,6,7,24]<|cD H (fun H=>?_) (fun H=>?_)
 ·refine vK<|fQ<|jN r (fun((n,aQ,aR,aF):List m8×List Int×Int×Int)=>Z (Fh a []) [(20,A 190 r7 c 0),(13,A 53 y53 n 0),(500000,bx 122 (A3 aQ aR aF))]) (VH a g1) (fun⟨n,aQ,aR,aF⟩ H=>?_) (fun _ n2 e2 t2=>?_)
  ·refine jB [0,5,6,7] H fun H=>b1 H
  refine vB<|iB [0,5,6,7,8] H fun H=>iA [0,5,6,7,8,9]<|vB<|lX (fun((b,d,aK,aM,P):Int×List m8×List Int×Int×Int)=>Z (Fh a [p 8 (B (decide ((c.getD a.toNat (b7 r7)).1<0)&&(c.getD a.toNat (b7 r7)).2.2.2)),p 9 (I b)]) [(20,A 190 r7 c 0),(13,A 53 y53 d 0),(500000,bx 122 (A3 aK aM P))]) (0,aX,aW,aY,aV) H fun _ g3 b3 e3 t3 ⟨b,d,aK,aM,P⟩ H=>vQ<|iA [0,5,6,7,8,9,41]<|cD H (fun H=>?_) (fun H=>?_)
  ·refine vK<|fQ<|jN r (fun((z,aH,aG,aB):List m8×List Int×Int×Int)=>Z (Fh a [p 8 (B (decide ((c.getD a.toNat (b7 r7)).1<0)&&(c.getD a.toNat (b7 r7)).2.2.2)),p 9 (I b)]) [(13,A 53 y53 z 0),(500000,bx 122 (A3 aH aG aB)),(20,A 190 r7 c 0)]) (Bd b g3) (fun⟨z,aH,aG,aB⟩ H=>?_) (fun _ n4 e4 t4=>?_)
   ·refine jB [0,5,6,7,8,9] H fun H=>b3 H
   refine vB<|vQ<|VI<|QE 2 3 [(46,AV.ptr 500000 0),(47,I 0),(48,B false)] H (fun H=>H6 H fun H=>?_) (fun H=>H6 H fun H=>?_)
   ·refine QE 7 3 [(51,AV.ptr 500000 0),(52,I 0),(53,B false)] H (fun H=>H6 H fun H=>?_) (fun H=>H6 H fun H=>?_)
    ·refine Jv [0,5,6,7,8,9,46,47,48,51,52,53,54] H fun H=>fQ<|cD H (fun H=>?_) (fun H=>?_)
     ·refine qD (fun(aT,l,h)=>Z (Fh a [p 8 (B (decide ((c.getD a.toNat (b7 r7)).1<0)&&(c.getD a.toNat (b7 r7)).2.2.2)),p 9 (I b),p 10 (I (aT.1-50)),p 11 (I l.1),p 46 (R 500000),p 47 (I h.1),p 48 (B (decide (0<h.1)))]) [(500000,K 122 m4 l.2),(20,A 190 r7 c 0),(13,A 53 y53 d 0)]) H fun⟨aT,l,h⟩ H =>
       zD (fun(bB,V,aA,Y)=>Z (OV a (decide ((c.getD a.toNat (b7 r7)).1<0)&&(c.getD a.toNat (b7 r7)).2.2.2) b [p 46 (R 500000),p 47 (I h.1),p 48 (B (decide (0<h.1)))]) (OW aA Y V.2 c)) H fun⟨bB,V,aA,Y⟩ H =>
       fK<|n4 H
     exact vK<|fK<|n4 H
    refine Jv [0,5,6,7,8,9,46,47,48,51,52,53,54] H fun H=>fQ<|cD H (fun H=>?_) (fun H=>?_)
    ·refine qD (fun(X,j,g,f)=>Z (Fh a [p 8 (B (decide ((c.getD a.toNat (b7 r7)).1<0)&&(c.getD a.toNat (b7 r7)).2.2.2)),p 9 (I b),p 10 (I (X.1-50)),p 11 (I j.1),p 46 (R 500000),p 47 (I g.1),p 48 (B (decide (0<g.1))),p 51 (R 500000),p 52 (I f.1),p 53 (B (f.1==0))]) [(500000,K 122 m4 j.2),(20,A 190 r7 c 0),(13,A 53 y53 d 0)]) H fun⟨X,j,g,f⟩ H =>
      zD (fun(bA,aN,aC,w)=>Z (OV a (decide ((c.getD a.toNat (b7 r7)).1<0)&&(c.getD a.toNat (b7 r7)).2.2.2) b [p 46 (R 500000),p 47 (I g.1),p 48 (B (decide (0<g.1))),p 51 (R 500000),p 52 (I f.1),p 53 (B (f.1==0))]) (OW aC w aN.2 c)) H fun⟨bA,aN,aC,w⟩ H =>
      fK<|n4 H
    exact vK<|fK<|n4 H
   refine QE 7 3 [(51,AV.ptr 500000 0),(52,I 0),(53,B false)] H (fun H=>H6 H fun H=>?_) (fun H=>H6 H fun H=>?_)
   ·refine Jv [0,5,6,7,8,9,46,47,48,51,52,53,54] H fun H=>fQ<|cD H (fun H=>?_) (fun H=>?_)
    ·refine qD (fun(aL,k)=>Z (Fh a [p 8 (B (decide ((c.getD a.toNat (b7 r7)).1<0)&&(c.getD a.toNat (b7 r7)).2.2.2)),p 9 (I b),p 10 (I (aL.1-50)),p 11 (I k.1)]) [(500000,K 122 m4 k.2),(20,A 190 r7 c 0),(13,A 53 y53 d 0)]) H fun⟨aL,k⟩ H =>
      zD (fun(bC,aP,W,v)=>Z (OV a (decide ((c.getD a.toNat (b7 r7)).1<0)&&(c.getD a.toNat (b7 r7)).2.2.2) b []) (OW W v aP.2 c)) H fun⟨bC,aP,W,v⟩ H =>
      fK<|n4 H
    exact vK<|fK<|n4 H
   refine Jv [0,5,6,7,8,9,46,47,48,51,52,53,54] H fun H=>fQ<|cD H (fun H=>?_) (fun H=>?_)
   ·refine qD (fun(o,m,e)=>Z (Fh a [p 8 (B (decide ((c.getD a.toNat (b7 r7)).1<0)&&(c.getD a.toNat (b7 r7)).2.2.2)),p 9 (I b),p 10 (I (o.1-50)),p 11 (I m.1),p 51 (R 500000),p 52 (I e.1),p 53 (B (e.1==0))]) [(500000,K 122 m4 m.2),(20,A 190 r7 c 0),(13,A 53 y53 d 0)]) H fun⟨o,m,e⟩ H =>
     zD (fun(aZ,T,aS,G)=>Z (OV a (decide ((c.getD a.toNat (b7 r7)).1<0)&&(c.getD a.toNat (b7 r7)).2.2.2) b [p 51 (R 500000),p 52 (I e.1),p 53 (B (e.1==0))]) (OW aS G T.2 c)) H fun⟨aZ,T,aS,G⟩ H =>
     fK<|n4 H
   exact vK<|fK<|n4 H
  exact vE<|fE<|e3<|fX rfl<|fK<|n2 H
 exact vE<|fE<|e1<|fX rfl<|n0 H
def MM:List Bool×List Int×Int×Int×List w7×List w7->Option (u3×l5)
 | (e,f,d,c,a,b) =>
 some (((e,a,b),f,d,c))
def Jw:List Bool×List Int×Int×Int×List w7×List w7->Option (u3×l5)
 | (e,b,c,f,d,a) =>
 some (((e,d,a),b,c,f))
def MN(f:l5)(k:j6)(n:o5)(m:List Int)(l:List m8):Option (u3×l5) :=
 gd ((MI k n m l).isSome/\True)<|lt (vl (MI k n m l)) fun a =>
 gd (True)<|if((a.1.1.length:Int)==0) then
  gd (True)<|if(true||false) then
   some (a.1,f)
  else
   gd ((b9 f (a.1.1.length:Int)).isSome/\True)<|lt (vl (b9 f (a.1.1.length:Int))) fun d =>
   gd ((b9 d.2 4).isSome/\True)<|lt (vl (b9 d.2 4)) fun e =>
   if(e.1==0) then
    gd (ix d.1 a.1.1.length/\d.1.toNat<a.1.1.length/\ix d.1 a.1.1.length/\d.1.toNat<a.1.1.length/\True)<|lt (a.1.1.set d.1.toNat !a.1.1.getD d.1.toNat false) fun o =>
    MM (o,e.2.1,e.2.2.1,e.2.2.2,a.1.2.1,a.1.2.2)
   else
    if(e.1==1) then
     gd (ix d.1 a.1.2.1.length/\d.1.toNat<a.1.2.1.length/\c9 ((a.1.2.1.getD d.1.toNat (b7 y51)).2+1)/\ix d.1 a.1.2.1.length/\d.1.toNat<a.1.2.1.length/\True)<|lt (a.1.2.1.set d.1.toNat ((a.1.2.1.getD d.1.toNat (b7 y51)).1,(a.1.2.1.getD d.1.toNat (b7 y51)).2+1)) fun r =>
     MM (a.1.1,e.2.1,e.2.2.1,e.2.2.2,r,a.1.2.2)
    else
     if(e.1==2) then
      gd (ix d.1 a.1.2.2.length/\d.1.toNat<a.1.2.2.length/\c9 ((a.1.2.2.getD d.1.toNat (b7 y51)).1-1)/\ix d.1 a.1.2.2.length/\d.1.toNat<a.1.2.2.length/\True)<|lt (a.1.2.2.set d.1.toNat ((a.1.2.2.getD d.1.toNat (b7 y51)).1-1,(a.1.2.2.getD d.1.toNat (b7 y51)).2)) fun q =>
      MM (a.1.1,e.2.1,e.2.2.1,e.2.2.2,a.1.2.1,q)
     else
      gd (((0:Int)<=(0:Int)/\(0:Int)<=d.1/\d.1<=(a.1.2.2.length:Int))/\True) <|
      MM (a.1.1,e.2.1,e.2.2.1,e.2.2.2,a.1.2.1,List.take d.1.toNat a.1.2.2)
 else
  gd (((b9 f 8).isSome/\True)/\True)<|if(false||decide (0 < (vl (b9 f 8)).1)) then
   lt (vl (b9 f 8)) fun g =>
   some (a.1,g.2)
  else
   gd ((b9 (vl (b9 f 8)).2 (a.1.1.length:Int)).isSome/\True)<|lt (vl (b9 (vl (b9 f 8)).2 (a.1.1.length:Int))) fun b =>
   gd ((b9 b.2 4).isSome/\True)<|lt (vl (b9 b.2 4)) fun c =>
   if(c.1==0) then
    gd (ix b.1 a.1.1.length/\b.1.toNat<a.1.1.length/\ix b.1 a.1.1.length/\b.1.toNat<a.1.1.length/\True)<|lt (a.1.1.set b.1.toNat !a.1.1.getD b.1.toNat false) fun j =>
    Jw (j,c.2.1,c.2.2.1,c.2.2.2,a.1.2.1,a.1.2.2)
   else
    if(c.1==1) then
     gd (ix b.1 a.1.2.1.length/\b.1.toNat<a.1.2.1.length/\c9 ((a.1.2.1.getD b.1.toNat (b7 y51)).2+1)/\ix b.1 a.1.2.1.length/\b.1.toNat<a.1.2.1.length/\True)<|lt (a.1.2.1.set b.1.toNat ((a.1.2.1.getD b.1.toNat (b7 y51)).1,(a.1.2.1.getD b.1.toNat (b7 y51)).2+1)) fun h =>
     Jw (a.1.1,c.2.1,c.2.2.1,c.2.2.2,h,a.1.2.2)
    else
     if(c.1==2) then
      gd (ix b.1 a.1.2.2.length/\b.1.toNat<a.1.2.2.length/\c9 ((a.1.2.2.getD b.1.toNat (b7 y51)).1-1)/\ix b.1 a.1.2.2.length/\b.1.toNat<a.1.2.2.length/\True)<|lt (a.1.2.2.set b.1.toNat ((a.1.2.2.getD b.1.toNat (b7 y51)).1-1,(a.1.2.2.getD b.1.toNat (b7 y51)).2)) fun i =>
      Jw (a.1.1,c.2.1,c.2.2.1,c.2.2.2,a.1.2.1,i)
     else
      gd (((0:Int)<=(0:Int)/\(0:Int)<=b.1/\b.1<=(a.1.2.2.length:Int))/\True) <|
      Jw (a.1.1,c.2.1,c.2.2.1,c.2.2.2,a.1.2.1,List.take b.1.toNat a.1.2.2)
def k46:Ct:=k8 46 [.io 122 m4,.agg l6,.agg o8,.dat (.sl (.int .i64)),.dat (.sl y53)] (fun x=>MN x.1 x.2.1 x.2.2.1 x.2.2.2.1 x.2.2.2.2.1) (fun r:u3×l5=>AV.agg [AV.ow 4 true Ty.bool r.1.1,AV.ow 51 true y51 r.1.2.1,M y51 r.1.2.2]) (fun r=>r.2)
theorem o46:Ok prog k46:=by
 refine k9 [.cell 10 44] func46 ?_;intro y ⟨_,d,c,_,_,_⟩ r H Q hn hr;have:=hz (tc B4 (tc o10 tn));refine iA [0,3,4,6,7,10]<|iD o10 [0,10,11] H fun a H=>iA [0,10,11,13]<|vQ<|vQ<|iG 3 3 [0,10,11,13,32] [(29,AV.ptr 500000 0),(30,I 0),(31,B false)] H (fun H=>H6 H fun H=>fQ ?_) (fun H=>H6 H fun H=>fQ ?_)
 ·refine cD H (fun H=>iA [10]<|j0<|fR<|hr H) fun H=>vK<|fQ<|iD B4 [0,10,11,14] H fun T H=>jN r (fun((G,P,F,E,q,s):List Bool×List Int×Int×Int×List w7×List w7)=>Z (U7 []) [(20,A 4 Ty.bool G 0),(500000,bx 122 [L b8 P,J F,J E]),(11,bx 44 (Cm s)),(1020,A 51 y51 q 0),(10,bx 44 [nil,nil,nil])]) (MM) (fun⟨G,P,F,E,q,s⟩ H=>?_) (fun _ t V W=>?_)
  ·refine iA [10]<|j0<|hr H
  refine iD B4 [10,11,14,38] H fun e H=>vB<|iA [10,11,14,38,44]<|cD H (fun H=>zD (fun z=>Z (U7 []) ((20,A 4 Ty.bool z 0)::(500000,K 122 m4 e.2)::(11,bx 44 [AV.os 20 0,AV.os 1020 0,AV.os 2020 0])::(2020,A 51 y51 a.1.2.2 0)::(1020,A 51 y51 a.1.2.1 0)::W4 c d)) H fun z H=>fK<|S9 2020 (Z (U7 []) ((20,A 4 Ty.bool z 0)::(500000,K 122 m4 e.2)::(11,bx 44 (Cm a.1.2.2))::(1020,A 51 y51 a.1.2.1 0)::W4 c d)) (by kernel_rfl) rfl<|t H) fun H=>iA [10,11,14,38,56]<|cD H (fun H=>zD (fun v=>Z (U7 []) ((1020,A 51 y51 v 0)::(500000,K 122 m4 e.2)::(11,bx 44 [AV.os 20 0,AV.os 1020 0,AV.os 2020 0])::(2020,A 51 y51 a.1.2.2 0)::(20,A 4 Ty.bool a.1.1 0)::W4 c d)) H fun v H=>fK<|S9 2020 (Z (U7 []) ((1020,A 51 y51 v 0)::(500000,K 122 m4 e.2)::(11,bx 44 (Cm a.1.2.2))::(20,A 4 Ty.bool a.1.1 0)::W4 c d)) (by kernel_rfl) rfl<|t H) fun H=>iA [10,11,14,70]<|cD H (fun H=>zD (fun w=>Z (U7 []) ((2020,A 51 y51 w 0)::(500000,K 122 m4 e.2)::(11,bx 44 [AV.os 20 0,AV.os 1020 0,AV.os 2020 0])::(1020,A 51 y51 a.1.2.1 0)::(20,A 4 Ty.bool a.1.1 0)::W4 c d)) H fun w H=>fK<|S9 2020 (Z (U7 []) ((500000,K 122 m4 e.2)::(11,bx 44 (Cm w))::(1020,A 51 y51 a.1.2.1 0)::(20,A 4 Ty.bool a.1.1 0)::W4 c d)) (by kernel_rfl) rfl<|t H) fun H=>fZ 2020 (Z (U7 [p 14 (I T.1),p 70 (B (e.1==2))]) ((500000,K 122 m4 e.2)::(11,bx 44 (Cm a.1.2.2))::(1020,A 51 y51 a.1.2.1 0)::(20,A 4 Ty.bool a.1.1 0)::W4 c d))<|jB [10,11] H fun H=>fK<|t H
 refine cD H (fun H=>qC (fun j=>Z [p 10 (R 10)] [(10,bx 44 [AV.os 20 0,AV.os 1020 0,AV.os 2020 0]),(500000,K 122 m4 j.2),(11,bx 44 [AV.os 20 0,AV.os 1020 0,AV.os 2020 0]),(2020,A 51 y51 a.1.2.2 0),(1020,A 51 y51 a.1.2.1 0),(20,A 4 Ty.bool a.1.1 0),(7,K 36 o8 c),(6,K 34 l6 d)]) H fun j H=>j0<|fR<|hr H) fun H=>vK<|fQ<|iD B4 [0,10,11,14] H fun x H=>jN r (fun((l,i,n,m,k,o):List Bool×List Int×Int×Int×List w7×List w7)=>Z (U7 []) [(20,A 4 Ty.bool l 0),(500000,bx 122 (A3 i n m)),(11,bx 44 (Cm o)),(1020,A 51 y51 k 0),(10,bx 44 [nil,nil,nil])]) (Jw) (fun⟨l,i,n,m,k,o⟩ H=>?_) (fun _ u X Y=>?_)
 ·refine iA [10]<|j0<|hr H
 refine iD B4 [10,11,14,38] H fun b H=>vB<|iA [10,11,14,38,44]<|cD H (fun H=>zD (fun g=>Z (U7 []) ((20,A 4 Ty.bool g 0)::(500000,K 122 m4 b.2)::(11,bx 44 [AV.os 20 0,AV.os 1020 0,AV.os 2020 0])::(2020,A 51 y51 a.1.2.2 0)::(1020,A 51 y51 a.1.2.1 0)::W4 c d)) H fun g H=>fK<|S9 2020 (Z (U7 []) ((20,A 4 Ty.bool g 0)::(500000,K 122 m4 b.2)::(11,bx 44 (Cm a.1.2.2))::(1020,A 51 y51 a.1.2.1 0)::W4 c d)) (by kernel_rfl) rfl<|u H) fun H=>iA [10,11,14,38,56]<|cD H (fun H=>zD (fun f=>Z (U7 []) ((1020,A 51 y51 f 0)::(500000,K 122 m4 b.2)::(11,bx 44 [AV.os 20 0,AV.os 1020 0,AV.os 2020 0])::(2020,A 51 y51 a.1.2.2 0)::(20,A 4 Ty.bool a.1.1 0)::W4 c d)) H fun f H=>fK<|S9 2020 (Z (U7 []) ((1020,A 51 y51 f 0)::(500000,K 122 m4 b.2)::(11,bx 44 (Cm a.1.2.2))::(20,A 4 Ty.bool a.1.1 0)::W4 c d)) (by kernel_rfl) rfl<|u H) fun H=>iA [10,11,14,70]<|cD H (fun H=>zD (fun h=>Z (U7 []) ((2020,A 51 y51 h 0)::(500000,K 122 m4 b.2)::(11,bx 44 [AV.os 20 0,AV.os 1020 0,AV.os 2020 0])::(1020,A 51 y51 a.1.2.1 0)::(20,A 4 Ty.bool a.1.1 0)::W4 c d)) H fun h H=>fK<|S9 2020 (Z (U7 []) ((500000,K 122 m4 b.2)::(11,bx 44 (Cm h))::(1020,A 51 y51 a.1.2.1 0)::(20,A 4 Ty.bool a.1.1 0)::W4 c d)) (by kernel_rfl) rfl<|u H) fun H=>fZ 2020 (Z (U7 [p 14 (I x.1),p 70 (B (b.1==2))]) ((500000,K 122 m4 b.2)::(11,bx 44 (Cm a.1.2.2))::(1020,A 51 y51 a.1.2.1 0)::(20,A 4 Ty.bool a.1.1 0)::W4 c d))<|jB [10,11] H fun H=>fK<|u H
abbrev sd(s:l5):Prop:=0<=s.2.1/\0<=s.2.2/\s.2.2<2147483647
abbrev QF(x:w9 [.io 122 m4,.dat i64,.dat .bool]):Prop:=sd x.1/\2<=x.2.1/\x.2.1<=6
abbrev QG(r:r6×l5):Prop:=sd r.2/\(r.1.1.length<=6/\∀i∈r.1.1,i.2.2.length<=4)/\(1<=r.1.2.1.length/\r.1.2.1.length<=20)/\(1<=r.1.2.2.length/\r.1.2.2.length<=5)/\Xd.cnt y31 r.1<=2000
abbrev MO(x:w9 [.io 122 m4,.dat i64]):Prop:=sd x.1/\0<=x.2.1/\x.2.1<=40
abbrev QH(r:x9×l5):Prop:=sd r.2/\1<=r.1.1.length/\1<=r.1.2.1.length/\1<=r.1.2.2.1.length/\Xd.cnt l9 r.1<=60
abbrev FD(x:w9 [.io 122 m4,.dat i64,.dat .bool]):Prop:=sd x.1/\2<=x.2.1/\x.2.1<=6
abbrev Ht(r:j6×l5):Prop:=sd r.2/\1<=r.1.2.2.length/\(∀w∈r.1.2.2,1<=w.1.length/\1<=w.2.1.length/\1<=w.2.2.1.length)/\1<=r.1.2.1.2.2.length/\Xd.cnt l6 r.1<=10000
abbrev QJ(r:j6×l5):Prop:=sd r.2/\Xd.cnt l6 r.1<=20000
abbrev Jx(r:j6×l5):Prop:=sd r.2/\Xd.cnt l6 r.1<=20000
abbrev N0t(c:o5):Prop:=(-10000<=c.2.1/\c.2.1<=10000)/\(-10000<=c.2.2.1/\c.2.2.1<=10000)/\(-10000<=c.2.2.2.1/\c.2.2.2.1<=10000)/\(-10000<=c.2.2.2.2/\c.2.2.2.2<=10000)
abbrev MP(r:j6×o5×List Int×List m8×l5):Prop:=sd r.2.2.2.2/\Xd.cnt l6 r.1<=20000/\r.2.2.1.length<=20000/\r.2.2.2.1.length<=20000
abbrev T8(r:j6×o5×List Int×List m8):Prop:=Xd.cnt l6 r.1<=20000/\r.2.2.1.length<=20000/\r.2.2.2.length<=20000
abbrev QK(r:j6×o5×List Int×List m8×u3×Int×Int):Prop:=Xd.cnt l6 r.1<=20000/\r.2.2.1.length<=20000/\r.2.2.2.1.length<=20000
def VJ(r:x9×l5):AV:=AV.agg [M i64 r.1.1,M i64 r.1.2.1,M i64 r.1.2.2.1,M i64 r.1.2.2.2]
def Hu(r:x9×l5):B1 [.io 122 m4,.dat i64]:=r.2
def VK:Prop:=kE prog 121 [.io 122 m4,.dat i64] MO QH VJ Hu
def VM[Alw](g:List Int)(c:List Int)(b:List Int):List Int×Int×Int×List Int->Option Unit
 | (f,d,e,a) =>
 gd (QH (((g,c,b,a),f,d,e)))<|some ()
def B0z[Alw](g:List Int)(i:List Int)(h:List Int)(j:Int×List Int×Int×Int×List Int->Option Unit):Int×List Int×Int×Int×List Int->Option Unit
 | (a,d,f,e,b) =>
 if(decide (a < (b.length:Int))) then
  gd ((b9 (d,f,e) (g.length:Int)).isSome/\ix a b.length/\a.toNat<b.length/\True)<|lt (vl (b9 (d,f,e) (g.length:Int))) fun c =>
  gd (c9 (a+1)/\True) <|
  j (a+1,c.2.1,c.2.2.1,c.2.2.2,b.set a.toNat c.1)
 else
  VM g i h (d,f,e,b)
def VN[Alw](g:x9):List Int×Int×Int×List Int×List Int×List Int->Option Unit
 | (a,c,f,e,d,b) =>
 lp (B0z e d b) (0,a,c,f,g.2.2.2)
def B0A[Alw](n:x9)(o:Int×List Int×Int×Int×List Int×List Int×List Int->Option Unit):Int×List Int×Int×Int×List Int×List Int×List Int->Option Unit
 | (h,c,d,b,a,e,f) =>
 if(decide (0<h)) then
  gd ((J9 a).isSome/\(b9 (c,d,b) (a.length:Int)).isSome/\((vl (J9 a)).length+[(vl (b9 (c,d,b) (a.length:Int))).1].length<=9223372036854775807/\((vl (J9 a)).length+[(vl (b9 (c,d,b) (a.length:Int))).1].length)*8<=140737488355328)/\(J9 e).isSome/\(b9 (vl (b9 (c,d,b) (a.length:Int))).2 400).isSome/\((vl (J9 e)).length+[(vl (b9 (vl (b9 (c,d,b) (a.length:Int))).2 400)).1].length<=9223372036854775807/\((vl (J9 e)).length+[(vl (b9 (vl (b9 (c,d,b) (a.length:Int))).2 400)).1].length)*8<=140737488355328)/\(J9 f).isSome/\(b9 (vl (b9 (vl (b9 (c,d,b) (a.length:Int))).2 400)).2 8).isSome/\((vl (J9 f)).length+[(vl (b9 (vl (b9 (vl (b9 (c,d,b) (a.length:Int))).2 400)).2 8)).1].length<=9223372036854775807/\((vl (J9 f)).length+[(vl (b9 (vl (b9 (vl (b9 (c,d,b) (a.length:Int))).2 400)).2 8)).1].length)*8<=140737488355328)/\True)<|lt ((vl (J9 f),vl (b9 (vl (b9 (vl (b9 (c,d,b) (a.length:Int))).2 400)).2 8),vl (J9 e),vl (b9 (vl (b9 (c,d,b) (a.length:Int))).2 400),vl (J9 a),vl (b9 (c,d,b) (a.length:Int)))) fun(i,g,k,l,j,m) =>
  gd (c9 (h-1)/\True) <|
  o (h-1,g.2.1,g.2.2.1,g.2.2.2,j++[m.1],k++[l.1],i++[g.1])
 else
  VN n (c,d,b,a,e,f)
def QL[Alw](b:l5)(d:Int):Option Unit :=
 gd ((b9 b 6).isSome/\(MH d (vl (b9 b 6)).1).isSome/\True)<|lt ((vl (MH d (vl (b9 b 6)).1),vl (b9 b 6))) fun(a,e) =>
 gd ((b9 e.2 4).isSome/\True)<|lt (vl (b9 e.2 4)) fun c =>
 lp (B0A a) (c.1,c.2.1,c.2.2.1,c.2.2.2,a.1,a.2.1,a.2.2.1)
theorem S0c[Alw](hF:∀x,Xv.wfs [.io 122 m4,.dat i64] x->MO x->QL x.1 x.2.1=some ()):VK:=by
 refine FE (f:=121) (ps:=[.io 122 m4,.dat i64]) (pre:=MO) (post:=QH) (R:=VJ) (Z:=Hu) (F:=fun x=>QL x.1 x.2.1) L9 [.cell 4 153] hF func121 ntmps121 rfl results121 (by kernel_rfl) rfl ?_;intro y ⟨_,_,_⟩ r H hB Q hn hr;have:=hz (tc B4 (tc OZ (tc P0g tn)));refine iA [0,1,4]<|qD (fun(b,v1)=>Z (Bz []) [(5,bx 153 [AV.os 12 0,AV.os 1012 0,AV.os 2012 0,AV.os 3012 0]),(3012,A 2 i64 b.2.2.2 0),(2012,A 2 i64 b.2.2.1 0),(1012,A 2 i64 b.2.1 0),(12,A 2 i64 b.1 0),(500000,K 122 m4 v1.2),(4,bx 153 [nil,nil,nil,nil])]) H fun w H=>?_
 obtain⟨b,v1⟩:=w;refine jN r (fun((s,o,G,h,g,e):List Int×Int×Int×List Int×List Int×List Int)=>Z (Bz []) ((500000,bx 122 (A3 s o G))::(5,bx 153 [M i64 h,M i64 g,M i64 e,AV.os 3012 0])::W9 b.2.2.2)) (VN b) (fun w H=>?_) (fun _ n0 e0 t0=>?_)
 ·obtain⟨s,o,G,h,g,e⟩:=w;refine jN r (fun((q,E,u,v):List Int×Int×Int×List Int)=>Z [p 4 (R 4),p 5 (R 5)] ((500000,bx 122 (A3 q E u))::(5,bx 153 [M i64 h,M i64 g,M i64 e,AV.os 3012 0])::W9 v)) (VM h g e) (fun⟨q,E,u,v⟩ H=>?_) (fun _ n2 e2 t2=>?_)
  ·refine iA [4]<|j0<|hr (((h,g,e,v),q,E,u)) (K9 H).1 (by kernel_rfl)
  refine iA [0,4,5,8]<|vB<|lX (fun((m,aA,P,V,t):Int×List Int×Int×Int×List Int)=>Z (Bz [p 8 (I m)]) ((500000,bx 122 (A3 aA P V))::(5,bx 153 [M i64 h,M i64 g,M i64 e,AV.os 3012 0])::W9 t)) (0,s,o,G,b.2.2.2) H fun _ g3 b3 e3 t3 ⟨m,aA,P,V,t⟩ H=>vQ<|iA [0,4,5,8,51]<|cD H (fun H=>vK<|fQ<|vQ<|vB<|zD (fun z=>Z (Bz [p 8 (I m)]) [(3012,A 2 i64 (t.set m.toNat z.1) 0),(500000,K 122 m4 z.2),(5,bx 153 [M i64 h,M i64 g,M i64 e,AV.os 3012 0]),(4,bx 153 [nil,nil,nil,nil])]) H fun z H=>fK<|fQ<|jB [0,4,5,8] H fun H=>b3 H) fun H=>vE<|fE<|e3<|fX rfl<|n2 H
 refine qD (fun n=>Z (Bz [p 6 (I n.1)]) [(500000,K 122 m4 n.2),(5,bx 153 [AV.os 12 0,AV.os 1012 0,AV.os 2012 0,AV.os 3012 0]),(3012,A 2 i64 b.2.2.2 0),(2012,A 2 i64 b.2.2.1 0),(1012,A 2 i64 b.2.1 0),(12,A 2 i64 b.1 0),(4,bx 153 [nil,nil,nil,nil])]) H fun n H=>vB<|Vz [12,1012,2012] (Z (Bz [p 6 (I n.1)]) ((500000,K 122 m4 n.2)::(5,bx 153 [M i64 b.1,M i64 b.2.1,M i64 b.2.2.1,AV.os 3012 0])::W9 b.2.2.2))<|lX (fun((i,T,aC,W,Y,X,aB):Int×List Int×Int×Int×List Int×List Int×List Int)=>Z (Bz [p 6 (I i)]) ((500000,bx 122 (A3 T aC W))::(5,bx 153 [M i64 Y,M i64 X,M i64 aB,AV.os 3012 0])::W9 b.2.2.2)) (n.1,n.2.1,n.2.2.1,n.2.2.2,b.1,b.2.1,b.2.2.1) H fun _ g1 b1 e1 t1 ⟨i,T,aC,W,Y,X,aB⟩ H=>vQ<|iA [0,4,5,6,16]<|cD H (fun H=>?_) (fun H=>?_)
 ·refine vK<|fQ<|vQ<|vB<|iA [0,4,5,6,7]<|zD (fun(j,a,l,d,k,c)=>Z (Bz [p 6 (I i)]) ((5,bx 153 [AV.os 24 1,AV.os 32 1,AV.os 39 1,AV.os 3012 0])::(39,A 2 i64 (j++[a.1]) 1)::(42,A 2 i64 [a.1] 0)::(500000,K 122 m4 a.2)::(32,A 2 i64 (l++[d.1]) 1)::(35,A 2 i64 [d.1] 0)::(24,A 2 i64 (k++[c.1]) 1)::(28,A 2 i64 [c.1] 0)::W9 b.2.2.2)) H fun⟨j,a,l,d,k,c⟩ H =>
   fK<|fQ <|
   jB [0,4,5,6] H fun H =>
   S9 24 (Z (Bz [p 6 (I (i-1))]) ((5,bx 153 [M i64 (k++[c.1]),AV.os 32 1,AV.os 39 1,AV.os 3012 0])::(39,A 2 i64 (j++[a.1]) 1)::(42,A 2 i64 [a.1] 0)::(500000,K 122 m4 a.2)::(32,A 2 i64 (l++[d.1]) 1)::(35,A 2 i64 [d.1] 0)::(28,A 2 i64 [c.1] 0)::W9 b.2.2.2)) (by kernel_rfl) rfl<|S9 32 (Z (Bz [p 6 (I (i-1))]) ((5,bx 153 [M i64 (k++[c.1]),M i64 (l++[d.1]),AV.os 39 1,AV.os 3012 0])::(39,A 2 i64 (j++[a.1]) 1)::(42,A 2 i64 [a.1] 0)::(500000,K 122 m4 a.2)::(35,A 2 i64 [d.1] 0)::(28,A 2 i64 [c.1] 0)::W9 b.2.2.2)) (by kernel_rfl) rfl<|S9 39 (Z (Bz [p 6 (I (i-1))]) ((5,bx 153 [M i64 (k++[c.1]),M i64 (l++[d.1]),M i64 (j++[a.1]),AV.os 3012 0])::(42,A 2 i64 [a.1] 0)::(500000,K 122 m4 a.2)::(35,A 2 i64 [d.1] 0)::(28,A 2 i64 [c.1] 0)::W9 b.2.2.2)) (by kernel_rfl) rfl<|b1 H
 exact vE<|fE<|e1<|fX rfl<|n0 H
def VP(r:r6×l5):AV:=AV.agg (TF r.1.1 r.1.2.1 r.1.2.2)
def Ds(r:r6×l5):B1 [.io 122 m4,.dat i64,.dat .bool]:=r.2
def VQ:Prop:=kE prog 120 [.io 122 m4,.dat i64,.dat .bool] QF QG VP Ds
def MQ[Alw](a:List o4)(f:List ByteArray):List r8×List Int×Int×Int->Option Unit
 | (d,b,e,c) =>
 gd (QG (((a,f,d),b,e,c)))<|some ()
def QM[Alw](b:List ByteArray)(j:List r8):List Int×Int×Int×List o4×List o4×List o4×List ByteArray×List r8->Option Unit
 | (h,e,g,f,_,_,_,_) =>
 gd ((0+j.length<=9223372036854775807/\(0+j.length)*32<=140737488355328)/\True) <|
 gd (c9 ((b.length:Int)-(1:Int))/\(([]++j).length+[(ByteArray.mk #[(121:UInt8)],(2:Int),(b.length:Int)-(1:Int))].length<=9223372036854775807/\(([]++j).length+[(ByteArray.mk #[(121:UInt8)],(2:Int),(b.length:Int)-(1:Int))].length)*32<=140737488355328)/\True)<|lt (([]++j++[(ByteArray.mk #[(121:UInt8)],(2:Int),(b.length:Int)-(1:Int))],[(ByteArray.mk #[(121:UInt8)],(2:Int),(b.length:Int)-(1:Int))])) fun(c,_) =>
 gd ((b9 (h,e,g) 2).isSome/\True)<|lt (vl (b9 (h,e,g) 2)) fun a =>
 if(a.1==0) then
  gd (c9 ((b.length:Int)-(1:Int))/\(b9 a.2 ((b.length:Int)-(1:Int))).isSome/\c9 ((1:Int)+(vl (b9 a.2 ((b.length:Int)-(1:Int)))).1)/\(c.length+[(ByteArray.mk #[(122:UInt8)],(2:Int),(1:Int)+(vl (b9 a.2 ((b.length:Int)-(1:Int)))).1)].length<=9223372036854775807/\(c.length+[(ByteArray.mk #[(122:UInt8)],(2:Int),(1:Int)+(vl (b9 a.2 ((b.length:Int)-(1:Int)))).1)].length)*32<=140737488355328)/\True)<|lt ((vl (b9 a.2 ((b.length:Int)-1)),c++[(ByteArray.mk #[(122:UInt8)],(2:Int),(1:Int)+(vl (b9 a.2 ((b.length:Int)-(1:Int)))).1)],[(ByteArray.mk #[(122:UInt8)],(2:Int),(1:Int)+(vl (b9 a.2 ((b.length:Int)-(1:Int)))).1)])) fun(d,i,_) =>
  MQ f b (i,d.2.1,d.2.2.1,d.2.2.2)
 else
  MQ f b (c,a.2.1,a.2.2.1,a.2.2.2)
def MR[Alw](a:Int)(j:Int×List Int×Int×Int×List o4×List o4×List o4×List ByteArray×List r8->Option Unit):List Int×Int×Int×List o4×List o4×List o4×List ByteArray×List r8->Option Unit
 | (e,g,f,c,h,d,i,b) =>
 gd (c9 (a+1)/\True) <|
 j (a+1,e,g,f,c,h,d,i,b)
def B0B[Alw](g:List ByteArray)(x:Bool)(w:List r8)(v:Int×List Int×Int×Int×List o4×List o4×List o4×List ByteArray×List r8->Option Unit):Int×List Int×Int×Int×List o4×List o4×List o4×List ByteArray×List r8->Option Unit
 | (b,d,f,e,a,i,h,l,n) =>
 if(decide (b < (a.length:Int))) then
  gd ((b9 (d,f,e) 4).isSome/\(((vl (b9 (d,f,e) 4)).1==0)=true/\True->ix b a.length)/\(((vl (b9 (d,f,e) 4)).1==0)=true/\True->b.toNat<a.length)/\(((a.getD b.toNat (b7 y139)).2.1==5)=false/\((vl (b9 (d,f,e) 4)).1==0)=true/\True->ix b a.length)/\(((a.getD b.toNat (b7 y139)).2.1==5)=false/\((vl (b9 (d,f,e) 4)).1==0)=true/\True->b.toNat<a.length)/\True)<|lt (vl (b9 (d,f,e) 4)) fun c =>
  if(c.1==0&&((a.getD b.toNat (b7 y139)).2.1==5||(a.getD b.toNat (b7 y139)).2.1==6||x)) then
   gd (ix b a.length/\b.toNat<a.length/\c9 ((g.length:Int)-1)/\(b9 c.2 ((g.length:Int)-1)).isSome/\c9 (1+(vl (b9 c.2 ((g.length:Int)-1))).1)/\ix 0 (a.getD b.toNat (b7 y139)).2.2.length/\True)<|Alw.alp (fun((u,s,k,t,r,j,q,o,m):Int×List Int×List Int×List Int×List o4×List o4×List o4×List ByteArray×List r8)=>(w8 i64.pt ((a.getD b.toNat (b7 y139)).2.2.getD (Int.toNat (0:Int)) (0:Int)) u/\(wf i64.pt ((a.getD b.toNat (b7 y139)).2.2.getD (Int.toNat (0:Int)) (0:Int))->wf i64.pt u))/\(w8 i64.sl (a.getD b.toNat (b7 y139)).2.2 s/\(wf i64.sl (a.getD b.toNat (b7 y139)).2.2->wf i64.sl s))/\(w8 b8.sl (vl (b9 c.2 ((g.length:Int)-1))).2.1 k/\(wf b8.sl (vl (b9 c.2 ((g.length:Int)-1))).2.1->wf b8.sl k))/\(w8 b8.sl c.2.1 t/\(wf b8.sl c.2.1->wf b8.sl t))/\(AllS (w8 y139) a r)/\(w8 y139.sl i j/\(wf y139.sl i->wf y139.sl j))/\(w8 y139.sl h q/\(wf y139.sl h->wf y139.sl q))/\(w8 Ty.str.sl l o/\(wf Ty.str.sl l->wf Ty.str.sl o))/\(w8 y202.sl n m/\(wf y202.sl n->wf y202.sl m))) fun((_,_,k,_,r,j,q,o,m):Int×List Int×List Int×List Int×List o4×List o4×List o4×List ByteArray×List r8) =>
   gd (True) <|
   MR b v ((k,(vl (b9 c.2 ((g.length:Int)-1))).2.2.1,(vl (b9 c.2 ((g.length:Int)-1))).2.2.2,r,j,q,o,m))
  else
   MR b v (c.2.1,c.2.2.1,c.2.2.2,a,i,h,l,n)
 else
  QM g w (d,f,e,a,i,h,l,n)
def QN[Alw](j:Bool)(k:List r8):List Int×Int×Int×List ByteArray×List o4×List o4×List o4×List ByteArray×List r8->Option Unit
 | (i,e,f,g,h,b,d,a,c) =>
 lp (B0B g j k) (0,i,e,f,h,b,d,a,c)
def VR[Alw](a:Int)(c:List o4)(h:List o4)(f:List ByteArray)(i:List r8)(k:Int×List Int×Int×Int×List ByteArray×List o4×List o4×List o4×List ByteArray×List r8->Option Unit):List o4×List ByteArray×List Int×Int×Int->Option Unit
 | (e,g,d,b,j) =>
 gd (c9 (a-1)/\True) <|
 k (a-1,d,b,j,g,e,c,h,f,i)
def VS[Alw](k:Int)(f:List o4)(l:List o4)(j:List ByteArray)(o:List r8)(a:List ByteArray)(e:List o4)(c:ByteArray)(d:Int)(q:Int×List Int×Int×Int×List ByteArray×List o4×List o4×List o4×List ByteArray×List r8->Option Unit):List Int×List Int×Int×Int->Option Unit
 | (b,n,g,m) =>
 gd ((0+b.length<=9223372036854775807/\(0+b.length)*8<=140737488355328)/\(([]++b).length+[(a.length:Int)].length<=9223372036854775807/\(([]++b).length+[(a.length:Int)].length)*8<=140737488355328)/\True) <|
 gd ((CA (a.length:Int)).isSome/\(ByteArray.mk #[110]).size+(vl (CA (a.length:Int))).size<=9223372036854775807/\(a.length+[ByteArray.mk #[110]++vl (CA (a.length:Int))].length<=9223372036854775807/\(a.length+[ByteArray.mk #[110]++vl (CA (a.length:Int))].length)*16<=140737488355328)/\True)<|lt (vl (CA (a.length:Int))) fun h =>
 gd ((e.length+[(ByteArray.mk #[117]++c,d,[]++b++[(a.length:Int)])].length<=9223372036854775807/\(e.length+[(ByteArray.mk #[117]++c,d,[]++b++[(a.length:Int)])].length)*48<=140737488355328)/\True)<|lt ((e++[(ByteArray.mk #[117]++c,d,[]++b++[(a.length:Int)])],[(ByteArray.mk #[117]++c,d,[]++b++[(a.length:Int)])])) fun(i,_) =>
 VR k f l j o q (i,a++[ByteArray.mk #[110]++h],n,g,m)
def MS[Alw](c:Int)(a:List Int)(e:List Int)(d:Int)(f:Int)(g:Int×List Int×List Int×Int×Int->Option Unit):Int->Option Unit
 | b =>
 gd ((0+a.length<=9223372036854775807/\(0+a.length)*8<=140737488355328)/\(([]++a).length+[b].length<=9223372036854775807/\(([]++a).length+[b].length)*8<=140737488355328)/\True) <|
 gd (c9 (c+1)/\True) <|
 g (c+1,[]++a++[b],e,d,f)
def MT[Alw](a:Int)(c:List Int)(g:Int)(h:Int×List Int×List Int×Int×Int->Option Unit):List Int×Int×Int×Int->Option Unit
 | (d,b,e,f) =>
 if(decide (5<=g)&&a==1) then
  MS a c d b e h 0
 else
  MS a c d b e h f
def B0C[Alw](c:Int)(a:List ByteArray)(m:Int)(j:List o4)(o:List o4)(l:List ByteArray)(q:List r8)(n:List o4)(k:ByteArray)(s:Int×List Int×Int×Int×List ByteArray×List o4×List o4×List o4×List ByteArray×List r8->Option Unit)(r:Int×List Int×List Int×Int×Int->Option Unit):Int×List Int×List Int×Int×Int->Option Unit
 | (g,i,f,e,d) =>
 gd (ix c [(2:Int),(2:Int),(3:Int),(3:Int),(4:Int),(3:Int),(3:Int),(3:Int)].length/\c.toNat<[(2:Int),(2:Int),(3:Int),(3:Int),(4:Int),(3:Int),(3:Int),(3:Int)].length/\c9 ([(2:Int),(2:Int),(3:Int),(3:Int),(4:Int),(3:Int),(3:Int),(3:Int)].getD c.toNat (0:Int)-(1:Int))/\True) <|
 if(decide (g<[(2:Int),(2:Int),(3:Int),(3:Int),(4:Int),(3:Int),(3:Int),(3:Int)].getD c.toNat (0:Int)-(1:Int))) then
  gd (c9 ((a.length:Int)-1)/\(b9 (f,e,d) ((a.length:Int)-1)).isSome/\c9 (1+(vl (b9 (f,e,d) ((a.length:Int)-1))).1)/\True)<|lt (vl (b9 (f,e,d) ((a.length:Int)-1))) fun h =>
  gd ((b9 h.2 3).isSome/\True)<|lt (vl (b9 h.2 3)) fun b =>
  if(b.1==0) then
   gd (c9 ((a.length:Int)-1)/\True) <|
   MT g i c r ((b.2.1,b.2.2.1,b.2.2.2,(a.length:Int)-1))
  else
   MT g i c r (b.2.1,b.2.2.1,b.2.2.2,1+h.1)
 else
  VS m j o l q a n k c s (i,f,e,d)
def B0D[Alw](n:Bool)(o:List r8)(q:Int×List Int×Int×Int×List ByteArray×List o4×List o4×List o4×List ByteArray×List r8->Option Unit):Int×List Int×Int×Int×List ByteArray×List o4×List o4×List o4×List ByteArray×List r8->Option Unit
 | (i,c,a,b,f,d,g,j,h,k) =>
 if(decide (0<i)) then
  gd ((b9 (c,a,b) 12).isSome/\ix (vl (b9 (c,a,b) 12)).1 [0,1,2,2,3,4,5,5,5,6,7,1].length/\(vl (b9 (c,a,b) 12)).1.toNat<[0,1,2,2,3,4,5,5,5,6,7,1].length/\True)<|lt ((vl (b9 (c,a,b) 12),[(0:Int),(1:Int),(2:Int),(2:Int),(3:Int),(4:Int),(5:Int),(5:Int),(5:Int),(6:Int),(7:Int),(1:Int)].getD (vl (b9 (c,a,b) (12:Int))).1.toNat (0:Int))) fun(e,m) =>
  gd ((CA (d.length:Int)).isSome/\(ByteArray.mk #[117]).size+(vl (CA (d.length:Int))).size<=9223372036854775807/\True)<|lt (vl (CA (d.length:Int))) fun l =>
  lp (B0C m f i g j h k d l q) (0,[],e.2.1,e.2.2.1,e.2.2.2)
 else
  QN n o (c,a,b,f,d,g,j,h,k)
def QO[Alw](d:l5)(a:Int)(e:Bool):Option Unit :=
 lt ([ByteArray.mk #[110,99,107],ByteArray.mk #[110,97],ByteArray.mk #[110,98]]) fun c =>
 lt ([(ByteArray.mk #[(99:UInt8),(107:UInt8)],(1:Int),(0:Int)),(ByteArray.mk #[(97:UInt8)],(1:Int),(1:Int)),(ByteArray.mk #[(98:UInt8)],(1:Int),(2:Int))]) fun f =>
 gd ((0+c.length<=9223372036854775807/\(0+c.length)*16<=140737488355328)/\True) <|
 gd (c9 (a-1)/\(b9 d (a-1)).isSome/\c9 (2+(vl (b9 d (a-1))).1)/\True)<|lt (vl (b9 d (a-1))) fun b =>
 lp (B0D e f) (2+b.1,b.2.1,b.2.2.1,b.2.2.2,[]++c,[],[],[],[],[])
theorem S0d[Alw](hF:∀x,Xv.wfs [.io 122 m4,.dat i64,.dat .bool] x->QF x->QO x.1 x.2.1 x.2.2.1=some ()):VQ:=by
 refine FE (f:=120) (ps:=[.io 122 m4,.dat i64,.dat .bool]) (pre:=QF) (post:=QG) (R:=VP) (Z:=Ds) (F:=fun x=>QO x.1 x.2.1 x.2.2.1) L9 [.cell 6 31] hF func120 ntmps120 rfl results120 (by kernel_rfl) rfl ?_;intro y ⟨a0,a1,s,_⟩ r H hB Q hn hr;have:=hz (tc B4 (tc VG tn));refine iA [0,1,2,6]<|qC (fun n=>Z [p 0 (R 500000),p 1 (J a1),p 2 (C s),p 6 (R 6),p 7 (R 7)] [(7,bx 31 [nil,AV.os 18 0,nil]),(18,A 9 Ty.str n 0),(6,bx 31 [nil,nil,nil]),(500000,K 122 m4 a0)]) H fun n H=>qC (fun o=>Z [p 0 (R 500000),p 1 (J a1),p 2 (C s),p 6 (R 6),p 7 (R 7)] [(7,bx 31 [nil,AV.os 18 0,AV.os 23 0]),(23,A 202 y202 o 0),(18,A 9 Ty.str n 0),(6,bx 31 [nil,nil,nil]),(500000,K 122 m4 a0)]) H fun o H=>iA [0,1,2,6,7,8]<|iA [0,1,2,6,7,8,9]<|iB [0,1,2,6,7,8,9,10] H fun H=>jN r (fun((cA,bY,cB,b,bX,aO,bG,aS,bC):List Int×Int×Int×List ByteArray×List o4×List o4×List o4×List ByteArray×List r8)=>Z (Df s [p 9 (O 26),p 10 (O 27)]) ((500000,bx 122 (A3 cA bY cB))::(27,A 9 Ty.str b 0)::(26,A 139 y139 bX 0)::W0 aO o n bG aS bC)) (QN s o) (fun w H=>?_) (fun _ n0 e0 t0=>?_)
 ·obtain⟨cA,bY,cB,b,bX,aO,bG,aS,bC⟩:=w;refine jN r (fun((aQ,aR,aY,u,aF,aB,X,V):List Int×Int×Int×List o4×List o4×List o4×List ByteArray×List r8)=>Z (Cn [p 7 (R 7),p 9 (O 26),p 10 (O 27)]) ((500000,bx 122 (A3 aQ aR aY))::(27,A 9 Ty.str b 0)::(26,A 139 y139 u 0)::W0 aF o n aB X V)) (QM b o) (fun⟨aQ,aR,aY,u,aF,aB,X,V⟩ H=>?_) (fun _ n7 e7 t7=>?_)
  ·refine iB [0,6,9,10,17] H fun H=>qD (fun(bE,aL)=>Z (Cn [p 9 (O 26),p 10 (O 27),p 17 (AV.os 146 2)]) ((146,A 202 y202 bE 2)::(155,A 202 y202 aL 0)::(500000,bx 122 (A3 aQ aR aY))::(27,A 9 Ty.str b 0)::(26,A 139 y139 u 0)::W0 aF o n aB X V)) H fun⟨bE,aL⟩ H =>
    jN r (fun((bD,aU,bF,aN):List r8×List Int×Int×Int)=>Z [p 6 (R 6),p 9 (O 26),p 10 (O 27),p 17 (O 146)] [(146,A 202 y202 bD 0),(500000,bx 122 (A3 aU bF aN)),(27,A 9 Ty.str b 0),(26,A 139 y139 u 0),(6,bx 31 (TF aB X V))]) (MQ u b) (fun⟨bD,aU,bF,aN⟩ H=>?_) (fun _ cL cU cV=>?_)
   ·refine iA [6]<|j0<|hr (((u,b,bD),aU,bF,aN)) (K9 H).1 (by kernel_rfl)
   refine qD (fun aZ=>Z (Cn [p 9 (O 26),p 10 (O 27),p 17 (AV.os 146 2),p 159 (B (aZ.1==0))]) ((500000,K 122 m4 aZ.2)::(146,A 202 y202 bE 2)::(155,A 202 y202 aL 0)::(27,A 9 Ty.str b 0)::(26,A 139 y139 u 0)::W0 aF o n aB X V)) H fun aZ H=>cD H (fun H=>?_) (fun H=>?_)
   ·refine zD (fun(bO,bL,bN)=>Z [p 6 (R 6),p 9 (O 26),p 10 (O 27),p 17 (AV.os 146 3)] ((146,A 202 y202 bL 3)::(168,A 202 y202 bN 0)::(500000,K 122 m4 bO.2)::(155,A 202 y202 aL 0)::(27,A 9 Ty.str b 0)::(26,A 139 y139 u 0)::W0 aF o n aB X V)) H fun⟨bO,bL,bN⟩ H =>
     cL H
   exact vK<|cL H
  refine iA [0,2,6,7,9,10,16]<|vB<|lX (fun((a,bS,bW,bU,g,aK,aJ,aH,aI):Int×List Int×Int×Int×List o4×List o4×List o4×List ByteArray×List r8)=>Z (Df s [p 9 (O 26),p 10 (O 27),p 16 (I a)]) ((500000,bx 122 (A3 bS bW bU))::(27,A 9 Ty.str b 0)::(26,A 139 y139 g 0)::W0 aK o n aJ aH aI)) (0,cA,bY,cB,bX,aO,bG,aS,bC) H fun _ g8 b8 e8 t8 ⟨a,bS,bW,bU,g,aK,aJ,aH,aI⟩ H=>vQ<|iA [0,2,6,7,9,10,16,109]<|cD H (fun H=>?_) (fun H=>?_)
  ·refine vK<|fQ<|jN r (fun((bR,bM,bJ,bT,bK,bP,bQ,bV):List Int×Int×Int×List o4×List o4×List o4×List ByteArray×List r8)=>Z (Df s [p 9 (O 26),p 10 (O 27),p 16 (I a)]) ((500000,bx 122 (A3 bR bM bJ))::(27,A 9 Ty.str b 0)::(26,A 139 y139 bT 0)::W0 bK o n bP bQ bV)) (MR a g8) (fun⟨bR,bM,bJ,bT,bK,bP,bQ,bV⟩ H=>?_) (fun _ n9 e9 t9=>?_)
   ·refine jB [0,2,6,7,9,10,16] H fun H=>b8 H
   refine vB<|qD (fun c=>Z (Df s [p 9 (O 26),p 10 (O 27),p 16 (I a),p 133 (B (c.1==0&&((g.getD a.toNat (b7 y139)).2.1==5||(g.getD a.toNat (b7 y139)).2.1==6||s)))]) ((500000,K 122 m4 c.2)::(27,A 9 Ty.str b 0)::(26,A 139 y139 g 0)::W0 aK o n aJ aH aI)) H fun c H=>cD H (fun H=>?_) (fun H=>?_)
   ·refine VT L9 (HT.h) hB 12 [0,2,6,7,9,10,16] (Z [p 145 (N i64.pt ((g.getD a.toNat (b7 y139)).2.2.getD (Int.toNat (0:Int)) (0:Int))),p 144 (I ((1:Int)+(vl (b9 c.2 ((b.length:Int)-(1:Int)))).1)),p 143 (I (vl (b9 c.2 ((b.length:Int)-(1:Int)))).1),p 142 (I ((b.length:Int)-(1:Int))),p 141 (I (b.length:Int)),p 140 (O 27),p 139 (R 500000),p 138 (M i64 (g.getD a.toNat (b7 y139)).2.2),p 137 (AV.pel 26 0 a.toNat 3 2),p 136 (AV.pel 26 0 a.toNat 3 0),p 135 (I a),p 134 (O 26),p 0 (R 500000),p 2 (C s),p 6 (R 6),p 7 (R 7),p 9 (O 26),p 10 (O 27),p 16 (I a),p 133 (B (c.1==(0:Int)&&((g.getD a.toNat (b7 y139)).2.1==(5:Int)||(g.getD a.toNat (b7 y139)).2.1==(6:Int)||s)))] ((500000,bx 122 (p8 false m4 (vl (b9 c.2 ((b.length:Int)-(1:Int)))).2))::(500000,K 122 m4 c.2)::(27,A 9 Ty.str b 0)::(26,A 139 y139 g 0)::W0 aK o n aJ aH aI)) (fun((aA,W,G,Y,v,E,z,T,P):Int×List Int×List Int×List Int×List o4×List o4×List o4×List ByteArray×List r8)=>Z [p 145 (N i64.pt aA),p 144 (I (1+(vl (b9 c.2 ((b.length:Int)-1))).1)),p 143 (I (vl (b9 c.2 ((b.length:Int)-1))).1),p 142 (I ((b.length:Int)-1)),p 141 (I (b.length:Int)),p 140 (O 27),p 139 (R 500000),p 138 (M i64 W),p 137 (AV.pel 26 0 a.toNat 3 2),p 136 (AV.pel 26 0 a.toNat 3 0),p 135 (I a),p 134 (O 26),p 0 (R 500000),p 2 (C s),p 6 (R 6),p 7 (R 7),p 9 (O 26),p 10 (O 27),p 16 (I a),p 133 (B (c.1==0&&((g.getD a.toNat (b7 y139)).2.1==5||(g.getD a.toNat (b7 y139)).2.1==6||s)))] ((500000,bx 122 (A3 G (vl (b9 c.2 ((b.length:Int)-1))).2.2.1 (vl (b9 c.2 ((b.length:Int)-1))).2.2.2))::(500000,bx 122 (A3 Y c.2.2.1 c.2.2.2))::(27,A 9 Ty.str b 0)::(26,A 139 y139 v 0)::W0 E o n z T P)) (fun((aA,W,G,Y,v,E,z,T,P):Int×List Int×List Int×List Int×List o4×List o4×List o4×List ByteArray×List r8)=>Z (Df s [p 9 (O 26),p 10 (O 27),p 16 (I a)]) ((500000,bx 122 (A3 G (vl (b9 c.2 ((b.length:Int)-1))).2.2.1 (vl (b9 c.2 ((b.length:Int)-1))).2.2.2))::(27,A 9 Ty.str b 0)::(26,A 139 y139 v 0)::W0 E o n z T P)) (fun((aA,W,G,Y,v,E,z,T,P):Int×List Int×List Int×List Int×List o4×List o4×List o4×List ByteArray×List r8)=>True) H (by kernel_rfl) (fun _ h=>by obtain⟨_,_,rfl,he,ho⟩:=h; obtain⟨_,_,rfl,⟨aA,rfl,h1⟩,⟨_,_,rfl,rfl,⟨_,_,rfl,rfl,⟨_,_,rfl,rfl,⟨_,_,rfl,rfl,⟨_,_,rfl,rfl,⟨_,_,rfl,rfl,⟨_,_,rfl,⟨W,rfl,h2⟩,⟨_,_,rfl,rfl,⟨_,_,rfl,rfl,⟨_,_,rfl,rfl,⟨_,_,rfl,rfl,⟨_,_,rfl,rfl,⟨_,_,rfl,rfl,⟨_,_,rfl,rfl,⟨_,_,rfl,rfl,⟨_,_,rfl,rfl,⟨_,_,rfl,rfl,⟨_,_,rfl,rfl,⟨_,_,rfl,rfl,rfl⟩⟩⟩⟩⟩⟩⟩⟩⟩⟩⟩⟩⟩⟩⟩⟩⟩⟩⟩⟩:=he; obtain⟨_,_,rfl,⟨_,rfl,⟨_,_,rfl,⟨G,rfl,h3⟩,⟨_,_,rfl,rfl,⟨_,_,rfl,rfl,rfl⟩⟩⟩⟩,⟨_,_,rfl,⟨_,rfl,⟨_,_,rfl,⟨Y,rfl,h4⟩,⟨_,_,rfl,rfl,⟨_,_,rfl,rfl,rfl⟩⟩⟩⟩,⟨_,_,rfl,rfl,⟨_,_,rfl,⟨v,rfl,h5⟩,⟨_,_,rfl,⟨_,rfl,⟨_,_,rfl,⟨E,rfl,h6⟩,⟨_,_,rfl,rfl,⟨_,_,rfl,rfl,rfl⟩⟩⟩⟩,⟨_,_,rfl,rfl,⟨_,_,rfl,rfl,⟨_,_,rfl,⟨_,rfl,⟨_,_,rfl,⟨z,rfl,h7⟩,⟨_,_,rfl,⟨T,rfl,h8⟩,⟨_,_,rfl,⟨P,rfl,h9⟩,rfl⟩⟩⟩⟩,rfl⟩⟩⟩⟩⟩⟩⟩⟩:=ho; exact⟨⟨aA,W,G,Y,v,E,z,T,P⟩,⟨h1,h2,h3,h4,h5,h6,h7,h8,h9⟩,rfl⟩) (fun _=>by kernel_rfl) fun⟨aA,W,G,Y,v,E,z,T,P⟩ H=>H6 H fun H=>fK<|n9 H
   exact vK<|fK<|n9 H
  exact vE<|fE<|e8<|fX rfl<|n7 H
 refine qD (fun v2=>Z (Df s [p 8 (O 25),p 9 (O 26),p 10 (AV.os 27 1),p 11 (I (2+v2.1))]) [(500000,K 122 m4 v2.2),(27,A 9 Ty.str ([]++n) 1),(26,A 139 y139 [] 0),(25,A 2 i64 [2,2,3,3,4,3,3,3] 0),(7,bx 31 [nil,AV.os 18 0,AV.os 23 0]),(23,A 202 y202 o 0),(18,A 9 Ty.str n 0),(6,bx 31 [nil,nil,nil])]) H fun v2 H=>vB<|lX (fun((m,cI,cN,cO,e,q,i,k,l,j):Int×List Int×Int×Int×List ByteArray×List o4×List o4×List o4×List ByteArray×List r8)=>Z (G3 s m []) ((500000,bx 122 (A3 cI cN cO))::(27,A 9 Ty.str e 0)::(26,A 139 y139 q 0)::(25,A 2 i64 [2,2,3,3,4,3,3,3] 0)::W0 i o n k l j)) (2+v2.1,v2.2.1,v2.2.2.1,v2.2.2.2,[]++n,[],[],[],[],[]) H fun _ g1 b1 e1 t1 ⟨m,cI,cN,cO,e,q,i,k,l,j⟩ H=>vQ<|iA [0,2,6,7,8,9,10,11,37]<|cD H (fun H=>?_) (fun H=>?_)
 ·refine vK<|fQ<|jN r (fun((cC,cG,cQ,cE,cP):List o4×List ByteArray×List Int×Int×Int)=>Z (G3 s m []) ((26,A 139 y139 cC 0)::(27,A 9 Ty.str cG 0)::(500000,bx 122 (A3 cQ cE cP))::(25,A 2 i64 [2,2,3,3,4,3,3,3] 0)::W0 i o n k l j)) (VR m i k l j g1) (fun⟨cC,cG,cQ,cE,cP⟩ H=>?_) (fun _ n2 e2 t2=>?_)
  ·refine jB [0,2,6,7,8,9,10,11] H fun H=>b1 H
  refine vB<|qD (fun(aM,d)=>Z (G3 s m [p 12 (I d)]) ((500000,K 122 m4 aM.2)::(40,A 2 i64 [0,1,2,2,3,4,5,5,5,6,7,1] 0)::(27,A 9 Ty.str e 0)::(26,A 139 y139 q 0)::(25,A 2 i64 [2,2,3,3,4,3,3,3] 0)::W0 i o n k l j)) H fun w H=>?_
  obtain⟨aM,d⟩:=w;refine qD (fun t=>Z (G3 s m [p 12 (I d),p 13 (R 13)]) ((13,bx 139 [S (ByteArray.mk #[117]++t),I d,nil])::(500000,K 122 m4 aM.2)::(40,A 2 i64 [0,1,2,2,3,4,5,5,5,6,7,1] 0)::(27,A 9 Ty.str e 0)::(26,A 139 y139 q 0)::(25,A 2 i64 [2,2,3,3,4,3,3,3] 0)::W0 i o n k l j)) H fun t H=>jN r (fun((aP,bB,bA,aV):List Int×List Int×Int×Int)=>Z (G3 s m [p 13 (R 13)]) ((13,bx 139 [S (ByteArray.mk #[117]++t),I d,M i64 aP])::(500000,bx 122 (A3 bB bA aV))::(27,A 9 Ty.str e 0)::(26,A 139 y139 q 0)::(25,A 2 i64 [2,2,3,3,4,3,3,3] 0)::W0 i o n k l j)) (VS m i k l j e q t d g1) (fun⟨aP,bB,bA,aV⟩ H=>?_) (fun _ n3 e3 t3=>?_)
  ·refine iB [0,2,6,7,8,9,10,11,13] H fun H=>qD (fun aG=>Z (Df s [p 8 (O 25),p 9 (O 26),p 10 (AV.os 27 1),p 11 (I m),p 13 (R 13)]) ((27,A 9 Ty.str (e++[ByteArray.mk #[110]++aG]) 1)::(100,A 9 Ty.str [ByteArray.mk #[110]++aG] 0)::(13,bx 139 [S (ByteArray.mk #[117]++t),I d,AV.os 86 2])::(86,A 2 i64 ([]++aP++[(e.length:Int)]) 2)::(92,A 2 i64 [(e.length:Int)] 0)::(500000,bx 122 (A3 bB bA aV))::(26,A 139 y139 q 0)::(25,A 2 i64 [2,2,3,3,4,3,3,3] 0)::W0 i o n k l j)) H fun aG H=>fZ 86 (Z (Df s [p 8 (O 25),p 9 (O 26),p 10 (AV.os 27 1),p 11 (I m),p 13 (R 13)]) ((27,A 9 Ty.str (e++[ByteArray.mk #[110]++aG]) 1)::(100,A 9 Ty.str [ByteArray.mk #[110]++aG] 0)::(13,bx 139 [S (ByteArray.mk #[117]++t),I d,M i64 ([]++aP++[(e.length:Int)])])::(92,A 2 i64 [(e.length:Int)] 0)::(500000,bx 122 (A3 bB bA aV))::(26,A 139 y139 q 0)::(25,A 2 i64 [2,2,3,3,4,3,3,3] 0)::W0 i o n k l j))<|zD (fun(cJ,cH)=>Z (Df s [p 8 (O 25),p 9 (AV.os 26 1),p 10 (AV.os 27 1),p 11 (I m)]) ((26,A 139 y139 cJ 1)::(104,A 139 y139 cH 0)::(27,A 9 Ty.str (e++[ByteArray.mk #[110]++aG]) 1)::(100,A 9 Ty.str [ByteArray.mk #[110]++aG] 0)::(13,bx 139 [S (ByteArray.mk #[117]++t),I d,M i64 ([]++aP++[(e.length:Int)])])::(92,A 2 i64 [(e.length:Int)] 0)::(500000,bx 122 (A3 bB bA aV))::(25,A 2 i64 [2,2,3,3,4,3,3,3] 0)::W0 i o n k l j)) H fun⟨cJ,cH⟩ H =>
    fK<|n2 H
  refine iA [0,2,6,7,8,9,10,11,12,13,14]<|vB<|lX (fun((aD,aC,cK,cR,cM):Int×List Int×List Int×Int×Int)=>Z (G3 s m [p 12 (I d),p 13 (R 13),p 14 (I aD)]) ((13,bx 139 [S (ByteArray.mk #[117]++t),I d,M i64 aC])::(500000,bx 122 (A3 cK cR cM))::(27,A 9 Ty.str e 0)::(26,A 139 y139 q 0)::(25,A 2 i64 [2,2,3,3,4,3,3,3] 0)::W0 i o n k l j)) (0,[],aM.2.1,aM.2.2.1,aM.2.2.2) H fun _ g4 b4 e4 t4 ⟨aD,aC,cK,cR,cM⟩ H=>vQ<|iB [0,2,6,7,8,9,10,11,12,13,14,57] H fun H=>cD H (fun H=>?_) (fun H=>?_)
  ·refine vK<|fQ<|vQ<|vB<|qD (fun bH=>Z (G3 s m [p 12 (I d),p 13 (R 13),p 14 (I aD),p 15 (I (1+bH.1))]) ((500000,K 122 m4 bH.2)::(13,bx 139 [S (ByteArray.mk #[117]++t),I d,M i64 aC])::(27,A 9 Ty.str e 0)::(26,A 139 y139 q 0)::(25,A 2 i64 [2,2,3,3,4,3,3,3] 0)::W0 i o n k l j)) H fun bH H=>jN r (fun((aX,aW,aT,cT):List Int×Int×Int×Int)=>Z (G3 s m [p 12 (I d),p 13 (R 13),p 14 (I aD),p 15 (I cT)]) ((500000,bx 122 (A3 aX aW aT))::(13,bx 139 [S (ByteArray.mk #[117]++t),I d,M i64 aC])::(27,A 9 Ty.str e 0)::(26,A 139 y139 q 0)::(25,A 2 i64 [2,2,3,3,4,3,3,3] 0)::W0 i o n k l j)) (MT aD aC d g4) (fun⟨aX,aW,aT,cT⟩ H=>?_) (fun _ n5 e5 t5=>?_)
   ·refine jN r (fun(bI:Int)=>Z (G3 s m [p 12 (I d),p 13 (R 13),p 14 (I aD),p 15 (I bI)]) ((500000,bx 122 (A3 aX aW aT))::(13,bx 139 [S (ByteArray.mk #[117]++t),I d,M i64 aC])::(27,A 9 Ty.str e 0)::(26,A 139 y139 q 0)::(25,A 2 i64 [2,2,3,3,4,3,3,3] 0)::W0 i o n k l j)) (MS aD aC aX aW aT g4) (fun bI H=>?_) (fun _ n6 e6 t6=>?_)
    ·refine jB [0,2,6,7,8,9,10,11,12,13,14] H fun H=>fK<|fQ<|jB [0,2,6,7,8,9,10,11,12,13,14] H fun H=>S9 78 (Z (G3 s m [p 12 (I d),p 13 (R 13),p 14 (I (aD+1))]) ((13,bx 139 [S (ByteArray.mk #[117]++t),I d,M i64 ([]++aC++[bI])])::(83,A 2 i64 [bI] 0)::(500000,bx 122 (A3 aX aW aT))::(27,A 9 Ty.str e 0)::(26,A 139 y139 q 0)::(25,A 2 i64 [2,2,3,3,4,3,3,3] 0)::W0 i o n k l j)) (by kernel_rfl) rfl<|b4 H
    refine iA [0,2,6,7,8,9,10,11,12,13,14,15,77]<|cD H (fun H=>jA [0,2,6,7,8,9,10,11,12,13,14,15]<|n6 H) fun H=>vK<|n6 H
   refine qD (fun bZ=>Z (G3 s m [p 12 (I d),p 13 (R 13),p 14 (I aD),p 15 (I (1+bH.1)),p 68 (B (bZ.1==0))]) ((500000,K 122 m4 bZ.2)::(13,bx 139 [S (ByteArray.mk #[117]++t),I d,M i64 aC])::(27,A 9 Ty.str e 0)::(26,A 139 y139 q 0)::(25,A 2 i64 [2,2,3,3,4,3,3,3] 0)::W0 i o n k l j)) H fun bZ H=>cD H (fun H=>jB [0,2,6,7,8,9,10,11,12,13,14,15] H fun H=>n5 H) fun H=>vK<|n5 H
  exact vE<|fE<|e4<|fX rfl<|n3 H
 exact vE<|fE<|e1<|fX rfl<|n0 H
def Hv(r:j6×l5):AV:=AV.agg [AV.ow 64 false y64 r.1.1,M y139 r.1.2.1.1,M Ty.str r.1.2.1.2.1,M y202 r.1.2.1.2.2,AV.ow 153 true l9 r.1.2.2]
def P0(r:j6×l5):B1 [.io 122 m4,.dat i64,.dat .bool]:=r.2
def MU:Prop:=kE prog 61 [.io 122 m4,.dat i64,.dat .bool] FD Ht Hv P0
def VU[Alw](e:List m6×l5)(f:r6×l5):List x9×List Int×Int×Int->Option Unit
 | (d,b,a,c) =>
 gd (Ht (((e.1,f.1,d),b,a,c)))<|some ()
def G0H[Alw](c:r6×l5)(h:List m6×l5)(i:Int×List x9×List Int×Int×Int->Option Unit):Int×List x9×List Int×Int×Int->Option Unit
 | (b,d,f,g,e) =>
 if(decide (b < (c.1.2.1.length:Int))) then
  gd (((S7 c.1 b).isSome/\True)/\MO ((f,g,e),(↑(vl (S7 c.1 b)).length:Int),()))<|Alw.alp (V4 [Par.io 122 m4,Par.dat i64] QH VJ Hu) fun(a:(x9×l5)) =>
  gd ((d.length+[a.1].length<=9223372036854775807/\(d.length+[a.1].length)*96<=140737488355328)/\True) <|
  gd (c9 (b+1)/\True)<|lt (vl (S7 c.1 b)) fun _ =>
  i ((b+1,d++[a.1],(Hu a).1,(Hu a).2.1,(Hu a).2.2))
 else
  VU h c (d,f,g,e)
def QP[Alw](c:l5)(d:Int)(e:Bool):Option Unit :=
 gd ((MG c).isSome/\True)<|lt (vl (MG c)) fun b =>
 gd (True/\QF (b.2,d,e,()))<|Alw.alp (V4 [Par.io 122 m4,Par.dat i64,Par.dat Ty.bool] QG VP Ds) fun(a:(r6×l5)) =>
 gd (True) <|
 lp (G0H a b) ((0,[],(Ds a).1,(Ds a).2.1,(Ds a).2.2))
theorem e61[Alw](h121:VK)(h120:VQ)(hF:∀x,Xv.wfs [.io 122 m4,.dat i64,.dat .bool] x->FD x->QP x.1 x.2.1 x.2.2.1=some ()):MU:=by
 refine FE (f:=61) (ps:=[.io 122 m4,.dat i64,.dat .bool]) (pre:=FD) (post:=Ht) (R:=Hv) (Z:=P0) (F:=fun x=>QP x.1 x.2.1 x.2.2.1) L9 [.cell 6 34] hF func61 ntmps61 rfl results61 (by kernel_rfl) rfl ?_;intro y ⟨_,t,s,_⟩ r H hB Q hn hr;have:=hz (tc GJ (tc P0v tn));refine iA [0,1,2,6]<|qD (fun b=>Z [p 0 (R 500000),p 1 (J t),p 2 (C s),p 6 (R 6),p 7 (R 7)] [(7,bx 26 [AV.os 12 0]),(12,Ob.arr 64 false y64 b.1 0),(500000,K 122 m4 b.2),(6,bx 34 [nil,nil,nil,nil,nil])]) H fun b H=>vQ<|iE h120 3 [0,6,7,8] H fun a hp120 H=>H6 H fun H=>fQ<|iA [0,6,7,8,9]<|jN r (fun((g,c,d,e):List x9×List Int×Int×Int)=>Z [p 6 (R 6),p 7 (R 7),p 8 (R 8),p 9 (O 17)] ((17,A 153 l9 g 0)::(8,bx 31 (p8 true y31 a.1))::(500000,bx 122 (A3 c d e))::TH b.1)) (VU b a) (fun⟨g,c,d,e⟩ H=>?_) (fun _ o v z=>?_)
 ·refine iA [6]<|j0<|hr (((b.1,a.1,g),c,d,e)) (K9 H).1 (by kernel_rfl)
 refine iA [0,6,7,8,9,10]<|vB<|lX (fun((j,k,m,n,l):Int×List x9×List Int×Int×Int)=>Z (Cn [p 7 (R 7),p 8 (R 8),p 9 (O 17),p 10 (I j)]) ((17,A 153 l9 k 0)::(8,bx 31 (p8 true y31 a.1))::(500000,bx 122 [L b8 m,J n,J l])::TH b.1)) ((0,[],(Ds a).1,(Ds a).2.1,(Ds a).2.2)) H fun _ w q u E ⟨j,k,m,n,l⟩ H=>vQ<|iA [0,6,7,8,9,10,22]<|cD H (fun H=>vK<|fQ<|vQ<|vB<|iE h121 6 [0,6,7,8,9,10] H fun i hp121 H=>H6 H fun H=>fK<|fQ<|zD (fun h=>Z (Cn [p 7 (R 7),p 8 (R 8),p 9 (AV.os 17 1),p 10 (I (j+1))]) ((17,A 153 l9 (k++[i.1]) 1)::(32,A 153 l9 [i.1] 0)::(500000,bx 122 (p8 false m4 (Hu i)))::(29,A 2 i64 h 0)::(8,bx 31 (p8 true y31 a.1))::TH b.1)) H fun h H=>q H) fun H=>vE<|fE<|u<|fX rfl<|o H
abbrev QQ(x:w9 [.io 122 m4]):Prop:=sd x.1
def VV(r:j6×l5):AV:=AV.agg (Q0 r.1)
def MV(r:j6×l5):B1 [.io 122 m4]:=r.2
def VW:Prop:=kE prog 118 [.io 122 m4] QQ QJ VV MV
def BJ[Alw]:List Int×Int×Int×List x9×List o4×List ByteArray×List r8×List m6->Option Unit
 | (h,b,d,e,g,f,c,a) =>
 gd (QJ (((a,(g,f,c),e),h,b,d)))<|some ()
def QR[Alw](a0:l5):Option Unit :=
 gd (((b9 a0 (3:Int)).isSome/\True)/\FD ((vl (b9 a0 (3:Int))).2,(6:Int),(vl (b9 a0 (3:Int))).1==(0:Int),()))<|Alw.alp (V4 [Par.io 122 m4,Par.dat i64,Par.dat Ty.bool] Ht Hv P0) fun(a:(j6×l5)) =>
 gd (True) <|
 gd ((b9 (P0 a) (a.1.2.2.length:Int)).isSome/\True)<|lt (vl (b9 (P0 a) (a.1.2.2.length:Int))) fun b =>
 gd ((b9 b.2 20).isSome/\True)<|lt (vl (b9 b.2 20)) fun c =>
 if(c.1==0) then
  gd (((0:Int)<=(1:Int)/\(1:Int)<=(a.1.2.2.length:Int)/\(a.1.2.2.length:Int)<=(a.1.2.2.length:Int))/\True) <|
  BJ ((c.2.1,c.2.2.1,c.2.2.2,List.drop (Int.toNat (1:Int)) a.1.2.2,a.1.2.1.1,a.1.2.1.2.1,a.1.2.1.2.2,a.1.1))
 else
  if(c.1==1) then
   gd ((ix b.1 a.1.2.2.length/\b.1.toNat<a.1.2.2.length/\(J9 (a.1.2.2.getD b.1.toNat (b7 l9)).2.2.2).isSome/\((vl (J9 (a.1.2.2.getD b.1.toNat (b7 l9)).2.2.2)).length+[0].length<=9223372036854775807/\((vl (J9 (a.1.2.2.getD b.1.toNat (b7 l9)).2.2.2)).length+[0].length)*8<=140737488355328)/\ix b.1 a.1.2.2.length/\True)/\b.1.toNat<a.1.2.2.length/\True) <|
   BJ ((c.2.1,c.2.2.1,c.2.2.2,a.1.2.2.set b.1.toNat ((a.1.2.2.getD b.1.toNat (b7 l9)).1,(a.1.2.2.getD b.1.toNat (b7 l9)).2.1,(a.1.2.2.getD b.1.toNat (b7 l9)).2.2.1,vl (J9 (a.1.2.2.getD b.1.toNat (b7 l9)).2.2.2)++[0]),a.1.2.1.1,a.1.2.1.2.1,a.1.2.1.2.2,a.1.1))
  else
   if(c.1==2) then
    gd (ix b.1 a.1.2.2.length/\b.1.toNat<a.1.2.2.length/\ix 0 (a.1.2.2.getD b.1.toNat (b7 l9)).2.1.length/\True)<|Alw.alp (fun((v3,v4,X,W,Y,V,v9,v):Int×List Int×List Int×List o4×List ByteArray×List r8×List x9×List m6)=>(w8 i64.pt ((a.1.2.2.getD b.1.toNat (b7 l9)).2.1.getD (Int.toNat (0:Int)) (0:Int)) v3/\(wf i64.pt ((a.1.2.2.getD b.1.toNat (b7 l9)).2.1.getD (Int.toNat (0:Int)) (0:Int))->wf i64.pt v3))/\(w8 i64.sl (a.1.2.2.getD b.1.toNat (b7 l9)).2.1 v4/\(wf i64.sl (a.1.2.2.getD b.1.toNat (b7 l9)).2.1->wf i64.sl v4))/\(w8 b8.sl c.2.1 X/\(wf b8.sl c.2.1->wf b8.sl X))/\(w8 y139.sl a.1.2.1.1 W/\(wf y139.sl a.1.2.1.1->wf y139.sl W))/\(w8 Ty.str.sl a.1.2.1.2.1 Y/\(wf Ty.str.sl a.1.2.1.2.1->wf Ty.str.sl Y))/\(w8 y202.sl a.1.2.1.2.2 V/\(wf y202.sl a.1.2.1.2.2->wf y202.sl V))/\(AllS (w8 l9) a.1.2.2 v9)/\(AllS (w8 y64) a.1.1 v)) fun((_,_,X,W,Y,V,v9,v):Int×List Int×List Int×List o4×List ByteArray×List r8×List x9×List m6) =>
    gd (True) <|
    BJ (X,c.2.2.1,c.2.2.2,v9,W,Y,V,v)
   else
    if(c.1==3) then
     gd (ix b.1 a.1.2.2.length/\b.1.toNat<a.1.2.2.length/\(b9 c.2 3).isSome/\ix (vl (b9 c.2 3)).1 [-1,500,501].length/\(vl (b9 c.2 3)).1.toNat<[-1,500,501].length/\ix 0 (a.1.2.2.getD b.1.toNat (b7 l9)).2.2.1.length/\True)<|Alw.alp (fun((T,x,h,F,k,i,n,t,q):Int×List Int×List Int×List Int×List o4×List ByteArray×List r8×List x9×List m6)=>(w8 i64.pt ((a.1.2.2.getD b.1.toNat (b7 l9)).2.2.1.getD (Int.toNat (0:Int)) (0:Int)) T/\(wf i64.pt ((a.1.2.2.getD b.1.toNat (b7 l9)).2.2.1.getD (Int.toNat (0:Int)) (0:Int))->wf i64.pt T))/\(w8 i64.sl (a.1.2.2.getD b.1.toNat (b7 l9)).2.2.1 x/\(wf i64.sl (a.1.2.2.getD b.1.toNat (b7 l9)).2.2.1->wf i64.sl x))/\(w8 b8.sl (vl (b9 c.2 3)).2.1 h/\(wf b8.sl (vl (b9 c.2 3)).2.1->wf b8.sl h))/\(w8 b8.sl c.2.1 F/\(wf b8.sl c.2.1->wf b8.sl F))/\(w8 y139.sl a.1.2.1.1 k/\(wf y139.sl a.1.2.1.1->wf y139.sl k))/\(w8 Ty.str.sl a.1.2.1.2.1 i/\(wf Ty.str.sl a.1.2.1.2.1->wf Ty.str.sl i))/\(w8 y202.sl a.1.2.1.2.2 n/\(wf y202.sl a.1.2.1.2.2->wf y202.sl n))/\(AllS (w8 l9) a.1.2.2 t)/\(AllS (w8 y64) a.1.1 q)) fun((_,_,h,_,k,i,n,t,q):Int×List Int×List Int×List Int×List o4×List ByteArray×List r8×List x9×List m6) =>
     gd (True) <|
     BJ ((h,(vl (b9 c.2 3)).2.2.1,(vl (b9 c.2 3)).2.2.2,t,k,i,n,q))
    else
     if(c.1==4) then
      gd (ix b.1 a.1.2.2.length/\b.1.toNat<a.1.2.2.length/\ix b.1 a.1.2.2.length/\b.1.toNat<a.1.2.2.length/\c9 ((↑(a.1.2.2.getD b.1.toNat (b7 l9)).1.length:Int)-1)/\(b9 c.2 5).isSome/\c9 ((vl (b9 c.2 5)).1-1)/\ix ((↑(a.1.2.2.getD b.1.toNat (b7 l9)).1.length:Int)-1) (a.1.2.2.getD b.1.toNat (b7 l9)).1.length/\True)<|Alw.alp (fun((E,z,y,l,H,f,m,g,s,w):Int×List Int×List Int×List Int×List Int×List o4×List ByteArray×List r8×List x9×List m6)=>(w8 i64.pt ((a.1.2.2.getD b.1.toNat (b7 l9)).1.getD ((↑(a.1.2.2.getD b.1.toNat (b7 l9)).1.length:Int)-1).toNat 0) E/\(wf i64.pt ((a.1.2.2.getD b.1.toNat (b7 l9)).1.getD ((↑(a.1.2.2.getD b.1.toNat (b7 l9)).1.length:Int)-1).toNat 0)->wf i64.pt E))/\(w8 i64.sl (a.1.2.2.getD b.1.toNat (b7 l9)).1 z/\(wf i64.sl (a.1.2.2.getD b.1.toNat (b7 l9)).1->wf i64.sl z))/\(w8 i64.sl (a.1.2.2.getD b.1.toNat (b7 l9)).1 y/\(wf i64.sl (a.1.2.2.getD b.1.toNat (b7 l9)).1->wf i64.sl y))/\(w8 b8.sl (vl (b9 c.2 5)).2.1 l/\(wf b8.sl (vl (b9 c.2 5)).2.1->wf b8.sl l))/\(w8 b8.sl c.2.1 H/\(wf b8.sl c.2.1->wf b8.sl H))/\(w8 y139.sl a.1.2.1.1 f/\(wf y139.sl a.1.2.1.1->wf y139.sl f))/\(w8 Ty.str.sl a.1.2.1.2.1 m/\(wf Ty.str.sl a.1.2.1.2.1->wf Ty.str.sl m))/\(w8 y202.sl a.1.2.1.2.2 g/\(wf y202.sl a.1.2.1.2.2->wf y202.sl g))/\(AllS (w8 l9) a.1.2.2 s)/\(AllS (w8 y64) a.1.1 w)) fun((_,_,_,l,_,f,m,g,s,w):Int×List Int×List Int×List Int×List Int×List o4×List ByteArray×List r8×List x9×List m6) =>
      gd (True) <|
      BJ ((l,(vl (b9 c.2 5)).2.2.1,(vl (b9 c.2 5)).2.2.2,s,f,m,g,w))
     else
      if(c.1==5) then
       gd (ix 0 a.1.2.1.2.2.length/\True)<|Alw.alp (fun((G,Q,P,o,d,e,j,u,r):(Int×Int)×r8×List r8×List Int×List o4×List ByteArray×List r8×List x9×List m6)=>(w8 (i64.pr i64).pt (a.1.2.1.2.2.getD (Int.toNat (0:Int)) (b7 y202)).2 G/\(wf (i64.pr i64).pt (a.1.2.1.2.2.getD (Int.toNat (0:Int)) (b7 y202)).2->wf (i64.pr i64).pt G))/\(w8 y202.pt (a.1.2.1.2.2.getD (Int.toNat (0:Int)) (b7 y202)) Q/\(wf y202.pt (a.1.2.1.2.2.getD (Int.toNat (0:Int)) (b7 y202))->wf y202.pt Q))/\(w8 y202.sl a.1.2.1.2.2 P/\(wf y202.sl a.1.2.1.2.2->wf y202.sl P))/\(w8 b8.sl c.2.1 o/\(wf b8.sl c.2.1->wf b8.sl o))/\(w8 y139.sl a.1.2.1.1 d/\(wf y139.sl a.1.2.1.1->wf y139.sl d))/\(w8 Ty.str.sl a.1.2.1.2.1 e/\(wf Ty.str.sl a.1.2.1.2.1->wf Ty.str.sl e))/\(w8 y202.sl a.1.2.1.2.2 j/\(wf y202.sl a.1.2.1.2.2->wf y202.sl j))/\(AllS (w8 l9) a.1.2.2 u)/\(AllS (w8 y64) a.1.1 r)) fun((_,_,_,o,d,e,j,u,r):(Int×Int)×r8×List r8×List Int×List o4×List ByteArray×List r8×List x9×List m6) =>
       gd (True) <|
       BJ (o,c.2.2.1,c.2.2.2,u,d,e,j,r)
      else
       BJ (c.2.1,c.2.2.1,c.2.2.2,a.1.2.2,a.1.2.1.1,a.1.2.1.2.1,a.1.2.1.2.2,a.1.1)
theorem S0e[Alw](h61:MU)(hF:∀x,Xv.wfs [.io 122 m4] x->QQ x->QR x.1=some ()):VW:=by
 refine FE (f:=118) (ps:=[.io 122 m4]) (pre:=QQ) (post:=QJ) (R:=VV) (Z:=MV) (F:=fun x=>QR x.1) L9 [.cell 2 34] hF func118 ntmps118 rfl results118 (by kernel_rfl) rfl ?_;intro y ⟨_,_⟩ r H hB Q hn hr;have:=hz (tc B4 (tc OZ tn));refine iA [0,2]<|vQ<|iE h61 4 [0,2,3] H fun c hp61 H=>H6 H fun H=>fQ<|qD (fun b=>Z [p 0 (R 500000),p 2 (R 2),p 3 (R 3),p 4 (I b.1)] ((500000,K 122 m4 b.2)::(3,bx 34 (Q5 c.1.2.1))::W2 c.1.2.2 c.1.1)) H fun b H=>jN r (fun((aH,aI,aG,aL,aM,aK,aJ,aF):List Int×Int×Int×List x9×List o4×List ByteArray×List r8×List m6)=>Z (G8 []) [(3,bx 34 (De aM aK aJ)),(1009,A 153 l9 aL 0),(500000,bx 122 (A3 aH aI aG)),(9,Ob.arr 64 false y64 aF 0),(2,bx 34 [nil,nil,nil,nil,nil])]) (BJ) (fun⟨aH,aI,aG,aL,aM,aK,aJ,aF⟩ H=>?_) (fun _ n0 e0 t0=>?_)
 ·refine iA [2]<|j0<|hr (((aF,(aM,aK,aJ),aL),aH,aI,aG)) (K9 H).1 (by kernel_rfl)
 refine qD (fun a=>Z [p 0 (R 500000),p 2 (R 2),p 3 (R 3),p 4 (I b.1),p 16 (I a.1)] ((500000,K 122 m4 a.2)::(3,bx 34 (Q5 c.1.2.1))::W2 c.1.2.2 c.1.1)) H fun a H=>vB<|iA [0,2,3,4,16,17]<|cD H (fun H=>jB [2,3] H fun H=>fK<|n0 H) fun H=>iA [0,2,3,4,16,23]<|cD H (fun H=>zFD L9 (HT.h) 14 [34] [2,3] (Z (G8 []) [(1009,A 153 l9 (c.1.2.2.set b.1.toNat ((c.1.2.2.getD b.1.toNat (b7 l9)).1,(c.1.2.2.getD b.1.toNat (b7 l9)).2.1,(c.1.2.2.getD b.1.toNat (b7 l9)).2.2.1,vl (J9 (c.1.2.2.getD b.1.toNat (b7 l9)).2.2.2)++[0])) 0),(35,A 2 i64 [0] 0),(500000,K 122 m4 a.2),(3,bx 34 (Q5 c.1.2.1)),(9,Ob.arr 64 false y64 c.1.1 0),(2,bx 34 [nil,nil,nil,nil,nil])]) H (by kernel_rfl) fun H=>fK<|n0 H) fun H=>iA [0,2,3,4,16,39]<|cD H (fun H=>?_) (fun H=>?_)
 ·refine zH L9 (HT.h) hB 7 [2,3] (Z [p 47 (N i64.pt ((c.1.2.2.getD b.1.toNat (b7 l9)).2.1.getD (Int.toNat (0:Int)) (0:Int))),p 46 (M i64 (c.1.2.2.getD b.1.toNat (b7 l9)).2.1),p 45 (AV.pel 1009 0 b.1.toNat 4 1),p 44 (AV.pel 1009 0 b.1.toNat 4 0),p 43 (I b.1),p 42 (O 1009),p 41 (AV.ptr 3 4),p 0 (R 500000),p 2 (R 2),p 3 (R 3),p 4 (I b.1),p 16 (I a.1),p 39 (B (a.1==(2:Int)))] ((500000,K 122 m4 a.2)::(3,bx 34 (Q5 c.1.2.1))::W2 c.1.2.2 c.1.1)) (fun((v3,v4,v5,v6,v7,v8,v9,v):Int×List Int×List Int×List o4×List ByteArray×List r8×List x9×List m6)=>Z [p 47 (N i64.pt v3),p 46 (M i64 v4),p 45 (AV.pel 1009 0 b.1.toNat 4 1),p 44 (AV.pel 1009 0 b.1.toNat 4 0),p 43 (I b.1),p 42 (O 1009),p 41 (AV.ptr 3 4),p 0 (R 500000),p 2 (R 2),p 3 (R 3),p 4 (I b.1),p 16 (I a.1),p 39 (B (a.1==2))] ((500000,bx 122 (A3 v5 a.2.2.1 a.2.2.2))::(3,bx 34 (De v6 v7 v8))::W2 v9 v)) (fun((v3,v4,v5,v6,v7,v8,v9,v):Int×List Int×List Int×List o4×List ByteArray×List r8×List x9×List m6)=>Z (G8 []) ((500000,bx 122 (A3 v5 a.2.2.1 a.2.2.2))::(3,bx 34 (De v6 v7 v8))::W2 v9 v)) (fun((v3,v4,v5,v6,v7,v8,v9,v):Int×List Int×List Int×List o4×List ByteArray×List r8×List x9×List m6)=>True) H (by kernel_rfl) (fun _ h=>by obtain⟨_,_,rfl,he,ho⟩:=h; obtain⟨_,_,rfl,⟨v3,rfl,h1⟩,⟨_,_,rfl,⟨v4,rfl,h2⟩,⟨_,_,rfl,rfl,⟨_,_,rfl,rfl,⟨_,_,rfl,rfl,⟨_,_,rfl,rfl,⟨_,_,rfl,rfl,⟨_,_,rfl,rfl,⟨_,_,rfl,rfl,⟨_,_,rfl,rfl,⟨_,_,rfl,rfl,⟨_,_,rfl,rfl,⟨_,_,rfl,rfl,rfl⟩⟩⟩⟩⟩⟩⟩⟩⟩⟩⟩⟩⟩:=he; obtain⟨_,_,rfl,⟨_,rfl,⟨_,_,rfl,⟨v5,rfl,h3⟩,⟨_,_,rfl,rfl,⟨_,_,rfl,rfl,rfl⟩⟩⟩⟩,⟨_,_,rfl,⟨_,rfl,⟨_,_,rfl,rfl,⟨_,_,rfl,⟨v6,rfl,h4⟩,⟨_,_,rfl,⟨v7,rfl,h5⟩,⟨_,_,rfl,⟨v8,rfl,h6⟩,⟨_,_,rfl,rfl,rfl⟩⟩⟩⟩⟩⟩,⟨_,_,rfl,⟨v9,rfl,h7⟩,⟨_,_,rfl,⟨v,rfl,h8⟩,⟨_,_,rfl,⟨_,rfl,⟨_,_,rfl,rfl,⟨_,_,rfl,rfl,⟨_,_,rfl,rfl,⟨_,_,rfl,rfl,⟨_,_,rfl,rfl,rfl⟩⟩⟩⟩⟩⟩,rfl⟩⟩⟩⟩⟩:=ho; exact⟨⟨v3,v4,v5,v6,v7,v8,v9,v⟩,⟨h1,h2,h3,h4,h5,h6,h7,h8⟩,rfl⟩) (fun _=>by kernel_rfl) fun⟨v3,v4,v5,v6,v7,v8,v9,v⟩ H=>H6 H fun H=>fK<|n0 H
 refine iA [0,2,3,4,16,48]<|cD H (fun H=>?_) (fun H=>?_)
 ·refine VT L9 (HT.h) hB 12 [2,3] (Z [p 61 (N i64.pt ((c.1.2.2.getD b.1.toNat (b7 l9)).2.2.1.getD (Int.toNat (0:Int)) (0:Int))),p 60 (I ([(-1:Int),(500:Int),(501:Int)].getD (vl (b9 a.2 (3:Int))).1.toNat (0:Int))),p 59 (AV.pel 56 0 (vl (b9 a.2 (3:Int))).1.toNat 1 0),p 58 (I (vl (b9 a.2 (3:Int))).1),p 57 (R 500000),p 56 (O 56),p 55 (M i64 (c.1.2.2.getD b.1.toNat (b7 l9)).2.2.1),p 54 (AV.pel 1009 0 b.1.toNat 4 2),p 53 (AV.pel 1009 0 b.1.toNat 4 0),p 52 (I b.1),p 51 (O 1009),p 50 (AV.ptr 3 4),p 0 (R 500000),p 2 (R 2),p 3 (R 3),p 4 (I b.1),p 16 (I a.1),p 48 (B (a.1==(3:Int)))] ((500000,bx 122 (p8 false m4 (vl (b9 a.2 (3:Int))).2))::(56,A 2 i64 [(-1:Int),(500:Int),(501:Int)] 0)::(500000,K 122 m4 a.2)::(3,bx 34 (Q5 c.1.2.1))::W2 c.1.2.2 c.1.1)) (fun((aD,P,m,X,t,o,z,k,e):Int×List Int×List Int×List Int×List o4×List ByteArray×List r8×List x9×List m6)=>Z [p 61 (N i64.pt aD),p 60 (I ([-1,500,501].getD (vl (b9 a.2 3)).1.toNat 0)),p 59 (AV.pel 56 0 (vl (b9 a.2 3)).1.toNat 1 0),p 58 (I (vl (b9 a.2 3)).1),p 57 (R 500000),p 56 (O 56),p 55 (M i64 P),p 54 (AV.pel 1009 0 b.1.toNat 4 2),p 53 (AV.pel 1009 0 b.1.toNat 4 0),p 52 (I b.1),p 51 (O 1009),p 50 (AV.ptr 3 4),p 0 (R 500000),p 2 (R 2),p 3 (R 3),p 4 (I b.1),p 16 (I a.1),p 48 (B (a.1==3))] ((500000,bx 122 (A3 m (vl (b9 a.2 3)).2.2.1 (vl (b9 a.2 3)).2.2.2))::(56,A 2 i64 [-1,500,501] 0)::(500000,bx 122 (A3 X a.2.2.1 a.2.2.2))::(3,bx 34 (De t o z))::W2 k e)) (fun((aD,P,m,X,t,o,z,k,e):Int×List Int×List Int×List Int×List o4×List ByteArray×List r8×List x9×List m6)=>Z (G8 []) ((500000,bx 122 (A3 m (vl (b9 a.2 3)).2.2.1 (vl (b9 a.2 3)).2.2.2))::(56,A 2 i64 [-1,500,501] 0)::(3,bx 34 (De t o z))::W2 k e)) (fun((aD,P,m,X,t,o,z,k,e):Int×List Int×List Int×List Int×List o4×List ByteArray×List r8×List x9×List m6)=>True) H (by kernel_rfl) (fun _ h=>by obtain⟨_,_,rfl,he,ho⟩:=h; obtain⟨_,_,rfl,⟨aD,rfl,h1⟩,⟨_,_,rfl,rfl,⟨_,_,rfl,rfl,⟨_,_,rfl,rfl,⟨_,_,rfl,rfl,⟨_,_,rfl,rfl,⟨_,_,rfl,⟨P,rfl,h2⟩,⟨_,_,rfl,rfl,⟨_,_,rfl,rfl,⟨_,_,rfl,rfl,⟨_,_,rfl,rfl,⟨_,_,rfl,rfl,⟨_,_,rfl,rfl,⟨_,_,rfl,rfl,⟨_,_,rfl,rfl,⟨_,_,rfl,rfl,⟨_,_,rfl,rfl,⟨_,_,rfl,rfl,rfl⟩⟩⟩⟩⟩⟩⟩⟩⟩⟩⟩⟩⟩⟩⟩⟩⟩⟩:=he; obtain⟨_,_,rfl,⟨_,rfl,⟨_,_,rfl,⟨m,rfl,h3⟩,⟨_,_,rfl,rfl,⟨_,_,rfl,rfl,rfl⟩⟩⟩⟩,⟨_,_,rfl,rfl,⟨_,_,rfl,⟨_,rfl,⟨_,_,rfl,⟨X,rfl,h4⟩,⟨_,_,rfl,rfl,⟨_,_,rfl,rfl,rfl⟩⟩⟩⟩,⟨_,_,rfl,⟨_,rfl,⟨_,_,rfl,rfl,⟨_,_,rfl,⟨t,rfl,h5⟩,⟨_,_,rfl,⟨o,rfl,h6⟩,⟨_,_,rfl,⟨z,rfl,h7⟩,⟨_,_,rfl,rfl,rfl⟩⟩⟩⟩⟩⟩,⟨_,_,rfl,⟨k,rfl,h8⟩,⟨_,_,rfl,⟨e,rfl,h9⟩,⟨_,_,rfl,⟨_,rfl,⟨_,_,rfl,rfl,⟨_,_,rfl,rfl,⟨_,_,rfl,rfl,⟨_,_,rfl,rfl,⟨_,_,rfl,rfl,rfl⟩⟩⟩⟩⟩⟩,rfl⟩⟩⟩⟩⟩⟩⟩:=ho; exact⟨⟨aD,P,m,X,t,o,z,k,e⟩,⟨h1,h2,h3,h4,h5,h6,h7,h8,h9⟩,rfl⟩) (fun _=>by kernel_rfl) fun⟨aD,P,m,X,t,o,z,k,e⟩ H=>H6 H fun H=>fK<|n0 H
 refine iA [0,2,3,4,16,62]<|cD H (fun H=>?_) (fun H=>?_)
 ·refine VT L9 (HT.h) hB 18 [2,3] (Z [p 81 (N i64.pt ((c.1.2.2.getD b.1.toNat (b7 l9)).1.getD ((↑(c.1.2.2.getD b.1.toNat (b7 l9)).1.length:Int)-1).toNat 0)),p 80 (I ((vl (b9 a.2 5)).1-1)),p 79 (I (vl (b9 a.2 5)).1),p 78 (R 500000),p 77 (I ((↑(c.1.2.2.getD b.1.toNat (b7 l9)).1.length:Int)-1)),p 76 (I (↑(c.1.2.2.getD b.1.toNat (b7 l9)).1.length:Int)),p 75 (M i64 (c.1.2.2.getD b.1.toNat (b7 l9)).1),p 74 (AV.pel 1009 0 b.1.toNat 4 0),p 73 (AV.pel 1009 0 b.1.toNat 4 0),p 72 (I b.1),p 71 (O 1009),p 70 (AV.ptr 3 4),p 69 (M i64 (c.1.2.2.getD b.1.toNat (b7 l9)).1),p 68 (AV.pel 1009 0 b.1.toNat 4 0),p 67 (AV.pel 1009 0 b.1.toNat 4 0),p 66 (I b.1),p 65 (O 1009),p 64 (AV.ptr 3 4),p 0 (R 500000),p 2 (R 2),p 3 (R 3),p 4 (I b.1),p 16 (I a.1),p 62 (B (a.1==4))] ((500000,bx 122 (p8 false m4 (vl (b9 a.2 5)).2))::(500000,K 122 m4 a.2)::(3,bx 34 (Q5 c.1.2.1))::W2 c.1.2.2 c.1.1)) (fun((W,V,T,u,aA,l,w,n,i,G):Int×List Int×List Int×List Int×List Int×List o4×List ByteArray×List r8×List x9×List m6)=>Z [p 81 (N i64.pt W),p 80 (I ((vl (b9 a.2 5)).1-1)),p 79 (I (vl (b9 a.2 5)).1),p 78 (R 500000),p 77 (I ((↑(c.1.2.2.getD b.1.toNat (b7 l9)).1.length:Int)-1)),p 76 (I (↑(c.1.2.2.getD b.1.toNat (b7 l9)).1.length:Int)),p 75 (M i64 V),p 74 (AV.pel 1009 0 b.1.toNat 4 0),p 73 (AV.pel 1009 0 b.1.toNat 4 0),p 72 (I b.1),p 71 (O 1009),p 70 (AV.ptr 3 4),p 69 (M i64 T),p 68 (AV.pel 1009 0 b.1.toNat 4 0),p 67 (AV.pel 1009 0 b.1.toNat 4 0),p 66 (I b.1),p 65 (O 1009),p 64 (AV.ptr 3 4),p 0 (R 500000),p 2 (R 2),p 3 (R 3),p 4 (I b.1),p 16 (I a.1),p 62 (B (a.1==4))] ((500000,bx 122 (A3 u (vl (b9 a.2 5)).2.2.1 (vl (b9 a.2 5)).2.2.2))::(500000,bx 122 (A3 aA a.2.2.1 a.2.2.2))::(3,bx 34 (De l w n))::W2 i G)) (fun((W,V,T,u,aA,l,w,n,i,G):Int×List Int×List Int×List Int×List Int×List o4×List ByteArray×List r8×List x9×List m6)=>Z (G8 []) ((500000,bx 122 (A3 u (vl (b9 a.2 5)).2.2.1 (vl (b9 a.2 5)).2.2.2))::(3,bx 34 (De l w n))::W2 i G)) (fun((W,V,T,u,aA,l,w,n,i,G):Int×List Int×List Int×List Int×List Int×List o4×List ByteArray×List r8×List x9×List m6)=>True) H (by kernel_rfl) (fun _ h=>by obtain⟨_,_,rfl,he,ho⟩:=h; obtain⟨_,_,rfl,⟨W,rfl,h1⟩,⟨_,_,rfl,rfl,⟨_,_,rfl,rfl,⟨_,_,rfl,rfl,⟨_,_,rfl,rfl,⟨_,_,rfl,rfl,⟨_,_,rfl,⟨V,rfl,h2⟩,⟨_,_,rfl,rfl,⟨_,_,rfl,rfl,⟨_,_,rfl,rfl,⟨_,_,rfl,rfl,⟨_,_,rfl,rfl,⟨_,_,rfl,⟨T,rfl,h3⟩,⟨_,_,rfl,rfl,⟨_,_,rfl,rfl,⟨_,_,rfl,rfl,⟨_,_,rfl,rfl,⟨_,_,rfl,rfl,⟨_,_,rfl,rfl,⟨_,_,rfl,rfl,⟨_,_,rfl,rfl,⟨_,_,rfl,rfl,⟨_,_,rfl,rfl,⟨_,_,rfl,rfl,rfl⟩⟩⟩⟩⟩⟩⟩⟩⟩⟩⟩⟩⟩⟩⟩⟩⟩⟩⟩⟩⟩⟩⟩⟩:=he; obtain⟨_,_,rfl,⟨_,rfl,⟨_,_,rfl,⟨u,rfl,h4⟩,⟨_,_,rfl,rfl,⟨_,_,rfl,rfl,rfl⟩⟩⟩⟩,⟨_,_,rfl,⟨_,rfl,⟨_,_,rfl,⟨aA,rfl,h5⟩,⟨_,_,rfl,rfl,⟨_,_,rfl,rfl,rfl⟩⟩⟩⟩,⟨_,_,rfl,⟨_,rfl,⟨_,_,rfl,rfl,⟨_,_,rfl,⟨l,rfl,h6⟩,⟨_,_,rfl,⟨w,rfl,h7⟩,⟨_,_,rfl,⟨n,rfl,h8⟩,⟨_,_,rfl,rfl,rfl⟩⟩⟩⟩⟩⟩,⟨_,_,rfl,⟨i,rfl,h9⟩,⟨_,_,rfl,⟨G,rfl,h10⟩,⟨_,_,rfl,⟨_,rfl,⟨_,_,rfl,rfl,⟨_,_,rfl,rfl,⟨_,_,rfl,rfl,⟨_,_,rfl,rfl,⟨_,_,rfl,rfl,rfl⟩⟩⟩⟩⟩⟩,rfl⟩⟩⟩⟩⟩⟩:=ho; exact⟨⟨W,V,T,u,aA,l,w,n,i,G⟩,⟨h1,h2,h3,h4,h5,h6,h7,h8,h9,h10⟩,rfl⟩) (fun _=>by kernel_rfl) fun⟨W,V,T,u,aA,l,w,n,i,G⟩ H=>H6 H fun H=>fK<|n0 H
 refine iA [2,3,82]<|cD H (fun H=>?_) (fun H=>?_)
 ·refine zH L9 (HT.h) hB 5 [2,3] (Z [p 88 (N (i64.pr i64).pt (c.1.2.1.2.2.getD (Int.toNat (0:Int)) (b7 y202)).2),p 87 (N y202.pt (c.1.2.1.2.2.getD (Int.toNat (0:Int)) (b7 y202))),p 86 (M y202 c.1.2.1.2.2),p 85 (AV.ptr 3 3),p 84 (AV.ptr 3 1),p 2 (R 2),p 3 (R 3),p 82 (B (a.1==(5:Int)))] ((500000,K 122 m4 a.2)::(3,bx 34 (Q5 c.1.2.1))::W2 c.1.2.2 c.1.1)) (fun((Y,aC,aB,E,d,j,q,s,g):(Int×Int)×r8×List r8×List Int×List o4×List ByteArray×List r8×List x9×List m6)=>Z [p 88 (N (i64.pr i64).pt Y),p 87 (N y202.pt aC),p 86 (M y202 aB),p 85 (AV.ptr 3 3),p 84 (AV.ptr 3 1),p 2 (R 2),p 3 (R 3),p 82 (B (a.1==5))] ((500000,bx 122 (A3 E a.2.2.1 a.2.2.2))::(3,bx 34 (De d j q))::W2 s g)) (fun((Y,aC,aB,E,d,j,q,s,g):(Int×Int)×r8×List r8×List Int×List o4×List ByteArray×List r8×List x9×List m6)=>Z (G8 []) ((500000,bx 122 (A3 E a.2.2.1 a.2.2.2))::(3,bx 34 (De d j q))::W2 s g)) (fun((Y,aC,aB,E,d,j,q,s,g):(Int×Int)×r8×List r8×List Int×List o4×List ByteArray×List r8×List x9×List m6)=>True) H (by kernel_rfl) (fun _ h=>by obtain⟨_,_,rfl,he,ho⟩:=h; obtain⟨_,_,rfl,⟨Y,rfl,h1⟩,⟨_,_,rfl,⟨aC,rfl,h2⟩,⟨_,_,rfl,⟨aB,rfl,h3⟩,⟨_,_,rfl,rfl,⟨_,_,rfl,rfl,⟨_,_,rfl,rfl,⟨_,_,rfl,rfl,⟨_,_,rfl,rfl,rfl⟩⟩⟩⟩⟩⟩⟩⟩:=he; obtain⟨_,_,rfl,⟨_,rfl,⟨_,_,rfl,⟨E,rfl,h4⟩,⟨_,_,rfl,rfl,⟨_,_,rfl,rfl,rfl⟩⟩⟩⟩,⟨_,_,rfl,⟨_,rfl,⟨_,_,rfl,rfl,⟨_,_,rfl,⟨d,rfl,h5⟩,⟨_,_,rfl,⟨j,rfl,h6⟩,⟨_,_,rfl,⟨q,rfl,h7⟩,⟨_,_,rfl,rfl,rfl⟩⟩⟩⟩⟩⟩,⟨_,_,rfl,⟨s,rfl,h8⟩,⟨_,_,rfl,⟨g,rfl,h9⟩,⟨_,_,rfl,⟨_,rfl,⟨_,_,rfl,rfl,⟨_,_,rfl,rfl,⟨_,_,rfl,rfl,⟨_,_,rfl,rfl,⟨_,_,rfl,rfl,rfl⟩⟩⟩⟩⟩⟩,rfl⟩⟩⟩⟩⟩:=ho; exact⟨⟨Y,aC,aB,E,d,j,q,s,g⟩,⟨h1,h2,h3,h4,h5,h6,h7,h8,h9⟩,rfl⟩) (fun _=>by kernel_rfl) fun⟨Y,aC,aB,E,d,j,q,s,g⟩ H=>H6 H fun H=>fK<|n0 H
 exact vK<|fK<|n0 H
abbrev QS(x:w9 [.io 122 m4]):Prop:=sd x.1
def QT(r:j6×l5):AV:=AV.agg (Q0 r.1)
def Jy(r:j6×l5):B1 [.io 122 m4]:=r.2
def VY:Prop:=kE prog 58 [.io 122 m4] QS Jx QT Jy
def MW[Alw](a:Int×l5):Bool->Option Unit
 | d =>
 if d then
  gd (True/\FD (a.2,(6:Int),true,()))<|Alw.alp (V4 [Par.io 122 m4,Par.dat i64,Par.dat Ty.bool] Ht Hv P0) fun(b:(j6×l5)) =>
  gd (True) <|
  gd (Jx (b.1,P0 b))<|some ()
 else
  gd (True/\FD (a.2,(6:Int),false,()))<|Alw.alp (V4 [Par.io 122 m4,Par.dat i64,Par.dat Ty.bool] Ht Hv P0) fun(c:(j6×l5)) =>
  gd (True) <|
  gd (Jx (c.1,P0 c))<|some ()
def QU[Alw](b:l5):Option Unit :=
 gd ((b9 b 12).isSome/\True)<|lt (vl (b9 b 12)) fun a =>
 if(a.1==0) then
  gd (True/\QQ (a.2,()))<|Alw.alp (V4 [Par.io 122 m4] QJ VV MV) fun(c:(j6×l5)) =>
  gd (True) <|
  gd (Jx (c.1,MV c))<|some ()
 else
  if(a.1==1) then
   MW a (a.1==1)
  else
   MW a (a.1==2)
theorem e58[Alw](h61:MU)(h118:VW)(hF:∀x,Xv.wfs [.io 122 m4] x->QS x->QU x.1=some ()):VY:=by
 refine FE (f:=58) (ps:=[.io 122 m4]) (pre:=QS) (post:=Jx) (R:=QT) (Z:=Jy) (F:=fun x=>QU x.1) L9 [.cell 2 34] hF func58 ntmps58 rfl results58 (by kernel_rfl) rfl ?_;intro y ⟨_,_⟩ r H hB Q hn hr;have:=hz (tc B4 tn);refine iA [0,2]<|vQ<|qD (fun a=>Z [p 0 (R 500000),p 2 (R 2),p 4 (I a.1)] [(500000,K 122 m4 a.2),(2,bx 34 [nil,nil,nil,nil,nil])]) H fun a H=>vB<|iA [0,2,4,5]<|cD H (fun H=>vQ<|iE h118 1 [2] H fun g hp118 H=>H6 H fun H=>fQ<|j0<|l7<|fR<|hr (g.1,MV g) (K9 H).1 (by kernel_rfl)) fun H=>jN r (fun(e:Bool)=>Z [p 0 (R 500000),p 2 (R 2),p 9 (B e)] [(500000,K 122 m4 a.2),(2,bx 34 [nil,nil,nil,nil,nil])]) (MW a) (fun e H=>?_) (fun _ d h i=>?_)
 ·refine cD H (fun H=>vQ<|iE h61 1 [2] H fun b hp61 H=>H6 H fun H=>fQ<|j0<|l7<|fR<|hr (b.1,P0 b) (K9 H).1 (by kernel_rfl)) fun H=>vK<|fK<|fQ<|vQ<|iE h61 1 [2] H fun c hp61 H=>H6 H fun H=>fQ<|j0<|hr (c.1,P0 c) (K9 H).1 (by kernel_rfl)
 refine iA [0,2,4,9]<|cD H (fun H=>vK<|d H) fun H=>jA [0,2,9]<|d H
abbrev MX(x:w9 [.io 122 m4]):Prop:=sd x.1
def MY(r:j6×o5×List Int×List m8×l5):AV:=AV.tup [AV.agg (Q0 r.1),AV.agg (Q6 r.2.1),M i64 r.2.2.1,M y53 r.2.2.2.1]
def Hw(r:j6×o5×List Int×List m8×l5):B1 [.io 122 m4]:=r.2.2.2.2
def QV:Prop:=kE prog 28 [.io 122 m4] MX MP MY Hw
def Hx[Alw](f:List m6)(d:List o4)(i:List ByteArray)(j:List r8)(h:List x9)(k:o5×l5):List Int×List Int×Int×Int->Option Unit
 | (g,b,c,a) =>
 gd ((u64 (b,c,a) (f,(d,i,j),h)).isSome/\True)<|lt (vl (u64 (b,c,a) (f,(d,i,j),h))) fun e =>
 gd (MP (((f,(d,i,j),h),k.1,g,e)))<|some ()
def MZ[Alw](j:o5×l5):List m6×List o4×List ByteArray×List r8×List x9×List Int×Int×Int->Option Unit
 | (c,b,e,f,d,m,h,i) =>
 gd ((Jk (m,h,i) (c,(b,e,f),d)).isSome/\True)<|lt (vl (Jk (m,h,i) (c,(b,e,f),d))) fun a =>
 gd ((K6 (c,(b,e,f),d)).isSome/\True)<|if(vl (K6 (c,(b,e,f),d))&&(a.1.length:Int)==0) then
  gd ((b9 a.2 6).isSome/\True)<|gd (True) <|
  if(true&&decide (0 < (vl (b9 a.2 6)).1)) then
   gd ((FA (c,(b,e,f),d)).isSome/\True)<|lt ((vl (FA (c,(b,e,f),d)),vl (b9 a.2 6))) fun(k,g) =>
   Hx c b e f d j (k,g.2.1,g.2.2.1,g.2.2.2)
  else
   Hx c b e f d j ((a.1,(vl (b9 a.2 6)).2.1,(vl (b9 a.2 6)).2.2.1,(vl (b9 a.2 6)).2.2.2))
 else
  gd (True)<|gd (True) <|
  if(false&&false) then
   gd ((FA (c,(b,e,f),d)).isSome/\True)<|lt (vl (FA (c,(b,e,f),d))) fun l =>
   Hx c b e f d j (l,a.2.1,a.2.2.1,a.2.2.2)
  else
   Hx c b e f d j (a.1,a.2.1,a.2.2.1,a.2.2.2)
def QW[Alw](e:l5):Option Unit :=
 gd (True/\QS (e,()))<|Alw.alp (V4 [Par.io 122 m4] Jx QT Jy) fun(b:(j6×l5)) =>
 gd (True) <|
 gd ((Mo (Jy b)).isSome/\True)<|lt (vl (Mo (Jy b))) fun d =>
 gd ((b9 d.2 3).isSome/\True)<|lt (vl (b9 d.2 3)) fun c =>
 if(c.1==0) then
  gd (True/\FD (c.2,(5:Int),true,()))<|Alw.alp (V4 [Par.io 122 m4,Par.dat i64,Par.dat Ty.bool] Ht Hv P0) fun(a:(j6×l5)) =>
  gd (True) <|
  MZ d ((a.1.1,a.1.2.1.1,a.1.2.1.2.1,a.1.2.1.2.2,a.1.2.2,(P0 a).1,(P0 a).2.1,(P0 a).2.2))
 else
  MZ d (b.1.1,b.1.2.1.1,b.1.2.1.2.1,b.1.2.1.2.2,b.1.2.2,c.2.1,c.2.2.1,c.2.2.2)
theorem e28[Alw](h61:MU)(h58:VY)(hF:∀x,Xv.wfs [.io 122 m4] x->MX x->QW x.1=some ()):QV:=by
 refine FE (f:=28) (ps:=[.io 122 m4]) (pre:=MX) (post:=MP) (R:=MY) (Z:=Hw) (F:=fun x=>QW x.1) L9 [.cell 2 34,.cell 3 36,.tmp 4,.tmp 5] hF func28 ntmps28 rfl results28 (by kernel_rfl) rfl ?_;intro y ⟨_,_⟩ r H hB Q hn hr;have:=hz (tc o64 (tc o63 (tc B4 (tc Fo (tc o62 (tc o59 tn))))));refine iA [0,2,3]<|vQ<|iE h58 1 [0,2,3,6] H fun G hp58 H=>H6 H fun H=>fQ<|qD (fun b=>Z (G5 []) ((7,bx 36 (p8 true o8 b.1))::(500000,K 122 m4 b.2)::(6,bx 34 (Q0 G.1))::W1)) H fun b H=>jN r (fun((c,g,e,h,d,z,s,u):List m6×List o4×List ByteArray×List r8×List x9×List Int×Int×Int)=>Z (G5 []) ((6,bx 34 (By c g e h d))::(500000,bx 122 [L b8 z,J s,J u])::(7,bx 36 (p8 true o8 b.1))::W1)) (MZ b) (fun⟨c,g,e,h,d,z,s,u⟩ H=>?_) (fun _ E P T=>?_)
 ·refine qD (fun a=>Z (G5 [p 8 (O 20)]) ((20,A 2 i64 a.1 0)::(500000,K 122 m4 a.2)::(6,bx 34 (By c g e h d))::(7,bx 36 (p8 true o8 b.1))::W1)) H fun a H=>jN r (fun((j,t,q,o):List Int×List Int×Int×Int)=>Z (G5 [p 8 (M i64 j)]) ((500000,bx 122 (A3 t q o))::(6,bx 34 (By c g e h d))::(7,bx 36 (p8 true o8 b.1))::W1)) (Hx c g e h d b) (fun⟨j,t,q,o⟩ H=>?_) (fun _ v V W=>?_)
  ·refine qD (fun i=>Z (G8 [p 4 (M i64 j),p 5 (O 40)]) [(3,bx 36 (p8 true o8 b.1)),(2,bx 34 (By c g e h d)),(40,A 53 y53 i.1 0),(500000,K 122 m4 i.2),(6,bx 34 (By c g e h d)),(7,bx 36 (p8 true o8 b.1))]) H fun i H=>j0<|hr (((c,(g,e,h),d),b.1,j,i)) (K9 H).1 (by kernel_rfl)
  refine vQ<|VI<|QE 8 3 [(29,AV.ptr 500000 0),(30,I 0),(31,B false)] H (fun H=>H6 H fun H=>?_) (fun H=>H6 H fun H=>?_)
  ·refine Jv [0,2,3,6,7,8,32] H fun H=>fQ<|cD H (fun H=>?_) (fun H=>?_)
   ·refine zD (fun(l,m)=>Z (G5 [p 8 (O 34)]) ((34,A 2 i64 l 0)::(500000,K 122 m4 m.2)::(20,A 2 i64 a.1 0)::(6,bx 34 (By c g e h d))::(7,bx 36 (p8 true o8 b.1))::W1)) H fun⟨l,m⟩ H =>
     S9 34 (Z (G5 [p 8 (M i64 l)]) ((500000,K 122 m4 m.2)::(20,A 2 i64 a.1 0)::(6,bx 34 (By c g e h d))::(7,bx 36 (p8 true o8 b.1))::W1)) (by kernel_rfl) rfl<|v H
   exact vK<|S9 20 (Z (G5 [p 8 (M i64 a.1),p 32 (B (true&&decide (0 < (vl (b9 a.2 6)).1)))]) ((500000,bx 122 (p8 false m4 (vl (b9 a.2 6)).2))::(6,bx 34 (By c g e h d))::(7,bx 36 (p8 true o8 b.1))::W1)) (by kernel_rfl) rfl<|v H
  refine Jv [0,2,3,6,7,8,32] H fun H=>fQ<|cD H (fun H=>zD (fun n=>Z (G5 [p 8 (O 34)]) ((34,A 2 i64 n 0)::(20,A 2 i64 a.1 0)::(500000,K 122 m4 a.2)::(6,bx 34 (By c g e h d))::(7,bx 36 (p8 true o8 b.1))::W1)) H fun n H=>S9 34 (Z (G5 [p 8 (M i64 n)]) ((20,A 2 i64 a.1 0)::(500000,K 122 m4 a.2)::(6,bx 34 (By c g e h d))::(7,bx 36 (p8 true o8 b.1))::W1)) (by kernel_rfl) rfl<|v H) fun H=>vK<|S9 20 (Z (G5 [p 8 (M i64 a.1),p 32 (B (false&&false))]) ((500000,K 122 m4 a.2)::(6,bx 34 (By c g e h d))::(7,bx 36 (p8 true o8 b.1))::W1)) (by kernel_rfl) rfl<|v H
 refine qD (fun w=>Z (G5 [p 15 (B (w.1==0))]) ((500000,K 122 m4 w.2)::(7,bx 36 (p8 true o8 b.1))::(6,bx 34 (Q0 G.1))::W1)) H fun w H=>cD H (fun H=>iE h61 1 [0,2,3,6,7] H fun k hp61 H=>H6 H fun H=>S9 17 (Z (G5 []) ((6,bx 34 [L y64 k.1.1,M y139 k.1.2.1.1,M Ty.str k.1.2.1.2.1,M y202 k.1.2.1.2.2,AV.os 1017 0])::(1017,A 153 l9 k.1.2.2 0)::(500000,bx 122 (p8 false m4 (P0 k)))::(7,bx 36 (p8 true o8 b.1))::W1)) (by kernel_rfl) rfl<|S9 1017 (Z (G5 []) ((6,bx 34 (Q0 k.1))::(500000,bx 122 (p8 false m4 (P0 k)))::(7,bx 36 (p8 true o8 b.1))::W1)) (by kernel_rfl) rfl<|E H) fun H=>vK<|E H
abbrev P8(_:w9 [.dat (b8.sl)]):Prop:=True
def R8(r:j6×o5×List Int×List m8):AV:=AV.tup [AV.agg (Q0 r.1),AV.agg (Q6 r.2.1),M i64 r.2.2.1,M y53 r.2.2.2]
def Z8(_:j6×o5×List Int×List m8):B1 [.dat (b8.sl)]:=()
def K8:Prop:=kE prog 8 [.dat (b8.sl)] P8 T8 R8 Z8
def u8[Alw](b:List Int):Option Unit :=
 gd ((Hk b).isSome/\True)<|lt (vl (Hk b)) fun c =>
 gd (True/\MX (c,()))<|Alw.alp (V4 [Par.io 122 m4] MP MY Hw) fun(a:(j6×o5×List Int×List m8×l5)) =>
 gd (True) <|
 gd (T8 (a.1,a.2.1,a.2.2.1,a.2.2.2.1))<|some ()
theorem e8[Alw](h28:QV)(hF:∀x,Xv.wfs [.dat (b8.sl)] x->P8 x->u8 x.1=some ()):K8:=by
 refine FE (f:=8) (ps:=[.dat (b8.sl)]) (pre:=P8) (post:=T8) (R:=R8) (Z:=Z8) (F:=fun x=>u8 x.1) L9 [.cell 2 34,.cell 3 36,.tmp 4,.tmp 5] hF func8 ntmps8 rfl results8 (by kernel_rfl) rfl ?_;intro y ⟨_,_⟩ r H hB Q hn hr;have:=hz (tc o27 tn);refine iA [0,2,3]<|qD (fun a=>Z (G8 [p 6 (R 8)]) ((8,bx 122 [L b8 a.1,I a.2.1,I a.2.2])::W1)) H fun a H=>vQ<|iE h28 1 [2,3,4,5] H fun b hp28 H=>H6 H fun H=>fQ<|j0<|hr (b.1,b.2.1,b.2.2.1,b.2.2.2.1) (K9 H).1 (by kernel_rfl)
abbrev QX(_:w9 [.dat (b8.sl)]):Prop:=True
def QY(r:j6×o5×List Int×List m8×u3×Int×Int):AV:=AV.tup [AV.agg (Q0 r.1),AV.agg (Q6 r.2.1),M i64 r.2.2.1,M y53 r.2.2.2.1,AV.agg [M Ty.bool r.2.2.2.2.1.1,M y51 r.2.2.2.2.1.2.1,M y51 r.2.2.2.2.1.2.2],I r.2.2.2.2.2.1,I r.2.2.2.2.2.2]
def VZ(_:j6×o5×List Int×List m8×u3×Int×Int):B1 [.dat (b8.sl)]:=()
def Wa:Prop:=kE prog 20 [.dat (b8.sl)] QX QK QY VZ
def QZ[Alw](c:List Int):Option Unit :=
 gd ((Hk c).isSome/\True)<|lt (vl (Hk c)) fun d =>
 gd (True/\MX (d,()))<|Alw.alp (V4 [Par.io 122 m4] MP MY Hw) fun(a:(j6×o5×List Int×List m8×l5)) =>
 gd (True) <|
 gd ((MN (Hw a) a.1 a.2.1 a.2.2.1 a.2.2.2.1).isSome/\True)<|lt (vl (MN (Hw a) a.1 a.2.1 a.2.2.1 a.2.2.2.1)) fun b =>
 gd ((Hm b.2 a.1 b.1).isSome/\(Mn (vl (Hm b.2 a.1 b.1)).2).isSome/\True)<|lt ((vl (Hm b.2 a.1 b.1),vl (Mn (vl (Hm b.2 a.1 b.1)).2))) fun(e,f) =>
 gd (QK (a.1,a.2.1,a.2.2.1,a.2.2.2.1,b.1,e.1,f.1))<|some ()
theorem e20[Alw](h28:QV)(hF:∀x,Xv.wfs [.dat (b8.sl)] x->QX x->QZ x.1=some ()):Wa:=by
 refine FE (f:=20) (ps:=[.dat (b8.sl)]) (pre:=QX) (post:=QK) (R:=QY) (Z:=VZ) (F:=fun x=>QZ x.1) L9 [.cell 2 34,.cell 3 36,.tmp 4,.tmp 5,.cell 6 44,.tmp 7,.tmp 8] hF func20 ntmps20 rfl results20 (by kernel_rfl) rfl ?_;intro y ⟨_,_⟩ r H hB Q hn hr;have:=hz (tc o48 (tc o47 (tc o46 (tc o27 tn))));refine iA [0,2,3,6]<|qD (fun c=>Z (G8 [p 6 (R 6),p 9 (R 16)]) ((16,bx 122 [L b8 c.1,I c.2.1,I c.2.2])::(6,bx 44 [nil,nil,nil])::W1)) H fun c H=>vQ<|iE h28 1 [2,3,6,9,10,11,12,13] H fun a hp28 H=>H6 H fun H=>fQ<|qD (fun b=>Z (G8 [p 6 (R 6),p 9 (R 16),p 10 (R 10),p 11 (R 11),p 12 (M i64 a.2.2.1),p 13 (M y53 a.2.2.2.1),p 14 (R 14)]) ((14,bx 44 [AV.os 29 0,AV.os 1029 0,M y51 b.1.2.2])::(1029,A 51 y51 b.1.2.1 0)::(29,A 4 Ty.bool b.1.1 0)::(16,K 122 m4 b.2)::(11,bx 36 (p8 true o8 a.2.1))::(10,bx 34 (Q0 a.1))::(6,bx 44 [nil,nil,nil])::W1)) H fun b H=>Vz [29,1029] (Z (G8 [p 6 (R 6),p 9 (R 16),p 10 (R 10),p 11 (R 11),p 12 (M i64 a.2.2.1),p 13 (M y53 a.2.2.2.1),p 14 (R 14)]) ((14,bx 44 (p8 true y44 b.1))::(16,K 122 m4 b.2)::(11,bx 36 (p8 true o8 a.2.1))::(10,bx 34 (Q0 a.1))::(6,bx 44 [nil,nil,nil])::W1))<|qD (fun(e,d)=>Z (G8 [p 4 (M i64 a.2.2.1),p 5 (M y53 a.2.2.2.1),p 6 (R 6),p 7 (I e.1),p 8 (I d.1)]) [(6,bx 44 (p8 true y44 b.1)),(3,bx 36 (p8 true o8 a.2.1)),(2,bx 34 (Q0 a.1)),(16,K 122 m4 d.2),(14,bx 44 (p8 true y44 b.1)),(11,bx 36 (p8 true o8 a.2.1)),(10,bx 34 (Q0 a.1))]) H fun⟨e,d⟩ H =>
  j0<|hr (a.1,a.2.1,a.2.2.1,a.2.2.2.1,b.1,e.1,d.1) (K9 H).1 (by kernel_rfl)
def M0g[Alw]:Unit->Option Bool
 | _ =>
 some false
def N0H[Alw](a:j6×o5×List Int×List m8×u3×Int×Int)(c:Int->Option Bool):Int->Option Bool
 | b =>
 if(decide (b < (a.2.2.2.1.length:Int))) then
  gd (ix b a.2.2.2.1.length/\True) <|
  if((a.2.2.2.1.getD b.toNat (b7 y53)).1 != a.2.2.2.2.2.1) then
   gd (c9 (b+1)/\True) <|
   c (b+1)
  else
   if(a.2.2.2.2.2.2==0) then
    gd (ix b a.2.2.2.1.length/\c9 ((a.2.2.2.1.getD b.toNat (b7 y53)).2.1.1+0)/\ix a.2.2.2.2.2.1 a.2.2.2.2.1.2.1.length/\True) <|
    some ((a.2.2.2.1.getD b.toNat (b7 y53)).2.1.1+0==(a.2.2.2.2.1.2.1.getD a.2.2.2.2.2.1.toNat (b7 y51)).1)
   else
    gd (ix b a.2.2.2.1.length/\c9 ((a.2.2.2.1.getD b.toNat (b7 y53)).2.1.2+0)/\ix a.2.2.2.2.2.1 a.2.2.2.2.1.2.1.length/\True) <|
    some ((a.2.2.2.1.getD b.toNat (b7 y53)).2.1.2+0==(a.2.2.2.2.1.2.1.getD a.2.2.2.2.2.1.toNat (b7 y51)).2)
 else
  M0g ()
def Wb[Alw](a:j6×o5×List Int×List m8×u3×Int×Int):Unit->Option Bool
 | _ =>
 lp (N0H a) 0
def N0I[Alw](a:j6×o5×List Int×List m8×u3×Int×Int)(b:Unit->Option Bool):Unit->Option Bool
 | _ =>
 if(decide ((0:Int)<=0-1)) then
  none
 else
  Wb a ()
def M0f[Alw]:Unit->Option Bool
 | _ =>
 some false
def Wc[Alw](b:j6×o5×List Int×List m8×u3×Int×Int)(c:Int)(d:Int)(e:Int->Option Bool):Int->Option Bool
 | a =>
 if(decide (a < (b.2.2.2.1.length:Int))) then
  gd (ix a b.2.2.2.1.length/\True) <|
  if((b.2.2.2.1.getD a.toNat (b7 y53)).1 != d) then
   gd (c9 (a+1)/\True) <|
   e (a+1)
  else
   if(b.2.2.2.2.2.2==0) then
    gd (ix a b.2.2.2.1.length/\c9 ((b.2.2.2.1.getD a.toNat (b7 y53)).2.1.1+c)/\ix b.2.2.2.2.2.1 b.2.2.2.2.1.2.1.length/\True) <|
    some ((b.2.2.2.1.getD a.toNat (b7 y53)).2.1.1+c==(b.2.2.2.2.1.2.1.getD b.2.2.2.2.2.1.toNat (b7 y51)).1)
   else
    gd (ix a b.2.2.2.1.length/\c9 ((b.2.2.2.1.getD a.toNat (b7 y53)).2.1.2+c)/\ix b.2.2.2.2.2.1 b.2.2.2.2.1.2.1.length/\True) <|
    some ((b.2.2.2.1.getD a.toNat (b7 y53)).2.1.2+c==(b.2.2.2.2.1.2.1.getD b.2.2.2.2.2.1.toNat (b7 y51)).2)
 else
  M0f ()
def Wd[Alw](c:j6×o5×List Int×List m8×u3×Int×Int):Int×Int->Option Bool
 | (b,a) =>
 lp (Wc c a b) 0
def Na[Alw](b:l8)(a:Int)(d:Int×Int×Int->Option Bool):Int->Option Bool
 | c =>
 gd (c9 (a-1)/\True) <|
 d (b.1,c,a-1)
def We[Alw](e:j6×o5×List Int×List m8×u3×Int×Int)(d:List Int×Int)(h:List l8×Int)(i:Int×Int×Int->Option Bool):Int×Int×Int->Option Bool
 | (g,f,a) =>
 if(decide (0<=a)) then
  gd (ix a d.1.length/\a.toNat<d.1.length/\ix (d.1.getD a.toNat 0) h.1.length/\Int.toNat (d.1.getD a.toNat 0)<h.1.length/\True)<|lt (h.1.getD (Int.toNat (d.1.getD a.toNat 0)) (b7 y80)) fun b =>
  gd (ix a d.1.length/\a.toNat<d.1.length/\ix b.1 e.2.2.2.2.1.2.2.length/\(Ji e.1 e.2.1 (d.1.getD a.toNat 0) (e.2.2.2.2.1.2.2.getD b.1.toNat (b7 y51))).isSome/\True)<|lt (vl (Ji e.1 e.2.1 (d.1.getD a.toNat 0) (e.2.2.2.2.1.2.2.getD b.1.toNat (b7 y51)))) fun c =>
  gd (((c.2.2 != 0||b.2.1 != g)=false/\True->ix a d.1.length)/\((c.2.2 != 0||b.2.1 != g)=false/\True->a.toNat<d.1.length)/\((c.2.2 != 0||b.2.1 != g)=false/\True->(Mj e.2.2.1 (d.1.getD a.toNat 0)).isSome)/\True) <|
  if(c.2.2 != 0||b.2.1 != g||vl (Mj e.2.2.1 (d.1.getD a.toNat 0))) then
   some false
  else
   if(e.2.2.2.2.2.2==0) then
    gd (c9 (f+c.1.1)/\True) <|
    Na b a i (f+c.1.1)
   else
    gd (c9 (f+c.1.2)/\True) <|
    Na b a i (f+c.1.2)
 else
  Wd e (g,f)
def u6[Alw](e:List Int):Option Bool :=
 gd ((u7 e).isSome/\True) <|
 if(vl (u7 e)) then
  some true
 else
  gd (True/\QX (e,()))<|Alw.alp (V4 [Par.dat b8.sl] QK QY VZ) fun(a:(j6×o5×List Int×List m8×u3×Int×Int)) =>
  gd (True) <|
  if(Bc (Cz a.1 a.2.1 a.2.2.1 a.2.2.2.1 a.2.2.2.2.1 a.2.2.2.2.2.1 a.2.2.2.2.2.2)) then
   gd (Bc (Cz a.1 a.2.1 a.2.2.1 a.2.2.2.1 a.2.2.2.2.1 a.2.2.2.2.2.1 a.2.2.2.2.2.2)=true/\True)<|lt (vL (Cz a.1 a.2.1 a.2.2.1 a.2.2.2.1 a.2.2.2.2.1 a.2.2.2.2.2.1 a.2.2.2.2.2.2)) fun f =>
   gd ((Hb a.1 a.2.1 a.2.2.1 a.2.2.2.1 a.2.2.2.2.1 a.2.2.2.2.2.1 a.2.2.2.2.2.2).isSome/\True)<|lt (vl (Hb a.1 a.2.1 a.2.2.1 a.2.2.2.1 a.2.2.2.2.1 a.2.2.2.2.2.1 a.2.2.2.2.2.2)) fun c =>
   gd (((f != c.2)=false/\True->(Hc [] c.1).isSome)/\True) <|
   if(f != c.2||!vl (Hc [] c.1)) then
    some false
   else
    if(f != 0) then
     some true
    else
     gd ((Hd a.1).isSome/\True)<|lt (vl (Hd a.1)) fun _ =>
     gd (c9 (0-1)/\True) <|
     lp (N0I a) ()
  else
   gd (Jt (Cz a.1 a.2.1 a.2.2.1 a.2.2.2.1 a.2.2.2.2.1 a.2.2.2.2.2.1 a.2.2.2.2.2.2)=true/\True)<|lt (vR (Cz a.1 a.2.1 a.2.2.1 a.2.2.2.1 a.2.2.2.2.1 a.2.2.2.2.2.1 a.2.2.2.2.2.2)) fun b =>
   gd ((Hb a.1 a.2.1 a.2.2.1 a.2.2.2.1 a.2.2.2.2.1 a.2.2.2.2.2.1 a.2.2.2.2.2.2).isSome/\True)<|lt (vl (Hb a.1 a.2.1 a.2.2.1 a.2.2.2.1 a.2.2.2.2.1 a.2.2.2.2.2.1 a.2.2.2.2.2.2)) fun d =>
   gd (((b.2 != d.2)=false/\True->(Hc b.1 d.1).isSome)/\True) <|
   if(b.2 != d.2||!vl (Hc b.1 d.1)) then
    some false
   else
    if(b.2 != 0) then
     some true
    else
     gd ((Hd a.1).isSome/\True)<|lt (vl (Hd a.1)) fun g =>
     gd (c9 ((b.1.length:Int)-1)/\True) <|
     lp (We a b g) ((a.2.2.2.2.2.1,0,(b.1.length:Int)-1))
def k6[Alw]:Ct:=k8 6 [.dat (b8.sl)] (fun x=>u6 x.1) (fun r:Bool=>B r) (fun _=>())
theorem o6[Alw](h20:Wa):Ok prog k6:=by
 refine k9 [.tmp 2] func6 ?_;intro y ⟨_,_⟩ r H Q hn hr;have:=hz (tc o26 (tc o25 (tc o24 (tc o23 (tc UU (tc o7 tn))))));refine iA [0]<|vQ<|iB [0,25] H fun H=>cD H (fun H=>iA [2]<|j0<|fR<|hr H) fun H=>vK<|fQ<|vQ<|iE h20 1 [3,4,5,6,7,8,9] H fun a hp20 H=>H6 H fun H=>fQ<|sp H (fun H=>?_) (fun H=>?_)
 ·have:=hz (tc O0R (HT.h));refine qD (fun t=>Z (GF a.2.2.1 a.2.2.2.1 a.2.2.2.2.2.1 a.2.2.2.2.2.2 [p 10 (nil),p 11 (I t)]) [(7,bx 44 (p8 true y44 a.2.2.2.2.1)),(4,bx 36 (p8 true o8 a.2.1)),(3,bx 34 (Q0 a.1))]) H fun t H=>iD UU [3,4,5,6,7,8,9,10,11,12,13] H fun _ H=>vQ<|iB [3,4,5,6,7,8,9,10,11,66] H fun H=>cD H (fun H=>iA [2]<|j0<|fR<|hr H) fun H=>vK<|fQ<|vQ<|iA [3,4,5,6,7,8,9,10,68]<|cD H (fun H=>iA [2]<|j0<|fR<|hr H) fun H=>vK<|fQ<|qD (fun l=>Z (GF a.2.2.1 a.2.2.2.1 a.2.2.2.2.2.1 a.2.2.2.2.2.2 [p 10 (nil),p 14 (O 71)]) [(71,A 80 y80 l.1 0),(7,bx 44 (p8 true y44 a.2.2.2.2.1)),(4,bx 36 (p8 true o8 a.2.1)),(3,bx 34 (Q0 a.1))]) H fun l H=>iA [3,4,5,6,7,8,9,10,14,16]<|iA [3,4,5,6,7,8,9,10,14,16,17]<|jN r (fun(_:Unit)=>Z [p 6 (M y53 a.2.2.2.1),p 7 (R 7),p 8 (I a.2.2.2.2.2.1),p 9 (I a.2.2.2.2.2.2),p 16 (I a.2.2.2.2.2.1),p 17 (I 0)] [(7,bx 44 (p8 true y44 a.2.2.2.2.1))]) (Wb a) (fun _ H=>?_) (fun _ z e0 t0=>?_)
  ·refine jN r (fun(_:Unit)=>Z [] []) (M0g) (fun _ H=>?_) (fun _ x e2 q=>?_)
   ·refine iA [2]<|j0<|hr H
   refine iA [6,7,8,9,16,17,23]<|vB<|lX (fun(n:Int)=>Z [p 6 (M y53 a.2.2.2.1),p 7 (R 7),p 8 (I a.2.2.2.2.2.1),p 9 (I a.2.2.2.2.2.2),p 16 (I a.2.2.2.2.2.1),p 17 (I 0),p 23 (I n)] [(7,bx 44 (p8 true y44 a.2.2.2.2.1))]) 0 H fun _ g3 G E s n H=>vQ<|iA [6,7,8,9,16,17,23,137]<|cD H (fun H=>?_) (fun H=>?_)
   ·refine vK<|fQ<|vQ<|vB<|vQ<|iB [6,7,8,9,16,17,23,146] H fun H=>cD H (fun H=>vE<|fE<|fX rfl<|fQ<|jB [6,7,8,9,16,17,23] H fun H=>G H) fun H=>vK<|fQ<|vQ<|iA [6,7,8,17,23,148]<|cD H (fun H=>iB [2] H fun H=>j0<|fR<|l7<|fR<|s<|l7<|q<|hr H) fun H=>vK<|fQ<|iB [2] H fun H=>j0<|l7<|fR<|s<|l7<|q<|hr H
   exact vE<|fE<|E<|fX rfl<|x H
  refine iB [3,4,5,6,7,8,9,10,14,16,17,18] H fun H=>vB<|lX (fun(_:Unit)=>Z (GF a.2.2.1 a.2.2.2.1 a.2.2.2.2.2.1 a.2.2.2.2.2.2 [p 10 (nil),p 14 (O 71),p 16 (I a.2.2.2.2.2.1),p 17 (I 0),p 18 (I (0-1))]) [(71,A 80 y80 l.1 0),(7,bx 44 (p8 true y44 a.2.2.2.2.1)),(4,bx 36 (p8 true o8 a.2.1)),(3,bx 34 (Q0 a.1))]) () H fun _ g1 b1 T t1 _ H=>vQ<|iA [3,4,5,6,7,8,9,10,14,16,17,18,79]<|cd (show(if decide ((0:Int)<=0-1)=true then none else Wb a ())=some r from H) (by kernel_rfl) (fun H=>?_) (fun H=>?_)
  ·exact vK<|fQ<|vQ<|vB<|UN H
  exact vE<|fE<|T<|fX rfl<|z H
 have:=hz (tc O0Q (HT.h));refine qD (fun g=>Z (GF a.2.2.1 a.2.2.2.1 a.2.2.2.2.2.1 a.2.2.2.2.2.2 [p 10 (O 44),p 11 (I g.2)]) [(44,A 2 i64 g.1 0),(7,bx 44 (p8 true y44 a.2.2.2.2.1)),(4,bx 36 (p8 true o8 a.2.1)),(3,bx 34 (Q0 a.1))]) H fun g H=>iD UU [3,4,5,6,7,8,9,10,11,12,13] H fun _ H=>vQ<|iB [3,4,5,6,7,8,9,10,11,66] H fun H=>cD H (fun H=>iA [2]<|j0<|fR<|hr H) fun H=>vK<|fQ<|vQ<|iA [3,4,5,6,7,8,9,10,68]<|cD H (fun H=>iA [2]<|j0<|fR<|hr H) fun H=>vK<|fQ<|iD o24 [3,4,5,6,7,8,9,10,14] H fun m H=>iA [3,4,5,6,7,8,9,10,14,16]<|iA [3,4,5,6,7,8,9,10,14,16,17]<|jN r (fun((i,e):Int×Int)=>Z [p 6 (M y53 a.2.2.2.1),p 7 (R 7),p 8 (I a.2.2.2.2.2.1),p 9 (I a.2.2.2.2.2.2),p 16 (I i),p 17 (I e)] [(7,bx 44 (p8 true y44 a.2.2.2.2.1))]) (Wd a) (fun w H=>?_) (fun _ Y e4 W=>?_)
 ·obtain⟨i,e⟩:=w;refine jN r (fun(_:Unit)=>Z [] []) (M0f) (fun _ H=>?_) (fun _ F e7 o=>?_)
  ·refine iA [2]<|j0<|hr H
  refine iA [6,7,8,9,16,17,23]<|vB<|lX (fun(j:Int)=>Z [p 6 (M y53 a.2.2.2.1),p 7 (R 7),p 8 (I a.2.2.2.2.2.1),p 9 (I a.2.2.2.2.2.2),p 16 (I i),p 17 (I e),p 23 (I j)] [(7,bx 44 (p8 true y44 a.2.2.2.2.1))]) 0 H fun _ g8 b8 e8 v j H=>vQ<|iA [6,7,8,9,16,17,23,137]<|cD H (fun H=>?_) (fun H=>?_)
  ·refine vK<|fQ<|vQ<|vB<|vQ<|iB [6,7,8,9,16,17,23,146] H fun H=>cD H (fun H=>vE<|fE<|fX rfl<|fQ<|jB [6,7,8,9,16,17,23] H fun H=>b8 H) fun H=>vK<|fQ<|vQ<|iA [6,7,8,17,23,148]<|cD H (fun H=>iB [2] H fun H=>j0<|fR<|l7<|fR<|v<|l7<|o<|hr H) fun H=>vK<|fQ<|iB [2] H fun H=>j0<|l7<|fR<|v<|l7<|o<|hr H
  exact vE<|fE<|e8<|fX rfl<|F H
 refine iB [3,4,5,6,7,8,9,10,14,16,17,18] H fun H=>vB<|lX (fun((f,d,b):Int×Int×Int)=>Z (GF a.2.2.1 a.2.2.2.1 a.2.2.2.2.2.1 a.2.2.2.2.2.2 [p 10 (O 44),p 14 (O 71),p 16 (I f),p 17 (I d),p 18 (I b)]) [(71,A 80 y80 m.1 0),(44,A 2 i64 g.1 0),(7,bx 44 (p8 true y44 a.2.2.2.2.1)),(4,bx 36 (p8 true o8 a.2.1)),(3,bx 34 (Q0 a.1))]) ((a.2.2.2.2.2.1,0,(g.1.length:Int)-1)) H fun _ X V P t5 ⟨f,d,b⟩ H=>vQ<|iA [3,4,5,6,7,8,9,10,14,16,17,18,79]<|cD H (fun H=>?_) (fun H=>?_)
 ·refine vK<|fQ<|vQ<|vB<|qD (fun c=>Z (GF a.2.2.1 a.2.2.2.1 a.2.2.2.2.2.1 a.2.2.2.2.2.2 [p 10 (O 44),p 14 (O 71),p 16 (I f),p 17 (I d),p 18 (I b),p 19 (R 19)]) [(19,bx 80 (p8 true y80 c)),(71,A 80 y80 m.1 0),(44,A 2 i64 g.1 0),(7,bx 44 (p8 true y44 a.2.2.2.2.1)),(4,bx 36 (p8 true o8 a.2.1)),(3,bx 34 (Q0 a.1))]) H fun c H=>iD o25 [3,4,5,6,7,8,9,10,14,16,17,18,19,20,22] H fun _ H=>vQ<|iB [3,4,5,6,7,8,9,10,14,17,18,19,20,121] H fun H=>cD H (fun H=>iA [2]<|j0<|fR<|l7<|fR<|t5<|l7<|W<|hr H) fun H=>vK<|fQ<|jN r (fun(k:Int)=>Z (GF a.2.2.1 a.2.2.2.1 a.2.2.2.2.2.1 a.2.2.2.2.2.2 [p 10 (O 44),p 14 (O 71),p 17 (I k),p 18 (I b),p 19 (R 19)]) [(19,bx 80 (p8 true y80 c)),(71,A 80 y80 m.1 0),(44,A 2 i64 g.1 0),(7,bx 44 (p8 true y44 a.2.2.2.2.1)),(4,bx 36 (p8 true o8 a.2.1)),(3,bx 34 (Q0 a.1))]) (Na c b X) (fun k H=>?_) (fun _ u e6 t6=>?_)
  ·refine jA [3,4,5,6,7,8,9,10,14,16,17,18]<|fK<|fQ<|jB [3,4,5,6,7,8,9,10,14,16,17,18] H fun H=>V H
  refine iA [3,4,5,6,7,8,9,10,14,17,18,19,20,123]<|cD H (fun H=>jB [3,4,5,6,7,8,9,10,14,17,18,19] H fun H=>u H) fun H=>jB [3,4,5,6,7,8,9,10,14,17,18,19] H fun H=>u H
 exact vE<|fE<|P<|fX rfl<|Y H
end Go.Proofs.YtdjgagoledoaaaaGreatDoor
end
