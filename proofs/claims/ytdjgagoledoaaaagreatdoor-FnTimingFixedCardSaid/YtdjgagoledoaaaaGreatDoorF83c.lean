/- Functions of this program as plain functions of data, and that they are so: printed by program. -/
import Derived.Test.YtdjgagoledoaaaaGreatDoorF83b
section
namespace Go.Proofs.YtdjgagoledoaaaaGreatDoor
open Go Go.Proofs Go.Proofs.Sv Go.Proofs.Xv Go.Proofs.Xl Go.RowKit
open Tryz
def u9(c:j7)(b:p7)(d:List Int)(a:List m6):Option (B3×Int) :=
 if(FG (BT c b d a)) then
  gd (FG (BT c b d a)=true/\True) <|
  if(vL (BT c b d a) != 0) then
   some ((([],[],[]),vL (BT c b d a)))
  else
   none
 else
  gd (Qn (BT c b d a)=true/\True)<|lt (vR (BT c b d a)) fun e =>
  if(e.2.2 != 0) then
   some ((([],[],[]),e.2.2))
  else
   gd ((Ht e.1 b a e.2.1).isSome/\True)<|lt (vl (Ht e.1 b a e.2.1)) fun f =>
   if(!f.2) then
    some ((([],[],[]),(3:Int)))
   else
    some ((f.1,(0:Int)))
def k9:Ct:=j9 9 [.agg k8,.agg p5,.dat i64.sl,.dat y53.sl] (fun x=>u9 x.1 x.2.1 x.2.2.1 x.2.2.2.1) (fun r:B3×Int=>AV.tup [AV.agg [AV.ow 4 true Ty.bool r.1.1,AV.ow 51 true y51 r.1.2.1,AV.ow 51 true y51 r.1.2.2],I r.2]) (fun _=>())
theorem o9:Ok prog k9:=by
 refine k6 [.cell 8 44,.tmp 9] func9 ?_;intro y ⟨c,d,_,e,_⟩ r H Q hn hr;have:=hz (tc o30 tn);refine iA [2,3,4,5,8]<|sp H (fun H=>?_) (fun H=>?_)
 ·have:=hz (tc K0A (HT.h));refine iB [3,5,8,10,11,12] H fun H=>vQ<|iA [3,5,8,10,11,12,25]<|cD H (fun H=>iA [8,9]<|j0<|fR<|hr H) fun H=>vK<|fQ<|UD H
 have:=hz (tc K0z (HT.h));refine qD (fun b=>Z [p 3 (L y53 e),p 5 (R 5),p 8 (R 8),p 10 (D y104.pt b.1),p 11 (O 20),p 12 (I b.2.2)] (KS b.2.1 d c)) H fun b H=>vQ<|iA [3,5,8,10,11,12,25]<|cD H (fun H=>iA [8,9]<|j0<|fR<|hr H) fun H=>vK<|fQ<|qD (fun a=>Z [p 8 (R 8),p 13 (R 13),p 14 (B a.2)] ((13,bx 44 [AV.os 33 0,AV.os 1033 0,AV.os 2033 0])::(2033,A 51 y51 a.1.2.2 0)::(1033,A 51 y51 a.1.2.1 0)::(33,A 4 Ty.bool a.1.1 0)::KS b.2.1 d c)) H fun a H=>vQ<|iA [8,13,37]<|cD H (fun H=>iA [8,9]<|j0<|fR<|hr H) fun H=>vK<|fQ<|iA [8,9]<|j0<|hr H
def BU(b:j7)(g:p7)(c:List Int)(e:List m6)(h:B3):Option (Int ⊕ F4×List Int×Int) :=
 gd ((AF b).isSome/\((!vl (AF b))=false/\True->(Hm g).isSome)/\True) <|
 if(!vl (AF b)||!vl (Hm g)) then
  some (Sum.inl 1)
 else
  gd ((CA b).isSome/\True)<|lt (vl (CA b)) fun a =>
  gd ((true=true/\True->(GZ a h).isSome)/\True) <|
  if(true&&!vl (GZ a h)) then
   some (Sum.inl 1)
  else
   gd ((Dx a c).isSome/\((!vl (Dx a c))=false/\True->(Ho a e).isSome)/\True) <|
   if(!vl (Dx a c)||!vl (Ho a e)) then
    some (Sum.inl 2)
   else
    gd ((Hp a c).isSome/\True)<|lt (vl (Hp a c)) fun d =>
    gd ((Hr d).isSome/\True)<|lt (vl (Hr d)) fun f =>
    if(!f.2) then
     some (Sum.inl 7)
    else
     some (Sum.inr (d,f.1,(0:Int)))
def k29:Ct:=j9 29 [.agg k8,.agg p5,.dat i64.sl,.dat y53.sl,.dat y44.pt] (fun x=>BU x.1 x.2.1 x.2.2.1 x.2.2.2.1 x.2.2.2.2.1) (two (fun r:Int=>AV.tup (OL r)) (fun r:F4×List Int×Int=>AV.tup [D y104.pt r.1,AV.ow 2 true i64 r.2.1,I r.2.2])) (fun _=>())
def P0h:Ct:=Qk 29 [.agg k8,.agg p5,.dat i64.sl,.dat y53.sl,.dat y44.pt] (fun x=>BU x.1 x.2.1 x.2.2.1 x.2.2.2.1 x.2.2.2.2.1) (fun r:Int=>AV.tup (OL r)) ()
def P0g:Ct:=Ql 29 [.agg k8,.agg p5,.dat i64.sl,.dat y53.sl,.dat y44.pt] (fun x=>BU x.1 x.2.1 x.2.2.1 x.2.2.2.1 x.2.2.2.2.1) (fun r:F4×List Int×Int=>AV.tup [D y104.pt r.1,AV.ow 2 true i64 r.2.1,I r.2.2]) ()
theorem o29:Ok prog k29:=by
 refine k6 [.tmp 10,.tmp 11,.tmp 12] func29 ?_;intro y ⟨b,d,f,g,h,_⟩ r H Q hn hr;have:=hz (tc o68 (tc o67 (tc o66 (tc o65 (tc Uc (tc Uq (tc o54 (tc UJ tn))))))));refine iA [2,3,4,5,6]<|vQ<|iB [2,3,4,5,24] H fun H=>cD H (fun H=>iA [10,11,12]<|j0<|fR<|hr H) fun H=>vK<|fQ<|qD (fun e=>Z [p 2 (L i64 f),p 3 (L y53 g),p 4 (D y44.pt h),p 13 (D y157.pt e)] (Dm d b)) H fun e H=>vQ<|vB<|iB [2,3,13,27] H fun H=>cD H (fun H=>iA [10,11,12]<|j0<|l9<|fR<|hr H) fun H=>iB [2,13,38] H fun H=>cD H (fun H=>iA [10,11,12]<|j0<|l9<|fR<|hr H) fun H=>vK<|fK<|fQ<|qD (fun a=>Z [p 14 (D y104.pt a)] (Dm d b)) H fun a H=>qD (fun c=>Z [p 14 (D y104.pt a),p 15 (O 54),p 16 (B c.2)] ((54,A 2 i64 c.1 0)::Dm d b)) H fun c H=>vQ<|iA [14,15,58]<|cD H (fun H=>iA [10,11,12]<|j0<|fR<|hr H) fun H=>vK<|fQ<|iA [10,11,12]<|j0<|hr H
theorem N0w:Ok prog P0h:=L0R o29
theorem N0v:Ok prog P0g:=L0Q o29
def Ju(e:j7)(b:p7)(f:List Int)(a:List m6)(c:B3)(h:Int):Option (Bool×m6×Int) :=
 if(FG (BU e b f a c)) then
  gd (FG (BU e b f a c)=true/\True) <|
  if(vL (BU e b f a c) != 0) then
   some ((false,((0:Int),((0:Int),(0:Int)),(0:Int),(0:Int)),vL (BU e b f a c)))
  else
   none
 else
  gd (Qn (BU e b f a c)=true/\True)<|lt (vR (BU e b f a c)) fun g =>
  if(g.2.2 != 0) then
   some ((false,((0:Int),((0:Int),(0:Int)),(0:Int),(0:Int)),g.2.2))
  else
   gd ((Y4 g.1.1 h).isSome/\True) <|
   if(!vl (Y4 g.1.1 h)) then
    some ((false,((0:Int),((0:Int),(0:Int)),(0:Int),(0:Int)),(4:Int)))
   else
    gd ((CF g.1 b a c h).isSome/\True)<|lt (vl (CF g.1 b a c h)) fun d =>
    gd ((d.1=true/\True->(K5 d.2.2.1).isSome)/\True) <|
    if(d.1&&!vl (K5 d.2.2.1)) then
     some ((false,((0:Int),((0:Int),(0:Int)),(0:Int),(0:Int)),(3:Int)))
    else
     some ((d.1,d.2,(0:Int)))
def k14:Ct:=j9 14 [.agg k8,.agg p5,.dat i64.sl,.dat y53.sl,.agg y44,.dat i64] (fun x=>Ju x.1 x.2.1 x.2.2.1 x.2.2.2.1 x.2.2.2.2.1 x.2.2.2.2.2.1) (fun r:Bool×m6×Int=>AV.tup [B r.1,AV.agg (OK r.2.1),I r.2.2]) (fun _=>())
theorem o14:Ok prog k14:=by
 refine k6 [.tmp 12,.cell 13 53,.tmp 14] func14 ?_;intro y ⟨c,d,i,e,g,f,_⟩ r H Q hn hr;have:=hz (tc LC (tc o42 (tc o41 tn)));refine vQ<|zX K4 (HT.h) 2 [2,3,5,6,7,10,13] (y44) (Z [p 2 (L i64 i),p 3 (L y53 e),p 5 (J f),p 6 (R 6),p 7 (R 7),p 10 (D y44.pt g),p 13 (R 13)] [(13,bx 53 (Di 0 0 0 0 0)),(7,K 36 p5 d),(6,K 34 k8 c)]) (V:=True) (W:=True) (by kernel_rfl) ⟨trivial,trivial⟩<|fQ<|sp H (fun H=>?_) (fun H=>?_)
 ·have:=hz (tc N0w (HT.h));refine iB [3,5,7,10,13,15,17] H fun H=>vQ<|vB<|iA [3,5,7,10,13,15,17,29]<|cD H (fun H=>iA [12,13,14]<|j0<|l9<|fR<|hr H) fun H=>UD H
 have:=hz (tc N0v (HT.h));refine qD (fun a=>Z [p 3 (L y53 e),p 5 (J f),p 7 (R 7),p 10 (D y44.pt g),p 13 (R 13),p 15 (D y104.pt a.1),p 17 (I a.2.2)] [(25,A 2 i64 a.2.1 0),(13,bx 53 (Di 0 0 0 0 0)),(7,K 36 p5 d),(6,K 34 k8 c)]) H fun a H=>vQ<|vB<|iA [3,5,7,10,13,15,17,29]<|cD H (fun H=>iA [12,13,14]<|j0<|l9<|fR<|hr H) fun H=>iB [3,5,7,10,13,15,34] H fun H=>cD H (fun H=>iA [12,13,14]<|j0<|l9<|fR<|hr H) fun H=>vK<|fK<|fQ<|qD (fun b=>Z [p 13 (R 13),p 18 (B b.1),p 19 (R 19)] [(19,bx 53 (o8 true y53 b.2)),(25,A 2 i64 a.2.1 0),(13,bx 53 (Di 0 0 0 0 0)),(7,K 36 p5 d),(6,K 34 k8 c)]) H fun b H=>vQ<|iB [13,18,19,58] H fun H=>cD H (fun H=>iA [12,13,14]<|j0<|fR<|hr H) fun H=>vK<|fQ<|iA [12,13,14]<|j0<|hr H
def Qo(a:Int->Option ByteArray)(b:Int):Option ByteArray :=
 if(decide (b<0)) then
  gd (c9 (-b)/\(a (-b)).isSome/\(ByteArray.mk #[45]).size+(vl (a (-b))).size<=9223372036854775807/\True)<|lt (vl (a (-b))) fun d =>
  some (ByteArray.mk #[45]++d)
 else
  if(decide (b<10)) then
   gd (c9 (48+b)/\True/\0<[(48+b) % 256].length/\True) <|
   some (strOfNums [(48+b) % 256])
  else
   gd ((0:Int) < (10:Int)/\(a (b.tdiv (10:Int))).isSome/\(0:Int) < (10:Int)/\c9 ((48:Int)+b.tmod (10:Int))/\True/\0<[((48:Int)+b.tmod (10:Int)) % (256:Int)].length/\(vl (a (b.tdiv (10:Int)))).size+(strOfNums [((48:Int)+b.tmod (10:Int)) % (256:Int)]).size<=9223372036854775807/\True)<|lt (vl (a (b.tdiv 10))) fun c =>
   some (c++strOfNums [(48+b.tmod 10) % 256])
theorem K0J(g167:Int->Option ByteArray)(Vp:Ok prog (j9 167 [.dat i64] (fun x=>g167 x.1) (fun r=>S r) (fun _=>()))):Ok prog (j9 167 [.dat i64] (fun x=>Qo g167 x.1) (fun r:ByteArray=>S r) (fun _=>())):=by
 refine k6 [.tmp 2] func167 ?_;intro y ⟨b,_⟩ r H Q hn hr;have:=hz (tc Vp tn);refine iA [0]<|vQ<|iA [0,4]<|cD H (fun H=>qD (fun c=>Z [p 2 (S (ByteArray.mk #[45]++c))] []) H fun c H=>j0<|fR<|hr H) fun H=>vK<|fQ<|vQ<|iA [0,10]<|cD H (fun H=>iB [2] H fun H=>j0<|fR<|hr H) fun H=>vK<|fQ<|qD (fun a=>Z [p 2 (S (a++strOfNums [(48+b.tmod 10) % 256]))] [(23,A 5 b8 [(48+b.tmod 10) % 256] 0)]) H fun a H=>j0<|hr H
def Jv:Nat->Int->Option ByteArray
 | 0,_=>none
 | m+1,n=>Qo (Jv m) n
theorem H0S:∀m,Ok prog (j9 167 [.dat i64] (fun x=>Jv m x.1) (fun r=>S r) (fun _=>()))
 | 0=>⟨by kernel_rfl,fun _ hq=>by cases hq⟩
 | m+1=>K0J (Jv m) (H0S m)
def CG(n:Int):Option ByteArray:=Jv 25 n
def Q0p:Ct:=j9 167 [.dat i64] (fun x=>CG x.1) (fun r=>S r) (fun _=>())
theorem Vp:Ok prog Q0p:=H0S 25
def FH:List m6×List Int×Int×Int->Option (List m6×l6)
 | (a,c,b,d) =>
 some (a,c,b,d)
def Qp:List m6×List Int×Int×Int->Option (List m6×l6)
 | (a,d,e,f) =>
 if(decide (0 < (a.length:Int))) then
  gd ((c8 (d,e,f) (a.length:Int)).isSome/\True)<|lt (vl (c8 (d,e,f) (a.length:Int))) fun b =>
  gd ((c8 b.2 30).isSome/\True)<|lt (vl (c8 b.2 30)) fun c =>
  if(c.1==0) then
   gd (ix (0:Int) a.length/\Int.toNat (0:Int)<a.length/\ix b.1 a.length/\b.1.toNat<a.length/\True)<|lt (a.set b.1.toNat ((a.getD (Int.toNat (0:Int)) (b7 y53)).1,(a.getD b.1.toNat (b7 y53)).2)) fun g =>
   FH (g,c.2.1,c.2.2.1,c.2.2.2)
  else
   if(c.1==1) then
    gd (ix b.1 a.length/\b.1.toNat<a.length/\c9 ((a.getD b.1.toNat (b7 y53)).2.1.2+1)/\ix b.1 a.length/\b.1.toNat<a.length/\True)<|lt (a.set b.1.toNat ((a.getD b.1.toNat (b7 y53)).1,((a.getD b.1.toNat (b7 y53)).2.1.2+1,(a.getD b.1.toNat (b7 y53)).2.1.2),(a.getD b.1.toNat (b7 y53)).2.2)) fun h =>
    FH (h,c.2.1,c.2.2.1,c.2.2.2)
   else
    if(c.1==2) then
     gd (ix b.1 a.length/\b.1.toNat<a.length/\True)<|lt (a.set b.1.toNat ((a.getD b.1.toNat (b7 y53)).1,(a.getD b.1.toNat (b7 y53)).2.1,-1,(a.getD b.1.toNat (b7 y53)).2.2.2)) fun i =>
     FH (i,c.2.1,c.2.2.1,c.2.2.2)
    else
     if(c.1==3) then
      gd (ix b.1 a.length/\b.1.toNat<a.length/\True)<|lt (a.set b.1.toNat ((a.getD b.1.toNat (b7 y53)).1,((a.getD b.1.toNat (b7 y53)).2.1.1,(1000000000:Int)),(a.getD b.1.toNat (b7 y53)).2.2)) fun j =>
      FH (j,c.2.1,c.2.2.1,c.2.2.2)
     else
      FH (a,c.2.1,c.2.2.1,c.2.2.2)
 else
  FH (a,d,e,f)
def Vq(e:Int)(f:Int×List m6×List Int×Int×Int->Option (List m6×l6)):List m6×List Int×Int×Int->Option (List m6×l6)
 | (a,b,d,c) =>
 gd (c9 (e+1)/\True) <|
 f (e+1,a,b,d,c)
def Bj(a:Int)(f:Int×List m6×List Int×Int×Int->Option (List m6×l6)):List m6×List Int×Int×Int->Option (List m6×l6)
 | (c,b,e,d) =>
 gd (c9 (a+1)/\True) <|
 f (a+1,c,b,e,d)
def G0g(i:Int)(y:List D2)(z:Int×List m6×List Int×Int×Int->Option (List m6×l6))(t:Int×List m6×List Int×Int×Int->Option (List m6×l6)):Int×List m6×List Int×Int×Int->Option (List m6×l6)
 | (d,j,c,b,a) =>
 if(decide (d<2)) then
  gd (True)<|if(decide ((y.getD i.toNat (b7 r4)).1<0)&&(y.getD i.toNat (b7 r4)).2.2.2) then
   gd ((c8 (c,b,a) 8).isSome/\True)<|gd (True)<|if(true&&decide (0 < (vl (c8 (c,b,a) 8)).1)) then
    gd (True)<|gd (True) <|
    if(true||false) then
     gd ((c8 (vl (c8 (c,b,a) 8)).2 200).isSome/\c9 ((vl (c8 (vl (c8 (c,b,a) 8)).2 200)).1-50)/\(c8 (vl (c8 (vl (c8 (c,b,a) 8)).2 200)).2 30).isSome/\True)<|lt ((vl (c8 (vl (c8 (c,b,a) 8)).2 200),vl (c8 (vl (c8 (vl (c8 (c,b,a) 8)).2 200)).2 30),vl (c8 (c,b,a) 8))) fun(m,g,_) =>
     gd (c9 (2*i)/\c9 (2*i+d)/\(c8 g.2 40).isSome/\c9 (m.1-50+(vl (c8 g.2 40)).1)/\(c8 (vl (c8 g.2 40)).2 12).isSome/\c9 (g.1+(vl (c8 (vl (c8 g.2 40)).2 12)).1)/\(j.length+[(2*i+d,(m.1-50,m.1-50+(vl (c8 g.2 40)).1),g.1,g.1+(vl (c8 (vl (c8 g.2 40)).2 12)).1)].length<=9223372036854775807/\(j.length+[(2*i+d,(m.1-50,m.1-50+(vl (c8 g.2 40)).1),g.1,g.1+(vl (c8 (vl (c8 g.2 40)).2 12)).1)].length)*40<=140737488355328)/\True)<|lt ((vl (c8 g.2 40),vl (c8 (vl (c8 g.2 40)).2 12),j++[(2*i+d,(m.1-50,m.1-50+(vl (c8 g.2 40)).1),g.1,g.1+(vl (c8 (vl (c8 g.2 40)).2 12)).1)],[(2*i+d,(m.1-50,m.1-50+(vl (c8 g.2 40)).1),g.1,g.1+(vl (c8 (vl (c8 g.2 40)).2 12)).1)])) fun(_,r,v,_) =>
     Bj d t (v,r.2.1,r.2.2.1,r.2.2.2)
    else
     Bj d t ((j,(vl (c8 (c,b,a) 8)).2.1,(vl (c8 (c,b,a) 8)).2.2.1,(vl (c8 (c,b,a) 8)).2.2.2))
   else
    gd ((c8 (vl (c8 (c,b,a) 8)).2 24).isSome/\True)<|gd (True) <|
    if(false||(vl (c8 (vl (c8 (c,b,a) 8)).2 24)).1==0) then
     gd ((c8 (vl (c8 (vl (c8 (c,b,a) 8)).2 24)).2 200).isSome/\c9 ((vl (c8 (vl (c8 (vl (c8 (c,b,a) 8)).2 24)).2 200)).1-50)/\(c8 (vl (c8 (vl (c8 (vl (c8 (c,b,a) 8)).2 24)).2 200)).2 30).isSome/\True)<|lt ((vl (c8 (vl (c8 (vl (c8 (c,b,a) 8)).2 24)).2 200),vl (c8 (vl (c8 (vl (c8 (vl (c8 (c,b,a) 8)).2 24)).2 200)).2 30),vl (c8 (c,b,a) 8),vl (c8 (vl (c8 (c,b,a) 8)).2 24))) fun(n,e,_,_) =>
     gd (c9 (2*i)/\c9 (2*i+d)/\(c8 e.2 40).isSome/\c9 (n.1-50+(vl (c8 e.2 40)).1)/\(c8 (vl (c8 e.2 40)).2 12).isSome/\c9 (e.1+(vl (c8 (vl (c8 e.2 40)).2 12)).1)/\(j.length+[(2*i+d,(n.1-50,n.1-50+(vl (c8 e.2 40)).1),e.1,e.1+(vl (c8 (vl (c8 e.2 40)).2 12)).1)].length<=9223372036854775807/\(j.length+[(2*i+d,(n.1-50,n.1-50+(vl (c8 e.2 40)).1),e.1,e.1+(vl (c8 (vl (c8 e.2 40)).2 12)).1)].length)*40<=140737488355328)/\True)<|lt ((vl (c8 e.2 40),vl (c8 (vl (c8 e.2 40)).2 12),j++[(2*i+d,(n.1-50,n.1-50+(vl (c8 e.2 40)).1),e.1,e.1+(vl (c8 (vl (c8 e.2 40)).2 12)).1)],[(2*i+d,(n.1-50,n.1-50+(vl (c8 e.2 40)).1),e.1,e.1+(vl (c8 (vl (c8 e.2 40)).2 12)).1)])) fun(_,o,w,_) =>
     Bj d t (w,o.2.1,o.2.2.1,o.2.2.2)
    else
     Bj d t ((j,(vl (c8 (vl (c8 (c,b,a) 8)).2 24)).2.1,(vl (c8 (vl (c8 (c,b,a) 8)).2 24)).2.2.1,(vl (c8 (vl (c8 (c,b,a) 8)).2 24)).2.2.2))
  else
   gd (True)<|gd (True)<|if(false&&false) then
    gd (True)<|gd (True) <|
    if(true||false) then
     gd ((c8 (c,b,a) 200).isSome/\c9 ((vl (c8 (c,b,a) 200)).1-50)/\(c8 (vl (c8 (c,b,a) 200)).2 30).isSome/\True)<|lt ((vl (c8 (c,b,a) 200),vl (c8 (vl (c8 (c,b,a) 200)).2 30))) fun(k,f) =>
     gd (c9 (2*i)/\c9 (2*i+d)/\(c8 f.2 40).isSome/\c9 (k.1-50+(vl (c8 f.2 40)).1)/\(c8 (vl (c8 f.2 40)).2 12).isSome/\c9 (f.1+(vl (c8 (vl (c8 f.2 40)).2 12)).1)/\(j.length+[(2*i+d,(k.1-50,k.1-50+(vl (c8 f.2 40)).1),f.1,f.1+(vl (c8 (vl (c8 f.2 40)).2 12)).1)].length<=9223372036854775807/\(j.length+[(2*i+d,(k.1-50,k.1-50+(vl (c8 f.2 40)).1),f.1,f.1+(vl (c8 (vl (c8 f.2 40)).2 12)).1)].length)*40<=140737488355328)/\True)<|lt ((vl (c8 f.2 40),vl (c8 (vl (c8 f.2 40)).2 12),j++[(2*i+d,(k.1-50,k.1-50+(vl (c8 f.2 40)).1),f.1,f.1+(vl (c8 (vl (c8 f.2 40)).2 12)).1)],[(2*i+d,(k.1-50,k.1-50+(vl (c8 f.2 40)).1),f.1,f.1+(vl (c8 (vl (c8 f.2 40)).2 12)).1)])) fun(_,s,x,_) =>
     Bj d t (x,s.2.1,s.2.2.1,s.2.2.2)
    else
     Bj d t (j,c,b,a)
   else
    gd ((c8 (c,b,a) 24).isSome/\True)<|gd (True) <|
    if(false||(vl (c8 (c,b,a) 24)).1==0) then
     gd ((c8 (vl (c8 (c,b,a) 24)).2 200).isSome/\c9 ((vl (c8 (vl (c8 (c,b,a) 24)).2 200)).1-50)/\(c8 (vl (c8 (vl (c8 (c,b,a) 24)).2 200)).2 30).isSome/\True)<|lt ((vl (c8 (vl (c8 (c,b,a) 24)).2 200),vl (c8 (vl (c8 (vl (c8 (c,b,a) 24)).2 200)).2 30),vl (c8 (c,b,a) 24))) fun(l,h,_) =>
     gd (c9 (2*i)/\c9 (2*i+d)/\(c8 h.2 40).isSome/\c9 (l.1-50+(vl (c8 h.2 40)).1)/\(c8 (vl (c8 h.2 40)).2 12).isSome/\c9 (h.1+(vl (c8 (vl (c8 h.2 40)).2 12)).1)/\(j.length+[(2*i+d,(l.1-50,l.1-50+(vl (c8 h.2 40)).1),h.1,h.1+(vl (c8 (vl (c8 h.2 40)).2 12)).1)].length<=9223372036854775807/\(j.length+[(2*i+d,(l.1-50,l.1-50+(vl (c8 h.2 40)).1),h.1,h.1+(vl (c8 (vl (c8 h.2 40)).2 12)).1)].length)*40<=140737488355328)/\True)<|lt ((vl (c8 h.2 40),vl (c8 (vl (c8 h.2 40)).2 12),j++[(2*i+d,(l.1-50,l.1-50+(vl (c8 h.2 40)).1),h.1,h.1+(vl (c8 (vl (c8 h.2 40)).2 12)).1)],[(2*i+d,(l.1-50,l.1-50+(vl (c8 h.2 40)).1),h.1,h.1+(vl (c8 (vl (c8 h.2 40)).2 12)).1)])) fun(_,q,u,_) =>
     Bj d t (u,q.2.1,q.2.2.1,q.2.2.2)
    else
     Bj d t ((j,(vl (c8 (c,b,a) 24)).2.1,(vl (c8 (c,b,a) 24)).2.2.1,(vl (c8 (c,b,a) 24)).2.2.2))
 else
  Vq i z (j,c,b,a)
def G0h(b:List D2)(g:Int×List m6×List Int×Int×Int->Option (List m6×l6)):Int×List m6×List Int×Int×Int->Option (List m6×l6)
 | (a,e,f,c,d) =>
 if(decide (a < (b.length:Int))) then
  gd (ix a b.length/\a.toNat<b.length/\(decide ((b.getD a.toNat (b7 r4)).1<0)=true/\True->ix a b.length)/\(decide ((b.getD a.toNat (b7 r4)).1<0)=true/\True->a.toNat<b.length)/\True) <|
  lp (G0g a b g) (0,e,f,c,d)
 else
  Qp (e,f,c,d)
def u64(a:l6)(b:j7):Option (List m6×l6) :=
 gd ((U7 b).isSome/\True) <|
 if(!vl (U7 b)) then
  some ([],a)
 else
  gd ((I6 b.2.1).isSome/\True)<|lt (vl (I6 b.2.1)) fun c =>
  lp (G0h c) (0,[],a.1,a.2.1,a.2.2)
def k64:Ct:=j9 64 [.io 122 m4,.agg k8] (fun x=>u64 x.1 x.2.1) (fun r:List m6×l6=>AV.ow 53 true y53 r.1) (fun r=>r.2)
theorem o64:Ok prog k64:=by
 refine k6 [.tmp 4] func64 ?_;intro y ⟨a0,a1,_⟩ r H Q hn hr;have:=hz (tc AI (tc Fq (tc Ja tn)));refine iA [0,3]<|iA [0,3,5]<|vQ<|iB [0,3,5,16] H fun H=>cD H (fun H=>iA [4]<|j0<|fR<|hr H) fun H=>vK<|fQ<|qD (fun c=>Z [p 0 (R 500000),p 5 (O 13),p 6 (O 20)] [(20,A 190 r4 c 0),(13,A 53 y53 [] 0),(3,K 34 k8 a1),(500000,K 122 m4 a0)]) H fun c H=>jN r (fun((j,F,aF,u):List m6×List Int×Int×Int)=>Z [p 0 (R 500000),p 5 (O 13)] [(13,A 53 y53 j 0),(500000,bx 122 (A5 F aF u))]) (Qp) (fun⟨j,F,aF,u⟩ H=>?_) (fun _ n0 e0 t0=>?_)
 ·refine jN r (fun((aA,x,v,aH):List m6×List Int×Int×Int)=>Z [p 5 (O 13)] [(13,A 53 y53 aA 0),(500000,bx 122 (A5 x v aH))]) (FH) (fun⟨aA,x,v,aH⟩ H=>?_) (fun _ n5 e5 t5=>?_)
  ·refine iA [4]<|j0<|hr H
  refine iA [0,5,82]<|cD H (fun H=>?_) (fun H=>?_)
  ·refine qD (fun k=>Z [p 0 (R 500000),p 5 (O 13),p 12 (I k.1)] [(500000,K 122 m4 k.2),(13,A 53 y53 j 0)]) H fun k H=>qD (fun d=>Z [p 5 (O 13),p 12 (I k.1),p 88 (I d.1)] [(500000,K 122 m4 d.2),(13,A 53 y53 j 0)]) H fun d H=>vB<|iA [5,12,88,89]<|cD H (fun H=>zD (fun t=>Z [p 5 (O 13)] [(13,A 53 y53 t 0),(500000,K 122 m4 d.2)]) H fun t H=>fK<|n5 H) fun H=>iA [5,12,88,99]<|cD H (fun H=>zD (fun aS=>Z [p 5 (O 13)] [(13,A 53 y53 aS 0),(500000,K 122 m4 d.2)]) H fun aS H=>fK<|n5 H) fun H=>iA [5,12,88,113]<|cD H (fun H=>zD (fun aD=>Z [p 5 (O 13)] [(13,A 53 y53 aD 0),(500000,K 122 m4 d.2)]) H fun aD H=>fK<|n5 H) fun H=>iA [5,12,120]<|cD H (fun H=>zD (fun aB=>Z [p 5 (O 13)] [(13,A 53 y53 aB 0),(500000,K 122 m4 d.2)]) H fun aB H=>fK<|n5 H) fun H=>vK<|fK<|n5 H
  exact vK<|n5 H
 refine iA [0,5,6,7]<|vB<|lX (fun((a,aW,aX,aZ,aY):Int×List m6×List Int×Int×Int)=>Z (Fm a []) [(20,A 190 r4 c 0),(13,A 53 y53 aW 0),(500000,bx 122 (A5 aX aZ aY))]) (0,[],a0.1,a0.2.1,a0.2.2) H fun _ g1 b1 e1 t1 ⟨a,aW,aX,aZ,aY⟩ H=>vQ<|iA [0,5,6,7,24]<|cD H (fun H=>?_) (fun H=>?_)
 ·refine vK<|fQ<|jN r (fun((aL,aO,V,z):List m6×List Int×Int×Int)=>Z (Fm a []) [(20,A 190 r4 c 0),(13,A 53 y53 aL 0),(500000,bx 122 (A5 aO V z))]) (Vq a g1) (fun⟨aL,aO,V,z⟩ H=>?_) (fun _ n2 e2 t2=>?_)
  ·refine jB [0,5,6,7] H fun H=>b1 H
  refine vB<|iB [0,5,6,7,8] H fun H=>iA [0,5,6,7,8,9]<|vB<|lX (fun((b,e,P,aC,s):Int×List m6×List Int×Int×Int)=>Z (Fm a [p 8 (B (decide ((c.getD a.toNat (b7 r4)).1<0)&&(c.getD a.toNat (b7 r4)).2.2.2)),p 9 (I b)]) [(20,A 190 r4 c 0),(13,A 53 y53 e 0),(500000,bx 122 (A5 P aC s))]) (0,aW,aX,aZ,aY) H fun _ g3 b3 e3 t3 ⟨b,e,P,aC,s⟩ H=>vQ<|iA [0,5,6,7,8,9,41]<|cD H (fun H=>?_) (fun H=>?_)
  ·refine vK<|fQ<|jN r (fun((aN,Y,E,aQ):List m6×List Int×Int×Int)=>Z (Fm a [p 8 (B (decide ((c.getD a.toNat (b7 r4)).1<0)&&(c.getD a.toNat (b7 r4)).2.2.2)),p 9 (I b)]) [(13,A 53 y53 aN 0),(500000,bx 122 (A5 Y E aQ)),(20,A 190 r4 c 0)]) (Bj b g3) (fun⟨aN,Y,E,aQ⟩ H=>?_) (fun _ n4 e4 t4=>?_)
   ·refine jB [0,5,6,7,8,9] H fun H=>b3 H
   refine vB<|vQ<|Vr<|Qq 2 3 [(46,AV.ptr 500000 0),(47,I 0),(48,B false)] H (fun H=>J4 H fun H=>?_) (fun H=>J4 H fun H=>?_)
   ·refine Qq 7 3 [(51,AV.ptr 500000 0),(52,I 0),(53,B false)] H (fun H=>J4 H fun H=>?_) (fun H=>J4 H fun H=>?_)
    ·refine Jw [0,5,6,7,8,9,46,47,48,51,52,53,54] H fun H=>fQ<|cD H (fun H=>?_) (fun H=>?_)
     ·refine qD (fun(T,l,f)=>Z (Fm a [p 8 (B (decide ((c.getD a.toNat (b7 r4)).1<0)&&(c.getD a.toNat (b7 r4)).2.2.2)),p 9 (I b),p 10 (I (T.1-50)),p 11 (I l.1),p 46 (R 500000),p 47 (I f.1),p 48 (B (decide (0<f.1)))]) [(500000,K 122 m4 l.2),(20,A 190 r4 c 0),(13,A 53 y53 e 0)]) H fun⟨T,l,f⟩ H =>
       zD (fun(bA,w,G,aT)=>Z (OO a (decide ((c.getD a.toNat (b7 r4)).1<0)&&(c.getD a.toNat (b7 r4)).2.2.2) b [p 46 (R 500000),p 47 (I f.1),p 48 (B (decide (0<f.1)))]) (OR G aT w.2 c)) H fun⟨bA,w,G,aT⟩ H =>
       fK<|n4 H
     exact vK<|fK<|n4 H
    refine Jw [0,5,6,7,8,9,46,47,48,51,52,53,54] H fun H=>fQ<|cD H (fun H=>?_) (fun H=>?_)
    ·refine qD (fun(aK,o,g,i)=>Z (Fm a [p 8 (B (decide ((c.getD a.toNat (b7 r4)).1<0)&&(c.getD a.toNat (b7 r4)).2.2.2)),p 9 (I b),p 10 (I (aK.1-50)),p 11 (I o.1),p 46 (R 500000),p 47 (I g.1),p 48 (B (decide (0<g.1))),p 51 (R 500000),p 52 (I i.1),p 53 (B (i.1==0))]) [(500000,K 122 m4 o.2),(20,A 190 r4 c 0),(13,A 53 y53 e 0)]) H fun⟨aK,o,g,i⟩ H =>
      zD (fun(bC,aI,aG,q)=>Z (OO a (decide ((c.getD a.toNat (b7 r4)).1<0)&&(c.getD a.toNat (b7 r4)).2.2.2) b [p 46 (R 500000),p 47 (I g.1),p 48 (B (decide (0<g.1))),p 51 (R 500000),p 52 (I i.1),p 53 (B (i.1==0))]) (OR aG q aI.2 c)) H fun⟨bC,aI,aG,q⟩ H =>
      fK<|n4 H
    exact vK<|fK<|n4 H
   refine Qq 7 3 [(51,AV.ptr 500000 0),(52,I 0),(53,B false)] H (fun H=>J4 H fun H=>?_) (fun H=>J4 H fun H=>?_)
   ·refine Jw [0,5,6,7,8,9,46,47,48,51,52,53,54] H fun H=>fQ<|cD H (fun H=>?_) (fun H=>?_)
    ·refine qD (fun(aM,m)=>Z (Fm a [p 8 (B (decide ((c.getD a.toNat (b7 r4)).1<0)&&(c.getD a.toNat (b7 r4)).2.2.2)),p 9 (I b),p 10 (I (aM.1-50)),p 11 (I m.1)]) [(500000,K 122 m4 m.2),(20,A 190 r4 c 0),(13,A 53 y53 e 0)]) H fun⟨aM,m⟩ H =>
      zD (fun(bD,aU,aJ,aV)=>Z (OO a (decide ((c.getD a.toNat (b7 r4)).1<0)&&(c.getD a.toNat (b7 r4)).2.2.2) b []) (OR aJ aV aU.2 c)) H fun⟨bD,aU,aJ,aV⟩ H =>
      fK<|n4 H
    exact vK<|fK<|n4 H
   refine Jw [0,5,6,7,8,9,46,47,48,51,52,53,54] H fun H=>fQ<|cD H (fun H=>?_) (fun H=>?_)
   ·refine qD (fun(aP,n,h)=>Z (Fm a [p 8 (B (decide ((c.getD a.toNat (b7 r4)).1<0)&&(c.getD a.toNat (b7 r4)).2.2.2)),p 9 (I b),p 10 (I (aP.1-50)),p 11 (I n.1),p 51 (R 500000),p 52 (I h.1),p 53 (B (h.1==0))]) [(500000,K 122 m4 n.2),(20,A 190 r4 c 0),(13,A 53 y53 e 0)]) H fun⟨aP,n,h⟩ H =>
     zD (fun(bB,W,aR,X)=>Z (OO a (decide ((c.getD a.toNat (b7 r4)).1<0)&&(c.getD a.toNat (b7 r4)).2.2.2) b [p 51 (R 500000),p 52 (I h.1),p 53 (B (h.1==0))]) (OR aR X W.2 c)) H fun⟨bB,W,aR,X⟩ H =>
     fK<|n4 H
   exact vK<|fK<|n4 H
  exact vE<|fE<|e3<|fX rfl<|fK<|n2 H
 exact vE<|fE<|e1<|fX rfl<|n0 H
abbrev sd(s:l6):Prop:=0<=s.2.1/\0<=s.2.2/\s.2.2<2147483647
abbrev Qr(x:r9 [.io 122 m4,.dat i64,.dat .bool]):Prop:=sd x.1/\2<=x.2.1/\x.2.1<=6
abbrev Qs(r:r8×l6):Prop:=sd r.2/\(r.1.1.length<=6/\∀i∈r.1.1,i.2.2.length<=4)/\(1<=r.1.2.1.length/\r.1.2.1.length<=20)/\(1<=r.1.2.2.length/\r.1.2.2.length<=5)/\Xd.cnt y31 r.1<=2000
abbrev MI(x:r9 [.io 122 m4,.dat i64]):Prop:=sd x.1/\0<=x.2.1/\x.2.1<=40
abbrev Qt(r:x9×l6):Prop:=sd r.2/\1<=r.1.1.length/\1<=r.1.2.1.length/\1<=r.1.2.2.1.length/\Xd.cnt l7 r.1<=60
abbrev FI(x:r9 [.io 122 m4,.dat i64,.dat .bool]):Prop:=sd x.1/\2<=x.2.1/\x.2.1<=6
abbrev Hu(r:j7×l6):Prop:=sd r.2/\1<=r.1.2.2.length/\(∀w∈r.1.2.2,1<=w.1.length/\1<=w.2.1.length/\1<=w.2.2.1.length)/\1<=r.1.2.1.2.2.length/\Xd.cnt k8 r.1<=10000
abbrev Qu(r:j7×l6):Prop:=sd r.2/\Xd.cnt k8 r.1<=20000
abbrev Jx(r:j7×l6):Prop:=sd r.2/\Xd.cnt k8 r.1<=20000
abbrev M0w(c:p7):Prop:=(-10000<=c.2.1/\c.2.1<=10000)/\(-10000<=c.2.2.1/\c.2.2.1<=10000)/\(-10000<=c.2.2.2.1/\c.2.2.2.1<=10000)/\(-10000<=c.2.2.2.2/\c.2.2.2.2<=10000)
abbrev Qv(r:j7×p7×List Int×List m6×l6):Prop:=sd r.2.2.2.2/\Xd.cnt k8 r.1<=20000/\r.2.2.1.length<=20000/\r.2.2.2.1.length<=20000
abbrev T8(r:j7×p7×List Int×List m6):Prop:=Xd.cnt k8 r.1<=20000/\r.2.2.1.length<=20000/\r.2.2.2.length<=20000
def Vs(r:x9×l6):AV:=AV.agg [M i64 r.1.1,M i64 r.1.2.1,M i64 r.1.2.2.1,M i64 r.1.2.2.2]
def Hv(r:x9×l6):B6 [.io 122 m4,.dat i64]:=r.2
def Vt:Prop:=kE prog 121 [.io 122 m4,.dat i64] MI Qt Vs Hv
def Vu[Alw](d:List Int)(f:List Int)(a:List Int):List Int×Int×Int×List Int->Option Unit
 | (e,g,b,c) =>
 gd (Qt (((d,f,a,c),e,g,b)))<|some ()
def B0s[Alw](f:List Int)(i:List Int)(h:List Int)(j:Int×List Int×Int×Int×List Int->Option Unit):Int×List Int×Int×Int×List Int->Option Unit
 | (a,g,e,d,b) =>
 if(decide (a < (b.length:Int))) then
  gd ((c8 (g,e,d) (f.length:Int)).isSome/\ix a b.length/\a.toNat<b.length/\True)<|lt (vl (c8 (g,e,d) (f.length:Int))) fun c =>
  gd (c9 (a+1)/\True) <|
  j (a+1,c.2.1,c.2.2.1,c.2.2.2,b.set a.toNat c.1)
 else
  Vu f i h (g,e,d,b)
def Vv[Alw](g:x9):List Int×Int×Int×List Int×List Int×List Int->Option Unit
 | (c,b,d,e,f,a) =>
 lp (B0s e f a) (0,c,b,d,g.2.2.2)
def B0t[Alw](o:x9)(n:Int×List Int×Int×Int×List Int×List Int×List Int->Option Unit):Int×List Int×Int×Int×List Int×List Int×List Int->Option Unit
 | (h,c,b,d,a,f,e) =>
 if(decide (0<h)) then
  gd ((J8 a).isSome/\(c8 (c,b,d) (a.length:Int)).isSome/\((vl (J8 a)).length+[(vl (c8 (c,b,d) (a.length:Int))).1].length<=9223372036854775807/\((vl (J8 a)).length+[(vl (c8 (c,b,d) (a.length:Int))).1].length)*8<=140737488355328)/\(J8 f).isSome/\(c8 (vl (c8 (c,b,d) (a.length:Int))).2 400).isSome/\((vl (J8 f)).length+[(vl (c8 (vl (c8 (c,b,d) (a.length:Int))).2 400)).1].length<=9223372036854775807/\((vl (J8 f)).length+[(vl (c8 (vl (c8 (c,b,d) (a.length:Int))).2 400)).1].length)*8<=140737488355328)/\(J8 e).isSome/\(c8 (vl (c8 (vl (c8 (c,b,d) (a.length:Int))).2 400)).2 8).isSome/\((vl (J8 e)).length+[(vl (c8 (vl (c8 (vl (c8 (c,b,d) (a.length:Int))).2 400)).2 8)).1].length<=9223372036854775807/\((vl (J8 e)).length+[(vl (c8 (vl (c8 (vl (c8 (c,b,d) (a.length:Int))).2 400)).2 8)).1].length)*8<=140737488355328)/\True)<|lt ((vl (J8 e),vl (c8 (vl (c8 (vl (c8 (c,b,d) (a.length:Int))).2 400)).2 8),vl (J8 f),vl (c8 (vl (c8 (c,b,d) (a.length:Int))).2 400),vl (J8 a),vl (c8 (c,b,d) (a.length:Int)))) fun(l,g,j,m,i,k) =>
  gd (c9 (h-1)/\True) <|
  n (h-1,g.2.1,g.2.2.1,g.2.2.2,i++[k.1],j++[m.1],l++[g.1])
 else
  Vv o (c,b,d,a,f,e)
def Qw[Alw](a:l6)(e:Int):Option Unit :=
 gd ((c8 a 6).isSome/\(MD e (vl (c8 a 6)).1).isSome/\True)<|lt ((vl (MD e (vl (c8 a 6)).1),vl (c8 a 6))) fun(c,d) =>
 gd ((c8 d.2 4).isSome/\True)<|lt (vl (c8 d.2 4)) fun b =>
 lp (B0t c) (b.1,b.2.1,b.2.2.1,b.2.2.2,c.1,c.2.1,c.2.2.1)
theorem R0t[Alw](hF:∀x,Xv.wfs [.io 122 m4,.dat i64] x->MI x->Qw x.1 x.2.1=some ()):Vt:=by
 refine Hw (f:=121) (ps:=[.io 122 m4,.dat i64]) (pre:=MI) (post:=Qt) (R:=Vs) (Z:=Hv) (F:=fun x=>Qw x.1 x.2.1) K4 [.cell 4 153] hF func121 ntmps121 rfl results121 (by kernel_rfl) rfl ?_;intro y ⟨_,_,_⟩ r H hB Q hn hr;have:=hz (tc AI (tc TN (tc O0n tn)));refine iA [0,1,4]<|qD (fun(b,v1)=>Z (BH []) [(5,bx 153 [AV.os 12 0,AV.os 1012 0,AV.os 2012 0,AV.os 3012 0]),(3012,A 2 i64 b.2.2.2 0),(2012,A 2 i64 b.2.2.1 0),(1012,A 2 i64 b.2.1 0),(12,A 2 i64 b.1 0),(500000,K 122 m4 v1.2),(4,bx 153 [nil,nil,nil,nil])]) H fun w H=>?_
 obtain⟨b,v1⟩:=w;refine jN r (fun((u,G,E,h,e,g):List Int×Int×Int×List Int×List Int×List Int)=>Z (BH []) ((500000,bx 122 (A5 u G E))::(5,bx 153 [M i64 h,M i64 e,M i64 g,AV.os 3012 0])::Dk b.2.2.2)) (Vv b) (fun w H=>?_) (fun _ n0 e0 t0=>?_)
 ·obtain⟨u,G,E,h,e,g⟩:=w;refine jN r (fun((o,q,t,z):List Int×Int×Int×List Int)=>Z [p 4 (R 4),p 5 (R 5)] ((500000,bx 122 (A5 o q t))::(5,bx 153 [M i64 h,M i64 e,M i64 g,AV.os 3012 0])::Dk z)) (Vu h e g) (fun⟨o,q,t,z⟩ H=>?_) (fun _ n2 e2 t2=>?_)
  ·refine iA [4]<|j0<|hr (((h,e,g,z),o,q,t)) (K7 H).1 (by kernel_rfl)
  refine iA [0,4,5,8]<|vB<|lX (fun((n,V,W,aA,s):Int×List Int×Int×Int×List Int)=>Z (BH [p 8 (I n)]) ((500000,bx 122 (A5 V W aA))::(5,bx 153 [M i64 h,M i64 e,M i64 g,AV.os 3012 0])::Dk s)) (0,u,G,E,b.2.2.2) H fun _ g3 b3 e3 t3 ⟨n,V,W,aA,s⟩ H=>vQ<|iA [0,4,5,8,51]<|cD H (fun H=>vK<|fQ<|vQ<|vB<|zD (fun v=>Z (BH [p 8 (I n)]) [(3012,A 2 i64 (s.set n.toNat v.1) 0),(500000,K 122 m4 v.2),(5,bx 153 [M i64 h,M i64 e,M i64 g,AV.os 3012 0]),(4,bx 153 [nil,nil,nil,nil])]) H fun v H=>fK<|fQ<|jB [0,4,5,8] H fun H=>b3 H) fun H=>vE<|fE<|e3<|fX rfl<|n2 H
 refine qD (fun m=>Z (BH [p 6 (I m.1)]) [(500000,K 122 m4 m.2),(5,bx 153 [AV.os 12 0,AV.os 1012 0,AV.os 2012 0,AV.os 3012 0]),(3012,A 2 i64 b.2.2.2 0),(2012,A 2 i64 b.2.2.1 0),(1012,A 2 i64 b.2.1 0),(12,A 2 i64 b.1 0),(4,bx 153 [nil,nil,nil,nil])]) H fun m H=>vB<|fZs [12,1012,2012] (Z (BH [p 6 (I m.1)]) ((500000,K 122 m4 m.2)::(5,bx 153 [M i64 b.1,M i64 b.2.1,M i64 b.2.2.1,AV.os 3012 0])::Dk b.2.2.2))<|lX (fun((i,aB,X,aC,Y,P,T):Int×List Int×Int×Int×List Int×List Int×List Int)=>Z (BH [p 6 (I i)]) ((500000,bx 122 (A5 aB X aC))::(5,bx 153 [M i64 Y,M i64 P,M i64 T,AV.os 3012 0])::Dk b.2.2.2)) (m.1,m.2.1,m.2.2.1,m.2.2.2,b.1,b.2.1,b.2.2.1) H fun _ g1 b1 e1 t1 ⟨i,aB,X,aC,Y,P,T⟩ H=>vQ<|iA [0,4,5,6,16]<|cD H (fun H=>?_) (fun H=>?_)
 ·refine vK<|fQ<|vQ<|vB<|iA [0,4,5,6,7]<|zD (fun(l,a,j,c,k,d)=>Z (BH [p 6 (I i)]) ((5,bx 153 [AV.os 24 1,AV.os 32 1,AV.os 39 1,AV.os 3012 0])::(39,A 2 i64 (l++[a.1]) 1)::(42,A 2 i64 [a.1] 0)::(500000,K 122 m4 a.2)::(32,A 2 i64 (j++[c.1]) 1)::(35,A 2 i64 [c.1] 0)::(24,A 2 i64 (k++[d.1]) 1)::(28,A 2 i64 [d.1] 0)::Dk b.2.2.2)) H fun⟨l,a,j,c,k,d⟩ H =>
   fK<|fQ <|
   jB [0,4,5,6] H fun H =>
   CH 24 (Z (BH [p 6 (I (i-1))]) ((5,bx 153 [M i64 (k++[d.1]),AV.os 32 1,AV.os 39 1,AV.os 3012 0])::(39,A 2 i64 (l++[a.1]) 1)::(42,A 2 i64 [a.1] 0)::(500000,K 122 m4 a.2)::(32,A 2 i64 (j++[c.1]) 1)::(35,A 2 i64 [c.1] 0)::(28,A 2 i64 [d.1] 0)::Dk b.2.2.2)) (by kernel_rfl) rfl<|CH 32 (Z (BH [p 6 (I (i-1))]) ((5,bx 153 [M i64 (k++[d.1]),M i64 (j++[c.1]),AV.os 39 1,AV.os 3012 0])::(39,A 2 i64 (l++[a.1]) 1)::(42,A 2 i64 [a.1] 0)::(500000,K 122 m4 a.2)::(35,A 2 i64 [c.1] 0)::(28,A 2 i64 [d.1] 0)::Dk b.2.2.2)) (by kernel_rfl) rfl<|CH 39 (Z (BH [p 6 (I (i-1))]) ((5,bx 153 [M i64 (k++[d.1]),M i64 (j++[c.1]),M i64 (l++[a.1]),AV.os 3012 0])::(42,A 2 i64 [a.1] 0)::(500000,K 122 m4 a.2)::(35,A 2 i64 [c.1] 0)::(28,A 2 i64 [d.1] 0)::Dk b.2.2.2)) (by kernel_rfl) rfl<|b1 H
 exact vE<|fE<|e1<|fX rfl<|n0 H
def Vw(r:r8×l6):AV:=AV.agg (TA r.1.1 r.1.2.1 r.1.2.2)
def DB(r:r8×l6):B6 [.io 122 m4,.dat i64,.dat .bool]:=r.2
def Vx:Prop:=kE prog 120 [.io 122 m4,.dat i64,.dat .bool] Qr Qs Vw DB
def MJ[Alw](b:List o4)(f:List ByteArray):List s7×List Int×Int×Int->Option Unit
 | (c,e,d,a) =>
 gd (Qs (((b,f,c),e,d,a)))<|some ()
def Qx[Alw](b:List ByteArray)(i:List s7):List Int×Int×Int×List o4×List o4×List o4×List ByteArray×List s7->Option Unit
 | (h,f,g,e,_,_,_,_) =>
 gd ((0+i.length<=9223372036854775807/\(0+i.length)*32<=140737488355328)/\True) <|
 gd (c9 ((b.length:Int)-(1:Int))/\(([]++i).length+[(ByteArray.mk #[(121:UInt8)],(2:Int),(b.length:Int)-(1:Int))].length<=9223372036854775807/\(([]++i).length+[(ByteArray.mk #[(121:UInt8)],(2:Int),(b.length:Int)-(1:Int))].length)*32<=140737488355328)/\True)<|lt (([]++i++[(ByteArray.mk #[(121:UInt8)],(2:Int),(b.length:Int)-(1:Int))],[(ByteArray.mk #[(121:UInt8)],(2:Int),(b.length:Int)-(1:Int))])) fun(c,_) =>
 gd ((c8 (h,f,g) 2).isSome/\True)<|lt (vl (c8 (h,f,g) 2)) fun a =>
 if(a.1==0) then
  gd (c9 ((b.length:Int)-(1:Int))/\(c8 a.2 ((b.length:Int)-(1:Int))).isSome/\c9 ((1:Int)+(vl (c8 a.2 ((b.length:Int)-(1:Int)))).1)/\(c.length+[(ByteArray.mk #[(122:UInt8)],(2:Int),(1:Int)+(vl (c8 a.2 ((b.length:Int)-(1:Int)))).1)].length<=9223372036854775807/\(c.length+[(ByteArray.mk #[(122:UInt8)],(2:Int),(1:Int)+(vl (c8 a.2 ((b.length:Int)-(1:Int)))).1)].length)*32<=140737488355328)/\True)<|lt ((vl (c8 a.2 ((b.length:Int)-1)),c++[(ByteArray.mk #[(122:UInt8)],(2:Int),(1:Int)+(vl (c8 a.2 ((b.length:Int)-(1:Int)))).1)],[(ByteArray.mk #[(122:UInt8)],(2:Int),(1:Int)+(vl (c8 a.2 ((b.length:Int)-(1:Int)))).1)])) fun(d,j,_) =>
  MJ e b (j,d.2.1,d.2.2.1,d.2.2.2)
 else
  MJ e b (c,a.2.1,a.2.2.1,a.2.2.2)
def MK[Alw](a:Int)(j:Int×List Int×Int×Int×List o4×List o4×List o4×List ByteArray×List s7->Option Unit):List Int×Int×Int×List o4×List o4×List o4×List ByteArray×List s7->Option Unit
 | (g,e,d,i,b,c,f,h) =>
 gd (c9 (a+1)/\True) <|
 j (a+1,g,e,d,i,b,c,f,h)
def B0u[Alw](g:List ByteArray)(w:Bool)(x:List s7)(v:Int×List Int×Int×Int×List o4×List o4×List o4×List ByteArray×List s7->Option Unit):Int×List Int×Int×Int×List o4×List o4×List o4×List ByteArray×List s7->Option Unit
 | (b,f,e,d,a,l,m,q,h) =>
 if(decide (b < (a.length:Int))) then
  gd ((c8 (f,e,d) 4).isSome/\(((vl (c8 (f,e,d) 4)).1==0)=true/\True->ix b a.length)/\(((vl (c8 (f,e,d) 4)).1==0)=true/\True->b.toNat<a.length)/\(((a.getD b.toNat (b7 y139)).2.1==5)=false/\((vl (c8 (f,e,d) 4)).1==0)=true/\True->ix b a.length)/\(((a.getD b.toNat (b7 y139)).2.1==5)=false/\((vl (c8 (f,e,d) 4)).1==0)=true/\True->b.toNat<a.length)/\True)<|lt (vl (c8 (f,e,d) 4)) fun c =>
  if(c.1==0&&((a.getD b.toNat (b7 y139)).2.1==5||(a.getD b.toNat (b7 y139)).2.1==6||w)) then
   gd (ix b a.length/\b.toNat<a.length/\c9 ((g.length:Int)-1)/\(c8 c.2 ((g.length:Int)-1)).isSome/\c9 (1+(vl (c8 c.2 ((g.length:Int)-1))).1)/\ix 0 (a.getD b.toNat (b7 y139)).2.2.length/\True)<|Alw.alp (fun((t,s,o,u,r,i,k,j,n):Int×List Int×List Int×List Int×List o4×List o4×List o4×List ByteArray×List s7)=>(w8 i64.pt ((a.getD b.toNat (b7 y139)).2.2.getD (Int.toNat (0:Int)) (0:Int)) t/\(wf i64.pt ((a.getD b.toNat (b7 y139)).2.2.getD (Int.toNat (0:Int)) (0:Int))->wf i64.pt t))/\(w8 i64.sl (a.getD b.toNat (b7 y139)).2.2 s/\(wf i64.sl (a.getD b.toNat (b7 y139)).2.2->wf i64.sl s))/\(w8 b8.sl (vl (c8 c.2 ((g.length:Int)-1))).2.1 o/\(wf b8.sl (vl (c8 c.2 ((g.length:Int)-1))).2.1->wf b8.sl o))/\(w8 b8.sl c.2.1 u/\(wf b8.sl c.2.1->wf b8.sl u))/\(AllS (w8 y139) a r)/\(w8 y139.sl l i/\(wf y139.sl l->wf y139.sl i))/\(w8 y139.sl m k/\(wf y139.sl m->wf y139.sl k))/\(w8 Ty.str.sl q j/\(wf Ty.str.sl q->wf Ty.str.sl j))/\(w8 y202.sl h n/\(wf y202.sl h->wf y202.sl n))) fun((t,s,o,u,r,i,k,j,n):Int×List Int×List Int×List Int×List o4×List o4×List o4×List ByteArray×List s7) =>
   gd (True) <|
   MK b v ((o,(vl (c8 c.2 ((g.length:Int)-1))).2.2.1,(vl (c8 c.2 ((g.length:Int)-1))).2.2.2,r,i,k,j,n))
  else
   MK b v (c.2.1,c.2.2.1,c.2.2.2,a,l,m,q,h)
 else
  Qx g x (f,e,d,a,l,m,q,h)
def Qy[Alw](k:Bool)(j:List s7):List Int×Int×Int×List ByteArray×List o4×List o4×List o4×List ByteArray×List s7->Option Unit
 | (h,e,g,f,i,b,a,c,d) =>
 lp (B0u f k j) (0,h,e,g,i,b,a,c,d)
def Vy[Alw](a:Int)(e:List o4)(d:List o4)(g:List ByteArray)(h:List s7)(k:Int×List Int×Int×Int×List ByteArray×List o4×List o4×List o4×List ByteArray×List s7->Option Unit):List o4×List ByteArray×List Int×Int×Int->Option Unit
 | (f,b,c,i,j) =>
 gd (c9 (a-1)/\True) <|
 k (a-1,c,i,j,b,f,e,d,g,h)
def Vz[Alw](m:Int)(g:List o4)(f:List o4)(i:List ByteArray)(l:List s7)(a:List ByteArray)(e:List o4)(d:ByteArray)(c:Int)(q:Int×List Int×Int×Int×List ByteArray×List o4×List o4×List o4×List ByteArray×List s7->Option Unit):List Int×List Int×Int×Int->Option Unit
 | (b,o,k,n) =>
 gd ((0+b.length<=9223372036854775807/\(0+b.length)*8<=140737488355328)/\(([]++b).length+[(a.length:Int)].length<=9223372036854775807/\(([]++b).length+[(a.length:Int)].length)*8<=140737488355328)/\True) <|
 gd ((CG (a.length:Int)).isSome/\(ByteArray.mk #[110]).size+(vl (CG (a.length:Int))).size<=9223372036854775807/\(a.length+[ByteArray.mk #[110]++vl (CG (a.length:Int))].length<=9223372036854775807/\(a.length+[ByteArray.mk #[110]++vl (CG (a.length:Int))].length)*16<=140737488355328)/\True)<|lt (vl (CG (a.length:Int))) fun j =>
 gd ((e.length+[(ByteArray.mk #[117]++d,c,[]++b++[(a.length:Int)])].length<=9223372036854775807/\(e.length+[(ByteArray.mk #[117]++d,c,[]++b++[(a.length:Int)])].length)*48<=140737488355328)/\True)<|lt ((e++[(ByteArray.mk #[117]++d,c,[]++b++[(a.length:Int)])],[(ByteArray.mk #[117]++d,c,[]++b++[(a.length:Int)])])) fun(h,_) =>
 Vy m g f i l q (h,a++[ByteArray.mk #[110]++j],o,k,n)
def ML[Alw](c:Int)(a:List Int)(f:List Int)(d:Int)(e:Int)(g:Int×List Int×List Int×Int×Int->Option Unit):Int->Option Unit
 | b =>
 gd ((0+a.length<=9223372036854775807/\(0+a.length)*8<=140737488355328)/\(([]++a).length+[b].length<=9223372036854775807/\(([]++a).length+[b].length)*8<=140737488355328)/\True) <|
 gd (c9 (c+1)/\True) <|
 g (c+1,[]++a++[b],f,d,e)
def MM[Alw](a:Int)(b:List Int)(f:Int)(h:Int×List Int×List Int×Int×Int->Option Unit):List Int×Int×Int×Int->Option Unit
 | (e,c,d,g) =>
 if(decide (5<=f)&&a==1) then
  ML a b e c d h 0
 else
  ML a b e c d h g
def B0v[Alw](a:Int)(b:List ByteArray)(q:Int)(k:List o4)(j:List o4)(n:List ByteArray)(o:List s7)(l:List o4)(m:ByteArray)(s:Int×List Int×Int×Int×List ByteArray×List o4×List o4×List o4×List ByteArray×List s7->Option Unit)(r:Int×List Int×List Int×Int×Int->Option Unit):Int×List Int×List Int×Int×Int->Option Unit
 | (g,i,e,d,f) =>
 gd (ix a [(2:Int),(2:Int),(3:Int),(3:Int),(4:Int),(3:Int),(3:Int),(3:Int)].length/\a.toNat<[(2:Int),(2:Int),(3:Int),(3:Int),(4:Int),(3:Int),(3:Int),(3:Int)].length/\c9 ([(2:Int),(2:Int),(3:Int),(3:Int),(4:Int),(3:Int),(3:Int),(3:Int)].getD a.toNat (0:Int)-(1:Int))/\True) <|
 if(decide (g<[(2:Int),(2:Int),(3:Int),(3:Int),(4:Int),(3:Int),(3:Int),(3:Int)].getD a.toNat (0:Int)-(1:Int))) then
  gd (c9 ((b.length:Int)-1)/\(c8 (e,d,f) ((b.length:Int)-1)).isSome/\c9 (1+(vl (c8 (e,d,f) ((b.length:Int)-1))).1)/\True)<|lt (vl (c8 (e,d,f) ((b.length:Int)-1))) fun h =>
  gd ((c8 h.2 3).isSome/\True)<|lt (vl (c8 h.2 3)) fun c =>
  if(c.1==0) then
   gd (c9 ((b.length:Int)-1)/\True) <|
   MM g i a r ((c.2.1,c.2.2.1,c.2.2.2,(b.length:Int)-1))
  else
   MM g i a r (c.2.1,c.2.2.1,c.2.2.2,1+h.1)
 else
  Vz q k j n o b l m a s (i,e,d,f)
def B0w[Alw](o:Bool)(q:List s7)(n:Int×List Int×Int×Int×List ByteArray×List o4×List o4×List o4×List ByteArray×List s7->Option Unit):Int×List Int×Int×Int×List ByteArray×List o4×List o4×List o4×List ByteArray×List s7->Option Unit
 | (j,a,b,c,k,d,g,f,h,i) =>
 if(decide (0<j)) then
  gd ((c8 (a,b,c) 12).isSome/\ix (vl (c8 (a,b,c) 12)).1 [0,1,2,2,3,4,5,5,5,6,7,1].length/\(vl (c8 (a,b,c) 12)).1.toNat<[0,1,2,2,3,4,5,5,5,6,7,1].length/\True)<|lt ((vl (c8 (a,b,c) 12),[(0:Int),(1:Int),(2:Int),(2:Int),(3:Int),(4:Int),(5:Int),(5:Int),(5:Int),(6:Int),(7:Int),(1:Int)].getD (vl (c8 (a,b,c) (12:Int))).1.toNat (0:Int))) fun(e,l) =>
  gd ((CG (d.length:Int)).isSome/\(ByteArray.mk #[117]).size+(vl (CG (d.length:Int))).size<=9223372036854775807/\True)<|lt (vl (CG (d.length:Int))) fun m =>
  lp (B0v l k j g f h i d m n) (0,[],e.2.1,e.2.2.1,e.2.2.2)
 else
  Qy o q (a,b,c,k,d,g,f,h,i)
def Qz[Alw](c:l6)(b:Int)(f:Bool):Option Unit :=
 lt ([ByteArray.mk #[110,99,107],ByteArray.mk #[110,97],ByteArray.mk #[110,98]]) fun d =>
 lt ([(ByteArray.mk #[(99:UInt8),(107:UInt8)],(1:Int),(0:Int)),(ByteArray.mk #[(97:UInt8)],(1:Int),(1:Int)),(ByteArray.mk #[(98:UInt8)],(1:Int),(2:Int))]) fun e =>
 gd ((0+d.length<=9223372036854775807/\(0+d.length)*16<=140737488355328)/\True) <|
 gd (c9 (b-1)/\(c8 c (b-1)).isSome/\c9 (2+(vl (c8 c (b-1))).1)/\True)<|lt (vl (c8 c (b-1))) fun a =>
 lp (B0w f e) (2+a.1,a.2.1,a.2.2.1,a.2.2.2,[]++d,[],[],[],[],[])
theorem R0u[Alw](hF:∀x,Xv.wfs [.io 122 m4,.dat i64,.dat .bool] x->Qr x->Qz x.1 x.2.1 x.2.2.1=some ()):Vx:=by
 refine Hw (f:=120) (ps:=[.io 122 m4,.dat i64,.dat .bool]) (pre:=Qr) (post:=Qs) (R:=Vw) (Z:=DB) (F:=fun x=>Qz x.1 x.2.1 x.2.2.1) K4 [.cell 6 31] hF func120 ntmps120 rfl results120 (by kernel_rfl) rfl ?_;intro y ⟨a0,a1,s,_⟩ r H hB Q hn hr;have:=hz (tc AI (tc Vp tn));refine iA [0,1,2,6]<|qC (fun n=>Z (Bd a1 [p 2 (C s),p 6 (R 6),p 7 (R 7)]) [(7,bx 31 [nil,AV.os 18 0,nil]),(18,A 9 Ty.str n 0),(6,bx 31 [nil,nil,nil]),(500000,K 122 m4 a0)]) H fun n H=>qC (fun o=>Z (Bd a1 [p 2 (C s),p 6 (R 6),p 7 (R 7)]) [(7,bx 31 [nil,AV.os 18 0,AV.os 23 0]),(23,A 202 y202 o 0),(18,A 9 Ty.str n 0),(6,bx 31 [nil,nil,nil]),(500000,K 122 m4 a0)]) H fun o H=>iA [0,1,2,6,7,8]<|iA [0,1,2,6,7,8,9]<|iB [0,1,2,6,7,8,9,10] H fun H=>jN r (fun((bZ,bX,cA,b,cB,aZ,aU,bA,bE):List Int×Int×Int×List ByteArray×List o4×List o4×List o4×List ByteArray×List s7)=>Z (Dl s [p 9 (O 26),p 10 (O 27)]) ((500000,bx 122 (A5 bZ bX cA))::(27,A 9 Ty.str b 0)::(26,A 139 y139 cB 0)::W0 aZ o n aU bA bE)) (Qy s o) (fun w H=>?_) (fun _ n0 e0 t0=>?_)
 ·obtain⟨bZ,bX,cA,b,cB,aZ,aU,bA,bE⟩:=w;refine jN r (fun((aW,aY,aQ,u,aF,V,aA,Y):List Int×Int×Int×List o4×List o4×List o4×List ByteArray×List s7)=>Z (BI [p 7 (R 7),p 9 (O 26),p 10 (O 27)]) ((500000,bx 122 (A5 aW aY aQ))::(27,A 9 Ty.str b 0)::(26,A 139 y139 u 0)::W0 aF o n V aA Y)) (Qx b o) (fun⟨aW,aY,aQ,u,aF,V,aA,Y⟩ H=>?_) (fun _ n7 e7 t7=>?_)
  ·refine iB [0,6,9,10,17] H fun H=>qD (fun(bD,aI)=>Z (BI [p 9 (O 26),p 10 (O 27),p 17 (AV.os 146 2)]) ((146,A 202 y202 bD 2)::(155,A 202 y202 aI 0)::(500000,bx 122 (A5 aW aY aQ))::(27,A 9 Ty.str b 0)::(26,A 139 y139 u 0)::W0 aF o n V aA Y)) H fun⟨bD,aI⟩ H =>
    jN r (fun((aO,bB,aT,aN):List s7×List Int×Int×Int)=>Z [p 6 (R 6),p 9 (O 26),p 10 (O 27),p 17 (O 146)] [(146,A 202 y202 aO 0),(500000,bx 122 (A5 bB aT aN)),(27,A 9 Ty.str b 0),(26,A 139 y139 u 0),(6,bx 31 (TA V aA Y))]) (MJ u b) (fun⟨aO,bB,aT,aN⟩ H=>?_) (fun _ cH cU cV=>?_)
   ·refine iA [6]<|j0<|hr (((u,b,aO),bB,aT,aN)) (K7 H).1 (by kernel_rfl)
   refine qD (fun aP=>Z (BI [p 9 (O 26),p 10 (O 27),p 17 (AV.os 146 2),p 159 (B (aP.1==0))]) ((500000,K 122 m4 aP.2)::(146,A 202 y202 bD 2)::(155,A 202 y202 aI 0)::(27,A 9 Ty.str b 0)::(26,A 139 y139 u 0)::W0 aF o n V aA Y)) H fun aP H=>cD H (fun H=>?_) (fun H=>?_)
   ·refine zD (fun(bQ,bM,bR)=>Z [p 6 (R 6),p 9 (O 26),p 10 (O 27),p 17 (AV.os 146 3)] ((146,A 202 y202 bM 3)::(168,A 202 y202 bR 0)::(500000,K 122 m4 bQ.2)::(155,A 202 y202 aI 0)::(27,A 9 Ty.str b 0)::(26,A 139 y139 u 0)::W0 aF o n V aA Y)) H fun⟨bQ,bM,bR⟩ H =>
     cH H
   exact vK<|cH H
  refine iA [0,2,6,7,9,10,16]<|vB<|lX (fun((a,bL,bO,bJ,g,aH,aL,aK,aJ):Int×List Int×Int×Int×List o4×List o4×List o4×List ByteArray×List s7)=>Z (Dl s [p 9 (O 26),p 10 (O 27),p 16 (I a)]) ((500000,bx 122 (A5 bL bO bJ))::(27,A 9 Ty.str b 0)::(26,A 139 y139 g 0)::W0 aH o n aL aK aJ)) (0,bZ,bX,cA,cB,aZ,aU,bA,bE) H fun _ g8 b8 e8 t8 ⟨a,bL,bO,bJ,g,aH,aL,aK,aJ⟩ H=>vQ<|iA [0,2,6,7,9,10,16,109]<|cD H (fun H=>?_) (fun H=>?_)
  ·refine vK<|fQ<|jN r (fun((bT,bW,bU,bP,bS,bK,bN,bV):List Int×Int×Int×List o4×List o4×List o4×List ByteArray×List s7)=>Z (Dl s [p 9 (O 26),p 10 (O 27),p 16 (I a)]) ((500000,bx 122 (A5 bT bW bU))::(27,A 9 Ty.str b 0)::(26,A 139 y139 bP 0)::W0 bS o n bK bN bV)) (MK a g8) (fun⟨bT,bW,bU,bP,bS,bK,bN,bV⟩ H=>?_) (fun _ n9 e9 t9=>?_)
   ·refine jB [0,2,6,7,9,10,16] H fun H=>b8 H
   refine vB<|qD (fun c=>Z (Dl s [p 9 (O 26),p 10 (O 27),p 16 (I a),p 133 (B (c.1==0&&((g.getD a.toNat (b7 y139)).2.1==5||(g.getD a.toNat (b7 y139)).2.1==6||s)))]) ((500000,K 122 m4 c.2)::(27,A 9 Ty.str b 0)::(26,A 139 y139 g 0)::W0 aH o n aL aK aJ)) H fun c H=>cD H (fun H=>?_) (fun H=>?_)
   ·refine VA K4 (HT.h) hB 12 [0,2,6,7,9,10,16] (Z [p 145 (N i64.pt ((g.getD a.toNat (b7 y139)).2.2.getD (Int.toNat (0:Int)) (0:Int))),p 144 (I ((1:Int)+(vl (c8 c.2 ((b.length:Int)-(1:Int)))).1)),p 143 (I (vl (c8 c.2 ((b.length:Int)-(1:Int)))).1),p 142 (I ((b.length:Int)-(1:Int))),p 141 (I (b.length:Int)),p 140 (O 27),p 139 (R 500000),p 138 (M i64 (g.getD a.toNat (b7 y139)).2.2),p 137 (AV.pel 26 0 a.toNat 3 2),p 136 (AV.pel 26 0 a.toNat 3 0),p 135 (I a),p 134 (O 26),p 0 (R 500000),p 2 (C s),p 6 (R 6),p 7 (R 7),p 9 (O 26),p 10 (O 27),p 16 (I a),p 133 (B (c.1==(0:Int)&&((g.getD a.toNat (b7 y139)).2.1==(5:Int)||(g.getD a.toNat (b7 y139)).2.1==(6:Int)||s)))] ((500000,bx 122 (o8 false m4 (vl (c8 c.2 ((b.length:Int)-(1:Int)))).2))::(500000,K 122 m4 c.2)::(27,A 9 Ty.str b 0)::(26,A 139 y139 g 0)::W0 aH o n aL aK aJ)) (fun((aB,W,G,X,v,P,z,E,T):Int×List Int×List Int×List Int×List o4×List o4×List o4×List ByteArray×List s7)=>Z [p 145 (N i64.pt aB),p 144 (I (1+(vl (c8 c.2 ((b.length:Int)-1))).1)),p 143 (I (vl (c8 c.2 ((b.length:Int)-1))).1),p 142 (I ((b.length:Int)-1)),p 141 (I (b.length:Int)),p 140 (O 27),p 139 (R 500000),p 138 (M i64 W),p 137 (AV.pel 26 0 a.toNat 3 2),p 136 (AV.pel 26 0 a.toNat 3 0),p 135 (I a),p 134 (O 26),p 0 (R 500000),p 2 (C s),p 6 (R 6),p 7 (R 7),p 9 (O 26),p 10 (O 27),p 16 (I a),p 133 (B (c.1==0&&((g.getD a.toNat (b7 y139)).2.1==5||(g.getD a.toNat (b7 y139)).2.1==6||s)))] ((500000,bx 122 (A5 G (vl (c8 c.2 ((b.length:Int)-1))).2.2.1 (vl (c8 c.2 ((b.length:Int)-1))).2.2.2))::(500000,bx 122 (A5 X c.2.2.1 c.2.2.2))::(27,A 9 Ty.str b 0)::(26,A 139 y139 v 0)::W0 P o n z E T)) (fun((aB,W,G,X,v,P,z,E,T):Int×List Int×List Int×List Int×List o4×List o4×List o4×List ByteArray×List s7)=>Z (Dl s [p 9 (O 26),p 10 (O 27),p 16 (I a)]) ((500000,bx 122 (A5 G (vl (c8 c.2 ((b.length:Int)-1))).2.2.1 (vl (c8 c.2 ((b.length:Int)-1))).2.2.2))::(27,A 9 Ty.str b 0)::(26,A 139 y139 v 0)::W0 P o n z E T)) (fun((aB,W,G,X,v,P,z,E,T):Int×List Int×List Int×List Int×List o4×List o4×List o4×List ByteArray×List s7)=>True) H (by kernel_rfl) (fun _ h=>by obtain⟨_,_,rfl,he,ho⟩:=h; obtain⟨_,_,rfl,⟨aB,rfl,h1⟩,⟨_,_,rfl,rfl,⟨_,_,rfl,rfl,⟨_,_,rfl,rfl,⟨_,_,rfl,rfl,⟨_,_,rfl,rfl,⟨_,_,rfl,rfl,⟨_,_,rfl,⟨W,rfl,h2⟩,⟨_,_,rfl,rfl,⟨_,_,rfl,rfl,⟨_,_,rfl,rfl,⟨_,_,rfl,rfl,⟨_,_,rfl,rfl,⟨_,_,rfl,rfl,⟨_,_,rfl,rfl,⟨_,_,rfl,rfl,⟨_,_,rfl,rfl,⟨_,_,rfl,rfl,⟨_,_,rfl,rfl,⟨_,_,rfl,rfl,rfl⟩⟩⟩⟩⟩⟩⟩⟩⟩⟩⟩⟩⟩⟩⟩⟩⟩⟩⟩⟩:=he; obtain⟨_,_,rfl,⟨_,rfl,⟨_,_,rfl,⟨G,rfl,h3⟩,⟨_,_,rfl,rfl,⟨_,_,rfl,rfl,rfl⟩⟩⟩⟩,⟨_,_,rfl,⟨_,rfl,⟨_,_,rfl,⟨X,rfl,h4⟩,⟨_,_,rfl,rfl,⟨_,_,rfl,rfl,rfl⟩⟩⟩⟩,⟨_,_,rfl,rfl,⟨_,_,rfl,⟨v,rfl,h5⟩,⟨_,_,rfl,⟨_,rfl,⟨_,_,rfl,⟨P,rfl,h6⟩,⟨_,_,rfl,rfl,⟨_,_,rfl,rfl,rfl⟩⟩⟩⟩,⟨_,_,rfl,rfl,⟨_,_,rfl,rfl,⟨_,_,rfl,⟨_,rfl,⟨_,_,rfl,⟨z,rfl,h7⟩,⟨_,_,rfl,⟨E,rfl,h8⟩,⟨_,_,rfl,⟨T,rfl,h9⟩,rfl⟩⟩⟩⟩,rfl⟩⟩⟩⟩⟩⟩⟩⟩:=ho; exact⟨⟨aB,W,G,X,v,P,z,E,T⟩,⟨h1,h2,h3,h4,h5,h6,h7,h8,h9⟩,rfl⟩) (fun _=>by kernel_rfl) fun⟨aB,W,G,X,v,P,z,E,T⟩ H=>J4 H fun H=>fK<|n9 H
   exact vK<|fK<|n9 H
  exact vE<|fE<|e8<|fX rfl<|n7 H
 refine qD (fun v2=>Z (Dl s [p 8 (O 25),p 9 (O 26),p 10 (AV.os 27 1),p 11 (I (2+v2.1))]) [(500000,K 122 m4 v2.2),(27,A 9 Ty.str ([]++n) 1),(26,A 139 y139 [] 0),(25,A 2 i64 [2,2,3,3,4,3,3,3] 0),(7,bx 31 [nil,AV.os 18 0,AV.os 23 0]),(23,A 202 y202 o 0),(18,A 9 Ty.str n 0),(6,bx 31 [nil,nil,nil])]) H fun v2 H=>vB<|lX (fun((l,cK,cR,cE,e,q,m,i,j,k):Int×List Int×Int×Int×List ByteArray×List o4×List o4×List o4×List ByteArray×List s7)=>Z (G4 s l []) ((500000,bx 122 (A5 cK cR cE))::(27,A 9 Ty.str e 0)::(26,A 139 y139 q 0)::(25,A 2 i64 [2,2,3,3,4,3,3,3] 0)::W0 m o n i j k)) (2+v2.1,v2.2.1,v2.2.2.1,v2.2.2.2,[]++n,[],[],[],[],[]) H fun _ g1 b1 e1 t1 ⟨l,cK,cR,cE,e,q,m,i,j,k⟩ H=>vQ<|iA [0,2,6,7,8,9,10,11,37]<|cD H (fun H=>?_) (fun H=>?_)
 ·refine vK<|fQ<|jN r (fun((cJ,cQ,cN,cG,cO):List o4×List ByteArray×List Int×Int×Int)=>Z (G4 s l []) ((26,A 139 y139 cJ 0)::(27,A 9 Ty.str cQ 0)::(500000,bx 122 (A5 cN cG cO))::(25,A 2 i64 [2,2,3,3,4,3,3,3] 0)::W0 m o n i j k)) (Vy l m i j k g1) (fun⟨cJ,cQ,cN,cG,cO⟩ H=>?_) (fun _ n2 e2 t2=>?_)
  ·refine jB [0,2,6,7,8,9,10,11] H fun H=>b1 H
  refine vB<|qD (fun(aM,d)=>Z (G4 s l [p 12 (I d)]) ((500000,K 122 m4 aM.2)::(40,A 2 i64 [0,1,2,2,3,4,5,5,5,6,7,1] 0)::(27,A 9 Ty.str e 0)::(26,A 139 y139 q 0)::(25,A 2 i64 [2,2,3,3,4,3,3,3] 0)::W0 m o n i j k)) H fun w H=>?_
  obtain⟨aM,d⟩:=w;refine qD (fun t=>Z (G4 s l [p 12 (I d),p 13 (R 13)]) ((13,bx 139 [S (ByteArray.mk #[117]++t),I d,nil])::(500000,K 122 m4 aM.2)::(40,A 2 i64 [0,1,2,2,3,4,5,5,5,6,7,1] 0)::(27,A 9 Ty.str e 0)::(26,A 139 y139 q 0)::(25,A 2 i64 [2,2,3,3,4,3,3,3] 0)::W0 m o n i j k)) H fun t H=>jN r (fun((aR,bG,bF,aS):List Int×List Int×Int×Int)=>Z (G4 s l [p 13 (R 13)]) ((13,bx 139 [S (ByteArray.mk #[117]++t),I d,M i64 aR])::(500000,bx 122 (A5 bG bF aS))::(27,A 9 Ty.str e 0)::(26,A 139 y139 q 0)::(25,A 2 i64 [2,2,3,3,4,3,3,3] 0)::W0 m o n i j k)) (Vz l m i j k e q t d g1) (fun⟨aR,bG,bF,aS⟩ H=>?_) (fun _ n3 e3 t3=>?_)
  ·refine iB [0,2,6,7,8,9,10,11,13] H fun H=>qD (fun aG=>Z (Dl s [p 8 (O 25),p 9 (O 26),p 10 (AV.os 27 1),p 11 (I l),p 13 (R 13)]) ((27,A 9 Ty.str (e++[ByteArray.mk #[110]++aG]) 1)::(100,A 9 Ty.str [ByteArray.mk #[110]++aG] 0)::(13,bx 139 [S (ByteArray.mk #[117]++t),I d,AV.os 86 2])::(86,A 2 i64 ([]++aR++[(e.length:Int)]) 2)::(92,A 2 i64 [(e.length:Int)] 0)::(500000,bx 122 (A5 bG bF aS))::(26,A 139 y139 q 0)::(25,A 2 i64 [2,2,3,3,4,3,3,3] 0)::W0 m o n i j k)) H fun aG H=>fZ 86 (Z (Dl s [p 8 (O 25),p 9 (O 26),p 10 (AV.os 27 1),p 11 (I l),p 13 (R 13)]) ((27,A 9 Ty.str (e++[ByteArray.mk #[110]++aG]) 1)::(100,A 9 Ty.str [ByteArray.mk #[110]++aG] 0)::(13,bx 139 [S (ByteArray.mk #[117]++t),I d,M i64 ([]++aR++[(e.length:Int)])])::(92,A 2 i64 [(e.length:Int)] 0)::(500000,bx 122 (A5 bG bF aS))::(26,A 139 y139 q 0)::(25,A 2 i64 [2,2,3,3,4,3,3,3] 0)::W0 m o n i j k))<|zD (fun(cL,cC)=>Z (Dl s [p 8 (O 25),p 9 (AV.os 26 1),p 10 (AV.os 27 1),p 11 (I l)]) ((26,A 139 y139 cL 1)::(104,A 139 y139 cC 0)::(27,A 9 Ty.str (e++[ByteArray.mk #[110]++aG]) 1)::(100,A 9 Ty.str [ByteArray.mk #[110]++aG] 0)::(13,bx 139 [S (ByteArray.mk #[117]++t),I d,M i64 ([]++aR++[(e.length:Int)])])::(92,A 2 i64 [(e.length:Int)] 0)::(500000,bx 122 (A5 bG bF aS))::(25,A 2 i64 [2,2,3,3,4,3,3,3] 0)::W0 m o n i j k)) H fun⟨cL,cC⟩ H =>
    fK<|n2 H
  refine iA [0,2,6,7,8,9,10,11,12,13,14]<|vB<|lX (fun((aC,aD,cT,cM,cI):Int×List Int×List Int×Int×Int)=>Z (G4 s l [p 12 (I d),p 13 (R 13),p 14 (I aC)]) ((13,bx 139 [S (ByteArray.mk #[117]++t),I d,M i64 aD])::(500000,bx 122 (A5 cT cM cI))::(27,A 9 Ty.str e 0)::(26,A 139 y139 q 0)::(25,A 2 i64 [2,2,3,3,4,3,3,3] 0)::W0 m o n i j k)) (0,[],aM.2.1,aM.2.2.1,aM.2.2.2) H fun _ g4 b4 e4 t4 ⟨aC,aD,cT,cM,cI⟩ H=>vQ<|iB [0,2,6,7,8,9,10,11,12,13,14,57] H fun H=>cD H (fun H=>?_) (fun H=>?_)
  ·refine vK<|fQ<|vQ<|vB<|qD (fun bH=>Z (G4 s l [p 12 (I d),p 13 (R 13),p 14 (I aC),p 15 (I (1+bH.1))]) ((500000,K 122 m4 bH.2)::(13,bx 139 [S (ByteArray.mk #[117]++t),I d,M i64 aD])::(27,A 9 Ty.str e 0)::(26,A 139 y139 q 0)::(25,A 2 i64 [2,2,3,3,4,3,3,3] 0)::W0 m o n i j k)) H fun bH H=>jN r (fun((bC,aV,aX,cP):List Int×Int×Int×Int)=>Z (G4 s l [p 12 (I d),p 13 (R 13),p 14 (I aC),p 15 (I cP)]) ((500000,bx 122 (A5 bC aV aX))::(13,bx 139 [S (ByteArray.mk #[117]++t),I d,M i64 aD])::(27,A 9 Ty.str e 0)::(26,A 139 y139 q 0)::(25,A 2 i64 [2,2,3,3,4,3,3,3] 0)::W0 m o n i j k)) (MM aC aD d g4) (fun⟨bC,aV,aX,cP⟩ H=>?_) (fun _ n5 e5 t5=>?_)
   ·refine jN r (fun(bI:Int)=>Z (G4 s l [p 12 (I d),p 13 (R 13),p 14 (I aC),p 15 (I bI)]) ((500000,bx 122 (A5 bC aV aX))::(13,bx 139 [S (ByteArray.mk #[117]++t),I d,M i64 aD])::(27,A 9 Ty.str e 0)::(26,A 139 y139 q 0)::(25,A 2 i64 [2,2,3,3,4,3,3,3] 0)::W0 m o n i j k)) (ML aC aD bC aV aX g4) (fun bI H=>?_) (fun _ n6 e6 t6=>?_)
    ·refine jB [0,2,6,7,8,9,10,11,12,13,14] H fun H=>fK<|fQ<|jB [0,2,6,7,8,9,10,11,12,13,14] H fun H=>CH 78 (Z (G4 s l [p 12 (I d),p 13 (R 13),p 14 (I (aC+1))]) ((13,bx 139 [S (ByteArray.mk #[117]++t),I d,M i64 ([]++aD++[bI])])::(83,A 2 i64 [bI] 0)::(500000,bx 122 (A5 bC aV aX))::(27,A 9 Ty.str e 0)::(26,A 139 y139 q 0)::(25,A 2 i64 [2,2,3,3,4,3,3,3] 0)::W0 m o n i j k)) (by kernel_rfl) rfl<|b4 H
    refine iA [0,2,6,7,8,9,10,11,12,13,14,15,77]<|cD H (fun H=>jA [0,2,6,7,8,9,10,11,12,13,14,15]<|n6 H) fun H=>vK<|n6 H
   refine qD (fun bY=>Z (G4 s l [p 12 (I d),p 13 (R 13),p 14 (I aC),p 15 (I (1+bH.1)),p 68 (B (bY.1==0))]) ((500000,K 122 m4 bY.2)::(13,bx 139 [S (ByteArray.mk #[117]++t),I d,M i64 aD])::(27,A 9 Ty.str e 0)::(26,A 139 y139 q 0)::(25,A 2 i64 [2,2,3,3,4,3,3,3] 0)::W0 m o n i j k)) H fun bY H=>cD H (fun H=>jB [0,2,6,7,8,9,10,11,12,13,14,15] H fun H=>n5 H) fun H=>vK<|n5 H
  exact vE<|fE<|e4<|fX rfl<|n3 H
 exact vE<|fE<|e1<|fX rfl<|n0 H
def Hx(r:j7×l6):AV:=AV.agg [AV.ow 64 false y64 r.1.1,M y139 r.1.2.1.1,M Ty.str r.1.2.1.2.1,M y202 r.1.2.1.2.2,AV.ow 153 true l7 r.1.2.2]
def P7(r:j7×l6):B6 [.io 122 m4,.dat i64,.dat .bool]:=r.2
def MN:Prop:=kE prog 61 [.io 122 m4,.dat i64,.dat .bool] FI Hu Hx P7
def VB[Alw](f:List m5×l6)(e:r8×l6):List x9×List Int×Int×Int->Option Unit
 | (d,a,c,b) =>
 gd (Hu (((f.1,e.1,d),a,c,b)))<|some ()
def G0n[Alw](c:r8×l6)(i:List m5×l6)(h:Int×List x9×List Int×Int×Int->Option Unit):Int×List x9×List Int×Int×Int->Option Unit
 | (b,d,e,f,g) =>
 if(decide (b < (c.1.2.1.length:Int))) then
  gd (((U4 c.1 b).isSome/\True)/\MI ((e,f,g),(↑(vl (U4 c.1 b)).length:Int),()))<|Alw.alp (Y5 [Par.io 122 m4,Par.dat i64] Qt Vs Hv) fun(a:(x9×l6)) =>
  gd ((d.length+[a.1].length<=9223372036854775807/\(d.length+[a.1].length)*96<=140737488355328)/\True) <|
  gd (c9 (b+1)/\True)<|lt (vl (U4 c.1 b)) fun _ =>
  h ((b+1,d++[a.1],(Hv a).1,(Hv a).2.1,(Hv a).2.2))
 else
  VB i c (d,e,f,g)
def QA[Alw](b:l6)(e:Int)(d:Bool):Option Unit :=
 gd ((MC b).isSome/\True)<|lt (vl (MC b)) fun c =>
 gd (True/\Qr (c.2,e,d,()))<|Alw.alp (Y5 [Par.io 122 m4,Par.dat i64,Par.dat Ty.bool] Qs Vw DB) fun(a:(r8×l6)) =>
 gd (True) <|
 lp (G0n a c) ((0,[],(DB a).1,(DB a).2.1,(DB a).2.2))
theorem e61[Alw](h121:Vt)(h120:Vx)(hF:∀x,Xv.wfs [.io 122 m4,.dat i64,.dat .bool] x->FI x->QA x.1 x.2.1 x.2.2.1=some ()):MN:=by
 refine Hw (f:=61) (ps:=[.io 122 m4,.dat i64,.dat .bool]) (pre:=FI) (post:=Hu) (R:=Hx) (Z:=P7) (F:=fun x=>QA x.1 x.2.1 x.2.2.1) K4 [.cell 6 34] hF func61 ntmps61 rfl results61 (by kernel_rfl) rfl ?_;intro y ⟨_,s,o,_⟩ r H hB Q hn hr;have:=hz (tc OV (tc O0R tn));refine iA [0,1,2,6]<|qD (fun a=>Z (Bd s [p 2 (C o),p 6 (R 6),p 7 (R 7)]) [(7,bx 26 [AV.os 12 0]),(12,Ob.arr 64 false y64 a.1 0),(500000,K 122 m4 a.2),(6,bx 34 [nil,nil,nil,nil,nil])]) H fun a H=>vQ<|iE h120 3 [0,6,7,8] H fun b hp120 H=>J4 H fun H=>fQ<|iA [0,6,7,8,9]<|jN r (fun((c,e,g,d):List x9×List Int×Int×Int)=>Z [p 6 (R 6),p 7 (R 7),p 8 (R 8),p 9 (O 17)] ((17,A 153 l7 c 0)::(8,bx 31 (o8 true y31 b.1))::(500000,bx 122 (A5 e g d))::TC a.1)) (VB a b) (fun⟨c,e,g,d⟩ H=>?_) (fun _ q v w=>?_)
 ·refine iA [6]<|j0<|hr (((a.1,b.1,c),e,g,d)) (K7 H).1 (by kernel_rfl)
 refine iA [0,6,7,8,9,10]<|vB<|lX (fun((j,i,m,l,n):Int×List x9×List Int×Int×Int)=>Z (BI [p 7 (R 7),p 8 (R 8),p 9 (O 17),p 10 (I j)]) ((17,A 153 l7 i 0)::(8,bx 31 (o8 true y31 b.1))::(500000,bx 122 [L b8 m,J l,J n])::TC a.1)) ((0,[],(DB b).1,(DB b).2.1,(DB b).2.2)) H fun _ E u t z ⟨j,i,m,l,n⟩ H=>vQ<|iA [0,6,7,8,9,10,22]<|cD H (fun H=>vK<|fQ<|vQ<|vB<|iE h121 6 [0,6,7,8,9,10] H fun k hp121 H=>J4 H fun H=>fK<|fQ<|zD (fun h=>Z (BI [p 7 (R 7),p 8 (R 8),p 9 (AV.os 17 1),p 10 (I (j+1))]) ((17,A 153 l7 (i++[k.1]) 1)::(32,A 153 l7 [k.1] 0)::(500000,bx 122 (o8 false m4 (Hv k)))::(29,A 2 i64 h 0)::(8,bx 31 (o8 true y31 b.1))::TC a.1)) H fun h H=>u H) fun H=>vE<|fE<|t<|fX rfl<|q H
abbrev QB(x:r9 [.io 122 m4]):Prop:=sd x.1
def VC(r:j7×l6):AV:=AV.agg (Q1 r.1)
def MO(r:j7×l6):B6 [.io 122 m4]:=r.2
def VD:Prop:=kE prog 118 [.io 122 m4] QB Qu VC MO
def BV[Alw]:List Int×Int×Int×List x9×List o4×List ByteArray×List s7×List m5->Option Unit
 | (b,d,c,e,g,h,a,f) =>
 gd (Qu (((f,(g,h,a),e),b,d,c)))<|some ()
def QC[Alw](a0:l6):Option Unit :=
 gd (((c8 a0 (3:Int)).isSome/\True)/\FI ((vl (c8 a0 (3:Int))).2,(6:Int),(vl (c8 a0 (3:Int))).1==(0:Int),()))<|Alw.alp (Y5 [Par.io 122 m4,Par.dat i64,Par.dat Ty.bool] Hu Hx P7) fun(a:(j7×l6)) =>
 gd (True) <|
 gd ((c8 (P7 a) (a.1.2.2.length:Int)).isSome/\True)<|lt (vl (c8 (P7 a) (a.1.2.2.length:Int))) fun b =>
 gd ((c8 b.2 20).isSome/\True)<|lt (vl (c8 b.2 20)) fun c =>
 if(c.1==0) then
  gd (((0:Int)<=(1:Int)/\(1:Int)<=(a.1.2.2.length:Int)/\(a.1.2.2.length:Int)<=(a.1.2.2.length:Int))/\True) <|
  BV ((c.2.1,c.2.2.1,c.2.2.2,List.drop (Int.toNat (1:Int)) a.1.2.2,a.1.2.1.1,a.1.2.1.2.1,a.1.2.1.2.2,a.1.1))
 else
  if(c.1==1) then
   gd ((ix b.1 a.1.2.2.length/\b.1.toNat<a.1.2.2.length/\(J8 (a.1.2.2.getD b.1.toNat (b7 l7)).2.2.2).isSome/\((vl (J8 (a.1.2.2.getD b.1.toNat (b7 l7)).2.2.2)).length+[0].length<=9223372036854775807/\((vl (J8 (a.1.2.2.getD b.1.toNat (b7 l7)).2.2.2)).length+[0].length)*8<=140737488355328)/\ix b.1 a.1.2.2.length/\True)/\b.1.toNat<a.1.2.2.length/\True) <|
   BV ((c.2.1,c.2.2.1,c.2.2.2,a.1.2.2.set b.1.toNat ((a.1.2.2.getD b.1.toNat (b7 l7)).1,(a.1.2.2.getD b.1.toNat (b7 l7)).2.1,(a.1.2.2.getD b.1.toNat (b7 l7)).2.2.1,vl (J8 (a.1.2.2.getD b.1.toNat (b7 l7)).2.2.2)++[0]),a.1.2.1.1,a.1.2.1.2.1,a.1.2.1.2.2,a.1.1))
  else
   if(c.1==2) then
    gd (ix b.1 a.1.2.2.length/\b.1.toNat<a.1.2.2.length/\ix 0 (a.1.2.2.getD b.1.toNat (b7 l7)).2.1.length/\True)<|Alw.alp (fun((v3,v4,V,X,W,Y,v9,s):Int×List Int×List Int×List o4×List ByteArray×List s7×List x9×List m5)=>(w8 i64.pt ((a.1.2.2.getD b.1.toNat (b7 l7)).2.1.getD (Int.toNat (0:Int)) (0:Int)) v3/\(wf i64.pt ((a.1.2.2.getD b.1.toNat (b7 l7)).2.1.getD (Int.toNat (0:Int)) (0:Int))->wf i64.pt v3))/\(w8 i64.sl (a.1.2.2.getD b.1.toNat (b7 l7)).2.1 v4/\(wf i64.sl (a.1.2.2.getD b.1.toNat (b7 l7)).2.1->wf i64.sl v4))/\(w8 b8.sl c.2.1 V/\(wf b8.sl c.2.1->wf b8.sl V))/\(w8 y139.sl a.1.2.1.1 X/\(wf y139.sl a.1.2.1.1->wf y139.sl X))/\(w8 Ty.str.sl a.1.2.1.2.1 W/\(wf Ty.str.sl a.1.2.1.2.1->wf Ty.str.sl W))/\(w8 y202.sl a.1.2.1.2.2 Y/\(wf y202.sl a.1.2.1.2.2->wf y202.sl Y))/\(AllS (w8 l7) a.1.2.2 v9)/\(AllS (w8 y64) a.1.1 s)) fun((v3,v4,V,X,W,Y,v9,s):Int×List Int×List Int×List o4×List ByteArray×List s7×List x9×List m5) =>
    gd (True) <|
    BV (V,c.2.2.1,c.2.2.2,v9,X,W,Y,s)
   else
    if(c.1==3) then
     gd (ix b.1 a.1.2.2.length/\b.1.toNat<a.1.2.2.length/\(c8 c.2 3).isSome/\ix (vl (c8 c.2 3)).1 [-1,500,501].length/\(vl (c8 c.2 3)).1.toNat<[-1,500,501].length/\ix 0 (a.1.2.2.getD b.1.toNat (b7 l7)).2.2.1.length/\True)<|Alw.alp (fun((w,y,m,x,n,g,k,P,G):Int×List Int×List Int×List Int×List o4×List ByteArray×List s7×List x9×List m5)=>(w8 i64.pt ((a.1.2.2.getD b.1.toNat (b7 l7)).2.2.1.getD (Int.toNat (0:Int)) (0:Int)) w/\(wf i64.pt ((a.1.2.2.getD b.1.toNat (b7 l7)).2.2.1.getD (Int.toNat (0:Int)) (0:Int))->wf i64.pt w))/\(w8 i64.sl (a.1.2.2.getD b.1.toNat (b7 l7)).2.2.1 y/\(wf i64.sl (a.1.2.2.getD b.1.toNat (b7 l7)).2.2.1->wf i64.sl y))/\(w8 b8.sl (vl (c8 c.2 3)).2.1 m/\(wf b8.sl (vl (c8 c.2 3)).2.1->wf b8.sl m))/\(w8 b8.sl c.2.1 x/\(wf b8.sl c.2.1->wf b8.sl x))/\(w8 y139.sl a.1.2.1.1 n/\(wf y139.sl a.1.2.1.1->wf y139.sl n))/\(w8 Ty.str.sl a.1.2.1.2.1 g/\(wf Ty.str.sl a.1.2.1.2.1->wf Ty.str.sl g))/\(w8 y202.sl a.1.2.1.2.2 k/\(wf y202.sl a.1.2.1.2.2->wf y202.sl k))/\(AllS (w8 l7) a.1.2.2 P)/\(AllS (w8 y64) a.1.1 G)) fun((w,y,m,x,n,g,k,P,G):Int×List Int×List Int×List Int×List o4×List ByteArray×List s7×List x9×List m5) =>
     gd (True) <|
     BV ((m,(vl (c8 c.2 3)).2.2.1,(vl (c8 c.2 3)).2.2.2,P,n,g,k,G))
    else
     if(c.1==4) then
      gd (ix b.1 a.1.2.2.length/\b.1.toNat<a.1.2.2.length/\ix b.1 a.1.2.2.length/\b.1.toNat<a.1.2.2.length/\c9 ((↑(a.1.2.2.getD b.1.toNat (b7 l7)).1.length:Int)-1)/\(c8 c.2 5).isSome/\c9 ((vl (c8 c.2 5)).1-1)/\ix ((↑(a.1.2.2.getD b.1.toNat (b7 l7)).1.length:Int)-1) (a.1.2.2.getD b.1.toNat (b7 l7)).1.length/\True)<|Alw.alp (fun((E,r,u,l,q,e,d,f,Q,z):Int×List Int×List Int×List Int×List Int×List o4×List ByteArray×List s7×List x9×List m5)=>(w8 i64.pt ((a.1.2.2.getD b.1.toNat (b7 l7)).1.getD ((↑(a.1.2.2.getD b.1.toNat (b7 l7)).1.length:Int)-1).toNat 0) E/\(wf i64.pt ((a.1.2.2.getD b.1.toNat (b7 l7)).1.getD ((↑(a.1.2.2.getD b.1.toNat (b7 l7)).1.length:Int)-1).toNat 0)->wf i64.pt E))/\(w8 i64.sl (a.1.2.2.getD b.1.toNat (b7 l7)).1 r/\(wf i64.sl (a.1.2.2.getD b.1.toNat (b7 l7)).1->wf i64.sl r))/\(w8 i64.sl (a.1.2.2.getD b.1.toNat (b7 l7)).1 u/\(wf i64.sl (a.1.2.2.getD b.1.toNat (b7 l7)).1->wf i64.sl u))/\(w8 b8.sl (vl (c8 c.2 5)).2.1 l/\(wf b8.sl (vl (c8 c.2 5)).2.1->wf b8.sl l))/\(w8 b8.sl c.2.1 q/\(wf b8.sl c.2.1->wf b8.sl q))/\(w8 y139.sl a.1.2.1.1 e/\(wf y139.sl a.1.2.1.1->wf y139.sl e))/\(w8 Ty.str.sl a.1.2.1.2.1 d/\(wf Ty.str.sl a.1.2.1.2.1->wf Ty.str.sl d))/\(w8 y202.sl a.1.2.1.2.2 f/\(wf y202.sl a.1.2.1.2.2->wf y202.sl f))/\(AllS (w8 l7) a.1.2.2 Q)/\(AllS (w8 y64) a.1.1 z)) fun((E,r,u,l,q,e,d,f,Q,z):Int×List Int×List Int×List Int×List Int×List o4×List ByteArray×List s7×List x9×List m5) =>
      gd (True) <|
      BV ((l,(vl (c8 c.2 5)).2.2.1,(vl (c8 c.2 5)).2.2.2,Q,e,d,f,z))
     else
      if(c.1==5) then
       gd (ix 0 a.1.2.1.2.2.length/\True)<|Alw.alp (fun((T,F,v,j,o,h,i,t,H):(Int×Int)×s7×List s7×List Int×List o4×List ByteArray×List s7×List x9×List m5)=>(w8 (i64.pr i64).pt (a.1.2.1.2.2.getD (Int.toNat (0:Int)) (b7 y202)).2 T/\(wf (i64.pr i64).pt (a.1.2.1.2.2.getD (Int.toNat (0:Int)) (b7 y202)).2->wf (i64.pr i64).pt T))/\(w8 y202.pt (a.1.2.1.2.2.getD (Int.toNat (0:Int)) (b7 y202)) F/\(wf y202.pt (a.1.2.1.2.2.getD (Int.toNat (0:Int)) (b7 y202))->wf y202.pt F))/\(w8 y202.sl a.1.2.1.2.2 v/\(wf y202.sl a.1.2.1.2.2->wf y202.sl v))/\(w8 b8.sl c.2.1 j/\(wf b8.sl c.2.1->wf b8.sl j))/\(w8 y139.sl a.1.2.1.1 o/\(wf y139.sl a.1.2.1.1->wf y139.sl o))/\(w8 Ty.str.sl a.1.2.1.2.1 h/\(wf Ty.str.sl a.1.2.1.2.1->wf Ty.str.sl h))/\(w8 y202.sl a.1.2.1.2.2 i/\(wf y202.sl a.1.2.1.2.2->wf y202.sl i))/\(AllS (w8 l7) a.1.2.2 t)/\(AllS (w8 y64) a.1.1 H)) fun((T,F,v,j,o,h,i,t,H):(Int×Int)×s7×List s7×List Int×List o4×List ByteArray×List s7×List x9×List m5) =>
       gd (True) <|
       BV (j,c.2.2.1,c.2.2.2,t,o,h,i,H)
      else
       BV (c.2.1,c.2.2.1,c.2.2.2,a.1.2.2,a.1.2.1.1,a.1.2.1.2.1,a.1.2.1.2.2,a.1.1)
theorem R0v[Alw](h61:MN)(hF:∀x,Xv.wfs [.io 122 m4] x->QB x->QC x.1=some ()):VD:=by
 refine Hw (f:=118) (ps:=[.io 122 m4]) (pre:=QB) (post:=Qu) (R:=VC) (Z:=MO) (F:=fun x=>QC x.1) K4 [.cell 2 34] hF func118 ntmps118 rfl results118 (by kernel_rfl) rfl ?_;intro y ⟨_,_⟩ r H hB Q hn hr;have:=hz (tc AI (tc TN tn));refine iA [0,2]<|vQ<|iE h61 4 [0,2,3] H fun c hp61 H=>J4 H fun H=>fQ<|qD (fun b=>Z (Fp [p 4 (I b.1)]) ((500000,K 122 m4 b.2)::(3,bx 34 (Q5 c.1.2.1))::W2 c.1.2.2 c.1.1)) H fun b H=>jN r (fun((aG,aH,aL,aJ,aK,aF,aI,aM):List Int×Int×Int×List x9×List o4×List ByteArray×List s7×List m5)=>Z (G9 []) [(3,bx 34 (Dh aK aF aI)),(1009,A 153 l7 aJ 0),(500000,bx 122 (A5 aG aH aL)),(9,Ob.arr 64 false y64 aM 0),(2,bx 34 [nil,nil,nil,nil,nil])]) (BV) (fun⟨aG,aH,aL,aJ,aK,aF,aI,aM⟩ H=>?_) (fun _ n0 e0 t0=>?_)
 ·refine iA [2]<|j0<|hr (((aM,(aK,aF,aI),aJ),aG,aH,aL)) (K7 H).1 (by kernel_rfl)
 refine qD (fun a=>Z (Fp [p 4 (I b.1),p 16 (I a.1)]) ((500000,K 122 m4 a.2)::(3,bx 34 (Q5 c.1.2.1))::W2 c.1.2.2 c.1.1)) H fun a H=>vB<|iA [0,2,3,4,16,17]<|cD H (fun H=>jB [2,3] H fun H=>fK<|n0 H) fun H=>iA [0,2,3,4,16,23]<|cD H (fun H=>zFD K4 (HT.h) 14 [34] [2,3] (Z (G9 []) [(1009,A 153 l7 (c.1.2.2.set b.1.toNat ((c.1.2.2.getD b.1.toNat (b7 l7)).1,(c.1.2.2.getD b.1.toNat (b7 l7)).2.1,(c.1.2.2.getD b.1.toNat (b7 l7)).2.2.1,vl (J8 (c.1.2.2.getD b.1.toNat (b7 l7)).2.2.2)++[0])) 0),(35,A 2 i64 [0] 0),(500000,K 122 m4 a.2),(3,bx 34 (Q5 c.1.2.1)),(9,Ob.arr 64 false y64 c.1.1 0),(2,bx 34 [nil,nil,nil,nil,nil])]) H (by kernel_rfl) fun H=>fK<|n0 H) fun H=>iA [0,2,3,4,16,39]<|cD H (fun H=>?_) (fun H=>?_)
 ·refine zH K4 (HT.h) hB 7 [2,3] (Z [p 47 (N i64.pt ((c.1.2.2.getD b.1.toNat (b7 l7)).2.1.getD (Int.toNat (0:Int)) (0:Int))),p 46 (M i64 (c.1.2.2.getD b.1.toNat (b7 l7)).2.1),p 45 (AV.pel 1009 0 b.1.toNat 4 1),p 44 (AV.pel 1009 0 b.1.toNat 4 0),p 43 (I b.1),p 42 (O 1009),p 41 (AV.ptr 3 4),p 0 (R 500000),p 2 (R 2),p 3 (R 3),p 4 (I b.1),p 16 (I a.1),p 39 (B (a.1==(2:Int)))] ((500000,K 122 m4 a.2)::(3,bx 34 (Q5 c.1.2.1))::W2 c.1.2.2 c.1.1)) (fun((v3,v4,v5,v6,v7,v8,v9,g):Int×List Int×List Int×List o4×List ByteArray×List s7×List x9×List m5)=>Z [p 47 (N i64.pt v3),p 46 (M i64 v4),p 45 (AV.pel 1009 0 b.1.toNat 4 1),p 44 (AV.pel 1009 0 b.1.toNat 4 0),p 43 (I b.1),p 42 (O 1009),p 41 (AV.ptr 3 4),p 0 (R 500000),p 2 (R 2),p 3 (R 3),p 4 (I b.1),p 16 (I a.1),p 39 (B (a.1==2))] ((500000,bx 122 (A5 v5 a.2.2.1 a.2.2.2))::(3,bx 34 (Dh v6 v7 v8))::W2 v9 g)) (fun((v3,v4,v5,v6,v7,v8,v9,g):Int×List Int×List Int×List o4×List ByteArray×List s7×List x9×List m5)=>Z (G9 []) ((500000,bx 122 (A5 v5 a.2.2.1 a.2.2.2))::(3,bx 34 (Dh v6 v7 v8))::W2 v9 g)) (fun((v3,v4,v5,v6,v7,v8,v9,g):Int×List Int×List Int×List o4×List ByteArray×List s7×List x9×List m5)=>True) H (by kernel_rfl) (fun _ h=>by obtain⟨_,_,rfl,he,ho⟩:=h; obtain⟨_,_,rfl,⟨v3,rfl,h1⟩,⟨_,_,rfl,⟨v4,rfl,h2⟩,⟨_,_,rfl,rfl,⟨_,_,rfl,rfl,⟨_,_,rfl,rfl,⟨_,_,rfl,rfl,⟨_,_,rfl,rfl,⟨_,_,rfl,rfl,⟨_,_,rfl,rfl,⟨_,_,rfl,rfl,⟨_,_,rfl,rfl,⟨_,_,rfl,rfl,⟨_,_,rfl,rfl,rfl⟩⟩⟩⟩⟩⟩⟩⟩⟩⟩⟩⟩⟩:=he; obtain⟨_,_,rfl,⟨_,rfl,⟨_,_,rfl,⟨v5,rfl,h3⟩,⟨_,_,rfl,rfl,⟨_,_,rfl,rfl,rfl⟩⟩⟩⟩,⟨_,_,rfl,⟨_,rfl,⟨_,_,rfl,rfl,⟨_,_,rfl,⟨v6,rfl,h4⟩,⟨_,_,rfl,⟨v7,rfl,h5⟩,⟨_,_,rfl,⟨v8,rfl,h6⟩,⟨_,_,rfl,rfl,rfl⟩⟩⟩⟩⟩⟩,⟨_,_,rfl,⟨v9,rfl,h7⟩,⟨_,_,rfl,⟨g,rfl,h8⟩,⟨_,_,rfl,⟨_,rfl,⟨_,_,rfl,rfl,⟨_,_,rfl,rfl,⟨_,_,rfl,rfl,⟨_,_,rfl,rfl,⟨_,_,rfl,rfl,rfl⟩⟩⟩⟩⟩⟩,rfl⟩⟩⟩⟩⟩:=ho; exact⟨⟨v3,v4,v5,v6,v7,v8,v9,g⟩,⟨h1,h2,h3,h4,h5,h6,h7,h8⟩,rfl⟩) (fun _=>by kernel_rfl) fun⟨v3,v4,v5,v6,v7,v8,v9,g⟩ H=>J4 H fun H=>fK<|n0 H
 refine iA [0,2,3,4,16,48]<|cD H (fun H=>?_) (fun H=>?_)
 ·refine VA K4 (HT.h) hB 12 [2,3] (Z [p 61 (N i64.pt ((c.1.2.2.getD b.1.toNat (b7 l7)).2.2.1.getD (Int.toNat (0:Int)) (0:Int))),p 60 (I ([(-1:Int),(500:Int),(501:Int)].getD (vl (c8 a.2 (3:Int))).1.toNat (0:Int))),p 59 (AV.pel 56 0 (vl (c8 a.2 (3:Int))).1.toNat 1 0),p 58 (I (vl (c8 a.2 (3:Int))).1),p 57 (R 500000),p 56 (O 56),p 55 (M i64 (c.1.2.2.getD b.1.toNat (b7 l7)).2.2.1),p 54 (AV.pel 1009 0 b.1.toNat 4 2),p 53 (AV.pel 1009 0 b.1.toNat 4 0),p 52 (I b.1),p 51 (O 1009),p 50 (AV.ptr 3 4),p 0 (R 500000),p 2 (R 2),p 3 (R 3),p 4 (I b.1),p 16 (I a.1),p 48 (B (a.1==(3:Int)))] ((500000,bx 122 (o8 false m4 (vl (c8 a.2 (3:Int))).2))::(56,A 2 i64 [(-1:Int),(500:Int),(501:Int)] 0)::(500000,K 122 m4 a.2)::(3,bx 34 (Q5 c.1.2.1))::W2 c.1.2.2 c.1.1)) (fun((W,aA,t,Y,w,k,o,E,u):Int×List Int×List Int×List Int×List o4×List ByteArray×List s7×List x9×List m5)=>Z [p 61 (N i64.pt W),p 60 (I ([-1,500,501].getD (vl (c8 a.2 3)).1.toNat 0)),p 59 (AV.pel 56 0 (vl (c8 a.2 3)).1.toNat 1 0),p 58 (I (vl (c8 a.2 3)).1),p 57 (R 500000),p 56 (O 56),p 55 (M i64 aA),p 54 (AV.pel 1009 0 b.1.toNat 4 2),p 53 (AV.pel 1009 0 b.1.toNat 4 0),p 52 (I b.1),p 51 (O 1009),p 50 (AV.ptr 3 4),p 0 (R 500000),p 2 (R 2),p 3 (R 3),p 4 (I b.1),p 16 (I a.1),p 48 (B (a.1==3))] ((500000,bx 122 (A5 t (vl (c8 a.2 3)).2.2.1 (vl (c8 a.2 3)).2.2.2))::(56,A 2 i64 [-1,500,501] 0)::(500000,bx 122 (A5 Y a.2.2.1 a.2.2.2))::(3,bx 34 (Dh w k o))::W2 E u)) (fun((W,aA,t,Y,w,k,o,E,u):Int×List Int×List Int×List Int×List o4×List ByteArray×List s7×List x9×List m5)=>Z (G9 []) ((500000,bx 122 (A5 t (vl (c8 a.2 3)).2.2.1 (vl (c8 a.2 3)).2.2.2))::(56,A 2 i64 [-1,500,501] 0)::(3,bx 34 (Dh w k o))::W2 E u)) (fun((W,aA,t,Y,w,k,o,E,u):Int×List Int×List Int×List Int×List o4×List ByteArray×List s7×List x9×List m5)=>True) H (by kernel_rfl) (fun _ h=>by obtain⟨_,_,rfl,he,ho⟩:=h; obtain⟨_,_,rfl,⟨W,rfl,h1⟩,⟨_,_,rfl,rfl,⟨_,_,rfl,rfl,⟨_,_,rfl,rfl,⟨_,_,rfl,rfl,⟨_,_,rfl,rfl,⟨_,_,rfl,⟨aA,rfl,h2⟩,⟨_,_,rfl,rfl,⟨_,_,rfl,rfl,⟨_,_,rfl,rfl,⟨_,_,rfl,rfl,⟨_,_,rfl,rfl,⟨_,_,rfl,rfl,⟨_,_,rfl,rfl,⟨_,_,rfl,rfl,⟨_,_,rfl,rfl,⟨_,_,rfl,rfl,⟨_,_,rfl,rfl,rfl⟩⟩⟩⟩⟩⟩⟩⟩⟩⟩⟩⟩⟩⟩⟩⟩⟩⟩:=he; obtain⟨_,_,rfl,⟨_,rfl,⟨_,_,rfl,⟨t,rfl,h3⟩,⟨_,_,rfl,rfl,⟨_,_,rfl,rfl,rfl⟩⟩⟩⟩,⟨_,_,rfl,rfl,⟨_,_,rfl,⟨_,rfl,⟨_,_,rfl,⟨Y,rfl,h4⟩,⟨_,_,rfl,rfl,⟨_,_,rfl,rfl,rfl⟩⟩⟩⟩,⟨_,_,rfl,⟨_,rfl,⟨_,_,rfl,rfl,⟨_,_,rfl,⟨w,rfl,h5⟩,⟨_,_,rfl,⟨k,rfl,h6⟩,⟨_,_,rfl,⟨o,rfl,h7⟩,⟨_,_,rfl,rfl,rfl⟩⟩⟩⟩⟩⟩,⟨_,_,rfl,⟨E,rfl,h8⟩,⟨_,_,rfl,⟨u,rfl,h9⟩,⟨_,_,rfl,⟨_,rfl,⟨_,_,rfl,rfl,⟨_,_,rfl,rfl,⟨_,_,rfl,rfl,⟨_,_,rfl,rfl,⟨_,_,rfl,rfl,rfl⟩⟩⟩⟩⟩⟩,rfl⟩⟩⟩⟩⟩⟩⟩:=ho; exact⟨⟨W,aA,t,Y,w,k,o,E,u⟩,⟨h1,h2,h3,h4,h5,h6,h7,h8,h9⟩,rfl⟩) (fun _=>by kernel_rfl) fun⟨W,aA,t,Y,w,k,o,E,u⟩ H=>J4 H fun H=>fK<|n0 H
 refine iA [0,2,3,4,16,62]<|cD H (fun H=>?_) (fun H=>?_)
 ·refine VA K4 (HT.h) hB 18 [2,3] (Z [p 81 (N i64.pt ((c.1.2.2.getD b.1.toNat (b7 l7)).1.getD ((↑(c.1.2.2.getD b.1.toNat (b7 l7)).1.length:Int)-1).toNat 0)),p 80 (I ((vl (c8 a.2 5)).1-1)),p 79 (I (vl (c8 a.2 5)).1),p 78 (R 500000),p 77 (I ((↑(c.1.2.2.getD b.1.toNat (b7 l7)).1.length:Int)-1)),p 76 (I (↑(c.1.2.2.getD b.1.toNat (b7 l7)).1.length:Int)),p 75 (M i64 (c.1.2.2.getD b.1.toNat (b7 l7)).1),p 74 (AV.pel 1009 0 b.1.toNat 4 0),p 73 (AV.pel 1009 0 b.1.toNat 4 0),p 72 (I b.1),p 71 (O 1009),p 70 (AV.ptr 3 4),p 69 (M i64 (c.1.2.2.getD b.1.toNat (b7 l7)).1),p 68 (AV.pel 1009 0 b.1.toNat 4 0),p 67 (AV.pel 1009 0 b.1.toNat 4 0),p 66 (I b.1),p 65 (O 1009),p 64 (AV.ptr 3 4),p 0 (R 500000),p 2 (R 2),p 3 (R 3),p 4 (I b.1),p 16 (I a.1),p 62 (B (a.1==4))] ((500000,bx 122 (o8 false m4 (vl (c8 a.2 5)).2))::(500000,K 122 m4 a.2)::(3,bx 34 (Q5 c.1.2.1))::W2 c.1.2.2 c.1.1)) (fun((aB,T,V,q,P,e,d,j,G,s):Int×List Int×List Int×List Int×List Int×List o4×List ByteArray×List s7×List x9×List m5)=>Z [p 81 (N i64.pt aB),p 80 (I ((vl (c8 a.2 5)).1-1)),p 79 (I (vl (c8 a.2 5)).1),p 78 (R 500000),p 77 (I ((↑(c.1.2.2.getD b.1.toNat (b7 l7)).1.length:Int)-1)),p 76 (I (↑(c.1.2.2.getD b.1.toNat (b7 l7)).1.length:Int)),p 75 (M i64 T),p 74 (AV.pel 1009 0 b.1.toNat 4 0),p 73 (AV.pel 1009 0 b.1.toNat 4 0),p 72 (I b.1),p 71 (O 1009),p 70 (AV.ptr 3 4),p 69 (M i64 V),p 68 (AV.pel 1009 0 b.1.toNat 4 0),p 67 (AV.pel 1009 0 b.1.toNat 4 0),p 66 (I b.1),p 65 (O 1009),p 64 (AV.ptr 3 4),p 0 (R 500000),p 2 (R 2),p 3 (R 3),p 4 (I b.1),p 16 (I a.1),p 62 (B (a.1==4))] ((500000,bx 122 (A5 q (vl (c8 a.2 5)).2.2.1 (vl (c8 a.2 5)).2.2.2))::(500000,bx 122 (A5 P a.2.2.1 a.2.2.2))::(3,bx 34 (Dh e d j))::W2 G s)) (fun((aB,T,V,q,P,e,d,j,G,s):Int×List Int×List Int×List Int×List Int×List o4×List ByteArray×List s7×List x9×List m5)=>Z (G9 []) ((500000,bx 122 (A5 q (vl (c8 a.2 5)).2.2.1 (vl (c8 a.2 5)).2.2.2))::(3,bx 34 (Dh e d j))::W2 G s)) (fun((aB,T,V,q,P,e,d,j,G,s):Int×List Int×List Int×List Int×List Int×List o4×List ByteArray×List s7×List x9×List m5)=>True) H (by kernel_rfl) (fun _ h=>by obtain⟨_,_,rfl,he,ho⟩:=h; obtain⟨_,_,rfl,⟨aB,rfl,h1⟩,⟨_,_,rfl,rfl,⟨_,_,rfl,rfl,⟨_,_,rfl,rfl,⟨_,_,rfl,rfl,⟨_,_,rfl,rfl,⟨_,_,rfl,⟨T,rfl,h2⟩,⟨_,_,rfl,rfl,⟨_,_,rfl,rfl,⟨_,_,rfl,rfl,⟨_,_,rfl,rfl,⟨_,_,rfl,rfl,⟨_,_,rfl,⟨V,rfl,h3⟩,⟨_,_,rfl,rfl,⟨_,_,rfl,rfl,⟨_,_,rfl,rfl,⟨_,_,rfl,rfl,⟨_,_,rfl,rfl,⟨_,_,rfl,rfl,⟨_,_,rfl,rfl,⟨_,_,rfl,rfl,⟨_,_,rfl,rfl,⟨_,_,rfl,rfl,⟨_,_,rfl,rfl,rfl⟩⟩⟩⟩⟩⟩⟩⟩⟩⟩⟩⟩⟩⟩⟩⟩⟩⟩⟩⟩⟩⟩⟩⟩:=he; obtain⟨_,_,rfl,⟨_,rfl,⟨_,_,rfl,⟨q,rfl,h4⟩,⟨_,_,rfl,rfl,⟨_,_,rfl,rfl,rfl⟩⟩⟩⟩,⟨_,_,rfl,⟨_,rfl,⟨_,_,rfl,⟨P,rfl,h5⟩,⟨_,_,rfl,rfl,⟨_,_,rfl,rfl,rfl⟩⟩⟩⟩,⟨_,_,rfl,⟨_,rfl,⟨_,_,rfl,rfl,⟨_,_,rfl,⟨e,rfl,h6⟩,⟨_,_,rfl,⟨d,rfl,h7⟩,⟨_,_,rfl,⟨j,rfl,h8⟩,⟨_,_,rfl,rfl,rfl⟩⟩⟩⟩⟩⟩,⟨_,_,rfl,⟨G,rfl,h9⟩,⟨_,_,rfl,⟨s,rfl,h10⟩,⟨_,_,rfl,⟨_,rfl,⟨_,_,rfl,rfl,⟨_,_,rfl,rfl,⟨_,_,rfl,rfl,⟨_,_,rfl,rfl,⟨_,_,rfl,rfl,rfl⟩⟩⟩⟩⟩⟩,rfl⟩⟩⟩⟩⟩⟩:=ho; exact⟨⟨aB,T,V,q,P,e,d,j,G,s⟩,⟨h1,h2,h3,h4,h5,h6,h7,h8,h9,h10⟩,rfl⟩) (fun _=>by kernel_rfl) fun⟨aB,T,V,q,P,e,d,j,G,s⟩ H=>J4 H fun H=>fK<|n0 H
 refine iA [2,3,82]<|cD H (fun H=>?_) (fun H=>?_)
 ·refine zH K4 (HT.h) hB 5 [2,3] (Z [p 88 (N (i64.pr i64).pt (c.1.2.1.2.2.getD (Int.toNat (0:Int)) (b7 y202)).2),p 87 (N y202.pt (c.1.2.1.2.2.getD (Int.toNat (0:Int)) (b7 y202))),p 86 (M y202 c.1.2.1.2.2),p 85 (AV.ptr 3 3),p 84 (AV.ptr 3 1),p 2 (R 2),p 3 (R 3),p 82 (B (a.1==(5:Int)))] ((500000,K 122 m4 a.2)::(3,bx 34 (Q5 c.1.2.1))::W2 c.1.2.2 c.1.1)) (fun((aD,aC,X,n,z,l,m,i,v):(Int×Int)×s7×List s7×List Int×List o4×List ByteArray×List s7×List x9×List m5)=>Z [p 88 (N (i64.pr i64).pt aD),p 87 (N y202.pt aC),p 86 (M y202 X),p 85 (AV.ptr 3 3),p 84 (AV.ptr 3 1),p 2 (R 2),p 3 (R 3),p 82 (B (a.1==5))] ((500000,bx 122 (A5 n a.2.2.1 a.2.2.2))::(3,bx 34 (Dh z l m))::W2 i v)) (fun((aD,aC,X,n,z,l,m,i,v):(Int×Int)×s7×List s7×List Int×List o4×List ByteArray×List s7×List x9×List m5)=>Z (G9 []) ((500000,bx 122 (A5 n a.2.2.1 a.2.2.2))::(3,bx 34 (Dh z l m))::W2 i v)) (fun((aD,aC,X,n,z,l,m,i,v):(Int×Int)×s7×List s7×List Int×List o4×List ByteArray×List s7×List x9×List m5)=>True) H (by kernel_rfl) (fun _ h=>by obtain⟨_,_,rfl,he,ho⟩:=h; obtain⟨_,_,rfl,⟨aD,rfl,h1⟩,⟨_,_,rfl,⟨aC,rfl,h2⟩,⟨_,_,rfl,⟨X,rfl,h3⟩,⟨_,_,rfl,rfl,⟨_,_,rfl,rfl,⟨_,_,rfl,rfl,⟨_,_,rfl,rfl,⟨_,_,rfl,rfl,rfl⟩⟩⟩⟩⟩⟩⟩⟩:=he; obtain⟨_,_,rfl,⟨_,rfl,⟨_,_,rfl,⟨n,rfl,h4⟩,⟨_,_,rfl,rfl,⟨_,_,rfl,rfl,rfl⟩⟩⟩⟩,⟨_,_,rfl,⟨_,rfl,⟨_,_,rfl,rfl,⟨_,_,rfl,⟨z,rfl,h5⟩,⟨_,_,rfl,⟨l,rfl,h6⟩,⟨_,_,rfl,⟨m,rfl,h7⟩,⟨_,_,rfl,rfl,rfl⟩⟩⟩⟩⟩⟩,⟨_,_,rfl,⟨i,rfl,h8⟩,⟨_,_,rfl,⟨v,rfl,h9⟩,⟨_,_,rfl,⟨_,rfl,⟨_,_,rfl,rfl,⟨_,_,rfl,rfl,⟨_,_,rfl,rfl,⟨_,_,rfl,rfl,⟨_,_,rfl,rfl,rfl⟩⟩⟩⟩⟩⟩,rfl⟩⟩⟩⟩⟩:=ho; exact⟨⟨aD,aC,X,n,z,l,m,i,v⟩,⟨h1,h2,h3,h4,h5,h6,h7,h8,h9⟩,rfl⟩) (fun _=>by kernel_rfl) fun⟨aD,aC,X,n,z,l,m,i,v⟩ H=>J4 H fun H=>fK<|n0 H
 exact vK<|fK<|n0 H
abbrev QD(x:r9 [.io 122 m4]):Prop:=sd x.1
def QE(r:j7×l6):AV:=AV.agg (Q1 r.1)
def Jy(r:j7×l6):B6 [.io 122 m4]:=r.2
def VE:Prop:=kE prog 58 [.io 122 m4] QD Jx QE Jy
def MP[Alw](c:Int×l6):Bool->Option Unit
 | d =>
 if d then
  gd (True/\FI (c.2,(6:Int),true,()))<|Alw.alp (Y5 [Par.io 122 m4,Par.dat i64,Par.dat Ty.bool] Hu Hx P7) fun(b:(j7×l6)) =>
  gd (True) <|
  gd (Jx (b.1,P7 b))<|some ()
 else
  gd (True/\FI (c.2,(6:Int),false,()))<|Alw.alp (Y5 [Par.io 122 m4,Par.dat i64,Par.dat Ty.bool] Hu Hx P7) fun(a:(j7×l6)) =>
  gd (True) <|
  gd (Jx (a.1,P7 a))<|some ()
def QF[Alw](c:l6):Option Unit :=
 gd ((c8 c 12).isSome/\True)<|lt (vl (c8 c 12)) fun a =>
 if(a.1==0) then
  gd (True/\QB (a.2,()))<|Alw.alp (Y5 [Par.io 122 m4] Qu VC MO) fun(b:(j7×l6)) =>
  gd (True) <|
  gd (Jx (b.1,MO b))<|some ()
 else
  if(a.1==1) then
   MP a (a.1==1)
  else
   MP a (a.1==2)
theorem e58[Alw](h61:MN)(h118:VD)(hF:∀x,Xv.wfs [.io 122 m4] x->QD x->QF x.1=some ()):VE:=by
 refine Hw (f:=58) (ps:=[.io 122 m4]) (pre:=QD) (post:=Jx) (R:=QE) (Z:=Jy) (F:=fun x=>QF x.1) K4 [.cell 2 34] hF func58 ntmps58 rfl results58 (by kernel_rfl) rfl ?_;intro y ⟨_,_⟩ r H hB Q hn hr;have:=hz (tc AI tn);refine iA [0,2]<|vQ<|qD (fun a=>Z [p 0 (R 500000),p 2 (R 2),p 4 (I a.1)] [(500000,K 122 m4 a.2),(2,bx 34 [nil,nil,nil,nil,nil])]) H fun a H=>vB<|iA [0,2,4,5]<|cD H (fun H=>vQ<|iE h118 1 [2] H fun b hp118 H=>J4 H fun H=>fQ<|j0<|l9<|fR<|hr (b.1,MO b) (K7 H).1 (by kernel_rfl)) fun H=>jN r (fun(d:Bool)=>Z [p 0 (R 500000),p 2 (R 2),p 9 (B d)] [(500000,K 122 m4 a.2),(2,bx 34 [nil,nil,nil,nil,nil])]) (MP a) (fun d H=>?_) (fun _ e h i=>?_)
 ·refine cD H (fun H=>vQ<|iE h61 1 [2] H fun c hp61 H=>J4 H fun H=>fQ<|j0<|l9<|fR<|hr (c.1,P7 c) (K7 H).1 (by kernel_rfl)) fun H=>vK<|fK<|fQ<|vQ<|iE h61 1 [2] H fun g hp61 H=>J4 H fun H=>fQ<|j0<|hr (g.1,P7 g) (K7 H).1 (by kernel_rfl)
 refine iA [0,2,4,9]<|cD H (fun H=>vK<|e H) fun H=>jA [0,2,9]<|e H
abbrev QG(x:r9 [.io 122 m4]):Prop:=sd x.1
def VF(r:j7×p7×List Int×List m6×l6):AV:=AV.tup [AV.agg (Q1 r.1),AV.agg (AB r.2.1.1 r.2.1.2.1 r.2.1.2.2.1 r.2.1.2.2.2.1 r.2.1.2.2.2.2),M i64 r.2.2.1,M y53 r.2.2.2.1]
def VG(r:j7×p7×List Int×List m6×l6):B6 [.io 122 m4]:=r.2.2.2.2
def VH:Prop:=kE prog 28 [.io 122 m4] QG Qv VF VG
def Hy[Alw](f:List m5)(d:List o4)(e:List ByteArray)(h:List s7)(g:List x9)(k:p7×l6):List Int×List Int×Int×Int->Option Unit
 | (i,b,c,a) =>
 gd ((u64 (b,c,a) (f,(d,e,h),g)).isSome/\True)<|lt (vl (u64 (b,c,a) (f,(d,e,h),g))) fun j =>
 gd (Qv (((f,(d,e,h),g),k.1,i,j)))<|some ()
def MQ[Alw](j:p7×l6):List m5×List o4×List ByteArray×List s7×List x9×List Int×Int×Int->Option Unit
 | (d,b,c,e,f,m,h,i) =>
 gd ((Jn (m,h,i) (d,(b,c,e),f)).isSome/\True)<|lt (vl (Jn (m,h,i) (d,(b,c,e),f))) fun a =>
 gd ((U7 (d,(b,c,e),f)).isSome/\True)<|if(vl (U7 (d,(b,c,e),f))&&(a.1.length:Int)==0) then
  gd ((c8 a.2 6).isSome/\True)<|gd (True) <|
  if(true&&decide (0 < (vl (c8 a.2 6)).1)) then
   gd ((FD (d,(b,c,e),f)).isSome/\True)<|lt ((vl (FD (d,(b,c,e),f)),vl (c8 a.2 6))) fun(l,g) =>
   Hy d b c e f j (l,g.2.1,g.2.2.1,g.2.2.2)
  else
   Hy d b c e f j ((a.1,(vl (c8 a.2 6)).2.1,(vl (c8 a.2 6)).2.2.1,(vl (c8 a.2 6)).2.2.2))
 else
  gd (True)<|gd (True) <|
  if(false&&false) then
   gd ((FD (d,(b,c,e),f)).isSome/\True)<|lt (vl (FD (d,(b,c,e),f))) fun k =>
   Hy d b c e f j (k,a.2.1,a.2.2.1,a.2.2.2)
  else
   Hy d b c e f j (a.1,a.2.1,a.2.2.1,a.2.2.2)
def QH[Alw](e:l6):Option Unit :=
 gd (True/\QD (e,()))<|Alw.alp (Y5 [Par.io 122 m4] Jx QE Jy) fun(b:(j7×l6)) =>
 gd (True) <|
 gd ((Mm (Jy b)).isSome/\True)<|lt (vl (Mm (Jy b))) fun d =>
 gd ((c8 d.2 3).isSome/\True)<|lt (vl (c8 d.2 3)) fun c =>
 if(c.1==0) then
  gd (True/\FI (c.2,(5:Int),true,()))<|Alw.alp (Y5 [Par.io 122 m4,Par.dat i64,Par.dat Ty.bool] Hu Hx P7) fun(a:(j7×l6)) =>
  gd (True) <|
  MQ d ((a.1.1,a.1.2.1.1,a.1.2.1.2.1,a.1.2.1.2.2,a.1.2.2,(P7 a).1,(P7 a).2.1,(P7 a).2.2))
 else
  MQ d (b.1.1,b.1.2.1.1,b.1.2.1.2.1,b.1.2.1.2.2,b.1.2.2,c.2.1,c.2.2.1,c.2.2.2)
theorem e28[Alw](h61:MN)(h58:VE)(hF:∀x,Xv.wfs [.io 122 m4] x->QG x->QH x.1=some ()):VH:=by
 refine Hw (f:=28) (ps:=[.io 122 m4]) (pre:=QG) (post:=Qv) (R:=VF) (Z:=VG) (F:=fun x=>QH x.1) K4 [.cell 2 34,.cell 3 36,.tmp 4,.tmp 5] hF func28 ntmps28 rfl results28 (by kernel_rfl) rfl ?_;intro y ⟨_,_⟩ r H hB Q hn hr;have:=hz (tc o64 (tc o63 (tc AI (tc Ja (tc o62 (tc o59 tn))))));refine iA [0,2,3]<|vQ<|iE h58 1 [0,2,3,6] H fun z hp58 H=>J4 H fun H=>fQ<|qD (fun b=>Z (G5 []) ((7,bx 36 (o8 true p5 b.1))::(500000,K 122 m4 b.2)::(6,bx 34 (Q1 z.1))::W1)) H fun b H=>jN r (fun((d,c,g,e,h,E,o,q):List m5×List o4×List ByteArray×List s7×List x9×List Int×Int×Int)=>Z (G5 []) ((6,bx 34 (BG d c g e h))::(500000,bx 122 [L b8 E,J o,J q])::(7,bx 36 (o8 true p5 b.1))::W1)) (MQ b) (fun⟨d,c,g,e,h,E,o,q⟩ H=>?_) (fun _ G P T=>?_)
 ·refine qD (fun a=>Z (G5 [p 8 (O 20)]) ((20,A 2 i64 a.1 0)::(500000,K 122 m4 a.2)::(6,bx 34 (BG d c g e h))::(7,bx 36 (o8 true p5 b.1))::W1)) H fun a H=>jN r (fun((i,s,u,t):List Int×List Int×Int×Int)=>Z (G5 [p 8 (M i64 i)]) ((500000,bx 122 (A5 s u t))::(6,bx 34 (BG d c g e h))::(7,bx 36 (o8 true p5 b.1))::W1)) (Hy d c g e h b) (fun⟨i,s,u,t⟩ H=>?_) (fun _ v W V=>?_)
  ·refine qD (fun j=>Z (G9 [p 4 (M i64 i),p 5 (O 40)]) [(3,bx 36 (o8 true p5 b.1)),(2,bx 34 (BG d c g e h)),(40,A 53 y53 j.1 0),(500000,K 122 m4 j.2),(6,bx 34 (BG d c g e h)),(7,bx 36 (o8 true p5 b.1))]) H fun j H=>j0<|hr (((d,(c,g,e),h),b.1,i,j)) (K7 H).1 (by kernel_rfl)
  refine vQ<|Vr<|Qq 8 3 [(29,AV.ptr 500000 0),(30,I 0),(31,B false)] H (fun H=>J4 H fun H=>?_) (fun H=>J4 H fun H=>?_)
  ·refine Jw [0,2,3,6,7,8,32] H fun H=>fQ<|cD H (fun H=>?_) (fun H=>?_)
   ·refine zD (fun(m,l)=>Z (G5 [p 8 (O 34)]) ((34,A 2 i64 m 0)::(500000,K 122 m4 l.2)::(20,A 2 i64 a.1 0)::(6,bx 34 (BG d c g e h))::(7,bx 36 (o8 true p5 b.1))::W1)) H fun⟨m,l⟩ H =>
     CH 34 (Z (G5 [p 8 (M i64 m)]) ((500000,K 122 m4 l.2)::(20,A 2 i64 a.1 0)::(6,bx 34 (BG d c g e h))::(7,bx 36 (o8 true p5 b.1))::W1)) (by kernel_rfl) rfl<|v H
   exact vK<|CH 20 (Z (G5 [p 8 (M i64 a.1),p 32 (B (true&&decide (0 < (vl (c8 a.2 6)).1)))]) ((500000,bx 122 (o8 false m4 (vl (c8 a.2 6)).2))::(6,bx 34 (BG d c g e h))::(7,bx 36 (o8 true p5 b.1))::W1)) (by kernel_rfl) rfl<|v H
  refine Jw [0,2,3,6,7,8,32] H fun H=>fQ<|cD H (fun H=>zD (fun n=>Z (G5 [p 8 (O 34)]) ((34,A 2 i64 n 0)::(20,A 2 i64 a.1 0)::(500000,K 122 m4 a.2)::(6,bx 34 (BG d c g e h))::(7,bx 36 (o8 true p5 b.1))::W1)) H fun n H=>CH 34 (Z (G5 [p 8 (M i64 n)]) ((20,A 2 i64 a.1 0)::(500000,K 122 m4 a.2)::(6,bx 34 (BG d c g e h))::(7,bx 36 (o8 true p5 b.1))::W1)) (by kernel_rfl) rfl<|v H) fun H=>vK<|CH 20 (Z (G5 [p 8 (M i64 a.1),p 32 (B (false&&false))]) ((500000,K 122 m4 a.2)::(6,bx 34 (BG d c g e h))::(7,bx 36 (o8 true p5 b.1))::W1)) (by kernel_rfl) rfl<|v H
 refine qD (fun w=>Z (G5 [p 15 (B (w.1==0))]) ((500000,K 122 m4 w.2)::(7,bx 36 (o8 true p5 b.1))::(6,bx 34 (Q1 z.1))::W1)) H fun w H=>cD H (fun H=>iE h61 1 [0,2,3,6,7] H fun k hp61 H=>J4 H fun H=>CH 17 (Z (G5 []) ((6,bx 34 [L y64 k.1.1,M y139 k.1.2.1.1,M Ty.str k.1.2.1.2.1,M y202 k.1.2.1.2.2,AV.os 1017 0])::(1017,A 153 l7 k.1.2.2 0)::(500000,bx 122 (o8 false m4 (P7 k)))::(7,bx 36 (o8 true p5 b.1))::W1)) (by kernel_rfl) rfl<|CH 1017 (Z (G5 []) ((6,bx 34 (Q1 k.1))::(500000,bx 122 (o8 false m4 (P7 k)))::(7,bx 36 (o8 true p5 b.1))::W1)) (by kernel_rfl) rfl<|G H) fun H=>vK<|G H
abbrev P8(x:r9 [.dat (b8.sl)]):Prop:=True
def R8(r:j7×p7×List Int×List m6):AV:=AV.tup [AV.agg (Q1 r.1),AV.agg (AB r.2.1.1 r.2.1.2.1 r.2.1.2.2.1 r.2.1.2.2.2.1 r.2.1.2.2.2.2),M i64 r.2.2.1,M y53 r.2.2.2]
def Z8(r:j7×p7×List Int×List m6):B6 [.dat (b8.sl)]:=()
def K8:Prop:=kE prog 8 [.dat (b8.sl)] P8 T8 R8 Z8
def u8[Alw](b:List Int):Option Unit :=
 gd ((Mj b).isSome/\True)<|lt (vl (Mj b)) fun c =>
 gd (True/\QG (c,()))<|Alw.alp (Y5 [Par.io 122 m4] Qv VF VG) fun(a:(j7×p7×List Int×List m6×l6)) =>
 gd (True) <|
 gd (T8 (a.1,a.2.1,a.2.2.1,a.2.2.2.1))<|some ()
theorem e8[Alw](h28:VH)(hF:∀x,Xv.wfs [.dat (b8.sl)] x->P8 x->u8 x.1=some ()):K8:=by
 refine Hw (f:=8) (ps:=[.dat (b8.sl)]) (pre:=P8) (post:=T8) (R:=R8) (Z:=Z8) (F:=fun x=>u8 x.1) K4 [.cell 2 34,.cell 3 36,.tmp 4,.tmp 5] hF func8 ntmps8 rfl results8 (by kernel_rfl) rfl ?_;intro y ⟨_,_⟩ r H hB Q hn hr;have:=hz (tc o27 tn);refine iA [0,2,3]<|qD (fun b=>Z (G9 [p 6 (R 8)]) ((8,bx 122 [L b8 b.1,I b.2.1,I b.2.2])::W1)) H fun b H=>vQ<|iE h28 1 [2,3,4,5] H fun a hp28 H=>J4 H fun H=>fQ<|j0<|hr (a.1,a.2.1,a.2.2.1,a.2.2.2.1) (K7 H).1 (by kernel_rfl)
def L0x[Alw]:Unit->Option Bool
 | _ =>
 some true
def L0w[Alw](c:B3×Int)(d:j7×p7×List Int×List m6)(e:Int->Option Bool):Int->Option Bool
 | b =>
 gd ((Me d.1).isSome/\True)<|lt (vl (Me d.1)) fun g =>
 if(decide (b<g)) then
  gd ((Ju d.1 d.2.1 d.2.2.1 d.2.2.2 c.1 b).isSome/\True)<|lt (vl (Ju d.1 d.2.1 d.2.2.1 d.2.2.2 c.1 b)) fun a =>
  gd (((a.2.2 != 0)=false/\True->ix b c.1.1.length)/\((a.2.2 != 0)=false/\True->b.toNat<c.1.1.length)/\((a.2.1.1 != b)=false/\a.1=true/\(a.2.2 != 0||!a.1==c.1.1.getD b.toNat false)=false/\True->ix b c.1.2.1.length)/\((a.2.1.1 != b)=false/\a.1=true/\(a.2.2 != 0||!a.1==c.1.1.getD b.toNat false)=false/\True->b.toNat<c.1.2.1.length)/\((a.2.1.1 != b||!(a.2.1.2.1.1==(c.1.2.1.getD b.toNat (b7 y51)).1&&(a.2.1.2.1.2==(c.1.2.1.getD b.toNat (b7 y51)).2&&true)))=false/\a.1=true/\(a.2.2 != 0||!a.1==c.1.1.getD b.toNat false)=false/\True->ix b c.1.2.2.length)/\((a.2.1.1 != b||!(a.2.1.2.1.1==(c.1.2.1.getD b.toNat (b7 y51)).1&&(a.2.1.2.1.2==(c.1.2.1.getD b.toNat (b7 y51)).2&&true)))=false/\a.1=true/\(a.2.2 != 0||!a.1==c.1.1.getD b.toNat false)=false/\True->b.toNat<c.1.2.2.length)/\True)<|lt (a.2.2 != 0||!a.1==c.1.1.getD b.toNat false||a.1&&(a.2.1.1 != b||!(a.2.1.2.1.1==(c.1.2.1.getD b.toNat (b7 y51)).1&&(a.2.1.2.1.2==(c.1.2.1.getD b.toNat (b7 y51)).2&&true))||!(a.2.1.2.2.1==(c.1.2.2.getD b.toNat (b7 y51)).1&&(a.2.1.2.2.2==(c.1.2.2.getD b.toNat (b7 y51)).2&&true)))) fun f =>
  if f then
   some false
  else
   gd (c9 (b+1)/\True) <|
   e (b+1)
 else
  L0x ()
def u3[Alw](d:List Int):Option Bool :=
 gd ((u7 d).isSome/\True) <|
 if(vl (u7 d)) then
  some true
 else
  gd (True/\P8 (d,()))<|Alw.alp (Y5 [Par.dat b8.sl] T8 R8 Z8) fun(a:(j7×p7×List Int×List m6)) =>
  gd (True) <|
  gd ((u9 a.1 a.2.1 a.2.2.1 a.2.2.2).isSome/\True)<|lt (vl (u9 a.1 a.2.1 a.2.2.1 a.2.2.2)) fun b =>
  gd ((MF a.1 a.2.1 a.2.2.1 a.2.2.2).isSome/\True)<|lt (vl (MF a.1 a.2.1 a.2.2.1 a.2.2.2)) fun c =>
  gd (((b.2 != c.2)=false/\True->(GX b.1 c.1).isSome)/\True) <|
  if(b.2 != c.2||!vl (GX b.1 c.1)) then
   some false
  else
   if(b.2 != 0) then
    some true
   else
    gd ((Md a.1 b.1).isSome/\True) <|
    if(!vl (Md a.1 b.1)) then
     some false
    else
     lp (L0w b a) 0
def k3[Alw]:Ct:=j9 3 [.dat (b8.sl)] (fun x=>u3 x.1) (fun r:Bool=>B r) (fun _=>())
theorem o3[Alw](h8:K8):Ok prog k3:=by
 refine k6 [.tmp 2] func3 ?_;intro y ⟨_,_⟩ r H Q hn hr;have:=hz (tc o14 (tc o13 (tc o12 (tc o11 (tc o10 (tc o9 (tc o7 tn)))))));refine iA [0]<|vQ<|iB [0,16] H fun H=>cD H (fun H=>iA [2]<|j0<|fR<|hr H) fun H=>vK<|fQ<|vQ<|iE h8 1 [3,4,5,6] H fun a hp8 H=>J4 H fun H=>fQ<|qD (fun b=>Z (IM a.2.2.1 a.2.2.2 [p 8 (I b.2)]) [(7,bx 44 [AV.os 29 0,AV.os 1029 0,AV.os 2029 0]),(2029,A 51 y51 b.1.2.2 0),(1029,A 51 y51 b.1.2.1 0),(29,A 4 Ty.bool b.1.1 0),(4,bx 36 (o8 true p5 a.2.1)),(3,bx 34 (Q1 a.1))]) H fun b H=>vQ<|qD (fun d=>Z (IM a.2.2.1 a.2.2.2 [p 8 (I b.2),p 9 (R 9),p 10 (I d.2)]) [(9,bx 44 [AV.os 37 0,AV.os 1037 0,AV.os 2037 0]),(2037,A 51 y51 d.1.2.2 0),(1037,A 51 y51 d.1.2.1 0),(37,A 4 Ty.bool d.1.1 0),(7,bx 44 [AV.os 29 0,AV.os 1029 0,AV.os 2029 0]),(2029,A 51 y51 b.1.2.2 0),(1029,A 51 y51 b.1.2.1 0),(29,A 4 Ty.bool b.1.1 0),(4,bx 36 (o8 true p5 a.2.1)),(3,bx 34 (Q1 a.1))]) H fun d H=>iB [3,4,5,6,7,8,48] H fun H=>cD H (fun H=>iA [2]<|j0<|fR<|hr H) fun H=>vK<|fQ<|vQ<|iA [3,4,5,6,7,50]<|cD H (fun H=>iA [2]<|j0<|fR<|hr H) fun H=>vK<|fQ<|vQ<|iB [3,4,5,6,7,54] H fun H=>cD H (fun H=>iA [2]<|j0<|fR<|hr H) fun H=>vK<|fQ<|jN r (fun(_:Unit)=>Z [] []) (L0x) (fun _ H=>?_) (fun _ h n k=>?_)
 ·refine iA [2]<|j0<|hr H
 refine iA [3,4,5,6,7,11]<|vB<|lX (fun(c:Int)=>Z (IM a.2.2.1 a.2.2.2 [p 11 (I c)]) [(7,bx 44 [AV.os 29 0,AV.os 1029 0,AV.os 2029 0]),(2029,A 51 y51 b.1.2.2 0),(1029,A 51 y51 b.1.2.1 0),(29,A 4 Ty.bool b.1.1 0),(4,bx 36 (o8 true p5 a.2.1)),(3,bx 34 (Q1 a.1))]) 0 H fun _ m j i l c H=>vQ<|qD (fun g=>Z (IM a.2.2.1 a.2.2.2 [p 11 (I c),p 58 (B (decide (c<g)))]) [(7,bx 44 [AV.os 29 0,AV.os 1029 0,AV.os 2029 0]),(2029,A 51 y51 b.1.2.2 0),(1029,A 51 y51 b.1.2.1 0),(29,A 4 Ty.bool b.1.1 0),(4,bx 36 (o8 true p5 a.2.1)),(3,bx 34 (Q1 a.1))]) H fun g H=>cD H (fun H=>?_) (fun H=>?_)
 ·refine vK<|fQ<|vQ<|vB<|qD (fun e=>Z (IM a.2.2.1 a.2.2.2 [p 11 (I c),p 12 (B e.1),p 13 (R 13),p 14 (I e.2.2)]) [(13,bx 53 (o8 true y53 e.2.1)),(7,bx 44 [AV.os 29 0,AV.os 1029 0,AV.os 2029 0]),(2029,A 51 y51 b.1.2.2 0),(1029,A 51 y51 b.1.2.1 0),(29,A 4 Ty.bool b.1.1 0),(4,bx 36 (o8 true p5 a.2.1)),(3,bx 34 (Q1 a.1))]) H fun e H=>qD (fun f=>Z (IM a.2.2.1 a.2.2.2 [p 11 (I c),p 111 (B f)]) [(13,bx 53 (o8 true y53 e.2.1)),(7,bx 44 [AV.os 29 0,AV.os 1029 0,AV.os 2029 0]),(2029,A 51 y51 b.1.2.2 0),(1029,A 51 y51 b.1.2.1 0),(29,A 4 Ty.bool b.1.1 0),(4,bx 36 (o8 true p5 a.2.1)),(3,bx 34 (Q1 a.1))]) H fun f H=>cD H (fun H=>iA [2]<|j0<|l9<|fR<|l<|l9<|k<|hr H) fun H=>vK<|fK<|fQ<|jB [3,4,5,6,7,11] H fun H=>j H
 exact vE<|fE<|i<|fX rfl<|h H
end Go.Proofs.YtdjgagoledoaaaaGreatDoor
end
