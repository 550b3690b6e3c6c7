/- Functions of this program as plain functions of data, and that they are so: printed by program. -/
import Derived.Test.YtdjgagoledoaaaaGreatDoorF85b
section
namespace Go.Proofs.YtdjgagoledoaaaaGreatDoor
open Go Go.Proofs Go.Proofs.Sv Go.Proofs.Xv Go.Proofs.Xl Go.RowKit
open Tryz
def G0U:List u3×List u3×List Bool->Option (B7×Bool)
 | (c,a,b) =>
 some (((b,a,c),true))
def G0T(b:List Int)(g:H9)(h:p5)(i:List m6)(j:Int×List u3×List u3×List Bool->Option (B7×Bool)):Int×List u3×List u3×List Bool->Option (B7×Bool)
 | (a,e,d,f) =>
 if(decide (a < (b.length:Int))) then
  gd (ix a b.length/\True) <|
  gd ((IS g h i (f,d,e) (b.getD a.toNat 0)).isSome/\True)<|lt (vl (IS g h i (f,d,e) (b.getD a.toNat 0))) fun c =>
  gd ((c.1=true/\True->(M4 c.2.2.1).isSome)/\True) <|
  if(c.1&&!vl (M4 c.2.2.1)) then
   some ((([],[],[]),false))
  else
   gd (ix (b.getD a.toNat 0) f.length/\Int.toNat (b.getD a.toNat 0)<f.length/\ix (b.getD a.toNat 0) d.length/\Int.toNat (b.getD a.toNat 0)<d.length/\ix (b.getD a.toNat 0) e.length/\Int.toNat (b.getD a.toNat 0)<e.length/\True) <|
   gd (c9 (a+1)/\True) <|
   j ((a+1,e.set (Int.toNat (b.getD a.toNat 0)) c.2.2.2,d.set (Int.toNat (b.getD a.toNat 0)) c.2.2.1,f.set (Int.toNat (b.getD a.toNat 0)) c.1))
 else
  G0U (e,d,f)
def GS(a:H9)(c:p5)(e:List m6)(d:List Int):Option (B7×Bool) :=
 gd ((LS a.1).isSome/\True)<|lt (vl (LS a.1)) fun b =>
 lp (G0T d a c e) (0,b.2.2,b.2.1,b.1)
def k30:Ct:=j9 30 [.dat y104.pt,.agg r5,.dat y53.sl,.dat i64.sl] (fun x=>GS x.1 x.2.1 x.2.2.1 x.2.2.2.1) (fun r:B7×Bool=>AV.tup [AV.agg [AV.ow 4 true Ty.bool r.1.1,AV.ow 51 true y51 r.1.2.1,AV.ow 51 true y51 r.1.2.2],B r.2]) (fun _=>())
theorem o30:Ok prog k30:=by
 refine k8 [.cell 8 44,.tmp 9] func30 ?_;intro y ⟨k,n,o,h,_⟩ r H Q hn hr;have:=hz (tc OX (tc o42 (tc o69 tn)));refine iA [0,2,3,5,8]<|iD o69 [0,2,3,5,8,10] H fun d H=>jN r (fun((c,b,a):List u3×List u3×List Bool)=>Z [p 8 (R 8),p 10 (R 10)] [(10,bx 44 [AV.os 19 0,AV.os 1019 0,AV.os 2019 0]),(2019,A 51 y51 c 0),(1019,A 51 y51 b 0),(19,A 4 Ty.bool a 0),(8,bx 44 [nil,nil,nil])]) (G0U) (fun⟨c,b,a⟩ H=>?_) (fun _ s u j=>?_)
 ·refine iA [8,9]<|j0<|hr H
 refine iA [0,2,5,8,10,20,21,22]<|vB<|lX (fun((i,f,g,e):Int×List u3×List u3×List Bool)=>Z [p 0 (D y104.pt k),p 2 (L y53 o),p 5 (R 5),p 8 (R 8),p 10 (R 10),p 20 (L i64 h),p 21 (I (h.length:Int)),p 22 (I i)] [(10,bx 44 [AV.os 19 0,AV.os 1019 0,AV.os 2019 0]),(2019,A 51 y51 f 0),(1019,A 51 y51 g 0),(19,A 4 Ty.bool e 0),(8,bx 44 [nil,nil,nil]),(5,K 36 r5 n)]) (0,d.2.2,d.2.1,d.1) H fun _ t l m q ⟨i,f,g,e⟩ H=>iA [0,2,5,8,10,20,21,22,23]<|vQ<|cD H (fun H=>?_) (fun H=>?_)
 ·refine vK<|fQ<|vQ<|vB<|iB [0,2,5,8,10,12,20,21,22] H fun H=>iD o42 [0,2,5,8,10,12,13,14,20,21,22] H fun _ H=>vQ<|iB [0,2,5,8,10,12,13,14,20,21,22,41] H fun H=>cD H (fun H=>iA [8,9]<|j0<|fR<|l8<|fR<|q<|l8<|j<|hr H) fun H=>vK<|fQ<|jB [0,2,5,8,10,20,21,22] H fun H=>fK<|fQ<|jB [0,2,5,8,10,20,21,22] H fun H=>l H
 exact vE<|fE<|m<|fX rfl<|s H
def BI(b:j7)(f:p5)(c:List Int)(g:List m6):Option (Int ⊕ H9×List Int×Int) :=
 gd ((IC b).isSome/\((!vl (IC b))=false/\True->(LF f).isSome)/\True) <|
 if(!vl (IC b)||!vl (LF f)) then
  some (Sum.inl 1)
 else
  gd ((Li b).isSome/\True)<|lt (vl (Li b)) fun a =>
  gd ((IL a c).isSome/\((!vl (IL a c))=false/\True->(LN a g).isSome)/\True) <|
  if(!vl (IL a c)||!vl (LN a g)) then
   some (Sum.inl 2)
  else
   gd ((LP a c).isSome/\True)<|lt (vl (LP a c)) fun d =>
   gd ((LR d).isSome/\True)<|lt (vl (LR d)) fun e =>
   if(!e.2) then
    some (Sum.inl 7)
   else
    some (Sum.inr (d,e.1,(0:Int)))
def P0n:Ct:=j9 29 [.agg l9,.agg r5,.dat (.sl (.int .i64)),.dat (.sl y53),.nil] (fun x=>BI x.1 x.2.1 x.2.2.1 x.2.2.2.1) (two (fun r:Int=>AV.tup [AV.v (Value.pointer none),AV.v (Value.slice none 0 0),I r]) (fun r:H9×List Int×Int=>AV.tup [D y104.pt r.1,AV.ow 2 true i64 r.2.1,I r.2.2])) (fun _=>())
def L0y:Ct:=UT 29 [.agg l9,.agg r5,.dat (.sl (.int .i64)),.dat (.sl y53),.nil] (fun x=>BI x.1 x.2.1 x.2.2.1 x.2.2.2.1) (fun r:Int=>AV.tup [AV.v (Value.pointer none),AV.v (Value.slice none 0 0),I r]) ()
def L0x:Ct:=UU 29 [.agg l9,.agg r5,.dat (.sl (.int .i64)),.dat (.sl y53),.nil] (fun x=>BI x.1 x.2.1 x.2.2.1 x.2.2.2.1) (fun r:H9×List Int×Int=>AV.tup [D y104.pt r.1,AV.ow 2 true i64 r.2.1,I r.2.2]) ()
theorem M0m:Ok prog P0n:=by
 refine k8 [.tmp 10,.tmp 11,.tmp 12] func29 ?_;intro y ⟨_,_,_,_,_,_⟩ r H Q hn hr;have:=hz (tc o68 (tc o67 (tc o66 (tc o65 (tc o38 (tc o37 (tc o54 (tc o36 tn))))))));refine iA [2,3,4,5,6]<|vQ<|iB [2,3,4,5,24] H fun H=>cD H (fun H=>iA [10,11,12]<|j0<|fR<|hr H) fun H=>vK<|fQ<|iD o37 [2,3,4,13] H fun _ H=>vQ<|vB<|vQ<|D0o [2,3,13] 4 27 rfl (fun f w Q' k=>t0j (PU rfl rfl (z0Z _ (UW (L7 101 R0y rfl).2.2.2.2.2 rfl rfl) rfl (PU rfl rfl (IT rfl rfl rfl rfl (IT rfl rfl rfl rfl (IT rfl rfl rfl rfl (IT rfl rfl rfl rfl (IT rfl rfl rfl rfl (IT rfl rfl rfl rfl (PU rfl rfl (PU rfl rfl (oN (E0p (by ((repeat (refine x0O rfl ?_)); exact D0p)) k))))))))))))))<|fQ<|cf (by kernel_rfl)<|?_
 refine iB [2,13,38] H fun H=>cD H (fun H=>iA [10,11,12]<|j0<|l8<|fR<|hr H) fun H=>vK<|fK<|fQ<|iD o67 [14] H fun _ H=>iD o68 [14,15,16] H fun _ H=>vQ<|iA [14,15,58]<|cD H (fun H=>iA [10,11,12]<|j0<|fR<|hr H) fun H=>vK<|fQ<|iA [10,11,12]<|j0<|hr H
theorem K0N:Ok prog L0y:=O0e M0m
theorem K0M:Ok prog L0x:=O0d M0m
def u9(c:j7)(a:p5)(d:List Int)(b:List m6):Option (B7×Int) :=
 if(Mi (BI c a d b)) then
  gd (Mi (BI c a d b)=true/\True) <|
  if(vL (BI c a d b) != 0) then
   some ((([],[],[]),vL (BI c a d b)))
  else
   none
 else
  gd (UX (BI c a d b)=true/\True)<|lt (vR (BI c a d b)) fun e =>
  if(e.2.2 != 0) then
   some ((([],[],[]),e.2.2))
  else
   gd ((GS e.1 a b e.2.1).isSome/\True)<|lt (vl (GS e.1 a b e.2.1)) fun f =>
   if(!f.2) then
    some ((([],[],[]),(3:Int)))
   else
    some ((f.1,(0:Int)))
def k9:Ct:=j9 9 [.agg l9,.agg r5,.dat i64.sl,.dat y53.sl] (fun x=>u9 x.1 x.2.1 x.2.2.1 x.2.2.2.1) (fun r:B7×Int=>AV.tup [AV.agg [AV.ow 4 true Ty.bool r.1.1,AV.ow 51 true y51 r.1.2.1,AV.ow 51 true y51 r.1.2.2],I r.2]) (fun _=>())
theorem o9:Ok prog k9:=by
 refine k8 [.cell 8 44,.tmp 9] func9 ?_;intro y ⟨b,c,_,d,_⟩ r H Q hn hr;have:=hz (tc o30 tn);refine iA [2,3,4,5,8]<|sp H (fun H=>?_) (fun H=>?_)
 ·have:=hz (tc K0N (HT.h));refine iB [3,5,8,10,11,12] H fun H=>vQ<|iA [3,5,8,10,11,12,25]<|cD H (fun H=>iA [8,9]<|j0<|fR<|hr H) fun H=>vK<|fQ<|N0f H
 have:=hz (tc K0M (HT.h));refine qD (fun a=>Z [p 3 (L y53 d),p 5 (R 5),p 8 (R 8),p 10 (D y104.pt a.1),p 11 (O 20),p 12 (I a.2.2)] [(20,A 2 i64 a.2.1 0),(8,bx 44 [nil,nil,nil]),(5,K 36 r5 c),(4,K 34 l9 b)]) H fun a H=>vQ<|iA [3,5,8,10,11,12,25]<|cD H (fun H=>iA [8,9]<|j0<|fR<|hr H) fun H=>vK<|fQ<|iD o30 [8,13,14] H fun _ H=>vQ<|iA [8,13,37]<|cD H (fun H=>iA [8,9]<|j0<|fR<|hr H) fun H=>vK<|fQ<|iA [8,9]<|j0<|hr H
def PV(a:Int->Option ByteArray)(b:Int):Option ByteArray :=
 if(decide (b<0)) then
  gd (c9 (-b)/\(a (-b)).isSome/\(ByteArray.mk #[45]).size+(vl (a (-b))).size<=9223372036854775807/\True)<|lt (vl (a (-b))) fun c =>
  some (ByteArray.mk #[45]++c)
 else
  if(decide (b<10)) then
   gd (c9 (48+b)/\True/\0<[(48+b) % 256].length/\True) <|
   some (strOfNums [(48+b) % 256])
  else
   gd ((0:Int) < (10:Int)/\(a (b.tdiv (10:Int))).isSome/\(0:Int) < (10:Int)/\c9 ((48:Int)+b.tmod (10:Int))/\True/\0<[((48:Int)+b.tmod (10:Int)) % (256:Int)].length/\(vl (a (b.tdiv (10:Int)))).size+(strOfNums [((48:Int)+b.tmod (10:Int)) % (256:Int)]).size<=9223372036854775807/\True)<|lt (vl (a (b.tdiv 10))) fun d =>
   some (d++strOfNums [(48+b.tmod 10) % 256])
theorem L0b(g167:Int->Option ByteArray)(UY:Ok prog (j9 167 [.dat i64] (fun x=>g167 x.1) (fun r=>S r) (fun _=>()))):Ok prog (j9 167 [.dat i64] (fun x=>PV g167 x.1) (fun r:ByteArray=>S r) (fun _=>())):=by
 refine k8 [.tmp 2] func167 ?_;intro y ⟨b,_⟩ r H Q hn hr;have:=hz (tc UY tn);refine iA [0]<|vQ<|iA [0,4]<|cD H (fun H=>qD (fun a=>Z [p 2 (S (ByteArray.mk #[45]++a))] []) H fun a H=>j0<|fR<|hr H) fun H=>vK<|fQ<|vQ<|iA [0,10]<|cD H (fun H=>iB [2] H fun H=>j0<|fR<|hr H) fun H=>vK<|fQ<|qD (fun c=>Z [p 2 (S (c++strOfNums [(48+b.tmod 10) % 256]))] [(23,A 5 b8 [(48+b.tmod 10) % 256] 0)]) H fun c H=>j0<|hr H
def IU:Nat->Int->Option ByteArray
 | 0,_=>none
 | m+1,n=>PV (IU m) n
theorem I0b:∀m,Ok prog (j9 167 [.dat i64] (fun x=>IU m x.1) (fun r=>S r) (fun _=>()))
 | 0=>⟨by kernel_rfl,fun _ hq=>by cases hq⟩
 | m+1=>L0b (IU m) (I0b m)
def Cy(n:Int):Option ByteArray:=IU 25 n
def Q0v:Ct:=j9 167 [.dat i64] (fun x=>Cy x.1) (fun r=>S r) (fun _=>())
theorem UY:Ok prog Q0v:=I0b 25
def Ft:List m6×List Int×Int×Int->Option (List m6×l5)
 | (b,c,a,d) =>
 some (b,c,a,d)
def PW:List m6×List Int×Int×Int->Option (List m6×l5)
 | (a,f,d,e) =>
 if(decide (0 < (a.length:Int))) then
  gd ((c8 (f,d,e) (a.length:Int)).isSome/\True)<|lt (vl (c8 (f,d,e) (a.length:Int))) fun b =>
  gd ((c8 b.2 30).isSome/\True)<|lt (vl (c8 b.2 30)) fun c =>
  if(c.1==0) then
   gd (ix (0:Int) a.length/\Int.toNat (0:Int)<a.length/\ix b.1 a.length/\b.1.toNat<a.length/\True)<|lt (a.set b.1.toNat ((a.getD (Int.toNat (0:Int)) (b7 y53)).1,(a.getD b.1.toNat (b7 y53)).2)) fun j =>
   Ft (j,c.2.1,c.2.2.1,c.2.2.2)
  else
   if(c.1==1) then
    gd (ix b.1 a.length/\b.1.toNat<a.length/\c9 ((a.getD b.1.toNat (b7 y53)).2.1.2+1)/\ix b.1 a.length/\b.1.toNat<a.length/\True)<|lt (a.set b.1.toNat ((a.getD b.1.toNat (b7 y53)).1,((a.getD b.1.toNat (b7 y53)).2.1.2+1,(a.getD b.1.toNat (b7 y53)).2.1.2),(a.getD b.1.toNat (b7 y53)).2.2)) fun g =>
    Ft (g,c.2.1,c.2.2.1,c.2.2.2)
   else
    if(c.1==2) then
     gd (ix b.1 a.length/\b.1.toNat<a.length/\True)<|lt (a.set b.1.toNat ((a.getD b.1.toNat (b7 y53)).1,(a.getD b.1.toNat (b7 y53)).2.1,-1,(a.getD b.1.toNat (b7 y53)).2.2.2)) fun h =>
     Ft (h,c.2.1,c.2.2.1,c.2.2.2)
    else
     if(c.1==3) then
      gd (ix b.1 a.length/\b.1.toNat<a.length/\True)<|lt (a.set b.1.toNat ((a.getD b.1.toNat (b7 y53)).1,((a.getD b.1.toNat (b7 y53)).2.1.1,(1000000000:Int)),(a.getD b.1.toNat (b7 y53)).2.2)) fun i =>
      Ft (i,c.2.1,c.2.2.1,c.2.2.2)
     else
      Ft (a,c.2.1,c.2.2.1,c.2.2.2)
 else
  Ft (a,f,d,e)
def UZ(e:Int)(f:Int×List m6×List Int×Int×Int->Option (List m6×l5)):List m6×List Int×Int×Int->Option (List m6×l5)
 | (d,c,a,b) =>
 gd (c9 (e+1)/\True) <|
 f (e+1,d,c,a,b)
def Bc(a:Int)(f:Int×List m6×List Int×Int×Int->Option (List m6×l5)):List m6×List Int×Int×Int->Option (List m6×l5)
 | (c,e,b,d) =>
 gd (c9 (a+1)/\True) <|
 f (a+1,c,e,b,d)
def G0k(i:Int)(y:List D1)(z:Int×List m6×List Int×Int×Int->Option (List m6×l5))(t:Int×List m6×List Int×Int×Int->Option (List m6×l5)):Int×List m6×List Int×Int×Int->Option (List m6×l5)
 | (d,j,a,c,b) =>
 if(decide (d<2)) then
  gd (True)<|if(decide ((y.getD i.toNat (b7 r8)).1<0)&&(y.getD i.toNat (b7 r8)).2.2.2) then
   gd ((c8 (a,c,b) 8).isSome/\True)<|gd (True)<|if(true&&decide (0 < (vl (c8 (a,c,b) 8)).1)) then
    gd (True)<|gd (True) <|
    if(true||false) then
     gd ((c8 (vl (c8 (a,c,b) 8)).2 200).isSome/\c9 ((vl (c8 (vl (c8 (a,c,b) 8)).2 200)).1-50)/\(c8 (vl (c8 (vl (c8 (a,c,b) 8)).2 200)).2 30).isSome/\True)<|lt ((vl (c8 (vl (c8 (a,c,b) 8)).2 200),vl (c8 (vl (c8 (vl (c8 (a,c,b) 8)).2 200)).2 30),vl (c8 (a,c,b) 8))) fun(l,g,_) =>
     gd (c9 (2*i)/\c9 (2*i+d)/\(c8 g.2 40).isSome/\c9 (l.1-50+(vl (c8 g.2 40)).1)/\(c8 (vl (c8 g.2 40)).2 12).isSome/\c9 (g.1+(vl (c8 (vl (c8 g.2 40)).2 12)).1)/\(j.length+[(2*i+d,(l.1-50,l.1-50+(vl (c8 g.2 40)).1),g.1,g.1+(vl (c8 (vl (c8 g.2 40)).2 12)).1)].length<=9223372036854775807/\(j.length+[(2*i+d,(l.1-50,l.1-50+(vl (c8 g.2 40)).1),g.1,g.1+(vl (c8 (vl (c8 g.2 40)).2 12)).1)].length)*40<=140737488355328)/\True)<|lt ((vl (c8 g.2 40),vl (c8 (vl (c8 g.2 40)).2 12),j++[(2*i+d,(l.1-50,l.1-50+(vl (c8 g.2 40)).1),g.1,g.1+(vl (c8 (vl (c8 g.2 40)).2 12)).1)],[(2*i+d,(l.1-50,l.1-50+(vl (c8 g.2 40)).1),g.1,g.1+(vl (c8 (vl (c8 g.2 40)).2 12)).1)])) fun(_,o,v,_) =>
     Bc d t (v,o.2.1,o.2.2.1,o.2.2.2)
    else
     Bc d t ((j,(vl (c8 (a,c,b) 8)).2.1,(vl (c8 (a,c,b) 8)).2.2.1,(vl (c8 (a,c,b) 8)).2.2.2))
   else
    gd ((c8 (vl (c8 (a,c,b) 8)).2 24).isSome/\True)<|gd (True) <|
    if(false||(vl (c8 (vl (c8 (a,c,b) 8)).2 24)).1==0) then
     gd ((c8 (vl (c8 (vl (c8 (a,c,b) 8)).2 24)).2 200).isSome/\c9 ((vl (c8 (vl (c8 (vl (c8 (a,c,b) 8)).2 24)).2 200)).1-50)/\(c8 (vl (c8 (vl (c8 (vl (c8 (a,c,b) 8)).2 24)).2 200)).2 30).isSome/\True)<|lt ((vl (c8 (vl (c8 (vl (c8 (a,c,b) 8)).2 24)).2 200),vl (c8 (vl (c8 (vl (c8 (vl (c8 (a,c,b) 8)).2 24)).2 200)).2 30),vl (c8 (a,c,b) 8),vl (c8 (vl (c8 (a,c,b) 8)).2 24))) fun(k,e,_,_) =>
     gd (c9 (2*i)/\c9 (2*i+d)/\(c8 e.2 40).isSome/\c9 (k.1-50+(vl (c8 e.2 40)).1)/\(c8 (vl (c8 e.2 40)).2 12).isSome/\c9 (e.1+(vl (c8 (vl (c8 e.2 40)).2 12)).1)/\(j.length+[(2*i+d,(k.1-50,k.1-50+(vl (c8 e.2 40)).1),e.1,e.1+(vl (c8 (vl (c8 e.2 40)).2 12)).1)].length<=9223372036854775807/\(j.length+[(2*i+d,(k.1-50,k.1-50+(vl (c8 e.2 40)).1),e.1,e.1+(vl (c8 (vl (c8 e.2 40)).2 12)).1)].length)*40<=140737488355328)/\True)<|lt ((vl (c8 e.2 40),vl (c8 (vl (c8 e.2 40)).2 12),j++[(2*i+d,(k.1-50,k.1-50+(vl (c8 e.2 40)).1),e.1,e.1+(vl (c8 (vl (c8 e.2 40)).2 12)).1)],[(2*i+d,(k.1-50,k.1-50+(vl (c8 e.2 40)).1),e.1,e.1+(vl (c8 (vl (c8 e.2 40)).2 12)).1)])) fun(_,r,x,_) =>
     Bc d t (x,r.2.1,r.2.2.1,r.2.2.2)
    else
     Bc d t ((j,(vl (c8 (vl (c8 (a,c,b) 8)).2 24)).2.1,(vl (c8 (vl (c8 (a,c,b) 8)).2 24)).2.2.1,(vl (c8 (vl (c8 (a,c,b) 8)).2 24)).2.2.2))
  else
   gd (True)<|gd (True)<|if(false&&false) then
    gd (True)<|gd (True) <|
    if(true||false) then
     gd ((c8 (a,c,b) 200).isSome/\c9 ((vl (c8 (a,c,b) 200)).1-50)/\(c8 (vl (c8 (a,c,b) 200)).2 30).isSome/\True)<|lt ((vl (c8 (a,c,b) 200),vl (c8 (vl (c8 (a,c,b) 200)).2 30))) fun(m,h) =>
     gd (c9 (2*i)/\c9 (2*i+d)/\(c8 h.2 40).isSome/\c9 (m.1-50+(vl (c8 h.2 40)).1)/\(c8 (vl (c8 h.2 40)).2 12).isSome/\c9 (h.1+(vl (c8 (vl (c8 h.2 40)).2 12)).1)/\(j.length+[(2*i+d,(m.1-50,m.1-50+(vl (c8 h.2 40)).1),h.1,h.1+(vl (c8 (vl (c8 h.2 40)).2 12)).1)].length<=9223372036854775807/\(j.length+[(2*i+d,(m.1-50,m.1-50+(vl (c8 h.2 40)).1),h.1,h.1+(vl (c8 (vl (c8 h.2 40)).2 12)).1)].length)*40<=140737488355328)/\True)<|lt ((vl (c8 h.2 40),vl (c8 (vl (c8 h.2 40)).2 12),j++[(2*i+d,(m.1-50,m.1-50+(vl (c8 h.2 40)).1),h.1,h.1+(vl (c8 (vl (c8 h.2 40)).2 12)).1)],[(2*i+d,(m.1-50,m.1-50+(vl (c8 h.2 40)).1),h.1,h.1+(vl (c8 (vl (c8 h.2 40)).2 12)).1)])) fun(_,q,w,_) =>
     Bc d t (w,q.2.1,q.2.2.1,q.2.2.2)
    else
     Bc d t (j,a,c,b)
   else
    gd ((c8 (a,c,b) 24).isSome/\True)<|gd (True) <|
    if(false||(vl (c8 (a,c,b) 24)).1==0) then
     gd ((c8 (vl (c8 (a,c,b) 24)).2 200).isSome/\c9 ((vl (c8 (vl (c8 (a,c,b) 24)).2 200)).1-50)/\(c8 (vl (c8 (vl (c8 (a,c,b) 24)).2 200)).2 30).isSome/\True)<|lt ((vl (c8 (vl (c8 (a,c,b) 24)).2 200),vl (c8 (vl (c8 (vl (c8 (a,c,b) 24)).2 200)).2 30),vl (c8 (a,c,b) 24))) fun(n,f,_) =>
     gd (c9 (2*i)/\c9 (2*i+d)/\(c8 f.2 40).isSome/\c9 (n.1-50+(vl (c8 f.2 40)).1)/\(c8 (vl (c8 f.2 40)).2 12).isSome/\c9 (f.1+(vl (c8 (vl (c8 f.2 40)).2 12)).1)/\(j.length+[(2*i+d,(n.1-50,n.1-50+(vl (c8 f.2 40)).1),f.1,f.1+(vl (c8 (vl (c8 f.2 40)).2 12)).1)].length<=9223372036854775807/\(j.length+[(2*i+d,(n.1-50,n.1-50+(vl (c8 f.2 40)).1),f.1,f.1+(vl (c8 (vl (c8 f.2 40)).2 12)).1)].length)*40<=140737488355328)/\True)<|lt ((vl (c8 f.2 40),vl (c8 (vl (c8 f.2 40)).2 12),j++[(2*i+d,(n.1-50,n.1-50+(vl (c8 f.2 40)).1),f.1,f.1+(vl (c8 (vl (c8 f.2 40)).2 12)).1)],[(2*i+d,(n.1-50,n.1-50+(vl (c8 f.2 40)).1),f.1,f.1+(vl (c8 (vl (c8 f.2 40)).2 12)).1)])) fun(_,s,u,_) =>
     Bc d t (u,s.2.1,s.2.2.1,s.2.2.2)
    else
     Bc d t ((j,(vl (c8 (a,c,b) 24)).2.1,(vl (c8 (a,c,b) 24)).2.2.1,(vl (c8 (a,c,b) 24)).2.2.2))
 else
  UZ i z (j,a,c,b)
def G0l(b:List D1)(g:Int×List m6×List Int×Int×Int->Option (List m6×l5)):Int×List m6×List Int×Int×Int->Option (List m6×l5)
 | (a,d,c,f,e) =>
 if(decide (a < (b.length:Int))) then
  gd (ix a b.length/\a.toNat<b.length/\(decide ((b.getD a.toNat (b7 r8)).1<0)=true/\True->ix a b.length)/\(decide ((b.getD a.toNat (b7 r8)).1<0)=true/\True->a.toNat<b.length)/\True) <|
  lp (G0k a b g) (0,d,c,f,e)
 else
  PW (d,c,f,e)
def u64(a:l5)(b:j7):Option (List m6×l5) :=
 gd ((Y1 b).isSome/\True) <|
 if(!vl (Y1 b)) then
  some ([],a)
 else
  gd ((I6 b.2.1).isSome/\True)<|lt (vl (I6 b.2.1)) fun c =>
  lp (G0l c) (0,[],a.1,a.2.1,a.2.2)
def k64:Ct:=j9 64 [.io 122 m7,.agg l9] (fun x=>u64 x.1 x.2.1) (fun r:List m6×l5=>AV.ow 53 true y53 r.1) (fun r=>r.2)
theorem o64:Ok prog k64:=by
 refine k8 [.tmp 4] func64 ?_;intro y ⟨a0,_,_⟩ r H Q hn hr;have:=hz (tc F4 (tc Aa (tc KQ tn)));refine iA [0,3]<|iA [0,3,5]<|vQ<|iB [0,3,5,16] H fun H=>cD H (fun H=>iA [4]<|j0<|fR<|hr H) fun H=>vK<|fQ<|iD Aa [0,5,6] H fun c H=>jN r (fun((v,aT,t,aQ):List m6×List Int×Int×Int)=>Z [p 0 (R 500000),p 5 (O 13)] [(13,A 53 y53 v 0),(500000,bx 122 (A5 aT t aQ))]) (PW) (fun⟨v,aT,t,aQ⟩ H=>?_) (fun _ n0 e0 t0=>?_)
 ·refine jN r (fun((aU,G,aO,u):List m6×List Int×Int×Int)=>Z [p 5 (O 13)] [(13,A 53 y53 aU 0),(500000,bx 122 (A5 G aO u))]) (Ft) (fun⟨aU,G,aO,u⟩ H=>?_) (fun _ n5 e5 t5=>?_)
  ·refine iA [4]<|j0<|hr H
  refine iA [0,5,82]<|cD H (fun H=>?_) (fun H=>?_)
  ·refine iD F4 [0,5,12] H fun _ H=>iD F4 [5,12,88] H fun i H=>vB<|iA [5,12,88,89]<|cD H (fun H=>zD (fun w=>Z [p 5 (O 13)] [(13,A 53 y53 w 0),(500000,K 122 m7 i.2)]) H fun w H=>fK<|n5 H) fun H=>iA [5,12,88,99]<|cD H (fun H=>zD (fun aK=>Z [p 5 (O 13)] [(13,A 53 y53 aK 0),(500000,K 122 m7 i.2)]) H fun aK H=>fK<|n5 H) fun H=>iA [5,12,88,113]<|cD H (fun H=>zD (fun aM=>Z [p 5 (O 13)] [(13,A 53 y53 aM 0),(500000,K 122 m7 i.2)]) H fun aM H=>fK<|n5 H) fun H=>iA [5,12,120]<|cD H (fun H=>zD (fun aA=>Z [p 5 (O 13)] [(13,A 53 y53 aA 0),(500000,K 122 m7 i.2)]) H fun aA H=>fK<|n5 H) fun H=>vK<|fK<|n5 H
  exact vK<|n5 H
 refine iA [0,5,6,7]<|vB<|lX (fun((a,aY,aW,aX,aV):Int×List m6×List Int×Int×Int)=>Z (DY a []) [(20,A 190 r8 c 0),(13,A 53 y53 aY 0),(500000,bx 122 (A5 aW aX aV))]) (0,[],a0.1,a0.2.1,a0.2.2) H fun _ g1 b1 e1 t1 ⟨a,aY,aW,aX,aV⟩ H=>vQ<|iA [0,5,6,7,24]<|cD H (fun H=>?_) (fun H=>?_)
 ·refine vK<|fQ<|jN r (fun((W,T,o,aJ):List m6×List Int×Int×Int)=>Z (DY a []) [(20,A 190 r8 c 0),(13,A 53 y53 W 0),(500000,bx 122 (A5 T o aJ))]) (UZ a g1) (fun⟨W,T,o,aJ⟩ H=>?_) (fun _ n2 e2 t2=>?_)
  ·refine jB [0,5,6,7] H fun H=>b1 H
  refine vB<|iB [0,5,6,7,8] H fun H=>iA [0,5,6,7,8,9]<|vB<|lX (fun((b,d,F,aR,aI):Int×List m6×List Int×Int×Int)=>Z (DY a [p 8 (B (decide ((c.getD a.toNat (b7 r8)).1<0)&&(c.getD a.toNat (b7 r8)).2.2.2)),p 9 (I b)]) [(20,A 190 r8 c 0),(13,A 53 y53 d 0),(500000,bx 122 (A5 F aR aI))]) (0,aY,aW,aX,aV) H fun _ g3 b3 e3 t3 ⟨b,d,F,aR,aI⟩ H=>vQ<|iA [0,5,6,7,8,9,41]<|cD H (fun H=>?_) (fun H=>?_)
  ·refine vK<|fQ<|jN r (fun((q,aC,aN,z):List m6×List Int×Int×Int)=>Z (DY a [p 8 (B (decide ((c.getD a.toNat (b7 r8)).1<0)&&(c.getD a.toNat (b7 r8)).2.2.2)),p 9 (I b)]) [(13,A 53 y53 q 0),(500000,bx 122 (A5 aC aN z)),(20,A 190 r8 c 0)]) (Bc b g3) (fun⟨q,aC,aN,z⟩ H=>?_) (fun _ n4 e4 t4=>?_)
   ·refine jB [0,5,6,7,8,9] H fun H=>b3 H
   refine vB<|vQ<|Va<|PY 2 3 [(46,AV.ptr 500000 0),(47,I 0),(48,B false)] H (fun H=>J4 H fun H=>?_) (fun H=>J4 H fun H=>?_)
   ·refine PY 7 3 [(51,AV.ptr 500000 0),(52,I 0),(53,B false)] H (fun H=>J4 H fun H=>?_) (fun H=>J4 H fun H=>?_)
    ·refine IV [0,5,6,7,8,9,46,47,48,51,52,53,54] H fun H=>fQ<|cD H (fun H=>?_) (fun H=>?_)
     ·refine qD (fun(aD,m,g)=>Z (DY a [p 8 (B (decide ((c.getD a.toNat (b7 r8)).1<0)&&(c.getD a.toNat (b7 r8)).2.2.2)),p 9 (I b),p 10 (I (aD.1-50)),p 11 (I m.1),p 46 (R 500000),p 47 (I g.1),p 48 (B (decide (0<g.1)))]) [(500000,K 122 m7 m.2),(20,A 190 r8 c 0),(13,A 53 y53 d 0)]) H fun⟨aD,m,g⟩ H =>
       zD (fun(bB,P,E,aS)=>Z (Ov a (decide ((c.getD a.toNat (b7 r8)).1<0)&&(c.getD a.toNat (b7 r8)).2.2.2) b [p 46 (R 500000),p 47 (I g.1),p 48 (B (decide (0<g.1)))]) (Ow E aS P.2 c)) H fun⟨bB,P,E,aS⟩ H =>
       fK<|n4 H
     exact vK<|fK<|n4 H
    refine IV [0,5,6,7,8,9,46,47,48,51,52,53,54] H fun H=>fQ<|cD H (fun H=>?_) (fun H=>?_)
    ·refine qD (fun(aL,l,e,f)=>Z (DY a [p 8 (B (decide ((c.getD a.toNat (b7 r8)).1<0)&&(c.getD a.toNat (b7 r8)).2.2.2)),p 9 (I b),p 10 (I (aL.1-50)),p 11 (I l.1),p 46 (R 500000),p 47 (I e.1),p 48 (B (decide (0<e.1))),p 51 (R 500000),p 52 (I f.1),p 53 (B (f.1==0))]) [(500000,K 122 m7 l.2),(20,A 190 r8 c 0),(13,A 53 y53 d 0)]) H fun⟨aL,l,e,f⟩ H =>
      zD (fun(bC,s,aB,x)=>Z (Ov a (decide ((c.getD a.toNat (b7 r8)).1<0)&&(c.getD a.toNat (b7 r8)).2.2.2) b [p 46 (R 500000),p 47 (I e.1),p 48 (B (decide (0<e.1))),p 51 (R 500000),p 52 (I f.1),p 53 (B (f.1==0))]) (Ow aB x s.2 c)) H fun⟨bC,s,aB,x⟩ H =>
      fK<|n4 H
    exact vK<|fK<|n4 H
   refine PY 7 3 [(51,AV.ptr 500000 0),(52,I 0),(53,B false)] H (fun H=>J4 H fun H=>?_) (fun H=>J4 H fun H=>?_)
   ·refine IV [0,5,6,7,8,9,46,47,48,51,52,53,54] H fun H=>fQ<|cD H (fun H=>?_) (fun H=>?_)
    ·refine qD (fun(aF,j)=>Z (DY a [p 8 (B (decide ((c.getD a.toNat (b7 r8)).1<0)&&(c.getD a.toNat (b7 r8)).2.2.2)),p 9 (I b),p 10 (I (aF.1-50)),p 11 (I j.1)]) [(500000,K 122 m7 j.2),(20,A 190 r8 c 0),(13,A 53 y53 d 0)]) H fun⟨aF,j⟩ H =>
      zD (fun(aZ,aP,Y,aH)=>Z (Ov a (decide ((c.getD a.toNat (b7 r8)).1<0)&&(c.getD a.toNat (b7 r8)).2.2.2) b []) (Ow Y aH aP.2 c)) H fun⟨aZ,aP,Y,aH⟩ H =>
      fK<|n4 H
    exact vK<|fK<|n4 H
   refine IV [0,5,6,7,8,9,46,47,48,51,52,53,54] H fun H=>fQ<|cD H (fun H=>?_) (fun H=>?_)
   ·refine qD (fun(aG,k,h)=>Z (DY a [p 8 (B (decide ((c.getD a.toNat (b7 r8)).1<0)&&(c.getD a.toNat (b7 r8)).2.2.2)),p 9 (I b),p 10 (I (aG.1-50)),p 11 (I k.1),p 51 (R 500000),p 52 (I h.1),p 53 (B (h.1==0))]) [(500000,K 122 m7 k.2),(20,A 190 r8 c 0),(13,A 53 y53 d 0)]) H fun⟨aG,k,h⟩ H =>
     zD (fun(bA,X,n,V)=>Z (Ov a (decide ((c.getD a.toNat (b7 r8)).1<0)&&(c.getD a.toNat (b7 r8)).2.2.2) b [p 51 (R 500000),p 52 (I h.1),p 53 (B (h.1==0))]) (Ow n V X.2 c)) H fun⟨bA,X,n,V⟩ H =>
     fK<|n4 H
   exact vK<|fK<|n4 H
  exact vE<|fE<|e3<|fX rfl<|fK<|n2 H
 exact vE<|fE<|e1<|fX rfl<|n0 H
abbrev sd(s:l5):Prop:=0<=s.2.1/\0<=s.2.2/\s.2.2<2147483647
abbrev PZ(x:r7 [.io 122 m7,.dat i64,.dat .bool]):Prop:=sd x.1/\2<=x.2.1/\x.2.1<=6
abbrev Qa(r:r6×l5):Prop:=sd r.2/\(r.1.1.length<=6/\∀i∈r.1.1,i.2.2.length<=4)/\(1<=r.1.2.1.length/\r.1.2.1.length<=20)/\(1<=r.1.2.2.length/\r.1.2.2.length<=5)/\Xd.cnt y31 r.1<=2000
abbrev Mj(x:r7 [.io 122 m7,.dat i64]):Prop:=sd x.1/\0<=x.2.1/\x.2.1<=40
abbrev Qb(r:x8×l5):Prop:=sd r.2/\1<=r.1.1.length/\1<=r.1.2.1.length/\1<=r.1.2.2.1.length/\Xd.cnt l6 r.1<=60
abbrev Fu(x:r7 [.io 122 m7,.dat i64,.dat .bool]):Prop:=sd x.1/\2<=x.2.1/\x.2.1<=6
abbrev GU(r:j7×l5):Prop:=sd r.2/\1<=r.1.2.2.length/\(∀w∈r.1.2.2,1<=w.1.length/\1<=w.2.1.length/\1<=w.2.2.1.length)/\1<=r.1.2.1.2.2.length/\Xd.cnt l9 r.1<=10000
abbrev Qc(r:j7×l5):Prop:=sd r.2/\Xd.cnt l9 r.1<=20000
abbrev IW(r:j7×l5):Prop:=sd r.2/\Xd.cnt l9 r.1<=20000
abbrev N0g(c:p5):Prop:=(-10000<=c.2.1/\c.2.1<=10000)/\(-10000<=c.2.2.1/\c.2.2.1<=10000)/\(-10000<=c.2.2.2.1/\c.2.2.2.1<=10000)/\(-10000<=c.2.2.2.2/\c.2.2.2.2<=10000)
abbrev Qd(r:j7×p5×List Int×List m6×l5):Prop:=sd r.2.2.2.2/\Xd.cnt l9 r.1<=20000/\r.2.2.1.length<=20000/\r.2.2.2.1.length<=20000
abbrev T8(r:j7×p5×List Int×List m6):Prop:=Xd.cnt l9 r.1<=20000/\r.2.2.1.length<=20000/\r.2.2.2.length<=20000
def Vb(r:x8×l5):AV:=AV.agg [M i64 r.1.1,M i64 r.1.2.1,M i64 r.1.2.2.1,M i64 r.1.2.2.2]
def GV(r:x8×l5):B0 [.io 122 m7,.dat i64]:=r.2
def Vc:Prop:=kE prog 121 [.io 122 m7,.dat i64] Mj Qb Vb GV
def Vd[Alw](c:List Int)(f:List Int)(a:List Int):List Int×Int×Int×List Int->Option Unit
 | (e,b,d,g) =>
 gd (Qb (((c,f,a,g),e,b,d)))<|some ()
def B0s[Alw](d:List Int)(i:List Int)(h:List Int)(j:Int×List Int×Int×Int×List Int->Option Unit):Int×List Int×Int×Int×List Int->Option Unit
 | (a,e,f,g,b) =>
 if(decide (a < (b.length:Int))) then
  gd ((c8 (e,f,g) (d.length:Int)).isSome/\ix a b.length/\a.toNat<b.length/\True)<|lt (vl (c8 (e,f,g) (d.length:Int))) fun c =>
  gd (c9 (a+1)/\True) <|
  j (a+1,c.2.1,c.2.2.1,c.2.2.2,b.set a.toNat c.1)
 else
  Vd d i h (e,f,g,b)
def Ve[Alw](g:x8):List Int×Int×Int×List Int×List Int×List Int->Option Unit
 | (c,b,f,e,d,a) =>
 lp (B0s e d a) (0,c,b,f,g.2.2.2)
def B0t[Alw](o:x8)(n:Int×List Int×Int×Int×List Int×List Int×List Int->Option Unit):Int×List Int×Int×Int×List Int×List Int×List Int->Option Unit
 | (h,b,d,c,a,e,f) =>
 if(decide (0<h)) then
  gd ((K1 a).isSome/\(c8 (b,d,c) (a.length:Int)).isSome/\((vl (K1 a)).length+[(vl (c8 (b,d,c) (a.length:Int))).1].length<=9223372036854775807/\((vl (K1 a)).length+[(vl (c8 (b,d,c) (a.length:Int))).1].length)*8<=140737488355328)/\(K1 e).isSome/\(c8 (vl (c8 (b,d,c) (a.length:Int))).2 400).isSome/\((vl (K1 e)).length+[(vl (c8 (vl (c8 (b,d,c) (a.length:Int))).2 400)).1].length<=9223372036854775807/\((vl (K1 e)).length+[(vl (c8 (vl (c8 (b,d,c) (a.length:Int))).2 400)).1].length)*8<=140737488355328)/\(K1 f).isSome/\(c8 (vl (c8 (vl (c8 (b,d,c) (a.length:Int))).2 400)).2 8).isSome/\((vl (K1 f)).length+[(vl (c8 (vl (c8 (vl (c8 (b,d,c) (a.length:Int))).2 400)).2 8)).1].length<=9223372036854775807/\((vl (K1 f)).length+[(vl (c8 (vl (c8 (vl (c8 (b,d,c) (a.length:Int))).2 400)).2 8)).1].length)*8<=140737488355328)/\True)<|lt ((vl (K1 f),vl (c8 (vl (c8 (vl (c8 (b,d,c) (a.length:Int))).2 400)).2 8),vl (K1 e),vl (c8 (vl (c8 (b,d,c) (a.length:Int))).2 400),vl (K1 a),vl (c8 (b,d,c) (a.length:Int)))) fun(i,g,l,k,m,j) =>
  gd (c9 (h-1)/\True) <|
  n (h-1,g.2.1,g.2.2.1,g.2.2.2,m++[j.1],l++[k.1],i++[g.1])
 else
  Ve o (b,d,c,a,e,f)
def Qe[Alw](b:l5)(d:Int):Option Unit :=
 gd ((c8 b 6).isSome/\(Md d (vl (c8 b 6)).1).isSome/\True)<|lt ((vl (Md d (vl (c8 b 6)).1),vl (c8 b 6))) fun(c,e) =>
 gd ((c8 e.2 4).isSome/\True)<|lt (vl (c8 e.2 4)) fun a =>
 lp (B0t c) (a.1,a.2.1,a.2.2.1,a.2.2.2,c.1,c.2.1,c.2.2.1)
theorem R0z[Alw](hF:∀x,Xv.wfs [.io 122 m7,.dat i64] x->Mj x->Qe x.1 x.2.1=some ()):Vc:=by
 refine GW (f:=121) (ps:=[.io 122 m7,.dat i64]) (pre:=Mj) (post:=Qb) (R:=Vb) (Z:=GV) (F:=fun x=>Qe x.1 x.2.1) L7 [.cell 4 153] hF func121 ntmps121 rfl results121 (by kernel_rfl) rfl ?_;intro y ⟨_,_,_⟩ r H hB Q hn hr;have:=hz (tc F4 (tc Oz (tc O0H tn)));refine iA [0,1,4]<|qD (fun(b,v1)=>Z (By []) [(5,bx 153 [AV.os 12 0,AV.os 1012 0,AV.os 2012 0,AV.os 3012 0]),(3012,A 2 i64 b.2.2.2 0),(2012,A 2 i64 b.2.2.1 0),(1012,A 2 i64 b.2.1 0),(12,A 2 i64 b.1 0),(500000,K 122 m7 v1.2),(4,bx 153 [nil,nil,nil,nil])]) H fun w H=>?_
 obtain⟨b,v1⟩:=w;refine jN r (fun((o,t,E,h,g,e):List Int×Int×Int×List Int×List Int×List Int)=>Z (By []) ((500000,bx 122 (A5 o t E))::(5,bx 153 [M i64 h,M i64 g,M i64 e,AV.os 3012 0])::W8 b.2.2.2)) (Ve b) (fun w H=>?_) (fun _ n0 e0 t0=>?_)
 ·obtain⟨o,t,E,h,g,e⟩:=w;refine jN r (fun((G,q,u,v):List Int×Int×Int×List Int)=>Z [p 4 (R 4),p 5 (R 5)] ((500000,bx 122 (A5 G q u))::(5,bx 153 [M i64 h,M i64 g,M i64 e,AV.os 3012 0])::W8 v)) (Vd h g e) (fun⟨G,q,u,v⟩ H=>?_) (fun _ n2 e2 t2=>?_)
  ·refine iA [4]<|j0<|hr (((h,g,e,v),G,q,u)) (L0 H).1 (by kernel_rfl)
  refine iA [0,4,5,8]<|vB<|lX (fun((n,T,Y,aA,z):Int×List Int×Int×Int×List Int)=>Z (By [p 8 (I n)]) ((500000,bx 122 (A5 T Y aA))::(5,bx 153 [M i64 h,M i64 g,M i64 e,AV.os 3012 0])::W8 z)) (0,o,t,E,b.2.2.2) H fun _ g3 b3 e3 t3 ⟨n,T,Y,aA,z⟩ H=>vQ<|iA [0,4,5,8,51]<|cD H (fun H=>vK<|fQ<|vQ<|vB<|zD (fun s=>Z (By [p 8 (I n)]) [(3012,A 2 i64 (z.set n.toNat s.1) 0),(500000,K 122 m7 s.2),(5,bx 153 [M i64 h,M i64 g,M i64 e,AV.os 3012 0]),(4,bx 153 [nil,nil,nil,nil])]) H fun s H=>fK<|fQ<|jB [0,4,5,8] H fun H=>b3 H) fun H=>vE<|fE<|e3<|fX rfl<|n2 H
 refine qD (fun m=>Z (By [p 6 (I m.1)]) [(500000,K 122 m7 m.2),(5,bx 153 [AV.os 12 0,AV.os 1012 0,AV.os 2012 0,AV.os 3012 0]),(3012,A 2 i64 b.2.2.2 0),(2012,A 2 i64 b.2.2.1 0),(1012,A 2 i64 b.2.1 0),(12,A 2 i64 b.1 0),(4,bx 153 [nil,nil,nil,nil])]) H fun m H=>vB<|fZs [12,1012,2012] (Z (By [p 6 (I m.1)]) ((500000,K 122 m7 m.2)::(5,bx 153 [M i64 b.1,M i64 b.2.1,M i64 b.2.2.1,AV.os 3012 0])::W8 b.2.2.2))<|lX (fun((i,P,W,V,aC,aB,X):Int×List Int×Int×Int×List Int×List Int×List Int)=>Z (By [p 6 (I i)]) ((500000,bx 122 (A5 P W V))::(5,bx 153 [M i64 aC,M i64 aB,M i64 X,AV.os 3012 0])::W8 b.2.2.2)) (m.1,m.2.1,m.2.2.1,m.2.2.2,b.1,b.2.1,b.2.2.1) H fun _ g1 b1 e1 t1 ⟨i,P,W,V,aC,aB,X⟩ H=>vQ<|iA [0,4,5,6,16]<|cD H (fun H=>?_) (fun H=>?_)
 ·refine vK<|fQ<|vQ<|vB<|iA [0,4,5,6,7]<|zD (fun(k,a,l,c,j,d)=>Z (By [p 6 (I i)]) ((5,bx 153 [AV.os 24 1,AV.os 32 1,AV.os 39 1,AV.os 3012 0])::(39,A 2 i64 (k++[a.1]) 1)::(42,A 2 i64 [a.1] 0)::(500000,K 122 m7 a.2)::(32,A 2 i64 (l++[c.1]) 1)::(35,A 2 i64 [c.1] 0)::(24,A 2 i64 (j++[d.1]) 1)::(28,A 2 i64 [d.1] 0)::W8 b.2.2.2)) H fun⟨k,a,l,c,j,d⟩ H =>
   fK<|fQ <|
   jB [0,4,5,6] H fun H =>
   Cz 24 (Z (By [p 6 (I (i-1))]) ((5,bx 153 [M i64 (j++[d.1]),AV.os 32 1,AV.os 39 1,AV.os 3012 0])::(39,A 2 i64 (k++[a.1]) 1)::(42,A 2 i64 [a.1] 0)::(500000,K 122 m7 a.2)::(32,A 2 i64 (l++[c.1]) 1)::(35,A 2 i64 [c.1] 0)::(28,A 2 i64 [d.1] 0)::W8 b.2.2.2)) (by kernel_rfl) rfl<|Cz 32 (Z (By [p 6 (I (i-1))]) ((5,bx 153 [M i64 (j++[d.1]),M i64 (l++[c.1]),AV.os 39 1,AV.os 3012 0])::(39,A 2 i64 (k++[a.1]) 1)::(42,A 2 i64 [a.1] 0)::(500000,K 122 m7 a.2)::(35,A 2 i64 [c.1] 0)::(28,A 2 i64 [d.1] 0)::W8 b.2.2.2)) (by kernel_rfl) rfl<|Cz 39 (Z (By [p 6 (I (i-1))]) ((5,bx 153 [M i64 (j++[d.1]),M i64 (l++[c.1]),M i64 (k++[a.1]),AV.os 3012 0])::(42,A 2 i64 [a.1] 0)::(500000,K 122 m7 a.2)::(35,A 2 i64 [c.1] 0)::(28,A 2 i64 [d.1] 0)::W8 b.2.2.2)) (by kernel_rfl) rfl<|b1 H
 exact vE<|fE<|e1<|fX rfl<|n0 H
def Vf(r:r6×l5):AV:=AV.agg (Tc r.1.1 r.1.2.1 r.1.2.2)
def Dp(r:r6×l5):B0 [.io 122 m7,.dat i64,.dat .bool]:=r.2
def Vg:Prop:=kE prog 120 [.io 122 m7,.dat i64,.dat .bool] PZ Qa Vf Dp
def Mm[Alw](a:List m9)(f:List ByteArray):List r9×List Int×Int×Int->Option Unit
 | (b,c,d,e) =>
 gd (Qa (((a,f,b),c,d,e)))<|some ()
def Qf[Alw](b:List ByteArray)(j:List r9):List Int×Int×Int×List m9×List m9×List m9×List ByteArray×List r9->Option Unit
 | (f,g,h,e,_,_,_,_) =>
 gd ((0+j.length<=9223372036854775807/\(0+j.length)*32<=140737488355328)/\True) <|
 gd (c9 ((b.length:Int)-(1:Int))/\(([]++j).length+[(ByteArray.mk #[(121:UInt8)],(2:Int),(b.length:Int)-(1:Int))].length<=9223372036854775807/\(([]++j).length+[(ByteArray.mk #[(121:UInt8)],(2:Int),(b.length:Int)-(1:Int))].length)*32<=140737488355328)/\True)<|lt (([]++j++[(ByteArray.mk #[(121:UInt8)],(2:Int),(b.length:Int)-(1:Int))],[(ByteArray.mk #[(121:UInt8)],(2:Int),(b.length:Int)-(1:Int))])) fun(c,_) =>
 gd ((c8 (f,g,h) 2).isSome/\True)<|lt (vl (c8 (f,g,h) 2)) fun a =>
 if(a.1==0) then
  gd (c9 ((b.length:Int)-(1:Int))/\(c8 a.2 ((b.length:Int)-(1:Int))).isSome/\c9 ((1:Int)+(vl (c8 a.2 ((b.length:Int)-(1:Int)))).1)/\(c.length+[(ByteArray.mk #[(122:UInt8)],(2:Int),(1:Int)+(vl (c8 a.2 ((b.length:Int)-(1:Int)))).1)].length<=9223372036854775807/\(c.length+[(ByteArray.mk #[(122:UInt8)],(2:Int),(1:Int)+(vl (c8 a.2 ((b.length:Int)-(1:Int)))).1)].length)*32<=140737488355328)/\True)<|lt ((vl (c8 a.2 ((b.length:Int)-1)),c++[(ByteArray.mk #[(122:UInt8)],(2:Int),(1:Int)+(vl (c8 a.2 ((b.length:Int)-(1:Int)))).1)],[(ByteArray.mk #[(122:UInt8)],(2:Int),(1:Int)+(vl (c8 a.2 ((b.length:Int)-(1:Int)))).1)])) fun(d,i,_) =>
  Mm e b (i,d.2.1,d.2.2.1,d.2.2.2)
 else
  Mm e b (c,a.2.1,a.2.2.1,a.2.2.2)
def Mn[Alw](a:Int)(j:Int×List Int×Int×Int×List m9×List m9×List m9×List ByteArray×List r9->Option Unit):List Int×Int×Int×List m9×List m9×List m9×List ByteArray×List r9->Option Unit
 | (f,b,i,g,h,c,e,d) =>
 gd (c9 (a+1)/\True) <|
 j (a+1,f,b,i,g,h,c,e,d)
def B0u[Alw](g:List ByteArray)(x:Bool)(w:List r9)(v:Int×List Int×Int×Int×List m9×List m9×List m9×List ByteArray×List r9->Option Unit):Int×List Int×Int×Int×List m9×List m9×List m9×List ByteArray×List r9->Option Unit
 | (b,e,f,d,a,j,n,h,k) =>
 if(decide (b < (a.length:Int))) then
  gd ((c8 (e,f,d) 4).isSome/\(((vl (c8 (e,f,d) 4)).1==0)=true/\True->ix b a.length)/\(((vl (c8 (e,f,d) 4)).1==0)=true/\True->b.toNat<a.length)/\(((a.getD b.toNat (b7 y139)).2.1==5)=false/\((vl (c8 (e,f,d) 4)).1==0)=true/\True->ix b a.length)/\(((a.getD b.toNat (b7 y139)).2.1==5)=false/\((vl (c8 (e,f,d) 4)).1==0)=true/\True->b.toNat<a.length)/\True)<|lt (vl (c8 (e,f,d) 4)) fun c =>
  if(c.1==0&&((a.getD b.toNat (b7 y139)).2.1==5||(a.getD b.toNat (b7 y139)).2.1==6||x)) then
   gd (ix b a.length/\b.toNat<a.length/\c9 ((g.length:Int)-1)/\(c8 c.2 ((g.length:Int)-1)).isSome/\c9 (1+(vl (c8 c.2 ((g.length:Int)-1))).1)/\ix 0 (a.getD b.toNat (b7 y139)).2.2.length/\True)<|Alw.alp (fun((u,s,m,t,r,i,o,q,l):Int×List Int×List Int×List Int×List m9×List m9×List m9×List ByteArray×List r9)=>(w7 i64.pt ((a.getD b.toNat (b7 y139)).2.2.getD (Int.toNat (0:Int)) (0:Int)) u/\(wf i64.pt ((a.getD b.toNat (b7 y139)).2.2.getD (Int.toNat (0:Int)) (0:Int))->wf i64.pt u))/\(w7 i64.sl (a.getD b.toNat (b7 y139)).2.2 s/\(wf i64.sl (a.getD b.toNat (b7 y139)).2.2->wf i64.sl s))/\(w7 b8.sl (vl (c8 c.2 ((g.length:Int)-1))).2.1 m/\(wf b8.sl (vl (c8 c.2 ((g.length:Int)-1))).2.1->wf b8.sl m))/\(w7 b8.sl c.2.1 t/\(wf b8.sl c.2.1->wf b8.sl t))/\(AllS (w7 y139) a r)/\(w7 y139.sl j i/\(wf y139.sl j->wf y139.sl i))/\(w7 y139.sl n o/\(wf y139.sl n->wf y139.sl o))/\(w7 Ty.str.sl h q/\(wf Ty.str.sl h->wf Ty.str.sl q))/\(w7 y202.sl k l/\(wf y202.sl k->wf y202.sl l))) fun((_,_,m,_,r,i,o,q,l):Int×List Int×List Int×List Int×List m9×List m9×List m9×List ByteArray×List r9) =>
   gd (True) <|
   Mn b v ((m,(vl (c8 c.2 ((g.length:Int)-1))).2.2.1,(vl (c8 c.2 ((g.length:Int)-1))).2.2.2,r,i,o,q,l))
  else
   Mn b v (c.2.1,c.2.2.1,c.2.2.2,a,j,n,h,k)
 else
  Qf g w (e,f,d,a,j,n,h,k)
def Qg[Alw](j:Bool)(k:List r9):List Int×Int×Int×List ByteArray×List m9×List m9×List m9×List ByteArray×List r9->Option Unit
 | (h,f,g,e,i,b,a,c,d) =>
 lp (B0u e j k) (0,h,f,g,i,b,a,c,d)
def Vh[Alw](a:Int)(i:List m9)(g:List m9)(b:List ByteArray)(f:List r9)(k:Int×List Int×Int×Int×List ByteArray×List m9×List m9×List m9×List ByteArray×List r9->Option Unit):List m9×List ByteArray×List Int×Int×Int->Option Unit
 | (d,j,e,c,h) =>
 gd (c9 (a-1)/\True) <|
 k (a-1,e,c,h,j,d,i,g,b,f)
def Vi[Alw](l:Int)(o:List m9)(m:List m9)(f:List ByteArray)(k:List r9)(a:List ByteArray)(e:List m9)(d:ByteArray)(c:Int)(q:Int×List Int×Int×Int×List ByteArray×List m9×List m9×List m9×List ByteArray×List r9->Option Unit):List Int×List Int×Int×Int->Option Unit
 | (b,n,h,i) =>
 gd ((0+b.length<=9223372036854775807/\(0+b.length)*8<=140737488355328)/\(([]++b).length+[(a.length:Int)].length<=9223372036854775807/\(([]++b).length+[(a.length:Int)].length)*8<=140737488355328)/\True) <|
 gd ((Cy (a.length:Int)).isSome/\(ByteArray.mk #[110]).size+(vl (Cy (a.length:Int))).size<=9223372036854775807/\(a.length+[ByteArray.mk #[110]++vl (Cy (a.length:Int))].length<=9223372036854775807/\(a.length+[ByteArray.mk #[110]++vl (Cy (a.length:Int))].length)*16<=140737488355328)/\True)<|lt (vl (Cy (a.length:Int))) fun j =>
 gd ((e.length+[(ByteArray.mk #[117]++d,c,[]++b++[(a.length:Int)])].length<=9223372036854775807/\(e.length+[(ByteArray.mk #[117]++d,c,[]++b++[(a.length:Int)])].length)*48<=140737488355328)/\True)<|lt ((e++[(ByteArray.mk #[117]++d,c,[]++b++[(a.length:Int)])],[(ByteArray.mk #[117]++d,c,[]++b++[(a.length:Int)])])) fun(g,_) =>
 Vh l o m f k q (g,a++[ByteArray.mk #[110]++j],n,h,i)
def Mo[Alw](c:Int)(a:List Int)(f:List Int)(e:Int)(d:Int)(g:Int×List Int×List Int×Int×Int->Option Unit):Int->Option Unit
 | b =>
 gd ((0+a.length<=9223372036854775807/\(0+a.length)*8<=140737488355328)/\(([]++a).length+[b].length<=9223372036854775807/\(([]++a).length+[b].length)*8<=140737488355328)/\True) <|
 gd (c9 (c+1)/\True) <|
 g (c+1,[]++a++[b],f,e,d)
def Mp[Alw](a:Int)(e:List Int)(f:Int)(h:Int×List Int×List Int×Int×Int->Option Unit):List Int×Int×Int×Int->Option Unit
 | (d,c,b,g) =>
 if(decide (5<=f)&&a==1) then
  Mo a e d c b h 0
 else
  Mo a e d c b h g
def B0v[Alw](b:Int)(a:List ByteArray)(n:Int)(l:List m9)(o:List m9)(j:List ByteArray)(m:List r9)(k:List m9)(q:ByteArray)(s:Int×List Int×Int×Int×List ByteArray×List m9×List m9×List m9×List ByteArray×List r9->Option Unit)(r:Int×List Int×List Int×Int×Int->Option Unit):Int×List Int×List Int×Int×Int->Option Unit
 | (i,h,f,d,e) =>
 gd (ix b [(2:Int),(2:Int),(3:Int),(3:Int),(4:Int),(3:Int),(3:Int),(3:Int)].length/\b.toNat<[(2:Int),(2:Int),(3:Int),(3:Int),(4:Int),(3:Int),(3:Int),(3:Int)].length/\c9 ([(2:Int),(2:Int),(3:Int),(3:Int),(4:Int),(3:Int),(3:Int),(3:Int)].getD b.toNat (0:Int)-(1:Int))/\True) <|
 if(decide (i<[(2:Int),(2:Int),(3:Int),(3:Int),(4:Int),(3:Int),(3:Int),(3:Int)].getD b.toNat (0:Int)-(1:Int))) then
  gd (c9 ((a.length:Int)-1)/\(c8 (f,d,e) ((a.length:Int)-1)).isSome/\c9 (1+(vl (c8 (f,d,e) ((a.length:Int)-1))).1)/\True)<|lt (vl (c8 (f,d,e) ((a.length:Int)-1))) fun g =>
  gd ((c8 g.2 3).isSome/\True)<|lt (vl (c8 g.2 3)) fun c =>
  if(c.1==0) then
   gd (c9 ((a.length:Int)-1)/\True) <|
   Mp i h b r ((c.2.1,c.2.2.1,c.2.2.2,(a.length:Int)-1))
  else
   Mp i h b r (c.2.1,c.2.2.1,c.2.2.2,1+g.1)
 else
  Vi n l o j m a k q b s (h,f,d,e)
def B0w[Alw](o:Bool)(q:List r9)(n:Int×List Int×Int×Int×List ByteArray×List m9×List m9×List m9×List ByteArray×List r9->Option Unit):Int×List Int×Int×Int×List ByteArray×List m9×List m9×List m9×List ByteArray×List r9->Option Unit
 | (i,a,b,c,g,d,k,j,f,h) =>
 if(decide (0<i)) then
  gd ((c8 (a,b,c) 12).isSome/\ix (vl (c8 (a,b,c) 12)).1 [0,1,2,2,3,4,5,5,5,6,7,1].length/\(vl (c8 (a,b,c) 12)).1.toNat<[0,1,2,2,3,4,5,5,5,6,7,1].length/\True)<|lt ((vl (c8 (a,b,c) 12),[(0:Int),(1:Int),(2:Int),(2:Int),(3:Int),(4:Int),(5:Int),(5:Int),(5:Int),(6:Int),(7:Int),(1:Int)].getD (vl (c8 (a,b,c) (12:Int))).1.toNat (0:Int))) fun(e,l) =>
  gd ((Cy (d.length:Int)).isSome/\(ByteArray.mk #[117]).size+(vl (Cy (d.length:Int))).size<=9223372036854775807/\True)<|lt (vl (Cy (d.length:Int))) fun m =>
  lp (B0v l g i k j f h d m n) (0,[],e.2.1,e.2.2.1,e.2.2.2)
 else
  Qg o q (a,b,c,g,d,k,j,f,h)
def Qh[Alw](c:l5)(b:Int)(e:Bool):Option Unit :=
 lt ([ByteArray.mk #[110,99,107],ByteArray.mk #[110,97],ByteArray.mk #[110,98]]) fun d =>
 lt ([(ByteArray.mk #[(99:UInt8),(107:UInt8)],(1:Int),(0:Int)),(ByteArray.mk #[(97:UInt8)],(1:Int),(1:Int)),(ByteArray.mk #[(98:UInt8)],(1:Int),(2:Int))]) fun f =>
 gd ((0+d.length<=9223372036854775807/\(0+d.length)*16<=140737488355328)/\True) <|
 gd (c9 (b-1)/\(c8 c (b-1)).isSome/\c9 (2+(vl (c8 c (b-1))).1)/\True)<|lt (vl (c8 c (b-1))) fun a =>
 lp (B0w e f) (2+a.1,a.2.1,a.2.2.1,a.2.2.2,[]++d,[],[],[],[],[])
theorem R0A[Alw](hF:∀x,Xv.wfs [.io 122 m7,.dat i64,.dat .bool] x->PZ x->Qh x.1 x.2.1 x.2.2.1=some ()):Vg:=by
 refine GW (f:=120) (ps:=[.io 122 m7,.dat i64,.dat .bool]) (pre:=PZ) (post:=Qa) (R:=Vf) (Z:=Dp) (F:=fun x=>Qh x.1 x.2.1 x.2.2.1) L7 [.cell 6 31] hF func120 ntmps120 rfl results120 (by kernel_rfl) rfl ?_;intro y ⟨a0,a1,s,_⟩ r H hB Q hn hr;have:=hz (tc F4 (tc UY tn));refine iA [0,1,2,6]<|qC (fun n=>Z [p 0 (R 500000),p 1 (J a1),p 2 (C s),p 6 (R 6),p 7 (R 7)] [(7,bx 31 [nil,AV.os 18 0,nil]),(18,A 9 Ty.str n 0),(6,bx 31 [nil,nil,nil]),(500000,K 122 m7 a0)]) H fun n H=>qC (fun o=>Z [p 0 (R 500000),p 1 (J a1),p 2 (C s),p 6 (R 6),p 7 (R 7)] [(7,bx 31 [nil,AV.os 18 0,AV.os 23 0]),(23,A 202 y202 o 0),(18,A 9 Ty.str n 0),(6,bx 31 [nil,nil,nil]),(500000,K 122 m7 a0)]) H fun o H=>iA [0,1,2,6,7,8]<|iA [0,1,2,6,7,8,9]<|iB [0,1,2,6,7,8,9,10] H fun H=>jN r (fun((bZ,cA,cB,b,bX,aN,aX,aY,aR):List Int×Int×Int×List ByteArray×List m9×List m9×List m9×List ByteArray×List r9)=>Z (Db s [p 9 (O 26),p 10 (O 27)]) ((500000,bx 122 (A5 bZ cA cB))::(27,A 9 Ty.str b 0)::(26,A 139 y139 bX 0)::W0 aN o n aX aY aR)) (Qg s o) (fun w H=>?_) (fun _ n0 e0 t0=>?_)
 ·obtain⟨bZ,cA,cB,b,bX,aN,aX,aY,aR⟩:=w;refine jN r (fun((aT,aZ,bA,u,aF,aB,W,X):List Int×Int×Int×List m9×List m9×List m9×List ByteArray×List r9)=>Z (Cm [p 7 (R 7),p 9 (O 26),p 10 (O 27)]) ((500000,bx 122 (A5 aT aZ bA))::(27,A 9 Ty.str b 0)::(26,A 139 y139 u 0)::W0 aF o n aB W X)) (Qf b o) (fun⟨aT,aZ,bA,u,aF,aB,W,X⟩ H=>?_) (fun _ n7 e7 t7=>?_)
  ·refine iB [0,6,9,10,17] H fun H=>qD (fun(aS,aH)=>Z (Cm [p 9 (O 26),p 10 (O 27),p 17 (AV.os 146 2)]) ((146,A 202 y202 aS 2)::(155,A 202 y202 aH 0)::(500000,bx 122 (A5 aT aZ bA))::(27,A 9 Ty.str b 0)::(26,A 139 y139 u 0)::W0 aF o n aB W X)) H fun⟨aS,aH⟩ H =>
    jN r (fun((bF,aU,bG,aQ):List r9×List Int×Int×Int)=>Z [p 6 (R 6),p 9 (O 26),p 10 (O 27),p 17 (O 146)] [(146,A 202 y202 bF 0),(500000,bx 122 (A5 aU bG aQ)),(27,A 9 Ty.str b 0),(26,A 139 y139 u 0),(6,bx 31 (Tc aB W X))]) (Mm u b) (fun⟨bF,aU,bG,aQ⟩ H=>?_) (fun _ cP cV cU=>?_)
   ·refine iA [6]<|j0<|hr (((u,b,bF),aU,bG,aQ)) (L0 H).1 (by kernel_rfl)
   refine qD (fun bB=>Z (Cm [p 9 (O 26),p 10 (O 27),p 17 (AV.os 146 2),p 159 (B (bB.1==0))]) ((500000,K 122 m7 bB.2)::(146,A 202 y202 aS 2)::(155,A 202 y202 aH 0)::(27,A 9 Ty.str b 0)::(26,A 139 y139 u 0)::W0 aF o n aB W X)) H fun bB H=>cD H (fun H=>?_) (fun H=>?_)
   ·refine zD (fun(bL,bW,bK)=>Z [p 6 (R 6),p 9 (O 26),p 10 (O 27),p 17 (AV.os 146 3)] ((146,A 202 y202 bW 3)::(168,A 202 y202 bK 0)::(500000,K 122 m7 bL.2)::(155,A 202 y202 aH 0)::(27,A 9 Ty.str b 0)::(26,A 139 y139 u 0)::W0 aF o n aB W X)) H fun⟨bL,bW,bK⟩ H =>
     cP H
   exact vK<|cP H
  refine iA [0,2,6,7,9,10,16]<|vB<|lX (fun((a,bV,bM,bT,g,aI,aL,aJ,aK):Int×List Int×Int×Int×List m9×List m9×List m9×List ByteArray×List r9)=>Z (Db s [p 9 (O 26),p 10 (O 27),p 16 (I a)]) ((500000,bx 122 (A5 bV bM bT))::(27,A 9 Ty.str b 0)::(26,A 139 y139 g 0)::W0 aI o n aL aJ aK)) (0,bZ,cA,cB,bX,aN,aX,aY,aR) H fun _ g8 b8 e8 t8 ⟨a,bV,bM,bT,g,aI,aL,aJ,aK⟩ H=>vQ<|iA [0,2,6,7,9,10,16,109]<|cD H (fun H=>?_) (fun H=>?_)
  ·refine vK<|fQ<|jN r (fun((bP,bS,bR,bU,bQ,bN,bO,bJ):List Int×Int×Int×List m9×List m9×List m9×List ByteArray×List r9)=>Z (Db s [p 9 (O 26),p 10 (O 27),p 16 (I a)]) ((500000,bx 122 (A5 bP bS bR))::(27,A 9 Ty.str b 0)::(26,A 139 y139 bU 0)::W0 bQ o n bN bO bJ)) (Mn a g8) (fun⟨bP,bS,bR,bU,bQ,bN,bO,bJ⟩ H=>?_) (fun _ n9 e9 t9=>?_)
   ·refine jB [0,2,6,7,9,10,16] H fun H=>b8 H
   refine vB<|qD (fun c=>Z (Db s [p 9 (O 26),p 10 (O 27),p 16 (I a),p 133 (B (c.1==0&&((g.getD a.toNat (b7 y139)).2.1==5||(g.getD a.toNat (b7 y139)).2.1==6||s)))]) ((500000,K 122 m7 c.2)::(27,A 9 Ty.str b 0)::(26,A 139 y139 g 0)::W0 aI o n aL aJ aK)) H fun c H=>cD H (fun H=>?_) (fun H=>?_)
   ·refine Vj L7 (HT.h) hB 12 [0,2,6,7,9,10,16] (Z [p 145 (N i64.pt ((g.getD a.toNat (b7 y139)).2.2.getD (Int.toNat (0:Int)) (0:Int))),p 144 (I ((1:Int)+(vl (c8 c.2 ((b.length:Int)-(1:Int)))).1)),p 143 (I (vl (c8 c.2 ((b.length:Int)-(1:Int)))).1),p 142 (I ((b.length:Int)-(1:Int))),p 141 (I (b.length:Int)),p 140 (O 27),p 139 (R 500000),p 138 (M i64 (g.getD a.toNat (b7 y139)).2.2),p 137 (AV.pel 26 0 a.toNat 3 2),p 136 (AV.pel 26 0 a.toNat 3 0),p 135 (I a),p 134 (O 26),p 0 (R 500000),p 2 (C s),p 6 (R 6),p 7 (R 7),p 9 (O 26),p 10 (O 27),p 16 (I a),p 133 (B (c.1==(0:Int)&&((g.getD a.toNat (b7 y139)).2.1==(5:Int)||(g.getD a.toNat (b7 y139)).2.1==(6:Int)||s)))] ((500000,bx 122 (p9 false m7 (vl (c8 c.2 ((b.length:Int)-(1:Int)))).2))::(500000,K 122 m7 c.2)::(27,A 9 Ty.str b 0)::(26,A 139 y139 g 0)::W0 aI o n aL aJ aK)) (fun((V,aA,v,Y,E,P,G,z,T):Int×List Int×List Int×List Int×List m9×List m9×List m9×List ByteArray×List r9)=>Z [p 145 (N i64.pt V),p 144 (I (1+(vl (c8 c.2 ((b.length:Int)-1))).1)),p 143 (I (vl (c8 c.2 ((b.length:Int)-1))).1),p 142 (I ((b.length:Int)-1)),p 141 (I (b.length:Int)),p 140 (O 27),p 139 (R 500000),p 138 (M i64 aA),p 137 (AV.pel 26 0 a.toNat 3 2),p 136 (AV.pel 26 0 a.toNat 3 0),p 135 (I a),p 134 (O 26),p 0 (R 500000),p 2 (C s),p 6 (R 6),p 7 (R 7),p 9 (O 26),p 10 (O 27),p 16 (I a),p 133 (B (c.1==0&&((g.getD a.toNat (b7 y139)).2.1==5||(g.getD a.toNat (b7 y139)).2.1==6||s)))] ((500000,bx 122 (A5 v (vl (c8 c.2 ((b.length:Int)-1))).2.2.1 (vl (c8 c.2 ((b.length:Int)-1))).2.2.2))::(500000,bx 122 (A5 Y c.2.2.1 c.2.2.2))::(27,A 9 Ty.str b 0)::(26,A 139 y139 E 0)::W0 P o n G z T)) (fun((V,aA,v,Y,E,P,G,z,T):Int×List Int×List Int×List Int×List m9×List m9×List m9×List ByteArray×List r9)=>Z (Db s [p 9 (O 26),p 10 (O 27),p 16 (I a)]) ((500000,bx 122 (A5 v (vl (c8 c.2 ((b.length:Int)-1))).2.2.1 (vl (c8 c.2 ((b.length:Int)-1))).2.2.2))::(27,A 9 Ty.str b 0)::(26,A 139 y139 E 0)::W0 P o n G z T)) (fun((V,aA,v,Y,E,P,G,z,T):Int×List Int×List Int×List Int×List m9×List m9×List m9×List ByteArray×List r9)=>True) H (by kernel_rfl) (fun _ h=>by obtain⟨_,_,rfl,he,ho⟩:=h; obtain⟨_,_,rfl,⟨V,rfl,h1⟩,⟨_,_,rfl,rfl,⟨_,_,rfl,rfl,⟨_,_,rfl,rfl,⟨_,_,rfl,rfl,⟨_,_,rfl,rfl,⟨_,_,rfl,rfl,⟨_,_,rfl,⟨aA,rfl,h2⟩,⟨_,_,rfl,rfl,⟨_,_,rfl,rfl,⟨_,_,rfl,rfl,⟨_,_,rfl,rfl,⟨_,_,rfl,rfl,⟨_,_,rfl,rfl,⟨_,_,rfl,rfl,⟨_,_,rfl,rfl,⟨_,_,rfl,rfl,⟨_,_,rfl,rfl,⟨_,_,rfl,rfl,⟨_,_,rfl,rfl,rfl⟩⟩⟩⟩⟩⟩⟩⟩⟩⟩⟩⟩⟩⟩⟩⟩⟩⟩⟩⟩:=he; obtain⟨_,_,rfl,⟨_,rfl,⟨_,_,rfl,⟨v,rfl,h3⟩,⟨_,_,rfl,rfl,⟨_,_,rfl,rfl,rfl⟩⟩⟩⟩,⟨_,_,rfl,⟨_,rfl,⟨_,_,rfl,⟨Y,rfl,h4⟩,⟨_,_,rfl,rfl,⟨_,_,rfl,rfl,rfl⟩⟩⟩⟩,⟨_,_,rfl,rfl,⟨_,_,rfl,⟨E,rfl,h5⟩,⟨_,_,rfl,⟨_,rfl,⟨_,_,rfl,⟨P,rfl,h6⟩,⟨_,_,rfl,rfl,⟨_,_,rfl,rfl,rfl⟩⟩⟩⟩,⟨_,_,rfl,rfl,⟨_,_,rfl,rfl,⟨_,_,rfl,⟨_,rfl,⟨_,_,rfl,⟨G,rfl,h7⟩,⟨_,_,rfl,⟨z,rfl,h8⟩,⟨_,_,rfl,⟨T,rfl,h9⟩,rfl⟩⟩⟩⟩,rfl⟩⟩⟩⟩⟩⟩⟩⟩:=ho; exact⟨⟨V,aA,v,Y,E,P,G,z,T⟩,⟨h1,h2,h3,h4,h5,h6,h7,h8,h9⟩,rfl⟩) (fun _=>by kernel_rfl) fun⟨V,aA,v,Y,E,P,G,z,T⟩ H=>J4 H fun H=>fK<|n9 H
   exact vK<|fK<|n9 H
  exact vE<|fE<|e8<|fX rfl<|n7 H
 refine qD (fun v2=>Z (Db s [p 8 (O 25),p 9 (O 26),p 10 (AV.os 27 1),p 11 (I (2+v2.1))]) [(500000,K 122 m7 v2.2),(27,A 9 Ty.str ([]++n) 1),(26,A 139 y139 [] 0),(25,A 2 i64 [2,2,3,3,4,3,3,3] 0),(7,bx 31 [nil,AV.os 18 0,AV.os 23 0]),(23,A 202 y202 o 0),(18,A 9 Ty.str n 0),(6,bx 31 [nil,nil,nil])]) H fun v2 H=>vB<|lX (fun((l,cC,cG,cI,e,q,j,k,i,m):Int×List Int×Int×Int×List ByteArray×List m9×List m9×List m9×List ByteArray×List r9)=>Z (G3 s l []) ((500000,bx 122 (A5 cC cG cI))::(27,A 9 Ty.str e 0)::(26,A 139 y139 q 0)::(25,A 2 i64 [2,2,3,3,4,3,3,3] 0)::W0 j o n k i m)) (2+v2.1,v2.2.1,v2.2.2.1,v2.2.2.2,[]++n,[],[],[],[],[]) H fun _ g1 b1 e1 t1 ⟨l,cC,cG,cI,e,q,j,k,i,m⟩ H=>vQ<|iA [0,2,6,7,8,9,10,11,37]<|cD H (fun H=>?_) (fun H=>?_)
 ·refine vK<|fQ<|jN r (fun((cL,cJ,cO,cK,cT):List m9×List ByteArray×List Int×Int×Int)=>Z (G3 s l []) ((26,A 139 y139 cL 0)::(27,A 9 Ty.str cJ 0)::(500000,bx 122 (A5 cO cK cT))::(25,A 2 i64 [2,2,3,3,4,3,3,3] 0)::W0 j o n k i m)) (Vh l j k i m g1) (fun⟨cL,cJ,cO,cK,cT⟩ H=>?_) (fun _ n2 e2 t2=>?_)
  ·refine jB [0,2,6,7,8,9,10,11] H fun H=>b1 H
  refine vB<|qD (fun(aM,d)=>Z (G3 s l [p 12 (I d)]) ((500000,K 122 m7 aM.2)::(40,A 2 i64 [0,1,2,2,3,4,5,5,5,6,7,1] 0)::(27,A 9 Ty.str e 0)::(26,A 139 y139 q 0)::(25,A 2 i64 [2,2,3,3,4,3,3,3] 0)::W0 j o n k i m)) H fun w H=>?_
  obtain⟨aM,d⟩:=w;refine qD (fun t=>Z (G3 s l [p 12 (I d),p 13 (R 13)]) ((13,bx 139 [S (ByteArray.mk #[117]++t),I d,nil])::(500000,K 122 m7 aM.2)::(40,A 2 i64 [0,1,2,2,3,4,5,5,5,6,7,1] 0)::(27,A 9 Ty.str e 0)::(26,A 139 y139 q 0)::(25,A 2 i64 [2,2,3,3,4,3,3,3] 0)::W0 j o n k i m)) H fun t H=>jN r (fun((aV,aO,bD,bE):List Int×List Int×Int×Int)=>Z (G3 s l [p 13 (R 13)]) ((13,bx 139 [S (ByteArray.mk #[117]++t),I d,M i64 aV])::(500000,bx 122 (A5 aO bD bE))::(27,A 9 Ty.str e 0)::(26,A 139 y139 q 0)::(25,A 2 i64 [2,2,3,3,4,3,3,3] 0)::W0 j o n k i m)) (Vi l j k i m e q t d g1) (fun⟨aV,aO,bD,bE⟩ H=>?_) (fun _ n3 e3 t3=>?_)
  ·refine iB [0,2,6,7,8,9,10,11,13] H fun H=>qD (fun aG=>Z (Db s [p 8 (O 25),p 9 (O 26),p 10 (AV.os 27 1),p 11 (I l),p 13 (R 13)]) ((27,A 9 Ty.str (e++[ByteArray.mk #[110]++aG]) 1)::(100,A 9 Ty.str [ByteArray.mk #[110]++aG] 0)::(13,bx 139 [S (ByteArray.mk #[117]++t),I d,AV.os 86 2])::(86,A 2 i64 ([]++aV++[(e.length:Int)]) 2)::(92,A 2 i64 [(e.length:Int)] 0)::(500000,bx 122 (A5 aO bD bE))::(26,A 139 y139 q 0)::(25,A 2 i64 [2,2,3,3,4,3,3,3] 0)::W0 j o n k i m)) H fun aG H=>fZ 86 (Z (Db s [p 8 (O 25),p 9 (O 26),p 10 (AV.os 27 1),p 11 (I l),p 13 (R 13)]) ((27,A 9 Ty.str (e++[ByteArray.mk #[110]++aG]) 1)::(100,A 9 Ty.str [ByteArray.mk #[110]++aG] 0)::(13,bx 139 [S (ByteArray.mk #[117]++t),I d,M i64 ([]++aV++[(e.length:Int)])])::(92,A 2 i64 [(e.length:Int)] 0)::(500000,bx 122 (A5 aO bD bE))::(26,A 139 y139 q 0)::(25,A 2 i64 [2,2,3,3,4,3,3,3] 0)::W0 j o n k i m))<|zD (fun(cH,cE)=>Z (Db s [p 8 (O 25),p 9 (AV.os 26 1),p 10 (AV.os 27 1),p 11 (I l)]) ((26,A 139 y139 cH 1)::(104,A 139 y139 cE 0)::(27,A 9 Ty.str (e++[ByteArray.mk #[110]++aG]) 1)::(100,A 9 Ty.str [ByteArray.mk #[110]++aG] 0)::(13,bx 139 [S (ByteArray.mk #[117]++t),I d,M i64 ([]++aV++[(e.length:Int)])])::(92,A 2 i64 [(e.length:Int)] 0)::(500000,bx 122 (A5 aO bD bE))::(25,A 2 i64 [2,2,3,3,4,3,3,3] 0)::W0 j o n k i m)) H fun⟨cH,cE⟩ H =>
    fK<|n2 H
  refine iA [0,2,6,7,8,9,10,11,12,13,14]<|vB<|lX (fun((aD,aC,cR,cQ,cM):Int×List Int×List Int×Int×Int)=>Z (G3 s l [p 12 (I d),p 13 (R 13),p 14 (I aD)]) ((13,bx 139 [S (ByteArray.mk #[117]++t),I d,M i64 aC])::(500000,bx 122 (A5 cR cQ cM))::(27,A 9 Ty.str e 0)::(26,A 139 y139 q 0)::(25,A 2 i64 [2,2,3,3,4,3,3,3] 0)::W0 j o n k i m)) (0,[],aM.2.1,aM.2.2.1,aM.2.2.2) H fun _ g4 b4 e4 t4 ⟨aD,aC,cR,cQ,cM⟩ H=>vQ<|iB [0,2,6,7,8,9,10,11,12,13,14,57] H fun H=>cD H (fun H=>?_) (fun H=>?_)
  ·refine vK<|fQ<|vQ<|vB<|qD (fun bH=>Z (G3 s l [p 12 (I d),p 13 (R 13),p 14 (I aD),p 15 (I (1+bH.1))]) ((500000,K 122 m7 bH.2)::(13,bx 139 [S (ByteArray.mk #[117]++t),I d,M i64 aC])::(27,A 9 Ty.str e 0)::(26,A 139 y139 q 0)::(25,A 2 i64 [2,2,3,3,4,3,3,3] 0)::W0 j o n k i m)) H fun bH H=>jN r (fun((aW,bC,aP,cN):List Int×Int×Int×Int)=>Z (G3 s l [p 12 (I d),p 13 (R 13),p 14 (I aD),p 15 (I cN)]) ((500000,bx 122 (A5 aW bC aP))::(13,bx 139 [S (ByteArray.mk #[117]++t),I d,M i64 aC])::(27,A 9 Ty.str e 0)::(26,A 139 y139 q 0)::(25,A 2 i64 [2,2,3,3,4,3,3,3] 0)::W0 j o n k i m)) (Mp aD aC d g4) (fun⟨aW,bC,aP,cN⟩ H=>?_) (fun _ n5 e5 t5=>?_)
   ·refine jN r (fun(bI:Int)=>Z (G3 s l [p 12 (I d),p 13 (R 13),p 14 (I aD),p 15 (I bI)]) ((500000,bx 122 (A5 aW bC aP))::(13,bx 139 [S (ByteArray.mk #[117]++t),I d,M i64 aC])::(27,A 9 Ty.str e 0)::(26,A 139 y139 q 0)::(25,A 2 i64 [2,2,3,3,4,3,3,3] 0)::W0 j o n k i m)) (Mo aD aC aW bC aP g4) (fun bI H=>?_) (fun _ n6 e6 t6=>?_)
    ·refine jB [0,2,6,7,8,9,10,11,12,13,14] H fun H=>fK<|fQ<|jB [0,2,6,7,8,9,10,11,12,13,14] H fun H=>Cz 78 (Z (G3 s l [p 12 (I d),p 13 (R 13),p 14 (I (aD+1))]) ((13,bx 139 [S (ByteArray.mk #[117]++t),I d,M i64 ([]++aC++[bI])])::(83,A 2 i64 [bI] 0)::(500000,bx 122 (A5 aW bC aP))::(27,A 9 Ty.str e 0)::(26,A 139 y139 q 0)::(25,A 2 i64 [2,2,3,3,4,3,3,3] 0)::W0 j o n k i m)) (by kernel_rfl) rfl<|b4 H
    refine iA [0,2,6,7,8,9,10,11,12,13,14,15,77]<|cD H (fun H=>jA [0,2,6,7,8,9,10,11,12,13,14,15]<|n6 H) fun H=>vK<|n6 H
   refine qD (fun bY=>Z (G3 s l [p 12 (I d),p 13 (R 13),p 14 (I aD),p 15 (I (1+bH.1)),p 68 (B (bY.1==0))]) ((500000,K 122 m7 bY.2)::(13,bx 139 [S (ByteArray.mk #[117]++t),I d,M i64 aC])::(27,A 9 Ty.str e 0)::(26,A 139 y139 q 0)::(25,A 2 i64 [2,2,3,3,4,3,3,3] 0)::W0 j o n k i m)) H fun bY H=>cD H (fun H=>jB [0,2,6,7,8,9,10,11,12,13,14,15] H fun H=>n5 H) fun H=>vK<|n5 H
  exact vE<|fE<|e4<|fX rfl<|n3 H
 exact vE<|fE<|e1<|fX rfl<|n0 H
def GX(r:j7×l5):AV:=AV.agg [AV.ow 64 false y64 r.1.1,M y139 r.1.2.1.1,M Ty.str r.1.2.1.2.1,M y202 r.1.2.1.2.2,AV.ow 153 true l6 r.1.2.2]
def P3(r:j7×l5):B0 [.io 122 m7,.dat i64,.dat .bool]:=r.2
def Mq:Prop:=kE prog 61 [.io 122 m7,.dat i64,.dat .bool] Fu GU GX P3
def Vk[Alw](e:List m4×l5)(f:r6×l5):List x8×List Int×Int×Int->Option Unit
 | (a,b,d,c) =>
 gd (GU (((e.1,f.1,a),b,d,c)))<|some ()
def G0r[Alw](c:r6×l5)(i:List m4×l5)(h:Int×List x8×List Int×Int×Int->Option Unit):Int×List x8×List Int×Int×Int->Option Unit
 | (b,d,g,e,f) =>
 if(decide (b < (c.1.2.1.length:Int))) then
  gd (((T4 c.1 b).isSome/\True)/\Mj ((g,e,f),(↑(vl (T4 c.1 b)).length:Int),()))<|Alw.alp (Y3 [Par.io 122 m7,Par.dat i64] Qb Vb GV) fun(a:(x8×l5)) =>
  gd ((d.length+[a.1].length<=9223372036854775807/\(d.length+[a.1].length)*96<=140737488355328)/\True) <|
  gd (c9 (b+1)/\True)<|lt (vl (T4 c.1 b)) fun _ =>
  h ((b+1,d++[a.1],(GV a).1,(GV a).2.1,(GV a).2.2))
 else
  Vk i c (d,g,e,f)
def Qi[Alw](b:l5)(d:Int)(e:Bool):Option Unit :=
 gd ((Mc b).isSome/\True)<|lt (vl (Mc b)) fun c =>
 gd (True/\PZ (c.2,d,e,()))<|Alw.alp (Y3 [Par.io 122 m7,Par.dat i64,Par.dat Ty.bool] Qa Vf Dp) fun(a:(r6×l5)) =>
 gd (True) <|
 lp (G0r a c) ((0,[],(Dp a).1,(Dp a).2.1,(Dp a).2.2))
theorem e61[Alw](h121:Vc)(h120:Vg)(hF:∀x,Xv.wfs [.io 122 m7,.dat i64,.dat .bool] x->Fu x->Qi x.1 x.2.1 x.2.2.1=some ()):Mq:=by
 refine GW (f:=61) (ps:=[.io 122 m7,.dat i64,.dat .bool]) (pre:=Fu) (post:=GU) (R:=GX) (Z:=P3) (F:=fun x=>Qi x.1 x.2.1 x.2.2.1) L7 [.cell 6 34] hF func61 ntmps61 rfl results61 (by kernel_rfl) rfl ?_;intro y ⟨_,s,t,_⟩ r H hB Q hn hr;have:=hz (tc Gs (tc O0X tn));refine iA [0,1,2,6]<|qD (fun b=>Z [p 0 (R 500000),p 1 (J s),p 2 (C t),p 6 (R 6),p 7 (R 7)] [(7,bx 26 [AV.os 12 0]),(12,Ob.arr 64 false y64 b.1 0),(500000,K 122 m7 b.2),(6,bx 34 [nil,nil,nil,nil,nil])]) H fun b H=>vQ<|iE h120 3 [0,6,7,8] H fun a hp120 H=>J4 H fun H=>fQ<|iA [0,6,7,8,9]<|jN r (fun((e,d,g,c):List x8×List Int×Int×Int)=>Z [p 6 (R 6),p 7 (R 7),p 8 (R 8),p 9 (O 17)] ((17,A 153 l6 e 0)::(8,bx 31 (p9 true y31 a.1))::(500000,bx 122 (A5 d g c))::Td b.1)) (Vk b a) (fun⟨e,d,g,c⟩ H=>?_) (fun _ u z w=>?_)
 ·refine iA [6]<|j0<|hr (((b.1,a.1,e),d,g,c)) (L0 H).1 (by kernel_rfl)
 refine iA [0,6,7,8,9,10]<|vB<|lX (fun((i,k,m,n,l):Int×List x8×List Int×Int×Int)=>Z (Cm [p 7 (R 7),p 8 (R 8),p 9 (O 17),p 10 (I i)]) ((17,A 153 l6 k 0)::(8,bx 31 (p9 true y31 a.1))::(500000,bx 122 [L b8 m,J n,J l])::Td b.1)) ((0,[],(Dp a).1,(Dp a).2.1,(Dp a).2.2)) H fun _ v o q E ⟨i,k,m,n,l⟩ H=>vQ<|iA [0,6,7,8,9,10,22]<|cD H (fun H=>vK<|fQ<|vQ<|vB<|iE h121 6 [0,6,7,8,9,10] H fun j hp121 H=>J4 H fun H=>fK<|fQ<|zD (fun h=>Z (Cm [p 7 (R 7),p 8 (R 8),p 9 (AV.os 17 1),p 10 (I (i+1))]) ((17,A 153 l6 (k++[j.1]) 1)::(32,A 153 l6 [j.1] 0)::(500000,bx 122 (p9 false m7 (GV j)))::(29,A 2 i64 h 0)::(8,bx 31 (p9 true y31 a.1))::Td b.1)) H fun h H=>o H) fun H=>vE<|fE<|q<|fX rfl<|u H
abbrev Qj(x:r7 [.io 122 m7]):Prop:=sd x.1
def Vl(r:j7×l5):AV:=AV.agg (Q0 r.1)
def Mr(r:j7×l5):B0 [.io 122 m7]:=r.2
def Vm:Prop:=kE prog 118 [.io 122 m7] Qj Qc Vl Mr
def BJ[Alw]:List Int×Int×Int×List x8×List m9×List ByteArray×List r9×List m4->Option Unit
 | (d,c,b,h,g,f,a,e) =>
 gd (Qc (((e,(g,f,a),h),d,c,b)))<|some ()
def Qk[Alw](a0:l5):Option Unit :=
 gd (((c8 a0 (3:Int)).isSome/\True)/\Fu ((vl (c8 a0 (3:Int))).2,(6:Int),(vl (c8 a0 (3:Int))).1==(0:Int),()))<|Alw.alp (Y3 [Par.io 122 m7,Par.dat i64,Par.dat Ty.bool] GU GX P3) fun(a:(j7×l5)) =>
 gd (True) <|
 gd ((c8 (P3 a) (a.1.2.2.length:Int)).isSome/\True)<|lt (vl (c8 (P3 a) (a.1.2.2.length:Int))) fun b =>
 gd ((c8 b.2 20).isSome/\True)<|lt (vl (c8 b.2 20)) fun c =>
 if(c.1==0) then
  gd (((0:Int)<=(1:Int)/\(1:Int)<=(a.1.2.2.length:Int)/\(a.1.2.2.length:Int)<=(a.1.2.2.length:Int))/\True) <|
  BJ ((c.2.1,c.2.2.1,c.2.2.2,List.drop (Int.toNat (1:Int)) a.1.2.2,a.1.2.1.1,a.1.2.1.2.1,a.1.2.1.2.2,a.1.1))
 else
  if(c.1==1) then
   gd ((ix b.1 a.1.2.2.length/\b.1.toNat<a.1.2.2.length/\(K1 (a.1.2.2.getD b.1.toNat (b7 l6)).2.2.2).isSome/\((vl (K1 (a.1.2.2.getD b.1.toNat (b7 l6)).2.2.2)).length+[0].length<=9223372036854775807/\((vl (K1 (a.1.2.2.getD b.1.toNat (b7 l6)).2.2.2)).length+[0].length)*8<=140737488355328)/\ix b.1 a.1.2.2.length/\True)/\b.1.toNat<a.1.2.2.length/\True) <|
   BJ ((c.2.1,c.2.2.1,c.2.2.2,a.1.2.2.set b.1.toNat ((a.1.2.2.getD b.1.toNat (b7 l6)).1,(a.1.2.2.getD b.1.toNat (b7 l6)).2.1,(a.1.2.2.getD b.1.toNat (b7 l6)).2.2.1,vl (K1 (a.1.2.2.getD b.1.toNat (b7 l6)).2.2.2)++[0]),a.1.2.1.1,a.1.2.1.2.1,a.1.2.1.2.2,a.1.1))
  else
   if(c.1==2) then
    gd (ix b.1 a.1.2.2.length/\b.1.toNat<a.1.2.2.length/\ix 0 (a.1.2.2.getD b.1.toNat (b7 l6)).2.1.length/\True)<|Alw.alp (fun((v3,v4,Y,V,X,W,v9,w):Int×List Int×List Int×List m9×List ByteArray×List r9×List x8×List m4)=>(w7 i64.pt ((a.1.2.2.getD b.1.toNat (b7 l6)).2.1.getD (Int.toNat (0:Int)) (0:Int)) v3/\(wf i64.pt ((a.1.2.2.getD b.1.toNat (b7 l6)).2.1.getD (Int.toNat (0:Int)) (0:Int))->wf i64.pt v3))/\(w7 i64.sl (a.1.2.2.getD b.1.toNat (b7 l6)).2.1 v4/\(wf i64.sl (a.1.2.2.getD b.1.toNat (b7 l6)).2.1->wf i64.sl v4))/\(w7 b8.sl c.2.1 Y/\(wf b8.sl c.2.1->wf b8.sl Y))/\(w7 y139.sl a.1.2.1.1 V/\(wf y139.sl a.1.2.1.1->wf y139.sl V))/\(w7 Ty.str.sl a.1.2.1.2.1 X/\(wf Ty.str.sl a.1.2.1.2.1->wf Ty.str.sl X))/\(w7 y202.sl a.1.2.1.2.2 W/\(wf y202.sl a.1.2.1.2.2->wf y202.sl W))/\(AllS (w7 l6) a.1.2.2 v9)/\(AllS (w7 y64) a.1.1 w)) fun((_,_,Y,V,X,W,v9,w):Int×List Int×List Int×List m9×List ByteArray×List r9×List x8×List m4) =>
    gd (True) <|
    BJ (Y,c.2.2.1,c.2.2.2,v9,V,X,W,w)
   else
    if(c.1==3) then
     gd (ix b.1 a.1.2.2.length/\b.1.toNat<a.1.2.2.length/\(c8 c.2 3).isSome/\ix (vl (c8 c.2 3)).1 [-1,500,501].length/\(vl (c8 c.2 3)).1.toNat<[-1,500,501].length/\ix 0 (a.1.2.2.getD b.1.toNat (b7 l6)).2.2.1.length/\True)<|Alw.alp (fun((P,F,o,x,d,m,e,r,v):Int×List Int×List Int×List Int×List m9×List ByteArray×List r9×List x8×List m4)=>(w7 i64.pt ((a.1.2.2.getD b.1.toNat (b7 l6)).2.2.1.getD (Int.toNat (0:Int)) (0:Int)) P/\(wf i64.pt ((a.1.2.2.getD b.1.toNat (b7 l6)).2.2.1.getD (Int.toNat (0:Int)) (0:Int))->wf i64.pt P))/\(w7 i64.sl (a.1.2.2.getD b.1.toNat (b7 l6)).2.2.1 F/\(wf i64.sl (a.1.2.2.getD b.1.toNat (b7 l6)).2.2.1->wf i64.sl F))/\(w7 b8.sl (vl (c8 c.2 3)).2.1 o/\(wf b8.sl (vl (c8 c.2 3)).2.1->wf b8.sl o))/\(w7 b8.sl c.2.1 x/\(wf b8.sl c.2.1->wf b8.sl x))/\(w7 y139.sl a.1.2.1.1 d/\(wf y139.sl a.1.2.1.1->wf y139.sl d))/\(w7 Ty.str.sl a.1.2.1.2.1 m/\(wf Ty.str.sl a.1.2.1.2.1->wf Ty.str.sl m))/\(w7 y202.sl a.1.2.1.2.2 e/\(wf y202.sl a.1.2.1.2.2->wf y202.sl e))/\(AllS (w7 l6) a.1.2.2 r)/\(AllS (w7 y64) a.1.1 v)) fun((_,_,o,_,d,m,e,r,v):Int×List Int×List Int×List Int×List m9×List ByteArray×List r9×List x8×List m4) =>
     gd (True) <|
     BJ ((o,(vl (c8 c.2 3)).2.2.1,(vl (c8 c.2 3)).2.2.2,r,d,m,e,v))
    else
     if(c.1==4) then
      gd (ix b.1 a.1.2.2.length/\b.1.toNat<a.1.2.2.length/\ix b.1 a.1.2.2.length/\b.1.toNat<a.1.2.2.length/\c9 ((↑(a.1.2.2.getD b.1.toNat (b7 l6)).1.length:Int)-1)/\(c8 c.2 5).isSome/\c9 ((vl (c8 c.2 5)).1-1)/\ix ((↑(a.1.2.2.getD b.1.toNat (b7 l6)).1.length:Int)-1) (a.1.2.2.getD b.1.toNat (b7 l6)).1.length/\True)<|Alw.alp (fun((y,T,E,l,Q,f,n,g,q,t):Int×List Int×List Int×List Int×List Int×List m9×List ByteArray×List r9×List x8×List m4)=>(w7 i64.pt ((a.1.2.2.getD b.1.toNat (b7 l6)).1.getD ((↑(a.1.2.2.getD b.1.toNat (b7 l6)).1.length:Int)-1).toNat 0) y/\(wf i64.pt ((a.1.2.2.getD b.1.toNat (b7 l6)).1.getD ((↑(a.1.2.2.getD b.1.toNat (b7 l6)).1.length:Int)-1).toNat 0)->wf i64.pt y))/\(w7 i64.sl (a.1.2.2.getD b.1.toNat (b7 l6)).1 T/\(wf i64.sl (a.1.2.2.getD b.1.toNat (b7 l6)).1->wf i64.sl T))/\(w7 i64.sl (a.1.2.2.getD b.1.toNat (b7 l6)).1 E/\(wf i64.sl (a.1.2.2.getD b.1.toNat (b7 l6)).1->wf i64.sl E))/\(w7 b8.sl (vl (c8 c.2 5)).2.1 l/\(wf b8.sl (vl (c8 c.2 5)).2.1->wf b8.sl l))/\(w7 b8.sl c.2.1 Q/\(wf b8.sl c.2.1->wf b8.sl Q))/\(w7 y139.sl a.1.2.1.1 f/\(wf y139.sl a.1.2.1.1->wf y139.sl f))/\(w7 Ty.str.sl a.1.2.1.2.1 n/\(wf Ty.str.sl a.1.2.1.2.1->wf Ty.str.sl n))/\(w7 y202.sl a.1.2.1.2.2 g/\(wf y202.sl a.1.2.1.2.2->wf y202.sl g))/\(AllS (w7 l6) a.1.2.2 q)/\(AllS (w7 y64) a.1.1 t)) fun((_,_,_,l,_,f,n,g,q,t):Int×List Int×List Int×List Int×List Int×List m9×List ByteArray×List r9×List x8×List m4) =>
      gd (True) <|
      BJ ((l,(vl (c8 c.2 5)).2.2.1,(vl (c8 c.2 5)).2.2.2,q,f,n,g,t))
     else
      if(c.1==5) then
       gd (ix 0 a.1.2.1.2.2.length/\True)<|Alw.alp (fun((z,H,G,k,h,i,j,u,s):(Int×Int)×r9×List r9×List Int×List m9×List ByteArray×List r9×List x8×List m4)=>(w7 (i64.pr i64).pt (a.1.2.1.2.2.getD (Int.toNat (0:Int)) (b7 y202)).2 z/\(wf (i64.pr i64).pt (a.1.2.1.2.2.getD (Int.toNat (0:Int)) (b7 y202)).2->wf (i64.pr i64).pt z))/\(w7 y202.pt (a.1.2.1.2.2.getD (Int.toNat (0:Int)) (b7 y202)) H/\(wf y202.pt (a.1.2.1.2.2.getD (Int.toNat (0:Int)) (b7 y202))->wf y202.pt H))/\(w7 y202.sl a.1.2.1.2.2 G/\(wf y202.sl a.1.2.1.2.2->wf y202.sl G))/\(w7 b8.sl c.2.1 k/\(wf b8.sl c.2.1->wf b8.sl k))/\(w7 y139.sl a.1.2.1.1 h/\(wf y139.sl a.1.2.1.1->wf y139.sl h))/\(w7 Ty.str.sl a.1.2.1.2.1 i/\(wf Ty.str.sl a.1.2.1.2.1->wf Ty.str.sl i))/\(w7 y202.sl a.1.2.1.2.2 j/\(wf y202.sl a.1.2.1.2.2->wf y202.sl j))/\(AllS (w7 l6) a.1.2.2 u)/\(AllS (w7 y64) a.1.1 s)) fun((_,_,_,k,h,i,j,u,s):(Int×Int)×r9×List r9×List Int×List m9×List ByteArray×List r9×List x8×List m4) =>
       gd (True) <|
       BJ (k,c.2.2.1,c.2.2.2,u,h,i,j,s)
      else
       BJ (c.2.1,c.2.2.1,c.2.2.2,a.1.2.2,a.1.2.1.1,a.1.2.1.2.1,a.1.2.1.2.2,a.1.1)
theorem R0B[Alw](h61:Mq)(hF:∀x,Xv.wfs [.io 122 m7] x->Qj x->Qk x.1=some ()):Vm:=by
 refine GW (f:=118) (ps:=[.io 122 m7]) (pre:=Qj) (post:=Qc) (R:=Vl) (Z:=Mr) (F:=fun x=>Qk x.1) L7 [.cell 2 34] hF func118 ntmps118 rfl results118 (by kernel_rfl) rfl ?_;intro y ⟨_,_⟩ r H hB Q hn hr;have:=hz (tc F4 (tc Oz tn));refine iA [0,2]<|vQ<|iE h61 4 [0,2,3] H fun c hp61 H=>J4 H fun H=>fQ<|qD (fun b=>Z [p 0 (R 500000),p 2 (R 2),p 3 (R 3),p 4 (I b.1)] ((500000,K 122 m7 b.2)::(3,bx 34 (Q5 c.1.2.1))::W2 c.1.2.2 c.1.1)) H fun b H=>jN r (fun((aM,aG,aJ,aL,aK,aI,aF,aH):List Int×Int×Int×List x8×List m9×List ByteArray×List r9×List m4)=>Z (G7 []) [(3,bx 34 (Da aK aI aF)),(1009,A 153 l6 aL 0),(500000,bx 122 (A5 aM aG aJ)),(9,Ob.arr 64 false y64 aH 0),(2,bx 34 [nil,nil,nil,nil,nil])]) (BJ) (fun⟨aM,aG,aJ,aL,aK,aI,aF,aH⟩ H=>?_) (fun _ n0 e0 t0=>?_)
 ·refine iA [2]<|j0<|hr (((aH,(aK,aI,aF),aL),aM,aG,aJ)) (L0 H).1 (by kernel_rfl)
 refine qD (fun a=>Z [p 0 (R 500000),p 2 (R 2),p 3 (R 3),p 4 (I b.1),p 16 (I a.1)] ((500000,K 122 m7 a.2)::(3,bx 34 (Q5 c.1.2.1))::W2 c.1.2.2 c.1.1)) H fun a H=>vB<|iA [0,2,3,4,16,17]<|cD H (fun H=>jB [2,3] H fun H=>fK<|n0 H) fun H=>iA [0,2,3,4,16,23]<|cD H (fun H=>zFD L7 (HT.h) 14 [34] [2,3] (Z (G7 []) [(1009,A 153 l6 (c.1.2.2.set b.1.toNat ((c.1.2.2.getD b.1.toNat (b7 l6)).1,(c.1.2.2.getD b.1.toNat (b7 l6)).2.1,(c.1.2.2.getD b.1.toNat (b7 l6)).2.2.1,vl (K1 (c.1.2.2.getD b.1.toNat (b7 l6)).2.2.2)++[0])) 0),(35,A 2 i64 [0] 0),(500000,K 122 m7 a.2),(3,bx 34 (Q5 c.1.2.1)),(9,Ob.arr 64 false y64 c.1.1 0),(2,bx 34 [nil,nil,nil,nil,nil])]) H (by kernel_rfl) fun H=>fK<|n0 H) fun H=>iA [0,2,3,4,16,39]<|cD H (fun H=>?_) (fun H=>?_)
 ·refine zH L7 (HT.h) hB 7 [2,3] (Z [p 47 (N i64.pt ((c.1.2.2.getD b.1.toNat (b7 l6)).2.1.getD (Int.toNat (0:Int)) (0:Int))),p 46 (M i64 (c.1.2.2.getD b.1.toNat (b7 l6)).2.1),p 45 (AV.pel 1009 0 b.1.toNat 4 1),p 44 (AV.pel 1009 0 b.1.toNat 4 0),p 43 (I b.1),p 42 (O 1009),p 41 (AV.ptr 3 4),p 0 (R 500000),p 2 (R 2),p 3 (R 3),p 4 (I b.1),p 16 (I a.1),p 39 (B (a.1==(2:Int)))] ((500000,K 122 m7 a.2)::(3,bx 34 (Q5 c.1.2.1))::W2 c.1.2.2 c.1.1)) (fun((v3,v4,v5,v6,v7,v8,v9,G):Int×List Int×List Int×List m9×List ByteArray×List r9×List x8×List m4)=>Z [p 47 (N i64.pt v3),p 46 (M i64 v4),p 45 (AV.pel 1009 0 b.1.toNat 4 1),p 44 (AV.pel 1009 0 b.1.toNat 4 0),p 43 (I b.1),p 42 (O 1009),p 41 (AV.ptr 3 4),p 0 (R 500000),p 2 (R 2),p 3 (R 3),p 4 (I b.1),p 16 (I a.1),p 39 (B (a.1==2))] ((500000,bx 122 (A5 v5 a.2.2.1 a.2.2.2))::(3,bx 34 (Da v6 v7 v8))::W2 v9 G)) (fun((v3,v4,v5,v6,v7,v8,v9,G):Int×List Int×List Int×List m9×List ByteArray×List r9×List x8×List m4)=>Z (G7 []) ((500000,bx 122 (A5 v5 a.2.2.1 a.2.2.2))::(3,bx 34 (Da v6 v7 v8))::W2 v9 G)) (fun((v3,v4,v5,v6,v7,v8,v9,G):Int×List Int×List Int×List m9×List ByteArray×List r9×List x8×List m4)=>True) H (by kernel_rfl) (fun _ h=>by obtain⟨_,_,rfl,he,ho⟩:=h; obtain⟨_,_,rfl,⟨v3,rfl,h1⟩,⟨_,_,rfl,⟨v4,rfl,h2⟩,⟨_,_,rfl,rfl,⟨_,_,rfl,rfl,⟨_,_,rfl,rfl,⟨_,_,rfl,rfl,⟨_,_,rfl,rfl,⟨_,_,rfl,rfl,⟨_,_,rfl,rfl,⟨_,_,rfl,rfl,⟨_,_,rfl,rfl,⟨_,_,rfl,rfl,⟨_,_,rfl,rfl,rfl⟩⟩⟩⟩⟩⟩⟩⟩⟩⟩⟩⟩⟩:=he; obtain⟨_,_,rfl,⟨_,rfl,⟨_,_,rfl,⟨v5,rfl,h3⟩,⟨_,_,rfl,rfl,⟨_,_,rfl,rfl,rfl⟩⟩⟩⟩,⟨_,_,rfl,⟨_,rfl,⟨_,_,rfl,rfl,⟨_,_,rfl,⟨v6,rfl,h4⟩,⟨_,_,rfl,⟨v7,rfl,h5⟩,⟨_,_,rfl,⟨v8,rfl,h6⟩,⟨_,_,rfl,rfl,rfl⟩⟩⟩⟩⟩⟩,⟨_,_,rfl,⟨v9,rfl,h7⟩,⟨_,_,rfl,⟨G,rfl,h8⟩,⟨_,_,rfl,⟨_,rfl,⟨_,_,rfl,rfl,⟨_,_,rfl,rfl,⟨_,_,rfl,rfl,⟨_,_,rfl,rfl,⟨_,_,rfl,rfl,rfl⟩⟩⟩⟩⟩⟩,rfl⟩⟩⟩⟩⟩:=ho; exact⟨⟨v3,v4,v5,v6,v7,v8,v9,G⟩,⟨h1,h2,h3,h4,h5,h6,h7,h8⟩,rfl⟩) (fun _=>by kernel_rfl) fun⟨v3,v4,v5,v6,v7,v8,v9,G⟩ H=>J4 H fun H=>fK<|n0 H
 refine iA [0,2,3,4,16,48]<|cD H (fun H=>?_) (fun H=>?_)
 ·refine Vj L7 (HT.h) hB 12 [2,3] (Z [p 61 (N i64.pt ((c.1.2.2.getD b.1.toNat (b7 l6)).2.2.1.getD (Int.toNat (0:Int)) (0:Int))),p 60 (I ([(-1:Int),(500:Int),(501:Int)].getD (vl (c8 a.2 (3:Int))).1.toNat (0:Int))),p 59 (AV.pel 56 0 (vl (c8 a.2 (3:Int))).1.toNat 1 0),p 58 (I (vl (c8 a.2 (3:Int))).1),p 57 (R 500000),p 56 (O 56),p 55 (M i64 (c.1.2.2.getD b.1.toNat (b7 l6)).2.2.1),p 54 (AV.pel 1009 0 b.1.toNat 4 2),p 53 (AV.pel 1009 0 b.1.toNat 4 0),p 52 (I b.1),p 51 (O 1009),p 50 (AV.ptr 3 4),p 0 (R 500000),p 2 (R 2),p 3 (R 3),p 4 (I b.1),p 16 (I a.1),p 48 (B (a.1==(3:Int)))] ((500000,bx 122 (p9 false m7 (vl (c8 a.2 (3:Int))).2))::(56,A 2 i64 [(-1:Int),(500:Int),(501:Int)] 0)::(500000,K 122 m7 a.2)::(3,bx 34 (Q5 c.1.2.1))::W2 c.1.2.2 c.1.1)) (fun((aB,X,E,P,e,v,g,j,w):Int×List Int×List Int×List Int×List m9×List ByteArray×List r9×List x8×List m4)=>Z [p 61 (N i64.pt aB),p 60 (I ([-1,500,501].getD (vl (c8 a.2 3)).1.toNat 0)),p 59 (AV.pel 56 0 (vl (c8 a.2 3)).1.toNat 1 0),p 58 (I (vl (c8 a.2 3)).1),p 57 (R 500000),p 56 (O 56),p 55 (M i64 X),p 54 (AV.pel 1009 0 b.1.toNat 4 2),p 53 (AV.pel 1009 0 b.1.toNat 4 0),p 52 (I b.1),p 51 (O 1009),p 50 (AV.ptr 3 4),p 0 (R 500000),p 2 (R 2),p 3 (R 3),p 4 (I b.1),p 16 (I a.1),p 48 (B (a.1==3))] ((500000,bx 122 (A5 E (vl (c8 a.2 3)).2.2.1 (vl (c8 a.2 3)).2.2.2))::(56,A 2 i64 [-1,500,501] 0)::(500000,bx 122 (A5 P a.2.2.1 a.2.2.2))::(3,bx 34 (Da e v g))::W2 j w)) (fun((aB,X,E,P,e,v,g,j,w):Int×List Int×List Int×List Int×List m9×List ByteArray×List r9×List x8×List m4)=>Z (G7 []) ((500000,bx 122 (A5 E (vl (c8 a.2 3)).2.2.1 (vl (c8 a.2 3)).2.2.2))::(56,A 2 i64 [-1,500,501] 0)::(3,bx 34 (Da e v g))::W2 j w)) (fun((aB,X,E,P,e,v,g,j,w):Int×List Int×List Int×List Int×List m9×List ByteArray×List r9×List x8×List m4)=>True) H (by kernel_rfl) (fun _ h=>by obtain⟨_,_,rfl,he,ho⟩:=h; obtain⟨_,_,rfl,⟨aB,rfl,h1⟩,⟨_,_,rfl,rfl,⟨_,_,rfl,rfl,⟨_,_,rfl,rfl,⟨_,_,rfl,rfl,⟨_,_,rfl,rfl,⟨_,_,rfl,⟨X,rfl,h2⟩,⟨_,_,rfl,rfl,⟨_,_,rfl,rfl,⟨_,_,rfl,rfl,⟨_,_,rfl,rfl,⟨_,_,rfl,rfl,⟨_,_,rfl,rfl,⟨_,_,rfl,rfl,⟨_,_,rfl,rfl,⟨_,_,rfl,rfl,⟨_,_,rfl,rfl,⟨_,_,rfl,rfl,rfl⟩⟩⟩⟩⟩⟩⟩⟩⟩⟩⟩⟩⟩⟩⟩⟩⟩⟩:=he; obtain⟨_,_,rfl,⟨_,rfl,⟨_,_,rfl,⟨E,rfl,h3⟩,⟨_,_,rfl,rfl,⟨_,_,rfl,rfl,rfl⟩⟩⟩⟩,⟨_,_,rfl,rfl,⟨_,_,rfl,⟨_,rfl,⟨_,_,rfl,⟨P,rfl,h4⟩,⟨_,_,rfl,rfl,⟨_,_,rfl,rfl,rfl⟩⟩⟩⟩,⟨_,_,rfl,⟨_,rfl,⟨_,_,rfl,rfl,⟨_,_,rfl,⟨e,rfl,h5⟩,⟨_,_,rfl,⟨v,rfl,h6⟩,⟨_,_,rfl,⟨g,rfl,h7⟩,⟨_,_,rfl,rfl,rfl⟩⟩⟩⟩⟩⟩,⟨_,_,rfl,⟨j,rfl,h8⟩,⟨_,_,rfl,⟨w,rfl,h9⟩,⟨_,_,rfl,⟨_,rfl,⟨_,_,rfl,rfl,⟨_,_,rfl,rfl,⟨_,_,rfl,rfl,⟨_,_,rfl,rfl,⟨_,_,rfl,rfl,rfl⟩⟩⟩⟩⟩⟩,rfl⟩⟩⟩⟩⟩⟩⟩:=ho; exact⟨⟨aB,X,E,P,e,v,g,j,w⟩,⟨h1,h2,h3,h4,h5,h6,h7,h8,h9⟩,rfl⟩) (fun _=>by kernel_rfl) fun⟨aB,X,E,P,e,v,g,j,w⟩ H=>J4 H fun H=>fK<|n0 H
 refine iA [0,2,3,4,16,62]<|cD H (fun H=>?_) (fun H=>?_)
 ·refine Vj L7 (HT.h) hB 18 [2,3] (Z [p 81 (N i64.pt ((c.1.2.2.getD b.1.toNat (b7 l6)).1.getD ((↑(c.1.2.2.getD b.1.toNat (b7 l6)).1.length:Int)-1).toNat 0)),p 80 (I ((vl (c8 a.2 5)).1-1)),p 79 (I (vl (c8 a.2 5)).1),p 78 (R 500000),p 77 (I ((↑(c.1.2.2.getD b.1.toNat (b7 l6)).1.length:Int)-1)),p 76 (I (↑(c.1.2.2.getD b.1.toNat (b7 l6)).1.length:Int)),p 75 (M i64 (c.1.2.2.getD b.1.toNat (b7 l6)).1),p 74 (AV.pel 1009 0 b.1.toNat 4 0),p 73 (AV.pel 1009 0 b.1.toNat 4 0),p 72 (I b.1),p 71 (O 1009),p 70 (AV.ptr 3 4),p 69 (M i64 (c.1.2.2.getD b.1.toNat (b7 l6)).1),p 68 (AV.pel 1009 0 b.1.toNat 4 0),p 67 (AV.pel 1009 0 b.1.toNat 4 0),p 66 (I b.1),p 65 (O 1009),p 64 (AV.ptr 3 4),p 0 (R 500000),p 2 (R 2),p 3 (R 3),p 4 (I b.1),p 16 (I a.1),p 62 (B (a.1==4))] ((500000,bx 122 (p9 false m7 (vl (c8 a.2 5)).2))::(500000,K 122 m7 a.2)::(3,bx 34 (Q5 c.1.2.1))::W2 c.1.2.2 c.1.1)) (fun((T,aD,W,u,aC,i,z,m,d,l):Int×List Int×List Int×List Int×List Int×List m9×List ByteArray×List r9×List x8×List m4)=>Z [p 81 (N i64.pt T),p 80 (I ((vl (c8 a.2 5)).1-1)),p 79 (I (vl (c8 a.2 5)).1),p 78 (R 500000),p 77 (I ((↑(c.1.2.2.getD b.1.toNat (b7 l6)).1.length:Int)-1)),p 76 (I (↑(c.1.2.2.getD b.1.toNat (b7 l6)).1.length:Int)),p 75 (M i64 aD),p 74 (AV.pel 1009 0 b.1.toNat 4 0),p 73 (AV.pel 1009 0 b.1.toNat 4 0),p 72 (I b.1),p 71 (O 1009),p 70 (AV.ptr 3 4),p 69 (M i64 W),p 68 (AV.pel 1009 0 b.1.toNat 4 0),p 67 (AV.pel 1009 0 b.1.toNat 4 0),p 66 (I b.1),p 65 (O 1009),p 64 (AV.ptr 3 4),p 0 (R 500000),p 2 (R 2),p 3 (R 3),p 4 (I b.1),p 16 (I a.1),p 62 (B (a.1==4))] ((500000,bx 122 (A5 u (vl (c8 a.2 5)).2.2.1 (vl (c8 a.2 5)).2.2.2))::(500000,bx 122 (A5 aC a.2.2.1 a.2.2.2))::(3,bx 34 (Da i z m))::W2 d l)) (fun((T,aD,W,u,aC,i,z,m,d,l):Int×List Int×List Int×List Int×List Int×List m9×List ByteArray×List r9×List x8×List m4)=>Z (G7 []) ((500000,bx 122 (A5 u (vl (c8 a.2 5)).2.2.1 (vl (c8 a.2 5)).2.2.2))::(3,bx 34 (Da i z m))::W2 d l)) (fun((T,aD,W,u,aC,i,z,m,d,l):Int×List Int×List Int×List Int×List Int×List m9×List ByteArray×List r9×List x8×List m4)=>True) H (by kernel_rfl) (fun _ h=>by obtain⟨_,_,rfl,he,ho⟩:=h; obtain⟨_,_,rfl,⟨T,rfl,h1⟩,⟨_,_,rfl,rfl,⟨_,_,rfl,rfl,⟨_,_,rfl,rfl,⟨_,_,rfl,rfl,⟨_,_,rfl,rfl,⟨_,_,rfl,⟨aD,rfl,h2⟩,⟨_,_,rfl,rfl,⟨_,_,rfl,rfl,⟨_,_,rfl,rfl,⟨_,_,rfl,rfl,⟨_,_,rfl,rfl,⟨_,_,rfl,⟨W,rfl,h3⟩,⟨_,_,rfl,rfl,⟨_,_,rfl,rfl,⟨_,_,rfl,rfl,⟨_,_,rfl,rfl,⟨_,_,rfl,rfl,⟨_,_,rfl,rfl,⟨_,_,rfl,rfl,⟨_,_,rfl,rfl,⟨_,_,rfl,rfl,⟨_,_,rfl,rfl,⟨_,_,rfl,rfl,rfl⟩⟩⟩⟩⟩⟩⟩⟩⟩⟩⟩⟩⟩⟩⟩⟩⟩⟩⟩⟩⟩⟩⟩⟩:=he; obtain⟨_,_,rfl,⟨_,rfl,⟨_,_,rfl,⟨u,rfl,h4⟩,⟨_,_,rfl,rfl,⟨_,_,rfl,rfl,rfl⟩⟩⟩⟩,⟨_,_,rfl,⟨_,rfl,⟨_,_,rfl,⟨aC,rfl,h5⟩,⟨_,_,rfl,rfl,⟨_,_,rfl,rfl,rfl⟩⟩⟩⟩,⟨_,_,rfl,⟨_,rfl,⟨_,_,rfl,rfl,⟨_,_,rfl,⟨i,rfl,h6⟩,⟨_,_,rfl,⟨z,rfl,h7⟩,⟨_,_,rfl,⟨m,rfl,h8⟩,⟨_,_,rfl,rfl,rfl⟩⟩⟩⟩⟩⟩,⟨_,_,rfl,⟨d,rfl,h9⟩,⟨_,_,rfl,⟨l,rfl,h10⟩,⟨_,_,rfl,⟨_,rfl,⟨_,_,rfl,rfl,⟨_,_,rfl,rfl,⟨_,_,rfl,rfl,⟨_,_,rfl,rfl,⟨_,_,rfl,rfl,rfl⟩⟩⟩⟩⟩⟩,rfl⟩⟩⟩⟩⟩⟩:=ho; exact⟨⟨T,aD,W,u,aC,i,z,m,d,l⟩,⟨h1,h2,h3,h4,h5,h6,h7,h8,h9,h10⟩,rfl⟩) (fun _=>by kernel_rfl) fun⟨T,aD,W,u,aC,i,z,m,d,l⟩ H=>J4 H fun H=>fK<|n0 H
 refine iA [2,3,82]<|cD H (fun H=>?_) (fun H=>?_)
 ·refine zH L7 (HT.h) hB 5 [2,3] (Z [p 88 (N (i64.pr i64).pt (c.1.2.1.2.2.getD (Int.toNat (0:Int)) (b7 y202)).2),p 87 (N y202.pt (c.1.2.1.2.2.getD (Int.toNat (0:Int)) (b7 y202))),p 86 (M y202 c.1.2.1.2.2),p 85 (AV.ptr 3 3),p 84 (AV.ptr 3 1),p 2 (R 2),p 3 (R 3),p 82 (B (a.1==(5:Int)))] ((500000,K 122 m7 a.2)::(3,bx 34 (Q5 c.1.2.1))::W2 c.1.2.2 c.1.1)) (fun((V,aA,Y,t,n,q,s,o,k):(Int×Int)×r9×List r9×List Int×List m9×List ByteArray×List r9×List x8×List m4)=>Z [p 88 (N (i64.pr i64).pt V),p 87 (N y202.pt aA),p 86 (M y202 Y),p 85 (AV.ptr 3 3),p 84 (AV.ptr 3 1),p 2 (R 2),p 3 (R 3),p 82 (B (a.1==5))] ((500000,bx 122 (A5 t a.2.2.1 a.2.2.2))::(3,bx 34 (Da n q s))::W2 o k)) (fun((V,aA,Y,t,n,q,s,o,k):(Int×Int)×r9×List r9×List Int×List m9×List ByteArray×List r9×List x8×List m4)=>Z (G7 []) ((500000,bx 122 (A5 t a.2.2.1 a.2.2.2))::(3,bx 34 (Da n q s))::W2 o k)) (fun((V,aA,Y,t,n,q,s,o,k):(Int×Int)×r9×List r9×List Int×List m9×List ByteArray×List r9×List x8×List m4)=>True) H (by kernel_rfl) (fun _ h=>by obtain⟨_,_,rfl,he,ho⟩:=h; obtain⟨_,_,rfl,⟨V,rfl,h1⟩,⟨_,_,rfl,⟨aA,rfl,h2⟩,⟨_,_,rfl,⟨Y,rfl,h3⟩,⟨_,_,rfl,rfl,⟨_,_,rfl,rfl,⟨_,_,rfl,rfl,⟨_,_,rfl,rfl,⟨_,_,rfl,rfl,rfl⟩⟩⟩⟩⟩⟩⟩⟩:=he; obtain⟨_,_,rfl,⟨_,rfl,⟨_,_,rfl,⟨t,rfl,h4⟩,⟨_,_,rfl,rfl,⟨_,_,rfl,rfl,rfl⟩⟩⟩⟩,⟨_,_,rfl,⟨_,rfl,⟨_,_,rfl,rfl,⟨_,_,rfl,⟨n,rfl,h5⟩,⟨_,_,rfl,⟨q,rfl,h6⟩,⟨_,_,rfl,⟨s,rfl,h7⟩,⟨_,_,rfl,rfl,rfl⟩⟩⟩⟩⟩⟩,⟨_,_,rfl,⟨o,rfl,h8⟩,⟨_,_,rfl,⟨k,rfl,h9⟩,⟨_,_,rfl,⟨_,rfl,⟨_,_,rfl,rfl,⟨_,_,rfl,rfl,⟨_,_,rfl,rfl,⟨_,_,rfl,rfl,⟨_,_,rfl,rfl,rfl⟩⟩⟩⟩⟩⟩,rfl⟩⟩⟩⟩⟩:=ho; exact⟨⟨V,aA,Y,t,n,q,s,o,k⟩,⟨h1,h2,h3,h4,h5,h6,h7,h8,h9⟩,rfl⟩) (fun _=>by kernel_rfl) fun⟨V,aA,Y,t,n,q,s,o,k⟩ H=>J4 H fun H=>fK<|n0 H
 exact vK<|fK<|n0 H
abbrev Ql(x:r7 [.io 122 m7]):Prop:=sd x.1
def Qm(r:j7×l5):AV:=AV.agg (Q0 r.1)
def IX(r:j7×l5):B0 [.io 122 m7]:=r.2
def Vn:Prop:=kE prog 58 [.io 122 m7] Ql IW Qm IX
def Ms[Alw](a:Int×l5):Bool->Option Unit
 | d =>
 if d then
  gd (True/\Fu (a.2,(6:Int),true,()))<|Alw.alp (Y3 [Par.io 122 m7,Par.dat i64,Par.dat Ty.bool] GU GX P3) fun(b:(j7×l5)) =>
  gd (True) <|
  gd (IW (b.1,P3 b))<|some ()
 else
  gd (True/\Fu (a.2,(6:Int),false,()))<|Alw.alp (Y3 [Par.io 122 m7,Par.dat i64,Par.dat Ty.bool] GU GX P3) fun(c:(j7×l5)) =>
  gd (True) <|
  gd (IW (c.1,P3 c))<|some ()
def Qn[Alw](b:l5):Option Unit :=
 gd ((c8 b 12).isSome/\True)<|lt (vl (c8 b 12)) fun a =>
 if(a.1==0) then
  gd (True/\Qj (a.2,()))<|Alw.alp (Y3 [Par.io 122 m7] Qc Vl Mr) fun(c:(j7×l5)) =>
  gd (True) <|
  gd (IW (c.1,Mr c))<|some ()
 else
  if(a.1==1) then
   Ms a (a.1==1)
  else
   Ms a (a.1==2)
theorem e58[Alw](h61:Mq)(h118:Vm)(hF:∀x,Xv.wfs [.io 122 m7] x->Ql x->Qn x.1=some ()):Vn:=by
 refine GW (f:=58) (ps:=[.io 122 m7]) (pre:=Ql) (post:=IW) (R:=Qm) (Z:=IX) (F:=fun x=>Qn x.1) L7 [.cell 2 34] hF func58 ntmps58 rfl results58 (by kernel_rfl) rfl ?_;intro y ⟨_,_⟩ r H hB Q hn hr;have:=hz (tc F4 tn);refine iA [0,2]<|vQ<|qD (fun a=>Z [p 0 (R 500000),p 2 (R 2),p 4 (I a.1)] [(500000,K 122 m7 a.2),(2,bx 34 [nil,nil,nil,nil,nil])]) H fun a H=>vB<|iA [0,2,4,5]<|cD H (fun H=>vQ<|iE h118 1 [2] H fun d hp118 H=>J4 H fun H=>fQ<|j0<|l8<|fR<|hr (d.1,Mr d) (L0 H).1 (by kernel_rfl)) fun H=>jN r (fun(b:Bool)=>Z [p 0 (R 500000),p 2 (R 2),p 9 (B b)] [(500000,K 122 m7 a.2),(2,bx 34 [nil,nil,nil,nil,nil])]) (Ms a) (fun b H=>?_) (fun _ g i h=>?_)
 ·refine cD H (fun H=>vQ<|iE h61 1 [2] H fun c hp61 H=>J4 H fun H=>fQ<|j0<|l8<|fR<|hr (c.1,P3 c) (L0 H).1 (by kernel_rfl)) fun H=>vK<|fK<|fQ<|vQ<|iE h61 1 [2] H fun e hp61 H=>J4 H fun H=>fQ<|j0<|hr (e.1,P3 e) (L0 H).1 (by kernel_rfl)
 refine iA [0,2,4,9]<|cD H (fun H=>vK<|g H) fun H=>jA [0,2,9]<|g H
abbrev Qo(x:r7 [.io 122 m7]):Prop:=sd x.1
def Vo(r:j7×p5×List Int×List m6×l5):AV:=AV.tup [AV.agg (Q0 r.1),AV.agg (Ck r.2.1.1 r.2.1.2.1 r.2.1.2.2.1 r.2.1.2.2.2.1 r.2.1.2.2.2.2),M i64 r.2.2.1,M y53 r.2.2.2.1]
def Vp(r:j7×p5×List Int×List m6×l5):B0 [.io 122 m7]:=r.2.2.2.2
def Vq:Prop:=kE prog 28 [.io 122 m7] Qo Qd Vo Vp
def GY[Alw](h:List m4)(j:List m9)(g:List ByteArray)(d:List r9)(f:List x8)(k:p5×l5):List Int×List Int×Int×Int->Option Unit
 | (i,a,c,b) =>
 gd ((u64 (a,c,b) (h,(j,g,d),f)).isSome/\True)<|lt (vl (u64 (a,c,b) (h,(j,g,d),f))) fun e =>
 gd (Qd (((h,(j,g,d),f),k.1,i,e)))<|some ()
def Mt[Alw](j:p5×l5):List m4×List m9×List ByteArray×List r9×List x8×List Int×Int×Int->Option Unit
 | (e,f,c,b,d,m,i,h) =>
 gd ((IJ (m,i,h) (e,(f,c,b),d)).isSome/\True)<|lt (vl (IJ (m,i,h) (e,(f,c,b),d))) fun a =>
 gd ((Y1 (e,(f,c,b),d)).isSome/\True)<|if(vl (Y1 (e,(f,c,b),d))&&(a.1.length:Int)==0) then
  gd ((c8 a.2 6).isSome/\True)<|gd (True) <|
  if(true&&decide (0 < (vl (c8 a.2 6)).1)) then
   gd ((Fp (e,(f,c,b),d)).isSome/\True)<|lt ((vl (Fp (e,(f,c,b),d)),vl (c8 a.2 6))) fun(l,g) =>
   GY e f c b d j (l,g.2.1,g.2.2.1,g.2.2.2)
  else
   GY e f c b d j ((a.1,(vl (c8 a.2 6)).2.1,(vl (c8 a.2 6)).2.2.1,(vl (c8 a.2 6)).2.2.2))
 else
  gd (True)<|gd (True) <|
  if(false&&false) then
   gd ((Fp (e,(f,c,b),d)).isSome/\True)<|lt (vl (Fp (e,(f,c,b),d))) fun k =>
   GY e f c b d j (k,a.2.1,a.2.2.1,a.2.2.2)
  else
   GY e f c b d j (a.1,a.2.1,a.2.2.1,a.2.2.2)
def Qp[Alw](e:l5):Option Unit :=
 gd (True/\Ql (e,()))<|Alw.alp (Y3 [Par.io 122 m7] IW Qm IX) fun(b:(j7×l5)) =>
 gd (True) <|
 gd ((LH (IX b)).isSome/\True)<|lt (vl (LH (IX b))) fun d =>
 gd ((c8 d.2 3).isSome/\True)<|lt (vl (c8 d.2 3)) fun c =>
 if(c.1==0) then
  gd (True/\Fu (c.2,(5:Int),true,()))<|Alw.alp (Y3 [Par.io 122 m7,Par.dat i64,Par.dat Ty.bool] GU GX P3) fun(a:(j7×l5)) =>
  gd (True) <|
  Mt d ((a.1.1,a.1.2.1.1,a.1.2.1.2.1,a.1.2.1.2.2,a.1.2.2,(P3 a).1,(P3 a).2.1,(P3 a).2.2))
 else
  Mt d (b.1.1,b.1.2.1.1,b.1.2.1.2.1,b.1.2.1.2.2,b.1.2.2,c.2.1,c.2.2.1,c.2.2.2)
theorem e28[Alw](h61:Mq)(h58:Vn)(hF:∀x,Xv.wfs [.io 122 m7] x->Qo x->Qp x.1=some ()):Vq:=by
 refine GW (f:=28) (ps:=[.io 122 m7]) (pre:=Qo) (post:=Qd) (R:=Vo) (Z:=Vp) (F:=fun x=>Qp x.1) L7 [.cell 2 34,.cell 3 36,.tmp 4,.tmp 5] hF func28 ntmps28 rfl results28 (by kernel_rfl) rfl ?_;intro y ⟨_,_⟩ r H hB Q hn hr;have:=hz (tc o64 (tc o63 (tc F4 (tc KQ (tc o62 (tc o59 tn))))));refine iA [0,2,3]<|vQ<|iE h58 1 [0,2,3,6] H fun E hp58 H=>J4 H fun H=>fQ<|qD (fun b=>Z (G4 []) ((7,bx 36 (p9 true r5 b.1))::(500000,K 122 m7 b.2)::(6,bx 34 (Q0 E.1))::W1)) H fun b H=>jN r (fun((e,h,d,g,c,z,u,t):List m4×List m9×List ByteArray×List r9×List x8×List Int×Int×Int)=>Z (G4 []) ((6,bx 34 (Bx e h d g c))::(500000,bx 122 [L b8 z,J u,J t])::(7,bx 36 (p9 true r5 b.1))::W1)) (Mt b) (fun⟨e,h,d,g,c,z,u,t⟩ H=>?_) (fun _ G V P=>?_)
 ·refine qD (fun a=>Z (G4 [p 8 (O 20)]) ((20,A 2 i64 a.1 0)::(500000,K 122 m7 a.2)::(6,bx 34 (Bx e h d g c))::(7,bx 36 (p9 true r5 b.1))::W1)) H fun a H=>jN r (fun((j,o,q,s):List Int×List Int×Int×Int)=>Z (G4 [p 8 (M i64 j)]) ((500000,bx 122 (A5 o q s))::(6,bx 34 (Bx e h d g c))::(7,bx 36 (p9 true r5 b.1))::W1)) (GY e h d g c b) (fun⟨j,o,q,s⟩ H=>?_) (fun _ v T W=>?_)
  ·refine qD (fun i=>Z (G7 [p 4 (M i64 j),p 5 (O 40)]) [(3,bx 36 (p9 true r5 b.1)),(2,bx 34 (Bx e h d g c)),(40,A 53 y53 i.1 0),(500000,K 122 m7 i.2),(6,bx 34 (Bx e h d g c)),(7,bx 36 (p9 true r5 b.1))]) H fun i H=>j0<|hr (((e,(h,d,g),c),b.1,j,i)) (L0 H).1 (by kernel_rfl)
  refine vQ<|Va<|PY 8 3 [(29,AV.ptr 500000 0),(30,I 0),(31,B false)] H (fun H=>J4 H fun H=>?_) (fun H=>J4 H fun H=>?_)
  ·refine IV [0,2,3,6,7,8,32] H fun H=>fQ<|cD H (fun H=>?_) (fun H=>?_)
   ·refine zD (fun(n,m)=>Z (G4 [p 8 (O 34)]) ((34,A 2 i64 n 0)::(500000,K 122 m7 m.2)::(20,A 2 i64 a.1 0)::(6,bx 34 (Bx e h d g c))::(7,bx 36 (p9 true r5 b.1))::W1)) H fun⟨n,m⟩ H =>
     Cz 34 (Z (G4 [p 8 (M i64 n)]) ((500000,K 122 m7 m.2)::(20,A 2 i64 a.1 0)::(6,bx 34 (Bx e h d g c))::(7,bx 36 (p9 true r5 b.1))::W1)) (by kernel_rfl) rfl<|v H
   exact vK<|Cz 20 (Z (G4 [p 8 (M i64 a.1),p 32 (B (true&&decide (0 < (vl (c8 a.2 6)).1)))]) ((500000,bx 122 (p9 false m7 (vl (c8 a.2 6)).2))::(6,bx 34 (Bx e h d g c))::(7,bx 36 (p9 true r5 b.1))::W1)) (by kernel_rfl) rfl<|v H
  refine IV [0,2,3,6,7,8,32] H fun H=>fQ<|cD H (fun H=>zD (fun l=>Z (G4 [p 8 (O 34)]) ((34,A 2 i64 l 0)::(20,A 2 i64 a.1 0)::(500000,K 122 m7 a.2)::(6,bx 34 (Bx e h d g c))::(7,bx 36 (p9 true r5 b.1))::W1)) H fun l H=>Cz 34 (Z (G4 [p 8 (M i64 l)]) ((20,A 2 i64 a.1 0)::(500000,K 122 m7 a.2)::(6,bx 34 (Bx e h d g c))::(7,bx 36 (p9 true r5 b.1))::W1)) (by kernel_rfl) rfl<|v H) fun H=>vK<|Cz 20 (Z (G4 [p 8 (M i64 a.1),p 32 (B (false&&false))]) ((500000,K 122 m7 a.2)::(6,bx 34 (Bx e h d g c))::(7,bx 36 (p9 true r5 b.1))::W1)) (by kernel_rfl) rfl<|v H
 refine qD (fun w=>Z (G4 [p 15 (B (w.1==0))]) ((500000,K 122 m7 w.2)::(7,bx 36 (p9 true r5 b.1))::(6,bx 34 (Q0 E.1))::W1)) H fun w H=>cD H (fun H=>iE h61 1 [0,2,3,6,7] H fun k hp61 H=>J4 H fun H=>Cz 17 (Z (G4 []) ((6,bx 34 [L y64 k.1.1,M y139 k.1.2.1.1,M Ty.str k.1.2.1.2.1,M y202 k.1.2.1.2.2,AV.os 1017 0])::(1017,A 153 l6 k.1.2.2 0)::(500000,bx 122 (p9 false m7 (P3 k)))::(7,bx 36 (p9 true r5 b.1))::W1)) (by kernel_rfl) rfl<|Cz 1017 (Z (G4 []) ((6,bx 34 (Q0 k.1))::(500000,bx 122 (p9 false m7 (P3 k)))::(7,bx 36 (p9 true r5 b.1))::W1)) (by kernel_rfl) rfl<|G H) fun H=>vK<|G H
abbrev P8(x:r7 [.dat (b8.sl)]):Prop:=True
def R8(r:j7×p5×List Int×List m6):AV:=AV.tup [AV.agg (Q0 r.1),AV.agg (Ck r.2.1.1 r.2.1.2.1 r.2.1.2.2.1 r.2.1.2.2.2.1 r.2.1.2.2.2.2),M i64 r.2.2.1,M y53 r.2.2.2]
def Z8(r:j7×p5×List Int×List m6):B0 [.dat (b8.sl)]:=()
def K8:Prop:=kE prog 8 [.dat (b8.sl)] P8 T8 R8 Z8
def u8[Alw](b:List Int):Option Unit :=
 gd ((LG b).isSome/\True)<|lt (vl (LG b)) fun c =>
 gd (True/\Qo (c,()))<|Alw.alp (Y3 [Par.io 122 m7] Qd Vo Vp) fun(a:(j7×p5×List Int×List m6×l5)) =>
 gd (True) <|
 gd (T8 (a.1,a.2.1,a.2.2.1,a.2.2.2.1))<|some ()
theorem e8[Alw](h28:Vq)(hF:∀x,Xv.wfs [.dat (b8.sl)] x->P8 x->u8 x.1=some ()):K8:=by
 refine GW (f:=8) (ps:=[.dat (b8.sl)]) (pre:=P8) (post:=T8) (R:=R8) (Z:=Z8) (F:=fun x=>u8 x.1) L7 [.cell 2 34,.cell 3 36,.tmp 4,.tmp 5] hF func8 ntmps8 rfl results8 (by kernel_rfl) rfl ?_;intro y ⟨_,_⟩ r H hB Q hn hr;have:=hz (tc o27 tn);refine iA [0,2,3]<|qD (fun a=>Z (G7 [p 6 (R 8)]) ((8,bx 122 [L b8 a.1,I a.2.1,I a.2.2])::W1)) H fun a H=>vQ<|iE h28 1 [2,3,4,5] H fun b hp28 H=>J4 H fun H=>fQ<|j0<|hr (b.1,b.2.1,b.2.2.1,b.2.2.2.1) (L0 H).1 (by kernel_rfl)
def Mu[Alw](c:B7×Int)(a:j7×p5×List Int×List m6):Unit->Option Bool
 | _ =>
 gd (((0:Int)<=(1:Int)/\(1:Int)<=(a.2.2.2.length:Int)/\(a.2.2.2.length:Int)<=(a.2.2.2.length:Int))/\(u9 a.1 a.2.1 a.2.2.1 (List.drop (Int.toNat (1:Int)) a.2.2.2)).isSome/\True)<|lt (vl (u9 a.1 a.2.1 a.2.2.1 (List.drop (Int.toNat (1:Int)) a.2.2.2))) fun b =>
 gd (((b.2==0)=true/\True->(ID b.1 c.1).isSome)/\True) <|
 some (b.2==0&&vl (ID b.1 c.1))
def Qq[Alw](a:Int)(b:Int->Option Bool):Unit->Option Bool
 | _ =>
 gd (c9 (a+1)/\True) <|
 b (a+1)
def IY[Alw](a:Int)(b:Int->Option Bool):Unit->Option Bool
 | _ =>
 gd (c9 (a+1)/\True) <|
 b (a+1)
def Mv[Alw](b:z7)(c:Int)(d:Int->Option Bool)(e:Int->Option Bool):Int->Option Bool
 | a =>
 if(decide (a < (b.2.2.2.2.1.length:Int))) then
  gd (ix a b.2.2.2.2.1.length/\(Di (b.2.2.2.2.1.getD a.toNat (b7 y70))).isSome/\(decide (a < (b.2.2.2.2.2.length:Int))=true/\(!vl (Di (b.2.2.2.2.1.getD a.toNat (b7 y70))))=false/\True->ix a b.2.2.2.2.2.length)/\(decide (a < (b.2.2.2.2.2.length:Int))=true/\(!vl (Di (b.2.2.2.2.1.getD a.toNat (b7 y70))))=false/\True->(Di (b.2.2.2.2.2.getD a.toNat (b7 y70))).isSome)/\True) <|
  if(!vl (Di (b.2.2.2.2.1.getD a.toNat (b7 y70)))||decide (a < (b.2.2.2.2.2.length:Int))&&!vl (Di (b.2.2.2.2.2.getD a.toNat (b7 y70)))) then
   some true
  else
   gd (c9 (a+1)/\True) <|
   e (a+1)
 else
  IY c d ()
def Vr[Alw](c:j7×p5×List Int×List m6)(b:Int)(e:Int->Option Bool)(f:Int->Option Bool):Int->Option Bool
 | a =>
 gd (ix b c.1.1.length/\True) <|
 if(decide (a < (↑(c.1.1.getD b.toNat (b7 y64)).2.2.2.1.length:Int))) then
  gd (ix b c.1.1.length/\ix a (c.1.1.getD b.toNat (b7 y64)).2.2.2.1.length/\True)<|lt ((c.1.1.getD b.toNat (b7 y64)).2.2.2.1.getD a.toNat (b7 y67)) fun d =>
  lp (Mv d a f) 0
 else
  Qq b e ()
def Vs[Alw](a:j7×p5×List Int×List m6)(d:B7×Int)(c:Int->Option Bool):Int->Option Bool
 | b =>
 if(decide (b < (a.1.1.length:Int))) then
  lp (Vr a b c) 0
 else
  Mu d a ()
def u5[Alw](d:List Int):Option Bool :=
 gd ((u7 d).isSome/\True) <|
 if(vl (u7 d)) then
  some true
 else
  gd (True/\P8 (d,()))<|Alw.alp (Y3 [Par.dat b8.sl] T8 R8 Z8) fun(a:(j7×p5×List Int×List m6)) =>
  gd (True) <|
  gd ((u9 a.1 a.2.1 a.2.2.1 a.2.2.2).isSome/\True)<|lt (vl (u9 a.1 a.2.1 a.2.2.1 a.2.2.2)) fun b =>
  gd ((Mf a.1 a.2.1 a.2.2.1 a.2.2.2).isSome/\True)<|lt (vl (Mf a.1 a.2.1 a.2.2.1 a.2.2.2)) fun c =>
  gd (((b.2 != c.2)=false/\True->(GA b.1 c.1).isSome)/\True) <|
  if(b.2 != c.2||!vl (GA b.1 c.1)) then
   some false
  else
   if(b.2 != 0||(a.2.2.2.length:Int)==0) then
    some true
   else
    lp (Vs a b) 0
def k5[Alw]:Ct:=j9 5 [.dat (b8.sl)] (fun x=>u5 x.1) (fun r:Bool=>B r) (fun _=>())
theorem o5[Alw](h8:K8):Ok prog k5:=by
 refine k8 [.tmp 2] func5 ?_;intro y ⟨_,_⟩ r H Q hn hr;have:=hz (tc o19 (tc o9 (tc o18 (tc o11 (tc o10 (tc o7 tn))))));refine iA [0]<|vQ<|iB [0,19] H fun H=>cD H (fun H=>iA [2]<|j0<|fR<|hr H) fun H=>vK<|fQ<|vQ<|iE h8 1 [3,4,5,6] H fun a hp8 H=>J4 H fun H=>fQ<|iD o9 [3,4,5,6,7,8] H fun b H=>vQ<|iD o10 [3,4,5,6,7,8,9,10] H fun _ H=>iB [3,4,5,6,7,8,51] H fun H=>cD H (fun H=>iA [2]<|j0<|fR<|hr H) fun H=>vK<|fQ<|vQ<|iA [3,4,5,6,7,58]<|cD H (fun H=>iA [2]<|j0<|fR<|hr H) fun H=>vK<|fQ<|iA [3,4,5,6,7,11]<|jN r (fun(_:Unit)=>Z [p 3 (R 3),p 4 (R 4),p 5 (M i64 a.2.2.1),p 6 (M y53 a.2.2.2),p 7 (R 7)] [(7,bx 44 [AV.os 32 0,AV.os 1032 0,AV.os 2032 0]),(2032,A 51 y51 b.1.2.2 0),(1032,A 51 y51 b.1.2.1 0),(32,A 4 Ty.bool b.1.1 0),(4,bx 36 (p9 true r5 a.2.1)),(3,bx 34 (Q0 a.1))]) (Mu b a) (fun _ H=>?_) (fun _ z P h=>?_)
 ·refine iD o9 [7,16,17] H fun _ H=>iB [2] H fun H=>j0<|hr H
 refine iA [3,4,5,6,7,11,12]<|vB<|lX (fun(d:Int)=>Z (Ih a.2.2.1 a.2.2.2 a.1.1 d []) [(7,bx 44 [AV.os 32 0,AV.os 1032 0,AV.os 2032 0]),(2032,A 51 y51 b.1.2.2 0),(1032,A 51 y51 b.1.2.1 0),(32,A 4 Ty.bool b.1.1 0),(4,bx 36 (p9 true r5 a.2.1)),(3,bx 34 (Q0 a.1))]) 0 H fun _ g j l w d H=>vQ<|iA [3,4,5,6,7,11,12,65]<|cD H (fun H=>?_) (fun H=>?_)
 ·refine vK<|fQ<|jN r (fun(_:Unit)=>Z (Ih a.2.2.1 a.2.2.2 a.1.1 d []) [(7,bx 44 [AV.os 32 0,AV.os 1032 0,AV.os 2032 0]),(2032,A 51 y51 b.1.2.2 0),(1032,A 51 y51 b.1.2.1 0),(32,A 4 Ty.bool b.1.1 0),(4,bx 36 (p9 true r5 a.2.1)),(3,bx 34 (Q0 a.1))]) (Qq d g) (fun _ H=>?_) (fun _ t F x=>?_)
  ·refine jB [3,4,5,6,7,11,12] H fun H=>j H
  refine vB<|iA [3,4,5,6,7,11,12,13]<|vB<|lX (fun(c:Int)=>Z (Ih a.2.2.1 a.2.2.2 a.1.1 d [p 13 (I c)]) [(7,bx 44 [AV.os 32 0,AV.os 1032 0,AV.os 2032 0]),(2032,A 51 y51 b.1.2.2 0),(1032,A 51 y51 b.1.2.1 0),(32,A 4 Ty.bool b.1.1 0),(4,bx 36 (p9 true r5 a.2.1)),(3,bx 34 (Q0 a.1))]) 0 H fun _ q n i u c H=>vQ<|iB [3,4,5,6,7,11,12,13,75] H fun H=>cD H (fun H=>?_) (fun H=>?_)
  ·refine vK<|fQ<|jN r (fun(_:Unit)=>Z (Ih a.2.2.1 a.2.2.2 a.1.1 d [p 13 (I c)]) [(7,bx 44 [AV.os 32 0,AV.os 1032 0,AV.os 2032 0]),(2032,A 51 y51 b.1.2.2 0),(1032,A 51 y51 b.1.2.1 0),(32,A 4 Ty.bool b.1.1 0),(4,bx 36 (p9 true r5 a.2.1)),(3,bx 34 (Q0 a.1))]) (IY c q) (fun _ H=>?_) (fun _ o E s=>?_)
   ·refine jB [3,4,5,6,7,11,12,13] H fun H=>n H
   refine vB<|qD (fun e=>Z (Ih a.2.2.1 a.2.2.2 a.1.1 d [p 13 (I c),p 14 (R 14)]) [(14,K 67 y67 e),(7,bx 44 [AV.os 32 0,AV.os 1032 0,AV.os 2032 0]),(2032,A 51 y51 b.1.2.2 0),(1032,A 51 y51 b.1.2.1 0),(32,A 4 Ty.bool b.1.1 0),(4,bx 36 (p9 true r5 a.2.1)),(3,bx 34 (Q0 a.1))]) H fun e H=>iA [3,4,5,6,7,11,12,13,14,15]<|vB<|lX (fun(f:Int)=>Z (Ih a.2.2.1 a.2.2.2 a.1.1 d [p 13 (I c),p 14 (R 14),p 15 (I f)]) [(14,K 67 y67 e),(7,bx 44 [AV.os 32 0,AV.os 1032 0,AV.os 2032 0]),(2032,A 51 y51 b.1.2.2 0),(1032,A 51 y51 b.1.2.1 0),(32,A 4 Ty.bool b.1.1 0),(4,bx 36 (p9 true r5 a.2.1)),(3,bx 34 (Q0 a.1))]) 0 H fun _ G m v k f H=>vQ<|iA [3,4,5,6,7,11,12,13,14,15,90]<|cD H (fun H=>?_) (fun H=>?_)
   ·refine vK<|fQ<|vQ<|vB<|iB [3,4,5,6,7,11,12,13,14,15,115] H fun H=>cD H (fun H=>iA [2]<|j0<|l8<|fR<|k<|l8<|l8<|s<|u<|l8<|l8<|x<|w<|l8<|h<|hr H) fun H=>vK<|fK<|fQ<|jB [3,4,5,6,7,11,12,13,14,15] H fun H=>m H
   exact vE<|fE<|v<|fX rfl<|fK<|o H
  exact vE<|fE<|i<|fX rfl<|fK<|t H
 exact vE<|fE<|l<|fX rfl<|z H
end Go.Proofs.YtdjgagoledoaaaaGreatDoor
end
