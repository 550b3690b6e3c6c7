/- Functions of this program as plain functions of data, and that they are so: printed by program. -/
import Derived.Test.YtdjgagoledoaaaaGreatDoorF84b
section
namespace Go.Proofs.YtdjgagoledoaaaaGreatDoor
open Go Go.Proofs Go.Proofs.Sv Go.Proofs.Xv Go.Proofs.Xl Go.RowKit
open Tryz
def BP(b:j9)(e:p8)(c:List Int)(f:List m6):Option (Int ⊕ I4×List Int×Int) :=
 gd ((IF b).isSome/\((!vl (IF b))=false/\True->(LO e).isSome)/\True) <|
 if(!vl (IF b)||!vl (LO e)) then
  some (Sum.inl 1)
 else
  gd ((Ln b).isSome/\True)<|lt (vl (Ln b)) fun a =>
  gd ((IN a c).isSome/\((!vl (IN a c))=false/\True->(LW a f).isSome)/\True) <|
  if(!vl (IN a c)||!vl (LW a f)) then
   some (Sum.inl 2)
  else
   gd ((LY a c).isSome/\True)<|lt (vl (LY a c)) fun d =>
   gd ((Ma d).isSome/\True)<|lt (vl (Ma d)) fun g =>
   if(!g.2) then
    some (Sum.inl 7)
   else
    some (Sum.inr (d,g.1,(0:Int)))
def P0o:Ct:=k6 29 [.agg l9,.agg r7,.dat (.sl (.int .i64)),.dat (.sl y53),.nil] (fun x=>BP x.1 x.2.1 x.2.2.1 x.2.2.2.1) (two (fun r:Int=>AV.tup [AV.v (Value.pointer none),AV.v (Value.slice none 0 0),I r]) (fun r:I4×List Int×Int=>AV.tup [D y104.pt r.1,AV.ow 2 true i64 r.2.1,I r.2.2])) (fun _=>())
def L0C:Ct:=UW 29 [.agg l9,.agg r7,.dat (.sl (.int .i64)),.dat (.sl y53),.nil] (fun x=>BP x.1 x.2.1 x.2.2.1 x.2.2.2.1) (fun r:Int=>AV.tup [AV.v (Value.pointer none),AV.v (Value.slice none 0 0),I r]) ()
def L0B:Ct:=UX 29 [.agg l9,.agg r7,.dat (.sl (.int .i64)),.dat (.sl y53),.nil] (fun x=>BP x.1 x.2.1 x.2.2.1 x.2.2.2.1) (fun r:I4×List Int×Int=>AV.tup [D y104.pt r.1,AV.ow 2 true i64 r.2.1,I r.2.2]) ()
theorem M0o:Ok prog P0o:=by
 refine l5 [.tmp 10,.tmp 11,.tmp 12] func29 ?_;intro y ⟨_,_,_,_,_,_⟩ r H Q hn hr;have:=hz (tc o68 (tc o67 (tc o66 (tc o65 (tc o38 (tc o37 (tc o54 (tc o36 tn))))))));refine iA [2,3,4,5,6]<|vQ<|iB [2,3,4,5,24] H fun H=>cD H (fun H=>iA [10,11,12]<|j5<|fR<|hr H) fun H=>vK<|fQ<|iD o37 [2,3,4,13] H fun _ H=>vQ<|vB<|vQ<|D0q [2,3,13] 4 27 rfl (fun f w Q' k=>t0q (Qa rfl rfl (A0b _ (UY (M1 101 R0z rfl).2.2.2.2.2 rfl rfl) rfl (Qa rfl rfl (IV rfl rfl rfl rfl (IV rfl rfl rfl rfl (IV rfl rfl rfl rfl (IV rfl rfl rfl rfl (IV rfl rfl rfl rfl (IV rfl rfl rfl rfl (Qa rfl rfl (Qa rfl rfl (oN (E0u (by ((repeat (refine x0O rfl ?_)); exact D0r)) k))))))))))))))<|fQ<|cf (by kernel_rfl)<|?_
 refine iB [2,13,38] H fun H=>cD H (fun H=>iA [10,11,12]<|j5<|m4<|fR<|hr H) fun H=>vK<|fK<|fQ<|iD o67 [14] H fun _ H=>iD o68 [14,15,16] H fun _ H=>vQ<|iA [14,15,58]<|cD H (fun H=>iA [10,11,12]<|j5<|fR<|hr H) fun H=>vK<|fQ<|iA [10,11,12]<|j5<|hr H
theorem K0S:Ok prog L0C:=O0j M0o
theorem K0R:Ok prog L0B:=O0i M0o
def u9(d:j9)(a:p8)(e:List Int)(b:List m6):Option (C3×Int) :=
 if(Ms (BP d a e b)) then
  gd (Ms (BP d a e b)=true/\True) <|
  if(vL (BP d a e b) != 0) then
   some ((([],[],[]),vL (BP d a e b)))
  else
   none
 else
  gd (UZ (BP d a e b)=true/\True)<|lt (vR (BP d a e b)) fun c =>
  if(c.2.2 != 0) then
   some ((([],[],[]),c.2.2))
  else
   gd ((GW c.1 a b c.2.1).isSome/\True)<|lt (vl (GW c.1 a b c.2.1)) fun f =>
   if(!f.2) then
    some ((([],[],[]),(3:Int)))
   else
    some ((f.1,(0:Int)))
def k9:Ct:=k6 9 [.agg l9,.agg r7,.dat i64.sl,.dat y53.sl] (fun x=>u9 x.1 x.2.1 x.2.2.1 x.2.2.2.1) (fun r:C3×Int=>AV.tup [AV.agg [AV.ow 4 true Ty.bool r.1.1,AV.ow 51 true y51 r.1.2.1,AV.ow 51 true y51 r.1.2.2],I r.2]) (fun _=>())
theorem o9:Ok prog k9:=by
 refine l5 [.cell 8 44,.tmp 9] func9 ?_;intro y ⟨d,c,_,b,_⟩ r H Q hn hr;have:=hz (tc o30 tn);refine iA [2,3,4,5,8]<|sp H (fun H=>?_) (fun H=>?_)
 ·have:=hz (tc K0S (HT.h));refine iB [3,5,8,10,11,12] H fun H=>vQ<|iA [3,5,8,10,11,12,25]<|cD H (fun H=>iA [8,9]<|j5<|fR<|hr H) fun H=>vK<|fQ<|N0i H
 have:=hz (tc K0R (HT.h));refine qD (fun a=>Z [p 3 (L y53 b),p 5 (R 5),p 8 (R 8),p 10 (D y104.pt a.1),p 11 (O 20),p 12 (I a.2.2)] [(20,A 2 i64 a.2.1 0),(8,bx 44 [nil,nil,nil]),(5,K 36 r7 c),(4,K 34 l9 d)]) H fun a H=>vQ<|iA [3,5,8,10,11,12,25]<|cD H (fun H=>iA [8,9]<|j5<|fR<|hr H) fun H=>vK<|fQ<|iD o30 [8,13,14] H fun _ H=>vQ<|iA [8,13,37]<|cD H (fun H=>iA [8,9]<|j5<|fR<|hr H) fun H=>vK<|fQ<|iA [8,9]<|j5<|hr H
def Qb(a:Int->Option ByteArray)(b:Int):Option ByteArray :=
 if(decide (b<0)) then
  gd (j0 (-b)/\(a (-b)).isSome/\(ByteArray.mk #[45]).size+(vl (a (-b))).size<=9223372036854775807/\True)<|lt (vl (a (-b))) fun c =>
  some (ByteArray.mk #[45]++c)
 else
  if(decide (b<10)) then
   gd (j0 (48+b)/\True/\0<[(48+b) % 256].length/\True) <|
   some (strOfNums [(48+b) % 256])
  else
   gd ((0:Int) < (10:Int)/\(a (b.tdiv (10:Int))).isSome/\(0:Int) < (10:Int)/\j0 ((48:Int)+b.tmod (10:Int))/\True/\0<[((48:Int)+b.tmod (10:Int)) % (256:Int)].length/\(vl (a (b.tdiv (10:Int)))).size+(strOfNums [((48:Int)+b.tmod (10:Int)) % (256:Int)]).size<=9223372036854775807/\True)<|lt (vl (a (b.tdiv 10))) fun d =>
   some (d++strOfNums [(48+b.tmod 10) % 256])
theorem L0g(g167:Int->Option ByteArray)(Va:Ok prog (k6 167 [.dat i64] (fun x=>g167 x.1) (fun r=>S r) (fun _=>()))):Ok prog (k6 167 [.dat i64] (fun x=>Qb g167 x.1) (fun r:ByteArray=>S r) (fun _=>())):=by
 refine l5 [.tmp 2] func167 ?_;intro y ⟨b,_⟩ r H Q hn hr;have:=hz (tc Va tn);refine iA [0]<|vQ<|iA [0,4]<|cD H (fun H=>qD (fun a=>Z [p 2 (S (ByteArray.mk #[45]++a))] []) H fun a H=>j5<|fR<|hr H) fun H=>vK<|fQ<|vQ<|iA [0,10]<|cD H (fun H=>iB [2] H fun H=>j5<|fR<|hr H) fun H=>vK<|fQ<|qD (fun c=>Z [p 2 (S (c++strOfNums [(48+b.tmod 10) % 256]))] [(23,A 5 b8 [(48+b.tmod 10) % 256] 0)]) H fun c H=>j5<|hr H
def IW:Nat->Int->Option ByteArray
 | 0,_=>none
 | m+1,n=>Qb (IW m) n
theorem I0e:∀m,Ok prog (k6 167 [.dat i64] (fun x=>IW m x.1) (fun r=>S r) (fun _=>()))
 | 0=>⟨by kernel_rfl,fun _ hq=>by cases hq⟩
 | m+1=>L0g (IW m) (I0e m)
def CC(n:Int):Option ByteArray:=IW 25 n
def Q0w:Ct:=k6 167 [.dat i64] (fun x=>CC x.1) (fun r=>S r) (fun _=>())
theorem Va:Ok prog Q0w:=I0e 25
def Fw:List m6×List Int×Int×Int->Option (List m6×l6)
 | (d,a,c,b) =>
 some (d,a,c,b)
def Qc:List m6×List Int×Int×Int->Option (List m6×l6)
 | (a,f,d,e) =>
 if(decide (0 < (a.length:Int))) then
  gd ((c9 (f,d,e) (a.length:Int)).isSome/\True)<|lt (vl (c9 (f,d,e) (a.length:Int))) fun b =>
  gd ((c9 b.2 30).isSome/\True)<|lt (vl (c9 b.2 30)) fun c =>
  if(c.1==0) then
   gd (ix (0:Int) a.length/\Int.toNat (0:Int)<a.length/\ix b.1 a.length/\b.1.toNat<a.length/\True)<|lt (a.set b.1.toNat ((a.getD (Int.toNat (0:Int)) (a6 y53)).1,(a.getD b.1.toNat (a6 y53)).2)) fun i =>
   Fw (i,c.2.1,c.2.2.1,c.2.2.2)
  else
   if(c.1==1) then
    gd (ix b.1 a.length/\b.1.toNat<a.length/\j0 ((a.getD b.1.toNat (a6 y53)).2.1.2+1)/\ix b.1 a.length/\b.1.toNat<a.length/\True)<|lt (a.set b.1.toNat ((a.getD b.1.toNat (a6 y53)).1,((a.getD b.1.toNat (a6 y53)).2.1.2+1,(a.getD b.1.toNat (a6 y53)).2.1.2),(a.getD b.1.toNat (a6 y53)).2.2)) fun g =>
    Fw (g,c.2.1,c.2.2.1,c.2.2.2)
   else
    if(c.1==2) then
     gd (ix b.1 a.length/\b.1.toNat<a.length/\True)<|lt (a.set b.1.toNat ((a.getD b.1.toNat (a6 y53)).1,(a.getD b.1.toNat (a6 y53)).2.1,-1,(a.getD b.1.toNat (a6 y53)).2.2.2)) fun j =>
     Fw (j,c.2.1,c.2.2.1,c.2.2.2)
    else
     if(c.1==3) then
      gd (ix b.1 a.length/\b.1.toNat<a.length/\True)<|lt (a.set b.1.toNat ((a.getD b.1.toNat (a6 y53)).1,((a.getD b.1.toNat (a6 y53)).2.1.1,(1000000000:Int)),(a.getD b.1.toNat (a6 y53)).2.2)) fun h =>
      Fw (h,c.2.1,c.2.2.1,c.2.2.2)
     else
      Fw (a,c.2.1,c.2.2.1,c.2.2.2)
 else
  Fw (a,f,d,e)
def Vb(a:Int)(f:Int×List m6×List Int×Int×Int->Option (List m6×l6)):List m6×List Int×Int×Int->Option (List m6×l6)
 | (e,d,b,c) =>
 gd (j0 (a+1)/\True) <|
 f (a+1,e,d,b,c)
def Bj(a:Int)(f:Int×List m6×List Int×Int×Int->Option (List m6×l6)):List m6×List Int×Int×Int->Option (List m6×l6)
 | (b,e,d,c) =>
 gd (j0 (a+1)/\True) <|
 f (a+1,b,e,d,c)
def G0o(i:Int)(y:List D3)(z:Int×List m6×List Int×Int×Int->Option (List m6×l6))(t:Int×List m6×List Int×Int×Int->Option (List m6×l6)):Int×List m6×List Int×Int×Int->Option (List m6×l6)
 | (d,j,b,c,a) =>
 if(decide (d<2)) then
  gd (True)<|if(decide ((y.getD i.toNat (a6 u0)).1<0)&&(y.getD i.toNat (a6 u0)).2.2.2) then
   gd ((c9 (b,c,a) 8).isSome/\True)<|gd (True)<|if(true&&decide (0 < (vl (c9 (b,c,a) 8)).1)) then
    gd (True)<|gd (True) <|
    if(true||false) then
     gd ((c9 (vl (c9 (b,c,a) 8)).2 200).isSome/\j0 ((vl (c9 (vl (c9 (b,c,a) 8)).2 200)).1-50)/\(c9 (vl (c9 (vl (c9 (b,c,a) 8)).2 200)).2 30).isSome/\True)<|lt ((vl (c9 (vl (c9 (b,c,a) 8)).2 200),vl (c9 (vl (c9 (vl (c9 (b,c,a) 8)).2 200)).2 30),vl (c9 (b,c,a) 8))) fun(k,g,_) =>
     gd (j0 (2*i)/\j0 (2*i+d)/\(c9 g.2 40).isSome/\j0 (k.1-50+(vl (c9 g.2 40)).1)/\(c9 (vl (c9 g.2 40)).2 12).isSome/\j0 (g.1+(vl (c9 (vl (c9 g.2 40)).2 12)).1)/\(j.length+[(2*i+d,(k.1-50,k.1-50+(vl (c9 g.2 40)).1),g.1,g.1+(vl (c9 (vl (c9 g.2 40)).2 12)).1)].length<=9223372036854775807/\(j.length+[(2*i+d,(k.1-50,k.1-50+(vl (c9 g.2 40)).1),g.1,g.1+(vl (c9 (vl (c9 g.2 40)).2 12)).1)].length)*40<=140737488355328)/\True)<|lt ((vl (c9 g.2 40),vl (c9 (vl (c9 g.2 40)).2 12),j++[(2*i+d,(k.1-50,k.1-50+(vl (c9 g.2 40)).1),g.1,g.1+(vl (c9 (vl (c9 g.2 40)).2 12)).1)],[(2*i+d,(k.1-50,k.1-50+(vl (c9 g.2 40)).1),g.1,g.1+(vl (c9 (vl (c9 g.2 40)).2 12)).1)])) fun(_,s,v,_) =>
     Bj d t (v,s.2.1,s.2.2.1,s.2.2.2)
    else
     Bj d t ((j,(vl (c9 (b,c,a) 8)).2.1,(vl (c9 (b,c,a) 8)).2.2.1,(vl (c9 (b,c,a) 8)).2.2.2))
   else
    gd ((c9 (vl (c9 (b,c,a) 8)).2 24).isSome/\True)<|gd (True) <|
    if(false||(vl (c9 (vl (c9 (b,c,a) 8)).2 24)).1==0) then
     gd ((c9 (vl (c9 (vl (c9 (b,c,a) 8)).2 24)).2 200).isSome/\j0 ((vl (c9 (vl (c9 (vl (c9 (b,c,a) 8)).2 24)).2 200)).1-50)/\(c9 (vl (c9 (vl (c9 (vl (c9 (b,c,a) 8)).2 24)).2 200)).2 30).isSome/\True)<|lt ((vl (c9 (vl (c9 (vl (c9 (b,c,a) 8)).2 24)).2 200),vl (c9 (vl (c9 (vl (c9 (vl (c9 (b,c,a) 8)).2 24)).2 200)).2 30),vl (c9 (b,c,a) 8),vl (c9 (vl (c9 (b,c,a) 8)).2 24))) fun(l,e,_,_) =>
     gd (j0 (2*i)/\j0 (2*i+d)/\(c9 e.2 40).isSome/\j0 (l.1-50+(vl (c9 e.2 40)).1)/\(c9 (vl (c9 e.2 40)).2 12).isSome/\j0 (e.1+(vl (c9 (vl (c9 e.2 40)).2 12)).1)/\(j.length+[(2*i+d,(l.1-50,l.1-50+(vl (c9 e.2 40)).1),e.1,e.1+(vl (c9 (vl (c9 e.2 40)).2 12)).1)].length<=9223372036854775807/\(j.length+[(2*i+d,(l.1-50,l.1-50+(vl (c9 e.2 40)).1),e.1,e.1+(vl (c9 (vl (c9 e.2 40)).2 12)).1)].length)*40<=140737488355328)/\True)<|lt ((vl (c9 e.2 40),vl (c9 (vl (c9 e.2 40)).2 12),j++[(2*i+d,(l.1-50,l.1-50+(vl (c9 e.2 40)).1),e.1,e.1+(vl (c9 (vl (c9 e.2 40)).2 12)).1)],[(2*i+d,(l.1-50,l.1-50+(vl (c9 e.2 40)).1),e.1,e.1+(vl (c9 (vl (c9 e.2 40)).2 12)).1)])) fun(_,q,w,_) =>
     Bj d t (w,q.2.1,q.2.2.1,q.2.2.2)
    else
     Bj d t ((j,(vl (c9 (vl (c9 (b,c,a) 8)).2 24)).2.1,(vl (c9 (vl (c9 (b,c,a) 8)).2 24)).2.2.1,(vl (c9 (vl (c9 (b,c,a) 8)).2 24)).2.2.2))
  else
   gd (True)<|gd (True)<|if(false&&false) then
    gd (True)<|gd (True) <|
    if(true||false) then
     gd ((c9 (b,c,a) 200).isSome/\j0 ((vl (c9 (b,c,a) 200)).1-50)/\(c9 (vl (c9 (b,c,a) 200)).2 30).isSome/\True)<|lt ((vl (c9 (b,c,a) 200),vl (c9 (vl (c9 (b,c,a) 200)).2 30))) fun(m,h) =>
     gd (j0 (2*i)/\j0 (2*i+d)/\(c9 h.2 40).isSome/\j0 (m.1-50+(vl (c9 h.2 40)).1)/\(c9 (vl (c9 h.2 40)).2 12).isSome/\j0 (h.1+(vl (c9 (vl (c9 h.2 40)).2 12)).1)/\(j.length+[(2*i+d,(m.1-50,m.1-50+(vl (c9 h.2 40)).1),h.1,h.1+(vl (c9 (vl (c9 h.2 40)).2 12)).1)].length<=9223372036854775807/\(j.length+[(2*i+d,(m.1-50,m.1-50+(vl (c9 h.2 40)).1),h.1,h.1+(vl (c9 (vl (c9 h.2 40)).2 12)).1)].length)*40<=140737488355328)/\True)<|lt ((vl (c9 h.2 40),vl (c9 (vl (c9 h.2 40)).2 12),j++[(2*i+d,(m.1-50,m.1-50+(vl (c9 h.2 40)).1),h.1,h.1+(vl (c9 (vl (c9 h.2 40)).2 12)).1)],[(2*i+d,(m.1-50,m.1-50+(vl (c9 h.2 40)).1),h.1,h.1+(vl (c9 (vl (c9 h.2 40)).2 12)).1)])) fun(_,r,u,_) =>
     Bj d t (u,r.2.1,r.2.2.1,r.2.2.2)
    else
     Bj d t (j,b,c,a)
   else
    gd ((c9 (b,c,a) 24).isSome/\True)<|gd (True) <|
    if(false||(vl (c9 (b,c,a) 24)).1==0) then
     gd ((c9 (vl (c9 (b,c,a) 24)).2 200).isSome/\j0 ((vl (c9 (vl (c9 (b,c,a) 24)).2 200)).1-50)/\(c9 (vl (c9 (vl (c9 (b,c,a) 24)).2 200)).2 30).isSome/\True)<|lt ((vl (c9 (vl (c9 (b,c,a) 24)).2 200),vl (c9 (vl (c9 (vl (c9 (b,c,a) 24)).2 200)).2 30),vl (c9 (b,c,a) 24))) fun(n,f,_) =>
     gd (j0 (2*i)/\j0 (2*i+d)/\(c9 f.2 40).isSome/\j0 (n.1-50+(vl (c9 f.2 40)).1)/\(c9 (vl (c9 f.2 40)).2 12).isSome/\j0 (f.1+(vl (c9 (vl (c9 f.2 40)).2 12)).1)/\(j.length+[(2*i+d,(n.1-50,n.1-50+(vl (c9 f.2 40)).1),f.1,f.1+(vl (c9 (vl (c9 f.2 40)).2 12)).1)].length<=9223372036854775807/\(j.length+[(2*i+d,(n.1-50,n.1-50+(vl (c9 f.2 40)).1),f.1,f.1+(vl (c9 (vl (c9 f.2 40)).2 12)).1)].length)*40<=140737488355328)/\True)<|lt ((vl (c9 f.2 40),vl (c9 (vl (c9 f.2 40)).2 12),j++[(2*i+d,(n.1-50,n.1-50+(vl (c9 f.2 40)).1),f.1,f.1+(vl (c9 (vl (c9 f.2 40)).2 12)).1)],[(2*i+d,(n.1-50,n.1-50+(vl (c9 f.2 40)).1),f.1,f.1+(vl (c9 (vl (c9 f.2 40)).2 12)).1)])) fun(_,o,x,_) =>
     Bj d t (x,o.2.1,o.2.2.1,o.2.2.2)
    else
     Bj d t ((j,(vl (c9 (b,c,a) 24)).2.1,(vl (c9 (b,c,a) 24)).2.2.1,(vl (c9 (b,c,a) 24)).2.2.2))
 else
  Vb i z (j,b,c,a)
def G0p(b:List D3)(g:Int×List m6×List Int×Int×Int->Option (List m6×l6)):Int×List m6×List Int×Int×Int->Option (List m6×l6)
 | (a,e,d,f,c) =>
 if(decide (a < (b.length:Int))) then
  gd (ix a b.length/\a.toNat<b.length/\(decide ((b.getD a.toNat (a6 u0)).1<0)=true/\True->ix a b.length)/\(decide ((b.getD a.toNat (a6 u0)).1<0)=true/\True->a.toNat<b.length)/\True) <|
  lp (G0o a b g) (0,e,d,f,c)
 else
  Qc (e,d,f,c)
def u64(a:l6)(b:j9):Option (List m6×l6) :=
 gd ((R5 b).isSome/\True) <|
 if(!vl (R5 b)) then
  some ([],a)
 else
  gd ((J3 b.2.1).isSome/\True)<|lt (vl (J3 b.2.1)) fun c =>
  lp (G0p c) (0,[],a.1,a.2.1,a.2.2)
def k64:Ct:=k6 64 [.io 122 m8,.agg l9] (fun x=>u64 x.1 x.2.1) (fun r:List m6×l6=>AV.ow 53 true y53 r.1) (fun r=>r.2)
theorem o64:Ok prog k64:=by
 refine l5 [.tmp 4] func64 ?_;intro y ⟨a0,_,_⟩ r H Q hn hr;have:=hz (tc F6 (tc Ag (tc Ix tn)));refine iA [0,3]<|iA [0,3,5]<|vQ<|iB [0,3,5,16] H fun H=>cD H (fun H=>iA [4]<|j5<|fR<|hr H) fun H=>vK<|fQ<|iD Ag [0,5,6] H fun c H=>jN r (fun((aS,aF,w,aP):List m6×List Int×Int×Int)=>Z [p 0 (R 500000),p 5 (O 13)] [(13,A 53 y53 aS 0),(500000,bx 122 (A8 aF w aP))]) (Qc) (fun⟨aS,aF,w,aP⟩ H=>?_) (fun _ n0 e0 t0=>?_)
 ·refine jN r (fun((q,E,aA,aT):List m6×List Int×Int×Int)=>Z [p 5 (O 13)] [(13,A 53 y53 q 0),(500000,bx 122 (A8 E aA aT))]) (Fw) (fun⟨q,E,aA,aT⟩ H=>?_) (fun _ n5 e5 t5=>?_)
  ·refine iA [4]<|j5<|hr H
  refine iA [0,5,82]<|cD H (fun H=>?_) (fun H=>?_)
  ·refine iD F6 [0,5,12] H fun _ H=>iD F6 [5,12,88] H fun i H=>vB<|iA [5,12,88,89]<|cD H (fun H=>zD (fun u=>Z [p 5 (O 13)] [(13,A 53 y53 u 0),(500000,K 122 m8 i.2)]) H fun u H=>fK<|n5 H) fun H=>iA [5,12,88,99]<|cD H (fun H=>zD (fun aJ=>Z [p 5 (O 13)] [(13,A 53 y53 aJ 0),(500000,K 122 m8 i.2)]) H fun aJ H=>fK<|n5 H) fun H=>iA [5,12,88,113]<|cD H (fun H=>zD (fun G=>Z [p 5 (O 13)] [(13,A 53 y53 G 0),(500000,K 122 m8 i.2)]) H fun G H=>fK<|n5 H) fun H=>iA [5,12,120]<|cD H (fun H=>zD (fun aO=>Z [p 5 (O 13)] [(13,A 53 y53 aO 0),(500000,K 122 m8 i.2)]) H fun aO H=>fK<|n5 H) fun H=>vK<|fK<|n5 H
  exact vK<|n5 H
 refine iA [0,5,6,7]<|vB<|lX (fun((a,aX,aZ,aW,aY):Int×List m6×List Int×Int×Int)=>Z (Fb a []) [(20,A 190 u0 c 0),(13,A 53 y53 aX 0),(500000,bx 122 (A8 aZ aW aY))]) (0,[],a0.1,a0.2.1,a0.2.2) H fun _ g1 b1 e1 t1 ⟨a,aX,aZ,aW,aY⟩ H=>vQ<|iA [0,5,6,7,24]<|cD H (fun H=>?_) (fun H=>?_)
 ·refine vK<|fQ<|jN r (fun((x,t,aG,aK):List m6×List Int×Int×Int)=>Z (Fb a []) [(20,A 190 u0 c 0),(13,A 53 y53 x 0),(500000,bx 122 (A8 t aG aK))]) (Vb a g1) (fun⟨x,t,aG,aK⟩ H=>?_) (fun _ n2 e2 t2=>?_)
  ·refine jB [0,5,6,7] H fun H=>b1 H
  refine vB<|iB [0,5,6,7,8] H fun H=>iA [0,5,6,7,8,9]<|vB<|lX (fun((b,d,aU,F,X):Int×List m6×List Int×Int×Int)=>Z (Fb a [p 8 (B (decide ((c.getD a.toNat (a6 u0)).1<0)&&(c.getD a.toNat (a6 u0)).2.2.2)),p 9 (I b)]) [(20,A 190 u0 c 0),(13,A 53 y53 d 0),(500000,bx 122 (A8 aU F X))]) (0,aX,aZ,aW,aY) H fun _ g3 b3 e3 t3 ⟨b,d,aU,F,X⟩ H=>vQ<|iA [0,5,6,7,8,9,41]<|cD H (fun H=>?_) (fun H=>?_)
  ·refine vK<|fQ<|jN r (fun((V,aI,aN,Y):List m6×List Int×Int×Int)=>Z (Fb a [p 8 (B (decide ((c.getD a.toNat (a6 u0)).1<0)&&(c.getD a.toNat (a6 u0)).2.2.2)),p 9 (I b)]) [(13,A 53 y53 V 0),(500000,bx 122 (A8 aI aN Y)),(20,A 190 u0 c 0)]) (Bj b g3) (fun⟨V,aI,aN,Y⟩ H=>?_) (fun _ P e4 t4=>?_)
   ·refine jB [0,5,6,7,8,9] H fun H=>b3 H
   refine vB<|vQ<|Vc<|Qd 2 3 [(46,AV.ptr 500000 0),(47,I 0),(48,B false)] H (fun H=>K3 H fun H=>?_) (fun H=>K3 H fun H=>?_)
   ·refine Qd 7 3 [(51,AV.ptr 500000 0),(52,I 0),(53,B false)] H (fun H=>K3 H fun H=>?_) (fun H=>K3 H fun H=>?_)
    ·refine IX [0,5,6,7,8,9,46,47,48,51,52,53,54] H fun H=>fQ<|cD H (fun H=>?_) (fun H=>?_)
     ·refine qD (fun(aQ,m,h)=>Z (Fb a [p 8 (B (decide ((c.getD a.toNat (a6 u0)).1<0)&&(c.getD a.toNat (a6 u0)).2.2.2)),p 9 (I b),p 10 (I (aQ.1-50)),p 11 (I m.1),p 46 (R 500000),p 47 (I h.1),p 48 (B (decide (0<h.1)))]) [(500000,K 122 m8 m.2),(20,A 190 u0 c 0),(13,A 53 y53 d 0)]) H fun⟨aQ,m,h⟩ H =>
       zD (fun(bC,aC,aR,aD)=>Z (OB a (decide ((c.getD a.toNat (a6 u0)).1<0)&&(c.getD a.toNat (a6 u0)).2.2.2) b [p 46 (R 500000),p 47 (I h.1),p 48 (B (decide (0<h.1)))]) (OC aR aD aC.2 c)) H fun⟨bC,aC,aR,aD⟩ H =>
       fK<|P H
     exact vK<|fK<|P H
    refine IX [0,5,6,7,8,9,46,47,48,51,52,53,54] H fun H=>fQ<|cD H (fun H=>?_) (fun H=>?_)
    ·refine qD (fun(o,k,g,f)=>Z (Fb a [p 8 (B (decide ((c.getD a.toNat (a6 u0)).1<0)&&(c.getD a.toNat (a6 u0)).2.2.2)),p 9 (I b),p 10 (I (o.1-50)),p 11 (I k.1),p 46 (R 500000),p 47 (I g.1),p 48 (B (decide (0<g.1))),p 51 (R 500000),p 52 (I f.1),p 53 (B (f.1==0))]) [(500000,K 122 m8 k.2),(20,A 190 u0 c 0),(13,A 53 y53 d 0)]) H fun⟨o,k,g,f⟩ H =>
      zD (fun(bA,s,aH,z)=>Z (OB a (decide ((c.getD a.toNat (a6 u0)).1<0)&&(c.getD a.toNat (a6 u0)).2.2.2) b [p 46 (R 500000),p 47 (I g.1),p 48 (B (decide (0<g.1))),p 51 (R 500000),p 52 (I f.1),p 53 (B (f.1==0))]) (OC aH z s.2 c)) H fun⟨bA,s,aH,z⟩ H =>
      fK<|P H
    exact vK<|fK<|P H
   refine Qd 7 3 [(51,AV.ptr 500000 0),(52,I 0),(53,B false)] H (fun H=>K3 H fun H=>?_) (fun H=>K3 H fun H=>?_)
   ·refine IX [0,5,6,7,8,9,46,47,48,51,52,53,54] H fun H=>fQ<|cD H (fun H=>?_) (fun H=>?_)
    ·refine qD (fun(aL,j)=>Z (Fb a [p 8 (B (decide ((c.getD a.toNat (a6 u0)).1<0)&&(c.getD a.toNat (a6 u0)).2.2.2)),p 9 (I b),p 10 (I (aL.1-50)),p 11 (I j.1)]) [(500000,K 122 m8 j.2),(20,A 190 u0 c 0),(13,A 53 y53 d 0)]) H fun⟨aL,j⟩ H =>
      zD (fun(bB,aV,n,aB)=>Z (OB a (decide ((c.getD a.toNat (a6 u0)).1<0)&&(c.getD a.toNat (a6 u0)).2.2.2) b []) (OC n aB aV.2 c)) H fun⟨bB,aV,n,aB⟩ H =>
      fK<|P H
    exact vK<|fK<|P H
   refine IX [0,5,6,7,8,9,46,47,48,51,52,53,54] H fun H=>fQ<|cD H (fun H=>?_) (fun H=>?_)
   ·refine qD (fun(aM,l,e)=>Z (Fb a [p 8 (B (decide ((c.getD a.toNat (a6 u0)).1<0)&&(c.getD a.toNat (a6 u0)).2.2.2)),p 9 (I b),p 10 (I (aM.1-50)),p 11 (I l.1),p 51 (R 500000),p 52 (I e.1),p 53 (B (e.1==0))]) [(500000,K 122 m8 l.2),(20,A 190 u0 c 0),(13,A 53 y53 d 0)]) H fun⟨aM,l,e⟩ H =>
     zD (fun(bD,T,v,W)=>Z (OB a (decide ((c.getD a.toNat (a6 u0)).1<0)&&(c.getD a.toNat (a6 u0)).2.2.2) b [p 51 (R 500000),p 52 (I e.1),p 53 (B (e.1==0))]) (OC v W T.2 c)) H fun⟨bD,T,v,W⟩ H =>
     fK<|P H
   exact vK<|fK<|P H
  exact vE<|fE<|e3<|fX rfl<|fK<|n2 H
 exact vE<|fE<|e1<|fX rfl<|n0 H
abbrev sd(s:l6):Prop:=0<=s.2.1/\0<=s.2.2/\s.2.2<2147483647
abbrev Qe(x:s9 [.io 122 m8,.dat i64,.dat .bool]):Prop:=sd x.1/\2<=x.2.1/\x.2.1<=6
abbrev Qf(r:r9×l6):Prop:=sd r.2/\(r.1.1.length<=6/\∀i∈r.1.1,i.2.2.length<=4)/\(1<=r.1.2.1.length/\r.1.2.1.length<=20)/\(1<=r.1.2.2.length/\r.1.2.2.length<=5)/\Xd.cnt y31 r.1<=2000
abbrev Mt(x:s9 [.io 122 m8,.dat i64]):Prop:=sd x.1/\0<=x.2.1/\x.2.1<=40
abbrev Qg(r:z6×l6):Prop:=sd r.2/\1<=r.1.1.length/\1<=r.1.2.1.length/\1<=r.1.2.2.1.length/\Xd.cnt l7 r.1<=60
abbrev Fx(x:s9 [.io 122 m8,.dat i64,.dat .bool]):Prop:=sd x.1/\2<=x.2.1/\x.2.1<=6
abbrev GX(r:j9×l6):Prop:=sd r.2/\1<=r.1.2.2.length/\(∀w∈r.1.2.2,1<=w.1.length/\1<=w.2.1.length/\1<=w.2.2.1.length)/\1<=r.1.2.1.2.2.length/\Xd.cnt l9 r.1<=10000
abbrev Qh(r:j9×l6):Prop:=sd r.2/\Xd.cnt l9 r.1<=20000
abbrev IY(r:j9×l6):Prop:=sd r.2/\Xd.cnt l9 r.1<=20000
abbrev N0j(c:p8):Prop:=(-10000<=c.2.1/\c.2.1<=10000)/\(-10000<=c.2.2.1/\c.2.2.1<=10000)/\(-10000<=c.2.2.2.1/\c.2.2.2.1<=10000)/\(-10000<=c.2.2.2.2/\c.2.2.2.2<=10000)
abbrev Qi(r:j9×p8×List Int×List m6×l6):Prop:=sd r.2.2.2.2/\Xd.cnt l9 r.1<=20000/\r.2.2.1.length<=20000/\r.2.2.2.1.length<=20000
abbrev T8(r:j9×p8×List Int×List m6):Prop:=Xd.cnt l9 r.1<=20000/\r.2.2.1.length<=20000/\r.2.2.2.length<=20000
def Vd(r:z6×l6):AV:=AV.agg [M i64 r.1.1,M i64 r.1.2.1,M i64 r.1.2.2.1,M i64 r.1.2.2.2]
def GY(r:z6×l6):B6 [.io 122 m8,.dat i64]:=r.2
def Ve:Prop:=kE prog 121 [.io 122 m8,.dat i64] Mt Qg Vd GY
def Vf[Alw](b:List Int)(e:List Int)(d:List Int):List Int×Int×Int×List Int->Option Unit
 | (c,a,f,g) =>
 gd (Qg (((b,e,d,g),c,a,f)))<|some ()
def B0u[Alw](e:List Int)(i:List Int)(h:List Int)(j:Int×List Int×Int×Int×List Int->Option Unit):Int×List Int×Int×Int×List Int->Option Unit
 | (a,f,g,d,b) =>
 if(decide (a < (b.length:Int))) then
  gd ((c9 (f,g,d) (e.length:Int)).isSome/\ix a b.length/\a.toNat<b.length/\True)<|lt (vl (c9 (f,g,d) (e.length:Int))) fun c =>
  gd (j0 (a+1)/\True) <|
  j (a+1,c.2.1,c.2.2.1,c.2.2.2,b.set a.toNat c.1)
 else
  Vf e i h (f,g,d,b)
def Vg[Alw](g:z6):List Int×Int×Int×List Int×List Int×List Int->Option Unit
 | (f,e,a,b,d,c) =>
 lp (B0u b d c) (0,f,e,a,g.2.2.2)
def B0v[Alw](n:z6)(o:Int×List Int×Int×Int×List Int×List Int×List Int->Option Unit):Int×List Int×Int×Int×List Int×List Int×List Int->Option Unit
 | (h,b,d,c,a,f,e) =>
 if(decide (0<h)) then
  gd ((L3 a).isSome/\(c9 (b,d,c) (a.length:Int)).isSome/\((vl (L3 a)).length+[(vl (c9 (b,d,c) (a.length:Int))).1].length<=9223372036854775807/\((vl (L3 a)).length+[(vl (c9 (b,d,c) (a.length:Int))).1].length)*8<=140737488355328)/\(L3 f).isSome/\(c9 (vl (c9 (b,d,c) (a.length:Int))).2 400).isSome/\((vl (L3 f)).length+[(vl (c9 (vl (c9 (b,d,c) (a.length:Int))).2 400)).1].length<=9223372036854775807/\((vl (L3 f)).length+[(vl (c9 (vl (c9 (b,d,c) (a.length:Int))).2 400)).1].length)*8<=140737488355328)/\(L3 e).isSome/\(c9 (vl (c9 (vl (c9 (b,d,c) (a.length:Int))).2 400)).2 8).isSome/\((vl (L3 e)).length+[(vl (c9 (vl (c9 (vl (c9 (b,d,c) (a.length:Int))).2 400)).2 8)).1].length<=9223372036854775807/\((vl (L3 e)).length+[(vl (c9 (vl (c9 (vl (c9 (b,d,c) (a.length:Int))).2 400)).2 8)).1].length)*8<=140737488355328)/\True)<|lt ((vl (L3 e),vl (c9 (vl (c9 (vl (c9 (b,d,c) (a.length:Int))).2 400)).2 8),vl (L3 f),vl (c9 (vl (c9 (b,d,c) (a.length:Int))).2 400),vl (L3 a),vl (c9 (b,d,c) (a.length:Int)))) fun(m,g,j,l,k,i) =>
  gd (j0 (h-1)/\True) <|
  o (h-1,g.2.1,g.2.2.1,g.2.2.2,k++[i.1],j++[l.1],m++[g.1])
 else
  Vg n (b,d,c,a,f,e)
def Qj[Alw](b:l6)(d:Int):Option Unit :=
 gd ((c9 b 6).isSome/\(Mn d (vl (c9 b 6)).1).isSome/\True)<|lt ((vl (Mn d (vl (c9 b 6)).1),vl (c9 b 6))) fun(a,e) =>
 gd ((c9 e.2 4).isSome/\True)<|lt (vl (c9 e.2 4)) fun c =>
 lp (B0v a) (c.1,c.2.1,c.2.2.1,c.2.2.2,a.1,a.2.1,a.2.2.1)
theorem R0A[Alw](hF:∀x,Xv.wfs [.io 122 m8,.dat i64] x->Mt x->Qj x.1 x.2.1=some ()):Ve:=by
 refine GZ (f:=121) (ps:=[.io 122 m8,.dat i64]) (pre:=Mt) (post:=Qg) (R:=Vd) (Z:=GY) (F:=fun x=>Qj x.1 x.2.1) M1 [.cell 4 153] hF func121 ntmps121 rfl results121 (by kernel_rfl) rfl ?_;intro y ⟨_,_,_⟩ r H hB Q hn hr;have:=hz (tc F6 (tc OF (tc O0M tn)));refine iA [0,1,4]<|qD (fun(b,v1)=>Z (BF []) [(5,bx 153 [AV.os 12 0,AV.os 1012 0,AV.os 2012 0,AV.os 3012 0]),(3012,A 2 i64 b.2.2.2 0),(2012,A 2 i64 b.2.2.1 0),(1012,A 2 i64 b.2.1 0),(12,A 2 i64 b.1 0),(500000,K 122 m8 v1.2),(4,bx 153 [nil,nil,nil,nil])]) H fun w H=>?_
 obtain⟨b,v1⟩:=w;refine jN r (fun((u,G,E,h,g,e):List Int×Int×Int×List Int×List Int×List Int)=>Z (BF []) ((500000,bx 122 (A8 u G E))::(5,bx 153 [M i64 h,M i64 g,M i64 e,AV.os 3012 0])::W8 b.2.2.2)) (Vg b) (fun w H=>?_) (fun _ n0 e0 t0=>?_)
 ·obtain⟨u,G,E,h,g,e⟩:=w;refine jN r (fun((o,z,q,v):List Int×Int×Int×List Int)=>Z [p 4 (R 4),p 5 (R 5)] ((500000,bx 122 (A8 o z q))::(5,bx 153 [M i64 h,M i64 g,M i64 e,AV.os 3012 0])::W8 v)) (Vf h g e) (fun⟨o,z,q,v⟩ H=>?_) (fun _ n2 e2 t2=>?_)
  ·refine iA [4]<|j5<|hr (((h,g,e,v),o,z,q)) (L7 H).1 (by kernel_rfl)
  refine iA [0,4,5,8]<|vB<|lX (fun((n,W,V,P,s):Int×List Int×Int×Int×List Int)=>Z (BF [p 8 (I n)]) ((500000,bx 122 (A8 W V P))::(5,bx 153 [M i64 h,M i64 g,M i64 e,AV.os 3012 0])::W8 s)) (0,u,G,E,b.2.2.2) H fun _ g3 b3 e3 t3 ⟨n,W,V,P,s⟩ H=>vQ<|iA [0,4,5,8,51]<|cD H (fun H=>vK<|fQ<|vQ<|vB<|zD (fun t=>Z (BF [p 8 (I n)]) [(3012,A 2 i64 (s.set n.toNat t.1) 0),(500000,K 122 m8 t.2),(5,bx 153 [M i64 h,M i64 g,M i64 e,AV.os 3012 0]),(4,bx 153 [nil,nil,nil,nil])]) H fun t H=>fK<|fQ<|jB [0,4,5,8] H fun H=>b3 H) fun H=>vE<|fE<|e3<|fX rfl<|n2 H
 refine qD (fun m=>Z (BF [p 6 (I m.1)]) [(500000,K 122 m8 m.2),(5,bx 153 [AV.os 12 0,AV.os 1012 0,AV.os 2012 0,AV.os 3012 0]),(3012,A 2 i64 b.2.2.2 0),(2012,A 2 i64 b.2.2.1 0),(1012,A 2 i64 b.2.1 0),(12,A 2 i64 b.1 0),(4,bx 153 [nil,nil,nil,nil])]) H fun m H=>vB<|fZs [12,1012,2012] (Z (BF [p 6 (I m.1)]) ((500000,K 122 m8 m.2)::(5,bx 153 [M i64 b.1,M i64 b.2.1,M i64 b.2.2.1,AV.os 3012 0])::W8 b.2.2.2))<|lX (fun((i,T,aB,aC,Y,aA,X):Int×List Int×Int×Int×List Int×List Int×List Int)=>Z (BF [p 6 (I i)]) ((500000,bx 122 (A8 T aB aC))::(5,bx 153 [M i64 Y,M i64 aA,M i64 X,AV.os 3012 0])::W8 b.2.2.2)) (m.1,m.2.1,m.2.2.1,m.2.2.2,b.1,b.2.1,b.2.2.1) H fun _ g1 b1 e1 t1 ⟨i,T,aB,aC,Y,aA,X⟩ H=>vQ<|iA [0,4,5,6,16]<|cD H (fun H=>?_) (fun H=>?_)
 ·refine vK<|fQ<|vQ<|vB<|iA [0,4,5,6,7]<|zD (fun(k,a,l,d,j,c)=>Z (BF [p 6 (I i)]) ((5,bx 153 [AV.os 24 1,AV.os 32 1,AV.os 39 1,AV.os 3012 0])::(39,A 2 i64 (k++[a.1]) 1)::(42,A 2 i64 [a.1] 0)::(500000,K 122 m8 a.2)::(32,A 2 i64 (l++[d.1]) 1)::(35,A 2 i64 [d.1] 0)::(24,A 2 i64 (j++[c.1]) 1)::(28,A 2 i64 [c.1] 0)::W8 b.2.2.2)) H fun⟨k,a,l,d,j,c⟩ H =>
   fK<|fQ <|
   jB [0,4,5,6] H fun H =>
   CD 24 (Z (BF [p 6 (I (i-1))]) ((5,bx 153 [M i64 (j++[c.1]),AV.os 32 1,AV.os 39 1,AV.os 3012 0])::(39,A 2 i64 (k++[a.1]) 1)::(42,A 2 i64 [a.1] 0)::(500000,K 122 m8 a.2)::(32,A 2 i64 (l++[d.1]) 1)::(35,A 2 i64 [d.1] 0)::(28,A 2 i64 [c.1] 0)::W8 b.2.2.2)) (by kernel_rfl) rfl<|CD 32 (Z (BF [p 6 (I (i-1))]) ((5,bx 153 [M i64 (j++[c.1]),M i64 (l++[d.1]),AV.os 39 1,AV.os 3012 0])::(39,A 2 i64 (k++[a.1]) 1)::(42,A 2 i64 [a.1] 0)::(500000,K 122 m8 a.2)::(35,A 2 i64 [d.1] 0)::(28,A 2 i64 [c.1] 0)::W8 b.2.2.2)) (by kernel_rfl) rfl<|CD 39 (Z (BF [p 6 (I (i-1))]) ((5,bx 153 [M i64 (j++[c.1]),M i64 (l++[d.1]),M i64 (k++[a.1]),AV.os 3012 0])::(42,A 2 i64 [a.1] 0)::(500000,K 122 m8 a.2)::(35,A 2 i64 [d.1] 0)::(28,A 2 i64 [c.1] 0)::W8 b.2.2.2)) (by kernel_rfl) rfl<|b1 H
 exact vE<|fE<|e1<|fX rfl<|n0 H
def Vh(r:r9×l6):AV:=AV.agg (Td r.1.1 r.1.2.1 r.1.2.2)
def Du(r:r9×l6):B6 [.io 122 m8,.dat i64,.dat .bool]:=r.2
def Vi:Prop:=kE prog 120 [.io 122 m8,.dat i64,.dat .bool] Qe Qf Vh Du
def Mu[Alw](c:List o3)(f:List ByteArray):List u3×List Int×Int×Int->Option Unit
 | (b,e,a,d) =>
 gd (Qf (((c,f,b),e,a,d)))<|some ()
def Qk[Alw](b:List ByteArray)(i:List u3):List Int×Int×Int×List o3×List o3×List o3×List ByteArray×List u3->Option Unit
 | (g,e,h,f,_,_,_,_) =>
 gd ((0+i.length<=9223372036854775807/\(0+i.length)*32<=140737488355328)/\True) <|
 gd (j0 ((b.length:Int)-(1:Int))/\(([]++i).length+[(ByteArray.mk #[(121:UInt8)],(2:Int),(b.length:Int)-(1:Int))].length<=9223372036854775807/\(([]++i).length+[(ByteArray.mk #[(121:UInt8)],(2:Int),(b.length:Int)-(1:Int))].length)*32<=140737488355328)/\True)<|lt (([]++i++[(ByteArray.mk #[(121:UInt8)],(2:Int),(b.length:Int)-(1:Int))],[(ByteArray.mk #[(121:UInt8)],(2:Int),(b.length:Int)-(1:Int))])) fun(c,_) =>
 gd ((c9 (g,e,h) 2).isSome/\True)<|lt (vl (c9 (g,e,h) 2)) fun a =>
 if(a.1==0) then
  gd (j0 ((b.length:Int)-(1:Int))/\(c9 a.2 ((b.length:Int)-(1:Int))).isSome/\j0 ((1:Int)+(vl (c9 a.2 ((b.length:Int)-(1:Int)))).1)/\(c.length+[(ByteArray.mk #[(122:UInt8)],(2:Int),(1:Int)+(vl (c9 a.2 ((b.length:Int)-(1:Int)))).1)].length<=9223372036854775807/\(c.length+[(ByteArray.mk #[(122:UInt8)],(2:Int),(1:Int)+(vl (c9 a.2 ((b.length:Int)-(1:Int)))).1)].length)*32<=140737488355328)/\True)<|lt ((vl (c9 a.2 ((b.length:Int)-1)),c++[(ByteArray.mk #[(122:UInt8)],(2:Int),(1:Int)+(vl (c9 a.2 ((b.length:Int)-(1:Int)))).1)],[(ByteArray.mk #[(122:UInt8)],(2:Int),(1:Int)+(vl (c9 a.2 ((b.length:Int)-(1:Int)))).1)])) fun(d,j,_) =>
  Mu f b (j,d.2.1,d.2.2.1,d.2.2.2)
 else
  Mu f b (c,a.2.1,a.2.2.1,a.2.2.2)
def Mv[Alw](a:Int)(j:Int×List Int×Int×Int×List o3×List o3×List o3×List ByteArray×List u3->Option Unit):List Int×Int×Int×List o3×List o3×List o3×List ByteArray×List u3->Option Unit
 | (f,h,g,c,e,b,d,i) =>
 gd (j0 (a+1)/\True) <|
 j (a+1,f,h,g,c,e,b,d,i)
def B0w[Alw](g:List ByteArray)(x:Bool)(w:List u3)(v:Int×List Int×Int×Int×List o3×List o3×List o3×List ByteArray×List u3->Option Unit):Int×List Int×Int×Int×List o3×List o3×List o3×List ByteArray×List u3->Option Unit
 | (b,e,d,f,a,k,h,i,l) =>
 if(decide (b < (a.length:Int))) then
  gd ((c9 (e,d,f) 4).isSome/\(((vl (c9 (e,d,f) 4)).1==0)=true/\True->ix b a.length)/\(((vl (c9 (e,d,f) 4)).1==0)=true/\True->b.toNat<a.length)/\(((a.getD b.toNat (a6 y139)).2.1==5)=false/\((vl (c9 (e,d,f) 4)).1==0)=true/\True->ix b a.length)/\(((a.getD b.toNat (a6 y139)).2.1==5)=false/\((vl (c9 (e,d,f) 4)).1==0)=true/\True->b.toNat<a.length)/\True)<|lt (vl (c9 (e,d,f) 4)) fun c =>
  if(c.1==0&&((a.getD b.toNat (a6 y139)).2.1==5||(a.getD b.toNat (a6 y139)).2.1==6||x)) then
   gd (ix b a.length/\b.toNat<a.length/\j0 ((g.length:Int)-1)/\(c9 c.2 ((g.length:Int)-1)).isSome/\j0 (1+(vl (c9 c.2 ((g.length:Int)-1))).1)/\ix 0 (a.getD b.toNat (a6 y139)).2.2.length/\True)<|Alw.alp (fun((u,s,j,t,r,m,o,n,q):Int×List Int×List Int×List Int×List o3×List o3×List o3×List ByteArray×List u3)=>(x7 i64.pt ((a.getD b.toNat (a6 y139)).2.2.getD (Int.toNat (0:Int)) (0:Int)) u/\(wf i64.pt ((a.getD b.toNat (a6 y139)).2.2.getD (Int.toNat (0:Int)) (0:Int))->wf i64.pt u))/\(x7 i64.sl (a.getD b.toNat (a6 y139)).2.2 s/\(wf i64.sl (a.getD b.toNat (a6 y139)).2.2->wf i64.sl s))/\(x7 b8.sl (vl (c9 c.2 ((g.length:Int)-1))).2.1 j/\(wf b8.sl (vl (c9 c.2 ((g.length:Int)-1))).2.1->wf b8.sl j))/\(x7 b8.sl c.2.1 t/\(wf b8.sl c.2.1->wf b8.sl t))/\(AllS (x7 y139) a r)/\(x7 y139.sl k m/\(wf y139.sl k->wf y139.sl m))/\(x7 y139.sl h o/\(wf y139.sl h->wf y139.sl o))/\(x7 Ty.str.sl i n/\(wf Ty.str.sl i->wf Ty.str.sl n))/\(x7 y202.sl l q/\(wf y202.sl l->wf y202.sl q))) fun((_,_,j,_,r,m,o,n,q):Int×List Int×List Int×List Int×List o3×List o3×List o3×List ByteArray×List u3) =>
   gd (True) <|
   Mv b v ((j,(vl (c9 c.2 ((g.length:Int)-1))).2.2.1,(vl (c9 c.2 ((g.length:Int)-1))).2.2.2,r,m,o,n,q))
  else
   Mv b v (c.2.1,c.2.2.1,c.2.2.2,a,k,h,i,l)
 else
  Qk g w (e,d,f,a,k,h,i,l)
def Ql[Alw](k:Bool)(j:List u3):List Int×Int×Int×List ByteArray×List o3×List o3×List o3×List ByteArray×List u3->Option Unit
 | (h,i,g,e,f,d,c,a,b) =>
 lp (B0w e k j) (0,h,i,g,f,d,c,a,b)
def Vj[Alw](a:Int)(b:List o3)(i:List o3)(g:List ByteArray)(d:List u3)(k:Int×List Int×Int×Int×List ByteArray×List o3×List o3×List o3×List ByteArray×List u3->Option Unit):List o3×List ByteArray×List Int×Int×Int->Option Unit
 | (j,c,f,e,h) =>
 gd (j0 (a-1)/\True) <|
 k (a-1,f,e,h,c,j,b,i,g,d)
def Vk[Alw](j:Int)(f:List o3)(m:List o3)(k:List ByteArray)(i:List u3)(a:List ByteArray)(e:List o3)(d:ByteArray)(c:Int)(q:Int×List Int×Int×Int×List ByteArray×List o3×List o3×List o3×List ByteArray×List u3->Option Unit):List Int×List Int×Int×Int->Option Unit
 | (b,l,g,n) =>
 gd ((0+b.length<=9223372036854775807/\(0+b.length)*8<=140737488355328)/\(([]++b).length+[(a.length:Int)].length<=9223372036854775807/\(([]++b).length+[(a.length:Int)].length)*8<=140737488355328)/\True) <|
 gd ((CC (a.length:Int)).isSome/\(ByteArray.mk #[110]).size+(vl (CC (a.length:Int))).size<=9223372036854775807/\(a.length+[ByteArray.mk #[110]++vl (CC (a.length:Int))].length<=9223372036854775807/\(a.length+[ByteArray.mk #[110]++vl (CC (a.length:Int))].length)*16<=140737488355328)/\True)<|lt (vl (CC (a.length:Int))) fun h =>
 gd ((e.length+[(ByteArray.mk #[117]++d,c,[]++b++[(a.length:Int)])].length<=9223372036854775807/\(e.length+[(ByteArray.mk #[117]++d,c,[]++b++[(a.length:Int)])].length)*48<=140737488355328)/\True)<|lt ((e++[(ByteArray.mk #[117]++d,c,[]++b++[(a.length:Int)])],[(ByteArray.mk #[117]++d,c,[]++b++[(a.length:Int)])])) fun(o,_) =>
 Vj j f m k i q (o,a++[ByteArray.mk #[110]++h],l,g,n)
def Mw[Alw](c:Int)(a:List Int)(d:List Int)(f:Int)(e:Int)(g:Int×List Int×List Int×Int×Int->Option Unit):Int->Option Unit
 | b =>
 gd ((0+a.length<=9223372036854775807/\(0+a.length)*8<=140737488355328)/\(([]++a).length+[b].length<=9223372036854775807/\(([]++a).length+[b].length)*8<=140737488355328)/\True) <|
 gd (j0 (c+1)/\True) <|
 g (c+1,[]++a++[b],d,f,e)
def Mx[Alw](a:Int)(c:List Int)(f:Int)(h:Int×List Int×List Int×Int×Int->Option Unit):List Int×Int×Int×Int->Option Unit
 | (b,e,d,g) =>
 if(decide (5<=f)&&a==1) then
  Mw a c b e d h 0
 else
  Mw a c b e d h g
def B0x[Alw](b:Int)(a:List ByteArray)(l:Int)(j:List o3)(n:List o3)(m:List ByteArray)(k:List u3)(q:List o3)(o:ByteArray)(s:Int×List Int×Int×Int×List ByteArray×List o3×List o3×List o3×List ByteArray×List u3->Option Unit)(r:Int×List Int×List Int×Int×Int->Option Unit):Int×List Int×List Int×Int×Int->Option Unit
 | (g,h,e,d,f) =>
 gd (ix b [(2:Int),(2:Int),(3:Int),(3:Int),(4:Int),(3:Int),(3:Int),(3:Int)].length/\b.toNat<[(2:Int),(2:Int),(3:Int),(3:Int),(4:Int),(3:Int),(3:Int),(3:Int)].length/\j0 ([(2:Int),(2:Int),(3:Int),(3:Int),(4:Int),(3:Int),(3:Int),(3:Int)].getD b.toNat (0:Int)-(1:Int))/\True) <|
 if(decide (g<[(2:Int),(2:Int),(3:Int),(3:Int),(4:Int),(3:Int),(3:Int),(3:Int)].getD b.toNat (0:Int)-(1:Int))) then
  gd (j0 ((a.length:Int)-1)/\(c9 (e,d,f) ((a.length:Int)-1)).isSome/\j0 (1+(vl (c9 (e,d,f) ((a.length:Int)-1))).1)/\True)<|lt (vl (c9 (e,d,f) ((a.length:Int)-1))) fun i =>
  gd ((c9 i.2 3).isSome/\True)<|lt (vl (c9 i.2 3)) fun c =>
  if(c.1==0) then
   gd (j0 ((a.length:Int)-1)/\True) <|
   Mx g h b r ((c.2.1,c.2.2.1,c.2.2.2,(a.length:Int)-1))
  else
   Mx g h b r (c.2.1,c.2.2.1,c.2.2.2,1+i.1)
 else
  Vk l j n m k a q o b s (h,e,d,f)
def B0y[Alw](q:Bool)(o:List u3)(n:Int×List Int×Int×Int×List ByteArray×List o3×List o3×List o3×List ByteArray×List u3->Option Unit):Int×List Int×Int×Int×List ByteArray×List o3×List o3×List o3×List ByteArray×List u3->Option Unit
 | (i,b,a,c,h,d,f,k,j,g) =>
 if(decide (0<i)) then
  gd ((c9 (b,a,c) 12).isSome/\ix (vl (c9 (b,a,c) 12)).1 [0,1,2,2,3,4,5,5,5,6,7,1].length/\(vl (c9 (b,a,c) 12)).1.toNat<[0,1,2,2,3,4,5,5,5,6,7,1].length/\True)<|lt ((vl (c9 (b,a,c) 12),[(0:Int),(1:Int),(2:Int),(2:Int),(3:Int),(4:Int),(5:Int),(5:Int),(5:Int),(6:Int),(7:Int),(1:Int)].getD (vl (c9 (b,a,c) (12:Int))).1.toNat (0:Int))) fun(e,l) =>
  gd ((CC (d.length:Int)).isSome/\(ByteArray.mk #[117]).size+(vl (CC (d.length:Int))).size<=9223372036854775807/\True)<|lt (vl (CC (d.length:Int))) fun m =>
  lp (B0x l h i f k j g d m n) (0,[],e.2.1,e.2.2.1,e.2.2.2)
 else
  Ql q o (b,a,c,h,d,f,k,j,g)
def Qm[Alw](d:l6)(a:Int)(f:Bool):Option Unit :=
 lt ([ByteArray.mk #[110,99,107],ByteArray.mk #[110,97],ByteArray.mk #[110,98]]) fun c =>
 lt ([(ByteArray.mk #[(99:UInt8),(107:UInt8)],(1:Int),(0:Int)),(ByteArray.mk #[(97:UInt8)],(1:Int),(1:Int)),(ByteArray.mk #[(98:UInt8)],(1:Int),(2:Int))]) fun e =>
 gd ((0+c.length<=9223372036854775807/\(0+c.length)*16<=140737488355328)/\True) <|
 gd (j0 (a-1)/\(c9 d (a-1)).isSome/\j0 (2+(vl (c9 d (a-1))).1)/\True)<|lt (vl (c9 d (a-1))) fun b =>
 lp (B0y f e) (2+b.1,b.2.1,b.2.2.1,b.2.2.2,[]++c,[],[],[],[],[])
theorem R0B[Alw](hF:∀x,Xv.wfs [.io 122 m8,.dat i64,.dat .bool] x->Qe x->Qm x.1 x.2.1 x.2.2.1=some ()):Vi:=by
 refine GZ (f:=120) (ps:=[.io 122 m8,.dat i64,.dat .bool]) (pre:=Qe) (post:=Qf) (R:=Vh) (Z:=Du) (F:=fun x=>Qm x.1 x.2.1 x.2.2.1) M1 [.cell 6 31] hF func120 ntmps120 rfl results120 (by kernel_rfl) rfl ?_;intro y ⟨a0,a1,s,_⟩ r H hB Q hn hr;have:=hz (tc F6 (tc Va tn));refine iA [0,1,2,6]<|qC (fun n=>Z [p 0 (R 500000),p 1 (J a1),p 2 (C s),p 6 (R 6),p 7 (R 7)] [(7,bx 31 [nil,AV.os 18 0,nil]),(18,A 9 Ty.str n 0),(6,bx 31 [nil,nil,nil]),(500000,K 122 m8 a0)]) H fun n H=>qC (fun o=>Z [p 0 (R 500000),p 1 (J a1),p 2 (C s),p 6 (R 6),p 7 (R 7)] [(7,bx 31 [nil,AV.os 18 0,AV.os 23 0]),(23,A 202 y202 o 0),(18,A 9 Ty.str n 0),(6,bx 31 [nil,nil,nil]),(500000,K 122 m8 a0)]) H fun o H=>iA [0,1,2,6,7,8]<|iA [0,1,2,6,7,8,9]<|iB [0,1,2,6,7,8,9,10] H fun H=>jN r (fun((bX,cA,cB,b,bY,aS,bB,aW,aR):List Int×Int×Int×List ByteArray×List o3×List o3×List o3×List ByteArray×List u3)=>Z (Dg s [p 9 (O 26),p 10 (O 27)]) ((500000,bx 122 (A8 bX cA cB))::(27,A 9 Ty.str b 0)::(26,A 139 y139 bY 0)::W0 aS o n bB aW aR)) (Ql s o) (fun w H=>?_) (fun _ n0 e0 t0=>?_)
 ·obtain⟨bX,cA,cB,b,bY,aS,bB,aW,aR⟩:=w;refine jN r (fun((aV,aX,bG,u,aF,aB,Y,W):List Int×Int×Int×List o3×List o3×List o3×List ByteArray×List u3)=>Z (Cq [p 7 (R 7),p 9 (O 26),p 10 (O 27)]) ((500000,bx 122 (A8 aV aX bG))::(27,A 9 Ty.str b 0)::(26,A 139 y139 u 0)::W0 aF o n aB Y W)) (Qk b o) (fun⟨aV,aX,bG,u,aF,aB,Y,W⟩ H=>?_) (fun _ n7 e7 t7=>?_)
  ·refine iB [0,6,9,10,17] H fun H=>qD (fun(aN,aJ)=>Z (Cq [p 9 (O 26),p 10 (O 27),p 17 (AV.os 146 2)]) ((146,A 202 y202 aN 2)::(155,A 202 y202 aJ 0)::(500000,bx 122 (A8 aV aX bG))::(27,A 9 Ty.str b 0)::(26,A 139 y139 u 0)::W0 aF o n aB Y W)) H fun⟨aN,aJ⟩ H =>
    jN r (fun((bD,aU,aQ,aO):List u3×List Int×Int×Int)=>Z [p 6 (R 6),p 9 (O 26),p 10 (O 27),p 17 (O 146)] [(146,A 202 y202 bD 0),(500000,bx 122 (A8 aU aQ aO)),(27,A 9 Ty.str b 0),(26,A 139 y139 u 0),(6,bx 31 (Td aB Y W))]) (Mu u b) (fun⟨bD,aU,aQ,aO⟩ H=>?_) (fun _ cR cU cV=>?_)
   ·refine iA [6]<|j5<|hr (((u,b,bD),aU,aQ,aO)) (L7 H).1 (by kernel_rfl)
   refine qD (fun aZ=>Z (Cq [p 9 (O 26),p 10 (O 27),p 17 (AV.os 146 2),p 159 (B (aZ.1==0))]) ((500000,K 122 m8 aZ.2)::(146,A 202 y202 aN 2)::(155,A 202 y202 aJ 0)::(27,A 9 Ty.str b 0)::(26,A 139 y139 u 0)::W0 aF o n aB Y W)) H fun aZ H=>cD H (fun H=>?_) (fun H=>?_)
   ·refine zD (fun(bV,bR,bM)=>Z [p 6 (R 6),p 9 (O 26),p 10 (O 27),p 17 (AV.os 146 3)] ((146,A 202 y202 bR 3)::(168,A 202 y202 bM 0)::(500000,K 122 m8 bV.2)::(155,A 202 y202 aJ 0)::(27,A 9 Ty.str b 0)::(26,A 139 y139 u 0)::W0 aF o n aB Y W)) H fun⟨bV,bR,bM⟩ H =>
     cR H
   exact vK<|cR H
  refine iA [0,2,6,7,9,10,16]<|vB<|lX (fun((a,bW,bO,bP,g,aL,aI,aH,aK):Int×List Int×Int×Int×List o3×List o3×List o3×List ByteArray×List u3)=>Z (Dg s [p 9 (O 26),p 10 (O 27),p 16 (I a)]) ((500000,bx 122 (A8 bW bO bP))::(27,A 9 Ty.str b 0)::(26,A 139 y139 g 0)::W0 aL o n aI aH aK)) (0,bX,cA,cB,bY,aS,bB,aW,aR) H fun _ g8 b8 e8 t8 ⟨a,bW,bO,bP,g,aL,aI,aH,aK⟩ H=>vQ<|iA [0,2,6,7,9,10,16,109]<|cD H (fun H=>?_) (fun H=>?_)
  ·refine vK<|fQ<|jN r (fun((bK,bQ,bU,bT,bJ,bS,bN,bL):List Int×Int×Int×List o3×List o3×List o3×List ByteArray×List u3)=>Z (Dg s [p 9 (O 26),p 10 (O 27),p 16 (I a)]) ((500000,bx 122 (A8 bK bQ bU))::(27,A 9 Ty.str b 0)::(26,A 139 y139 bT 0)::W0 bJ o n bS bN bL)) (Mv a g8) (fun⟨bK,bQ,bU,bT,bJ,bS,bN,bL⟩ H=>?_) (fun _ n9 e9 t9=>?_)
   ·refine jB [0,2,6,7,9,10,16] H fun H=>b8 H
   refine vB<|qD (fun c=>Z (Dg s [p 9 (O 26),p 10 (O 27),p 16 (I a),p 133 (B (c.1==0&&((g.getD a.toNat (a6 y139)).2.1==5||(g.getD a.toNat (a6 y139)).2.1==6||s)))]) ((500000,K 122 m8 c.2)::(27,A 9 Ty.str b 0)::(26,A 139 y139 g 0)::W0 aL o n aI aH aK)) H fun c H=>cD H (fun H=>?_) (fun H=>?_)
   ·refine Vl M1 (HT.h) hB 12 [0,2,6,7,9,10,16] (Z [p 145 (N i64.pt ((g.getD a.toNat (a6 y139)).2.2.getD (Int.toNat (0:Int)) (0:Int))),p 144 (I ((1:Int)+(vl (c9 c.2 ((b.length:Int)-(1:Int)))).1)),p 143 (I (vl (c9 c.2 ((b.length:Int)-(1:Int)))).1),p 142 (I ((b.length:Int)-(1:Int))),p 141 (I (b.length:Int)),p 140 (O 27),p 139 (R 500000),p 138 (M i64 (g.getD a.toNat (a6 y139)).2.2),p 137 (AV.pel 26 0 a.toNat 3 2),p 136 (AV.pel 26 0 a.toNat 3 0),p 135 (I a),p 134 (O 26),p 0 (R 500000),p 2 (C s),p 6 (R 6),p 7 (R 7),p 9 (O 26),p 10 (O 27),p 16 (I a),p 133 (B (c.1==(0:Int)&&((g.getD a.toNat (a6 y139)).2.1==(5:Int)||(g.getD a.toNat (a6 y139)).2.1==(6:Int)||s)))] ((500000,bx 122 (r5 false m8 (vl (c9 c.2 ((b.length:Int)-(1:Int)))).2))::(500000,K 122 m8 c.2)::(27,A 9 Ty.str b 0)::(26,A 139 y139 g 0)::W0 aL o n aI aH aK)) (fun((X,V,v,aA,E,P,G,z,T):Int×List Int×List Int×List Int×List o3×List o3×List o3×List ByteArray×List u3)=>Z [p 145 (N i64.pt X),p 144 (I (1+(vl (c9 c.2 ((b.length:Int)-1))).1)),p 143 (I (vl (c9 c.2 ((b.length:Int)-1))).1),p 142 (I ((b.length:Int)-1)),p 141 (I (b.length:Int)),p 140 (O 27),p 139 (R 500000),p 138 (M i64 V),p 137 (AV.pel 26 0 a.toNat 3 2),p 136 (AV.pel 26 0 a.toNat 3 0),p 135 (I a),p 134 (O 26),p 0 (R 500000),p 2 (C s),p 6 (R 6),p 7 (R 7),p 9 (O 26),p 10 (O 27),p 16 (I a),p 133 (B (c.1==0&&((g.getD a.toNat (a6 y139)).2.1==5||(g.getD a.toNat (a6 y139)).2.1==6||s)))] ((500000,bx 122 (A8 v (vl (c9 c.2 ((b.length:Int)-1))).2.2.1 (vl (c9 c.2 ((b.length:Int)-1))).2.2.2))::(500000,bx 122 (A8 aA c.2.2.1 c.2.2.2))::(27,A 9 Ty.str b 0)::(26,A 139 y139 E 0)::W0 P o n G z T)) (fun((X,V,v,aA,E,P,G,z,T):Int×List Int×List Int×List Int×List o3×List o3×List o3×List ByteArray×List u3)=>Z (Dg s [p 9 (O 26),p 10 (O 27),p 16 (I a)]) ((500000,bx 122 (A8 v (vl (c9 c.2 ((b.length:Int)-1))).2.2.1 (vl (c9 c.2 ((b.length:Int)-1))).2.2.2))::(27,A 9 Ty.str b 0)::(26,A 139 y139 E 0)::W0 P o n G z T)) (fun((X,V,v,aA,E,P,G,z,T):Int×List Int×List Int×List Int×List o3×List o3×List o3×List ByteArray×List u3)=>True) H (by kernel_rfl) (fun _ h=>by obtain⟨_,_,rfl,he,ho⟩:=h; obtain⟨_,_,rfl,⟨X,rfl,h1⟩,⟨_,_,rfl,rfl,⟨_,_,rfl,rfl,⟨_,_,rfl,rfl,⟨_,_,rfl,rfl,⟨_,_,rfl,rfl,⟨_,_,rfl,rfl,⟨_,_,rfl,⟨V,rfl,h2⟩,⟨_,_,rfl,rfl,⟨_,_,rfl,rfl,⟨_,_,rfl,rfl,⟨_,_,rfl,rfl,⟨_,_,rfl,rfl,⟨_,_,rfl,rfl,⟨_,_,rfl,rfl,⟨_,_,rfl,rfl,⟨_,_,rfl,rfl,⟨_,_,rfl,rfl,⟨_,_,rfl,rfl,⟨_,_,rfl,rfl,rfl⟩⟩⟩⟩⟩⟩⟩⟩⟩⟩⟩⟩⟩⟩⟩⟩⟩⟩⟩⟩:=he; obtain⟨_,_,rfl,⟨_,rfl,⟨_,_,rfl,⟨v,rfl,h3⟩,⟨_,_,rfl,rfl,⟨_,_,rfl,rfl,rfl⟩⟩⟩⟩,⟨_,_,rfl,⟨_,rfl,⟨_,_,rfl,⟨aA,rfl,h4⟩,⟨_,_,rfl,rfl,⟨_,_,rfl,rfl,rfl⟩⟩⟩⟩,⟨_,_,rfl,rfl,⟨_,_,rfl,⟨E,rfl,h5⟩,⟨_,_,rfl,⟨_,rfl,⟨_,_,rfl,⟨P,rfl,h6⟩,⟨_,_,rfl,rfl,⟨_,_,rfl,rfl,rfl⟩⟩⟩⟩,⟨_,_,rfl,rfl,⟨_,_,rfl,rfl,⟨_,_,rfl,⟨_,rfl,⟨_,_,rfl,⟨G,rfl,h7⟩,⟨_,_,rfl,⟨z,rfl,h8⟩,⟨_,_,rfl,⟨T,rfl,h9⟩,rfl⟩⟩⟩⟩,rfl⟩⟩⟩⟩⟩⟩⟩⟩:=ho; exact⟨⟨X,V,v,aA,E,P,G,z,T⟩,⟨h1,h2,h3,h4,h5,h6,h7,h8,h9⟩,rfl⟩) (fun _=>by kernel_rfl) fun⟨X,V,v,aA,E,P,G,z,T⟩ H=>K3 H fun H=>fK<|n9 H
   exact vK<|fK<|n9 H
  exact vE<|fE<|e8<|fX rfl<|n7 H
 refine qD (fun v2=>Z (Dg s [p 8 (O 25),p 9 (O 26),p 10 (AV.os 27 1),p 11 (I (2+v2.1))]) [(500000,K 122 m8 v2.2),(27,A 9 Ty.str ([]++n) 1),(26,A 139 y139 [] 0),(25,A 2 i64 [2,2,3,3,4,3,3,3] 0),(7,bx 31 [nil,AV.os 18 0,AV.os 23 0]),(23,A 202 y202 o 0),(18,A 9 Ty.str n 0),(6,bx 31 [nil,nil,nil])]) H fun v2 H=>vB<|lX (fun((l,cQ,cK,cT,e,q,m,j,i,k):Int×List Int×Int×Int×List ByteArray×List o3×List o3×List o3×List ByteArray×List u3)=>Z (G3 s l []) ((500000,bx 122 (A8 cQ cK cT))::(27,A 9 Ty.str e 0)::(26,A 139 y139 q 0)::(25,A 2 i64 [2,2,3,3,4,3,3,3] 0)::W0 m o n j i k)) (2+v2.1,v2.2.1,v2.2.2.1,v2.2.2.2,[]++n,[],[],[],[],[]) H fun _ g1 b1 e1 t1 ⟨l,cQ,cK,cT,e,q,m,j,i,k⟩ H=>vQ<|iA [0,2,6,7,8,9,10,11,37]<|cD H (fun H=>?_) (fun H=>?_)
 ·refine vK<|fQ<|jN r (fun((cN,cE,cL,cO,cG):List o3×List ByteArray×List Int×Int×Int)=>Z (G3 s l []) ((26,A 139 y139 cN 0)::(27,A 9 Ty.str cE 0)::(500000,bx 122 (A8 cL cO cG))::(25,A 2 i64 [2,2,3,3,4,3,3,3] 0)::W0 m o n j i k)) (Vj l m j i k g1) (fun⟨cN,cE,cL,cO,cG⟩ H=>?_) (fun _ n2 e2 t2=>?_)
  ·refine jB [0,2,6,7,8,9,10,11] H fun H=>b1 H
  refine vB<|qD (fun(aM,d)=>Z (G3 s l [p 12 (I d)]) ((500000,K 122 m8 aM.2)::(40,A 2 i64 [0,1,2,2,3,4,5,5,5,6,7,1] 0)::(27,A 9 Ty.str e 0)::(26,A 139 y139 q 0)::(25,A 2 i64 [2,2,3,3,4,3,3,3] 0)::W0 m o n j i k)) H fun w H=>?_
  obtain⟨aM,d⟩:=w;refine qD (fun t=>Z (G3 s l [p 12 (I d),p 13 (R 13)]) ((13,bx 139 [S (ByteArray.mk #[117]++t),I d,nil])::(500000,K 122 m8 aM.2)::(40,A 2 i64 [0,1,2,2,3,4,5,5,5,6,7,1] 0)::(27,A 9 Ty.str e 0)::(26,A 139 y139 q 0)::(25,A 2 i64 [2,2,3,3,4,3,3,3] 0)::W0 m o n j i k)) H fun t H=>jN r (fun((bA,aY,bC,bE):List Int×List Int×Int×Int)=>Z (G3 s l [p 13 (R 13)]) ((13,bx 139 [S (ByteArray.mk #[117]++t),I d,M i64 bA])::(500000,bx 122 (A8 aY bC bE))::(27,A 9 Ty.str e 0)::(26,A 139 y139 q 0)::(25,A 2 i64 [2,2,3,3,4,3,3,3] 0)::W0 m o n j i k)) (Vk l m j i k e q t d g1) (fun⟨bA,aY,bC,bE⟩ H=>?_) (fun _ n3 e3 t3=>?_)
  ·refine iB [0,2,6,7,8,9,10,11,13] H fun H=>qD (fun aG=>Z (Dg s [p 8 (O 25),p 9 (O 26),p 10 (AV.os 27 1),p 11 (I l),p 13 (R 13)]) ((27,A 9 Ty.str (e++[ByteArray.mk #[110]++aG]) 1)::(100,A 9 Ty.str [ByteArray.mk #[110]++aG] 0)::(13,bx 139 [S (ByteArray.mk #[117]++t),I d,AV.os 86 2])::(86,A 2 i64 ([]++bA++[(e.length:Int)]) 2)::(92,A 2 i64 [(e.length:Int)] 0)::(500000,bx 122 (A8 aY bC bE))::(26,A 139 y139 q 0)::(25,A 2 i64 [2,2,3,3,4,3,3,3] 0)::W0 m o n j i k)) H fun aG H=>fZ 86 (Z (Dg s [p 8 (O 25),p 9 (O 26),p 10 (AV.os 27 1),p 11 (I l),p 13 (R 13)]) ((27,A 9 Ty.str (e++[ByteArray.mk #[110]++aG]) 1)::(100,A 9 Ty.str [ByteArray.mk #[110]++aG] 0)::(13,bx 139 [S (ByteArray.mk #[117]++t),I d,M i64 ([]++bA++[(e.length:Int)])])::(92,A 2 i64 [(e.length:Int)] 0)::(500000,bx 122 (A8 aY bC bE))::(26,A 139 y139 q 0)::(25,A 2 i64 [2,2,3,3,4,3,3,3] 0)::W0 m o n j i k))<|zD (fun(cI,cM)=>Z (Dg s [p 8 (O 25),p 9 (AV.os 26 1),p 10 (AV.os 27 1),p 11 (I l)]) ((26,A 139 y139 cI 1)::(104,A 139 y139 cM 0)::(27,A 9 Ty.str (e++[ByteArray.mk #[110]++aG]) 1)::(100,A 9 Ty.str [ByteArray.mk #[110]++aG] 0)::(13,bx 139 [S (ByteArray.mk #[117]++t),I d,M i64 ([]++bA++[(e.length:Int)])])::(92,A 2 i64 [(e.length:Int)] 0)::(500000,bx 122 (A8 aY bC bE))::(25,A 2 i64 [2,2,3,3,4,3,3,3] 0)::W0 m o n j i k)) H fun⟨cI,cM⟩ H =>
    fK<|n2 H
  refine iA [0,2,6,7,8,9,10,11,12,13,14]<|vB<|lX (fun((aC,aD,cH,cP,cJ):Int×List Int×List Int×Int×Int)=>Z (G3 s l [p 12 (I d),p 13 (R 13),p 14 (I aC)]) ((13,bx 139 [S (ByteArray.mk #[117]++t),I d,M i64 aD])::(500000,bx 122 (A8 cH cP cJ))::(27,A 9 Ty.str e 0)::(26,A 139 y139 q 0)::(25,A 2 i64 [2,2,3,3,4,3,3,3] 0)::W0 m o n j i k)) (0,[],aM.2.1,aM.2.2.1,aM.2.2.2) H fun _ g4 b4 e4 t4 ⟨aC,aD,cH,cP,cJ⟩ H=>vQ<|iB [0,2,6,7,8,9,10,11,12,13,14,57] H fun H=>cD H (fun H=>?_) (fun H=>?_)
  ·refine vK<|fQ<|vQ<|vB<|qD (fun bI=>Z (G3 s l [p 12 (I d),p 13 (R 13),p 14 (I aC),p 15 (I (1+bI.1))]) ((500000,K 122 m8 bI.2)::(13,bx 139 [S (ByteArray.mk #[117]++t),I d,M i64 aD])::(27,A 9 Ty.str e 0)::(26,A 139 y139 q 0)::(25,A 2 i64 [2,2,3,3,4,3,3,3] 0)::W0 m o n j i k)) H fun bI H=>jN r (fun((aP,aT,bF,cC):List Int×Int×Int×Int)=>Z (G3 s l [p 12 (I d),p 13 (R 13),p 14 (I aC),p 15 (I cC)]) ((500000,bx 122 (A8 aP aT bF))::(13,bx 139 [S (ByteArray.mk #[117]++t),I d,M i64 aD])::(27,A 9 Ty.str e 0)::(26,A 139 y139 q 0)::(25,A 2 i64 [2,2,3,3,4,3,3,3] 0)::W0 m o n j i k)) (Mx aC aD d g4) (fun⟨aP,aT,bF,cC⟩ H=>?_) (fun _ n5 e5 t5=>?_)
   ·refine jN r (fun(bH:Int)=>Z (G3 s l [p 12 (I d),p 13 (R 13),p 14 (I aC),p 15 (I bH)]) ((500000,bx 122 (A8 aP aT bF))::(13,bx 139 [S (ByteArray.mk #[117]++t),I d,M i64 aD])::(27,A 9 Ty.str e 0)::(26,A 139 y139 q 0)::(25,A 2 i64 [2,2,3,3,4,3,3,3] 0)::W0 m o n j i k)) (Mw aC aD aP aT bF g4) (fun bH H=>?_) (fun _ n6 e6 t6=>?_)
    ·refine jB [0,2,6,7,8,9,10,11,12,13,14] H fun H=>fK<|fQ<|jB [0,2,6,7,8,9,10,11,12,13,14] H fun H=>CD 78 (Z (G3 s l [p 12 (I d),p 13 (R 13),p 14 (I (aC+1))]) ((13,bx 139 [S (ByteArray.mk #[117]++t),I d,M i64 ([]++aD++[bH])])::(83,A 2 i64 [bH] 0)::(500000,bx 122 (A8 aP aT bF))::(27,A 9 Ty.str e 0)::(26,A 139 y139 q 0)::(25,A 2 i64 [2,2,3,3,4,3,3,3] 0)::W0 m o n j i k)) (by kernel_rfl) rfl<|b4 H
    refine iA [0,2,6,7,8,9,10,11,12,13,14,15,77]<|cD H (fun H=>jA [0,2,6,7,8,9,10,11,12,13,14,15]<|n6 H) fun H=>vK<|n6 H
   refine qD (fun bZ=>Z (G3 s l [p 12 (I d),p 13 (R 13),p 14 (I aC),p 15 (I (1+bI.1)),p 68 (B (bZ.1==0))]) ((500000,K 122 m8 bZ.2)::(13,bx 139 [S (ByteArray.mk #[117]++t),I d,M i64 aD])::(27,A 9 Ty.str e 0)::(26,A 139 y139 q 0)::(25,A 2 i64 [2,2,3,3,4,3,3,3] 0)::W0 m o n j i k)) H fun bZ H=>cD H (fun H=>jB [0,2,6,7,8,9,10,11,12,13,14,15] H fun H=>n5 H) fun H=>vK<|n5 H
  exact vE<|fE<|e4<|fX rfl<|n3 H
 exact vE<|fE<|e1<|fX rfl<|n0 H
def Ha(r:j9×l6):AV:=AV.agg [AV.ow 64 false y64 r.1.1,M y139 r.1.2.1.1,M Ty.str r.1.2.1.2.1,M y202 r.1.2.1.2.2,AV.ow 153 true l7 r.1.2.2]
def Q6(r:j9×l6):B6 [.io 122 m8,.dat i64,.dat .bool]:=r.2
def My:Prop:=kE prog 61 [.io 122 m8,.dat i64,.dat .bool] Fx GX Ha Q6
def Vm[Alw](e:List m5×l6)(f:r9×l6):List z6×List Int×Int×Int->Option Unit
 | (b,a,d,c) =>
 gd (GX (((e.1,f.1,b),a,d,c)))<|some ()
def G0v[Alw](c:r9×l6)(h:List m5×l6)(i:Int×List z6×List Int×Int×Int->Option Unit):Int×List z6×List Int×Int×Int->Option Unit
 | (a,d,e,f,g) =>
 if(decide (a < (c.1.2.1.length:Int))) then
  gd (((U7 c.1 a).isSome/\True)/\Mt ((e,f,g),(↑(vl (U7 c.1 a)).length:Int),()))<|Alw.alp (Z0 [Par.io 122 m8,Par.dat i64] Qg Vd GY) fun(b:(z6×l6)) =>
  gd ((d.length+[b.1].length<=9223372036854775807/\(d.length+[b.1].length)*96<=140737488355328)/\True) <|
  gd (j0 (a+1)/\True)<|lt (vl (U7 c.1 a)) fun _ =>
  i ((a+1,d++[b.1],(GY b).1,(GY b).2.1,(GY b).2.2))
 else
  Vm h c (d,e,f,g)
def Qn[Alw](c:l6)(d:Int)(e:Bool):Option Unit :=
 gd ((Mm c).isSome/\True)<|lt (vl (Mm c)) fun b =>
 gd (True/\Qe (b.2,d,e,()))<|Alw.alp (Z0 [Par.io 122 m8,Par.dat i64,Par.dat Ty.bool] Qf Vh Du) fun(a:(r9×l6)) =>
 gd (True) <|
 lp (G0v a b) ((0,[],(Du a).1,(Du a).2.1,(Du a).2.2))
theorem e61[Alw](h121:Ve)(h120:Vi)(hF:∀x,Xv.wfs [.io 122 m8,.dat i64,.dat .bool] x->Fx x->Qn x.1 x.2.1 x.2.2.1=some ()):My:=by
 refine GZ (f:=61) (ps:=[.io 122 m8,.dat i64,.dat .bool]) (pre:=Fx) (post:=GX) (R:=Ha) (Z:=Q6) (F:=fun x=>Qn x.1 x.2.1 x.2.2.1) M1 [.cell 6 34] hF func61 ntmps61 rfl results61 (by kernel_rfl) rfl ?_;intro y ⟨_,s,t,_⟩ r H hB Q hn hr;have:=hz (tc Gw (tc P0c tn));refine iA [0,1,2,6]<|qD (fun a=>Z [p 0 (R 500000),p 1 (J s),p 2 (C t),p 6 (R 6),p 7 (R 7)] [(7,bx 26 [AV.os 12 0]),(12,Ob.arr 64 false y64 a.1 0),(500000,K 122 m8 a.2),(6,bx 34 [nil,nil,nil,nil,nil])]) H fun a H=>vQ<|iE h120 3 [0,6,7,8] H fun b hp120 H=>K3 H fun H=>fQ<|iA [0,6,7,8,9]<|jN r (fun((c,e,g,d):List z6×List Int×Int×Int)=>Z [p 6 (R 6),p 7 (R 7),p 8 (R 8),p 9 (O 17)] ((17,A 153 l7 c 0)::(8,bx 31 (r5 true y31 b.1))::(500000,bx 122 (A8 e g d))::Tf a.1)) (Vm a b) (fun⟨c,e,g,d⟩ H=>?_) (fun _ q w v=>?_)
 ·refine iA [6]<|j5<|hr (((a.1,b.1,c),e,g,d)) (L7 H).1 (by kernel_rfl)
 refine iA [0,6,7,8,9,10]<|vB<|lX (fun((i,k,m,l,n):Int×List z6×List Int×Int×Int)=>Z (Cq [p 7 (R 7),p 8 (R 8),p 9 (O 17),p 10 (I i)]) ((17,A 153 l7 k 0)::(8,bx 31 (r5 true y31 b.1))::(500000,bx 122 [L b8 m,J l,J n])::Tf a.1)) ((0,[],(Du b).1,(Du b).2.1,(Du b).2.2)) H fun _ E u o z ⟨i,k,m,l,n⟩ H=>vQ<|iA [0,6,7,8,9,10,22]<|cD H (fun H=>vK<|fQ<|vQ<|vB<|iE h121 6 [0,6,7,8,9,10] H fun j hp121 H=>K3 H fun H=>fK<|fQ<|zD (fun h=>Z (Cq [p 7 (R 7),p 8 (R 8),p 9 (AV.os 17 1),p 10 (I (i+1))]) ((17,A 153 l7 (k++[j.1]) 1)::(32,A 153 l7 [j.1] 0)::(500000,bx 122 (r5 false m8 (GY j)))::(29,A 2 i64 h 0)::(8,bx 31 (r5 true y31 b.1))::Tf a.1)) H fun h H=>u H) fun H=>vE<|fE<|o<|fX rfl<|q H
abbrev Qo(x:s9 [.io 122 m8]):Prop:=sd x.1
def Vn(r:j9×l6):AV:=AV.agg (Q2 r.1)
def Mz(r:j9×l6):B6 [.io 122 m8]:=r.2
def Vo:Prop:=kE prog 118 [.io 122 m8] Qo Qh Vn Mz
def BQ[Alw]:List Int×Int×Int×List z6×List o3×List ByteArray×List u3×List m5->Option Unit
 | (c,h,g,a,b,f,d,e) =>
 gd (Qh (((e,(b,f,d),a),c,h,g)))<|some ()
def Qp[Alw](a0:l6):Option Unit :=
 gd (((c9 a0 (3:Int)).isSome/\True)/\Fx ((vl (c9 a0 (3:Int))).2,(6:Int),(vl (c9 a0 (3:Int))).1==(0:Int),()))<|Alw.alp (Z0 [Par.io 122 m8,Par.dat i64,Par.dat Ty.bool] GX Ha Q6) fun(a:(j9×l6)) =>
 gd (True) <|
 gd ((c9 (Q6 a) (a.1.2.2.length:Int)).isSome/\True)<|lt (vl (c9 (Q6 a) (a.1.2.2.length:Int))) fun b =>
 gd ((c9 b.2 20).isSome/\True)<|lt (vl (c9 b.2 20)) fun c =>
 if(c.1==0) then
  gd (((0:Int)<=(1:Int)/\(1:Int)<=(a.1.2.2.length:Int)/\(a.1.2.2.length:Int)<=(a.1.2.2.length:Int))/\True) <|
  BQ ((c.2.1,c.2.2.1,c.2.2.2,List.drop (Int.toNat (1:Int)) a.1.2.2,a.1.2.1.1,a.1.2.1.2.1,a.1.2.1.2.2,a.1.1))
 else
  if(c.1==1) then
   gd ((ix b.1 a.1.2.2.length/\b.1.toNat<a.1.2.2.length/\(L3 (a.1.2.2.getD b.1.toNat (a6 l7)).2.2.2).isSome/\((vl (L3 (a.1.2.2.getD b.1.toNat (a6 l7)).2.2.2)).length+[0].length<=9223372036854775807/\((vl (L3 (a.1.2.2.getD b.1.toNat (a6 l7)).2.2.2)).length+[0].length)*8<=140737488355328)/\ix b.1 a.1.2.2.length/\True)/\b.1.toNat<a.1.2.2.length/\True) <|
   BQ ((c.2.1,c.2.2.1,c.2.2.2,a.1.2.2.set b.1.toNat ((a.1.2.2.getD b.1.toNat (a6 l7)).1,(a.1.2.2.getD b.1.toNat (a6 l7)).2.1,(a.1.2.2.getD b.1.toNat (a6 l7)).2.2.1,vl (L3 (a.1.2.2.getD b.1.toNat (a6 l7)).2.2.2)++[0]),a.1.2.1.1,a.1.2.1.2.1,a.1.2.1.2.2,a.1.1))
  else
   if(c.1==2) then
    gd (ix b.1 a.1.2.2.length/\b.1.toNat<a.1.2.2.length/\ix 0 (a.1.2.2.getD b.1.toNat (a6 l7)).2.1.length/\True)<|Alw.alp (fun((v3,v4,Y,W,V,X,v9,s):Int×List Int×List Int×List o3×List ByteArray×List u3×List z6×List m5)=>(x7 i64.pt ((a.1.2.2.getD b.1.toNat (a6 l7)).2.1.getD (Int.toNat (0:Int)) (0:Int)) v3/\(wf i64.pt ((a.1.2.2.getD b.1.toNat (a6 l7)).2.1.getD (Int.toNat (0:Int)) (0:Int))->wf i64.pt v3))/\(x7 i64.sl (a.1.2.2.getD b.1.toNat (a6 l7)).2.1 v4/\(wf i64.sl (a.1.2.2.getD b.1.toNat (a6 l7)).2.1->wf i64.sl v4))/\(x7 b8.sl c.2.1 Y/\(wf b8.sl c.2.1->wf b8.sl Y))/\(x7 y139.sl a.1.2.1.1 W/\(wf y139.sl a.1.2.1.1->wf y139.sl W))/\(x7 Ty.str.sl a.1.2.1.2.1 V/\(wf Ty.str.sl a.1.2.1.2.1->wf Ty.str.sl V))/\(x7 y202.sl a.1.2.1.2.2 X/\(wf y202.sl a.1.2.1.2.2->wf y202.sl X))/\(AllS (x7 l7) a.1.2.2 v9)/\(AllS (x7 y64) a.1.1 s)) fun((_,_,Y,W,V,X,v9,s):Int×List Int×List Int×List o3×List ByteArray×List u3×List z6×List m5) =>
    gd (True) <|
    BQ (Y,c.2.2.1,c.2.2.2,v9,W,V,X,s)
   else
    if(c.1==3) then
     gd (ix b.1 a.1.2.2.length/\b.1.toNat<a.1.2.2.length/\(c9 c.2 3).isSome/\ix (vl (c9 c.2 3)).1 [-1,500,501].length/\(vl (c9 c.2 3)).1.toNat<[-1,500,501].length/\ix 0 (a.1.2.2.getD b.1.toNat (a6 l7)).2.2.1.length/\True)<|Alw.alp (fun((y,P,n,G,d,l,j,t,u):Int×List Int×List Int×List Int×List o3×List ByteArray×List u3×List z6×List m5)=>(x7 i64.pt ((a.1.2.2.getD b.1.toNat (a6 l7)).2.2.1.getD (Int.toNat (0:Int)) (0:Int)) y/\(wf i64.pt ((a.1.2.2.getD b.1.toNat (a6 l7)).2.2.1.getD (Int.toNat (0:Int)) (0:Int))->wf i64.pt y))/\(x7 i64.sl (a.1.2.2.getD b.1.toNat (a6 l7)).2.2.1 P/\(wf i64.sl (a.1.2.2.getD b.1.toNat (a6 l7)).2.2.1->wf i64.sl P))/\(x7 b8.sl (vl (c9 c.2 3)).2.1 n/\(wf b8.sl (vl (c9 c.2 3)).2.1->wf b8.sl n))/\(x7 b8.sl c.2.1 G/\(wf b8.sl c.2.1->wf b8.sl G))/\(x7 y139.sl a.1.2.1.1 d/\(wf y139.sl a.1.2.1.1->wf y139.sl d))/\(x7 Ty.str.sl a.1.2.1.2.1 l/\(wf Ty.str.sl a.1.2.1.2.1->wf Ty.str.sl l))/\(x7 y202.sl a.1.2.1.2.2 j/\(wf y202.sl a.1.2.1.2.2->wf y202.sl j))/\(AllS (x7 l7) a.1.2.2 t)/\(AllS (x7 y64) a.1.1 u)) fun((_,_,n,_,d,l,j,t,u):Int×List Int×List Int×List Int×List o3×List ByteArray×List u3×List z6×List m5) =>
     gd (True) <|
     BQ ((n,(vl (c9 c.2 3)).2.2.1,(vl (c9 c.2 3)).2.2.2,t,d,l,j,u))
    else
     if(c.1==4) then
      gd (ix b.1 a.1.2.2.length/\b.1.toNat<a.1.2.2.length/\ix b.1 a.1.2.2.length/\b.1.toNat<a.1.2.2.length/\j0 ((↑(a.1.2.2.getD b.1.toNat (a6 l7)).1.length:Int)-1)/\(c9 c.2 5).isSome/\j0 ((vl (c9 c.2 5)).1-1)/\ix ((↑(a.1.2.2.getD b.1.toNat (a6 l7)).1.length:Int)-1) (a.1.2.2.getD b.1.toNat (a6 l7)).1.length/\True)<|Alw.alp (fun((x,H,E,e,Q,g,o,m,q,v):Int×List Int×List Int×List Int×List Int×List o3×List ByteArray×List u3×List z6×List m5)=>(x7 i64.pt ((a.1.2.2.getD b.1.toNat (a6 l7)).1.getD ((↑(a.1.2.2.getD b.1.toNat (a6 l7)).1.length:Int)-1).toNat 0) x/\(wf i64.pt ((a.1.2.2.getD b.1.toNat (a6 l7)).1.getD ((↑(a.1.2.2.getD b.1.toNat (a6 l7)).1.length:Int)-1).toNat 0)->wf i64.pt x))/\(x7 i64.sl (a.1.2.2.getD b.1.toNat (a6 l7)).1 H/\(wf i64.sl (a.1.2.2.getD b.1.toNat (a6 l7)).1->wf i64.sl H))/\(x7 i64.sl (a.1.2.2.getD b.1.toNat (a6 l7)).1 E/\(wf i64.sl (a.1.2.2.getD b.1.toNat (a6 l7)).1->wf i64.sl E))/\(x7 b8.sl (vl (c9 c.2 5)).2.1 e/\(wf b8.sl (vl (c9 c.2 5)).2.1->wf b8.sl e))/\(x7 b8.sl c.2.1 Q/\(wf b8.sl c.2.1->wf b8.sl Q))/\(x7 y139.sl a.1.2.1.1 g/\(wf y139.sl a.1.2.1.1->wf y139.sl g))/\(x7 Ty.str.sl a.1.2.1.2.1 o/\(wf Ty.str.sl a.1.2.1.2.1->wf Ty.str.sl o))/\(x7 y202.sl a.1.2.1.2.2 m/\(wf y202.sl a.1.2.1.2.2->wf y202.sl m))/\(AllS (x7 l7) a.1.2.2 q)/\(AllS (x7 y64) a.1.1 v)) fun((_,_,_,e,_,g,o,m,q,v):Int×List Int×List Int×List Int×List Int×List o3×List ByteArray×List u3×List z6×List m5) =>
      gd (True) <|
      BQ ((e,(vl (c9 c.2 5)).2.2.1,(vl (c9 c.2 5)).2.2.2,q,g,o,m,v))
     else
      if(c.1==5) then
       gd (ix 0 a.1.2.1.2.2.length/\True)<|Alw.alp (fun((T,z,F,h,f,i,k,w,r):(Int×Int)×u3×List u3×List Int×List o3×List ByteArray×List u3×List z6×List m5)=>(x7 (i64.pr i64).pt (a.1.2.1.2.2.getD (Int.toNat (0:Int)) (a6 y202)).2 T/\(wf (i64.pr i64).pt (a.1.2.1.2.2.getD (Int.toNat (0:Int)) (a6 y202)).2->wf (i64.pr i64).pt T))/\(x7 y202.pt (a.1.2.1.2.2.getD (Int.toNat (0:Int)) (a6 y202)) z/\(wf y202.pt (a.1.2.1.2.2.getD (Int.toNat (0:Int)) (a6 y202))->wf y202.pt z))/\(x7 y202.sl a.1.2.1.2.2 F/\(wf y202.sl a.1.2.1.2.2->wf y202.sl F))/\(x7 b8.sl c.2.1 h/\(wf b8.sl c.2.1->wf b8.sl h))/\(x7 y139.sl a.1.2.1.1 f/\(wf y139.sl a.1.2.1.1->wf y139.sl f))/\(x7 Ty.str.sl a.1.2.1.2.1 i/\(wf Ty.str.sl a.1.2.1.2.1->wf Ty.str.sl i))/\(x7 y202.sl a.1.2.1.2.2 k/\(wf y202.sl a.1.2.1.2.2->wf y202.sl k))/\(AllS (x7 l7) a.1.2.2 w)/\(AllS (x7 y64) a.1.1 r)) fun((_,_,_,h,f,i,k,w,r):(Int×Int)×u3×List u3×List Int×List o3×List ByteArray×List u3×List z6×List m5) =>
       gd (True) <|
       BQ (h,c.2.2.1,c.2.2.2,w,f,i,k,r)
      else
       BQ (c.2.1,c.2.2.1,c.2.2.2,a.1.2.2,a.1.2.1.1,a.1.2.1.2.1,a.1.2.1.2.2,a.1.1)
theorem R0C[Alw](h61:My)(hF:∀x,Xv.wfs [.io 122 m8] x->Qo x->Qp x.1=some ()):Vo:=by
 refine GZ (f:=118) (ps:=[.io 122 m8]) (pre:=Qo) (post:=Qh) (R:=Vn) (Z:=Mz) (F:=fun x=>Qp x.1) M1 [.cell 2 34] hF func118 ntmps118 rfl results118 (by kernel_rfl) rfl ?_;intro y ⟨_,_⟩ r H hB Q hn hr;have:=hz (tc F6 (tc OF tn));refine iA [0,2]<|vQ<|iE h61 4 [0,2,3] H fun c hp61 H=>K3 H fun H=>fQ<|qD (fun b=>Z [p 0 (R 500000),p 2 (R 2),p 3 (R 3),p 4 (I b.1)] ((500000,K 122 m8 b.2)::(3,bx 34 (Q5 c.1.2.1))::W2 c.1.2.2 c.1.1)) H fun b H=>jN r (fun((aL,aJ,aM,aK,aI,aG,aF,aH):List Int×Int×Int×List z6×List o3×List ByteArray×List u3×List m5)=>Z (G7 []) [(3,bx 34 (Df aI aG aF)),(1009,A 153 l7 aK 0),(500000,bx 122 (A8 aL aJ aM)),(9,Ob.arr 64 false y64 aH 0),(2,bx 34 [nil,nil,nil,nil,nil])]) (BQ) (fun⟨aL,aJ,aM,aK,aI,aG,aF,aH⟩ H=>?_) (fun _ n0 e0 t0=>?_)
 ·refine iA [2]<|j5<|hr (((aH,(aI,aG,aF),aK),aL,aJ,aM)) (L7 H).1 (by kernel_rfl)
 refine qD (fun a=>Z [p 0 (R 500000),p 2 (R 2),p 3 (R 3),p 4 (I b.1),p 16 (I a.1)] ((500000,K 122 m8 a.2)::(3,bx 34 (Q5 c.1.2.1))::W2 c.1.2.2 c.1.1)) H fun a H=>vB<|iA [0,2,3,4,16,17]<|cD H (fun H=>jB [2,3] H fun H=>fK<|n0 H) fun H=>iA [0,2,3,4,16,23]<|cD H (fun H=>zFD M1 (HT.h) 14 [34] [2,3] (Z (G7 []) [(1009,A 153 l7 (c.1.2.2.set b.1.toNat ((c.1.2.2.getD b.1.toNat (a6 l7)).1,(c.1.2.2.getD b.1.toNat (a6 l7)).2.1,(c.1.2.2.getD b.1.toNat (a6 l7)).2.2.1,vl (L3 (c.1.2.2.getD b.1.toNat (a6 l7)).2.2.2)++[0])) 0),(35,A 2 i64 [0] 0),(500000,K 122 m8 a.2),(3,bx 34 (Q5 c.1.2.1)),(9,Ob.arr 64 false y64 c.1.1 0),(2,bx 34 [nil,nil,nil,nil,nil])]) H (by kernel_rfl) fun H=>fK<|n0 H) fun H=>iA [0,2,3,4,16,39]<|cD H (fun H=>?_) (fun H=>?_)
 ·refine zH M1 (HT.h) hB 7 [2,3] (Z [p 47 (N i64.pt ((c.1.2.2.getD b.1.toNat (a6 l7)).2.1.getD (Int.toNat (0:Int)) (0:Int))),p 46 (M i64 (c.1.2.2.getD b.1.toNat (a6 l7)).2.1),p 45 (AV.pel 1009 0 b.1.toNat 4 1),p 44 (AV.pel 1009 0 b.1.toNat 4 0),p 43 (I b.1),p 42 (O 1009),p 41 (AV.ptr 3 4),p 0 (R 500000),p 2 (R 2),p 3 (R 3),p 4 (I b.1),p 16 (I a.1),p 39 (B (a.1==(2:Int)))] ((500000,K 122 m8 a.2)::(3,bx 34 (Q5 c.1.2.1))::W2 c.1.2.2 c.1.1)) (fun((v3,v4,v5,v6,v7,v8,v9,m):Int×List Int×List Int×List o3×List ByteArray×List u3×List z6×List m5)=>Z [p 47 (N i64.pt v3),p 46 (M i64 v4),p 45 (AV.pel 1009 0 b.1.toNat 4 1),p 44 (AV.pel 1009 0 b.1.toNat 4 0),p 43 (I b.1),p 42 (O 1009),p 41 (AV.ptr 3 4),p 0 (R 500000),p 2 (R 2),p 3 (R 3),p 4 (I b.1),p 16 (I a.1),p 39 (B (a.1==2))] ((500000,bx 122 (A8 v5 a.2.2.1 a.2.2.2))::(3,bx 34 (Df v6 v7 v8))::W2 v9 m)) (fun((v3,v4,v5,v6,v7,v8,v9,m):Int×List Int×List Int×List o3×List ByteArray×List u3×List z6×List m5)=>Z (G7 []) ((500000,bx 122 (A8 v5 a.2.2.1 a.2.2.2))::(3,bx 34 (Df v6 v7 v8))::W2 v9 m)) (fun((v3,v4,v5,v6,v7,v8,v9,m):Int×List Int×List Int×List o3×List ByteArray×List u3×List z6×List m5)=>True) H (by kernel_rfl) (fun _ h=>by obtain⟨_,_,rfl,he,ho⟩:=h; obtain⟨_,_,rfl,⟨v3,rfl,h1⟩,⟨_,_,rfl,⟨v4,rfl,h2⟩,⟨_,_,rfl,rfl,⟨_,_,rfl,rfl,⟨_,_,rfl,rfl,⟨_,_,rfl,rfl,⟨_,_,rfl,rfl,⟨_,_,rfl,rfl,⟨_,_,rfl,rfl,⟨_,_,rfl,rfl,⟨_,_,rfl,rfl,⟨_,_,rfl,rfl,⟨_,_,rfl,rfl,rfl⟩⟩⟩⟩⟩⟩⟩⟩⟩⟩⟩⟩⟩:=he; obtain⟨_,_,rfl,⟨_,rfl,⟨_,_,rfl,⟨v5,rfl,h3⟩,⟨_,_,rfl,rfl,⟨_,_,rfl,rfl,rfl⟩⟩⟩⟩,⟨_,_,rfl,⟨_,rfl,⟨_,_,rfl,rfl,⟨_,_,rfl,⟨v6,rfl,h4⟩,⟨_,_,rfl,⟨v7,rfl,h5⟩,⟨_,_,rfl,⟨v8,rfl,h6⟩,⟨_,_,rfl,rfl,rfl⟩⟩⟩⟩⟩⟩,⟨_,_,rfl,⟨v9,rfl,h7⟩,⟨_,_,rfl,⟨m,rfl,h8⟩,⟨_,_,rfl,⟨_,rfl,⟨_,_,rfl,rfl,⟨_,_,rfl,rfl,⟨_,_,rfl,rfl,⟨_,_,rfl,rfl,⟨_,_,rfl,rfl,rfl⟩⟩⟩⟩⟩⟩,rfl⟩⟩⟩⟩⟩:=ho; exact⟨⟨v3,v4,v5,v6,v7,v8,v9,m⟩,⟨h1,h2,h3,h4,h5,h6,h7,h8⟩,rfl⟩) (fun _=>by kernel_rfl) fun⟨v3,v4,v5,v6,v7,v8,v9,m⟩ H=>K3 H fun H=>fK<|n0 H
 refine iA [0,2,3,4,16,48]<|cD H (fun H=>?_) (fun H=>?_)
 ·refine Vl M1 (HT.h) hB 12 [2,3] (Z [p 61 (N i64.pt ((c.1.2.2.getD b.1.toNat (a6 l7)).2.2.1.getD (Int.toNat (0:Int)) (0:Int))),p 60 (I ([(-1:Int),(500:Int),(501:Int)].getD (vl (c9 a.2 (3:Int))).1.toNat (0:Int))),p 59 (AV.pel 56 0 (vl (c9 a.2 (3:Int))).1.toNat 1 0),p 58 (I (vl (c9 a.2 (3:Int))).1),p 57 (R 500000),p 56 (O 56),p 55 (M i64 (c.1.2.2.getD b.1.toNat (a6 l7)).2.2.1),p 54 (AV.pel 1009 0 b.1.toNat 4 2),p 53 (AV.pel 1009 0 b.1.toNat 4 0),p 52 (I b.1),p 51 (O 1009),p 50 (AV.ptr 3 4),p 0 (R 500000),p 2 (R 2),p 3 (R 3),p 4 (I b.1),p 16 (I a.1),p 48 (B (a.1==(3:Int)))] ((500000,bx 122 (r5 false m8 (vl (c9 a.2 (3:Int))).2))::(56,A 2 i64 [(-1:Int),(500:Int),(501:Int)] 0)::(500000,K 122 m8 a.2)::(3,bx 34 (Q5 c.1.2.1))::W2 c.1.2.2 c.1.1)) (fun((T,aB,w,Y,g,u,s,n,o):Int×List Int×List Int×List Int×List o3×List ByteArray×List u3×List z6×List m5)=>Z [p 61 (N i64.pt T),p 60 (I ([-1,500,501].getD (vl (c9 a.2 3)).1.toNat 0)),p 59 (AV.pel 56 0 (vl (c9 a.2 3)).1.toNat 1 0),p 58 (I (vl (c9 a.2 3)).1),p 57 (R 500000),p 56 (O 56),p 55 (M i64 aB),p 54 (AV.pel 1009 0 b.1.toNat 4 2),p 53 (AV.pel 1009 0 b.1.toNat 4 0),p 52 (I b.1),p 51 (O 1009),p 50 (AV.ptr 3 4),p 0 (R 500000),p 2 (R 2),p 3 (R 3),p 4 (I b.1),p 16 (I a.1),p 48 (B (a.1==3))] ((500000,bx 122 (A8 w (vl (c9 a.2 3)).2.2.1 (vl (c9 a.2 3)).2.2.2))::(56,A 2 i64 [-1,500,501] 0)::(500000,bx 122 (A8 Y a.2.2.1 a.2.2.2))::(3,bx 34 (Df g u s))::W2 n o)) (fun((T,aB,w,Y,g,u,s,n,o):Int×List Int×List Int×List Int×List o3×List ByteArray×List u3×List z6×List m5)=>Z (G7 []) ((500000,bx 122 (A8 w (vl (c9 a.2 3)).2.2.1 (vl (c9 a.2 3)).2.2.2))::(56,A 2 i64 [-1,500,501] 0)::(3,bx 34 (Df g u s))::W2 n o)) (fun((T,aB,w,Y,g,u,s,n,o):Int×List Int×List Int×List Int×List o3×List ByteArray×List u3×List z6×List m5)=>True) H (by kernel_rfl) (fun _ h=>by obtain⟨_,_,rfl,he,ho⟩:=h; obtain⟨_,_,rfl,⟨T,rfl,h1⟩,⟨_,_,rfl,rfl,⟨_,_,rfl,rfl,⟨_,_,rfl,rfl,⟨_,_,rfl,rfl,⟨_,_,rfl,rfl,⟨_,_,rfl,⟨aB,rfl,h2⟩,⟨_,_,rfl,rfl,⟨_,_,rfl,rfl,⟨_,_,rfl,rfl,⟨_,_,rfl,rfl,⟨_,_,rfl,rfl,⟨_,_,rfl,rfl,⟨_,_,rfl,rfl,⟨_,_,rfl,rfl,⟨_,_,rfl,rfl,⟨_,_,rfl,rfl,⟨_,_,rfl,rfl,rfl⟩⟩⟩⟩⟩⟩⟩⟩⟩⟩⟩⟩⟩⟩⟩⟩⟩⟩:=he; obtain⟨_,_,rfl,⟨_,rfl,⟨_,_,rfl,⟨w,rfl,h3⟩,⟨_,_,rfl,rfl,⟨_,_,rfl,rfl,rfl⟩⟩⟩⟩,⟨_,_,rfl,rfl,⟨_,_,rfl,⟨_,rfl,⟨_,_,rfl,⟨Y,rfl,h4⟩,⟨_,_,rfl,rfl,⟨_,_,rfl,rfl,rfl⟩⟩⟩⟩,⟨_,_,rfl,⟨_,rfl,⟨_,_,rfl,rfl,⟨_,_,rfl,⟨g,rfl,h5⟩,⟨_,_,rfl,⟨u,rfl,h6⟩,⟨_,_,rfl,⟨s,rfl,h7⟩,⟨_,_,rfl,rfl,rfl⟩⟩⟩⟩⟩⟩,⟨_,_,rfl,⟨n,rfl,h8⟩,⟨_,_,rfl,⟨o,rfl,h9⟩,⟨_,_,rfl,⟨_,rfl,⟨_,_,rfl,rfl,⟨_,_,rfl,rfl,⟨_,_,rfl,rfl,⟨_,_,rfl,rfl,⟨_,_,rfl,rfl,rfl⟩⟩⟩⟩⟩⟩,rfl⟩⟩⟩⟩⟩⟩⟩:=ho; exact⟨⟨T,aB,w,Y,g,u,s,n,o⟩,⟨h1,h2,h3,h4,h5,h6,h7,h8,h9⟩,rfl⟩) (fun _=>by kernel_rfl) fun⟨T,aB,w,Y,g,u,s,n,o⟩ H=>K3 H fun H=>fK<|n0 H
 refine iA [0,2,3,4,16,62]<|cD H (fun H=>?_) (fun H=>?_)
 ·refine Vl M1 (HT.h) hB 18 [2,3] (Z [p 81 (N i64.pt ((c.1.2.2.getD b.1.toNat (a6 l7)).1.getD ((↑(c.1.2.2.getD b.1.toNat (a6 l7)).1.length:Int)-1).toNat 0)),p 80 (I ((vl (c9 a.2 5)).1-1)),p 79 (I (vl (c9 a.2 5)).1),p 78 (R 500000),p 77 (I ((↑(c.1.2.2.getD b.1.toNat (a6 l7)).1.length:Int)-1)),p 76 (I (↑(c.1.2.2.getD b.1.toNat (a6 l7)).1.length:Int)),p 75 (M i64 (c.1.2.2.getD b.1.toNat (a6 l7)).1),p 74 (AV.pel 1009 0 b.1.toNat 4 0),p 73 (AV.pel 1009 0 b.1.toNat 4 0),p 72 (I b.1),p 71 (O 1009),p 70 (AV.ptr 3 4),p 69 (M i64 (c.1.2.2.getD b.1.toNat (a6 l7)).1),p 68 (AV.pel 1009 0 b.1.toNat 4 0),p 67 (AV.pel 1009 0 b.1.toNat 4 0),p 66 (I b.1),p 65 (O 1009),p 64 (AV.ptr 3 4),p 0 (R 500000),p 2 (R 2),p 3 (R 3),p 4 (I b.1),p 16 (I a.1),p 62 (B (a.1==4))] ((500000,bx 122 (r5 false m8 (vl (c9 a.2 5)).2))::(500000,K 122 m8 a.2)::(3,bx 34 (Q5 c.1.2.1))::W2 c.1.2.2 c.1.1)) (fun((P,aA,W,i,aC,k,G,v,d,z):Int×List Int×List Int×List Int×List Int×List o3×List ByteArray×List u3×List z6×List m5)=>Z [p 81 (N i64.pt P),p 80 (I ((vl (c9 a.2 5)).1-1)),p 79 (I (vl (c9 a.2 5)).1),p 78 (R 500000),p 77 (I ((↑(c.1.2.2.getD b.1.toNat (a6 l7)).1.length:Int)-1)),p 76 (I (↑(c.1.2.2.getD b.1.toNat (a6 l7)).1.length:Int)),p 75 (M i64 aA),p 74 (AV.pel 1009 0 b.1.toNat 4 0),p 73 (AV.pel 1009 0 b.1.toNat 4 0),p 72 (I b.1),p 71 (O 1009),p 70 (AV.ptr 3 4),p 69 (M i64 W),p 68 (AV.pel 1009 0 b.1.toNat 4 0),p 67 (AV.pel 1009 0 b.1.toNat 4 0),p 66 (I b.1),p 65 (O 1009),p 64 (AV.ptr 3 4),p 0 (R 500000),p 2 (R 2),p 3 (R 3),p 4 (I b.1),p 16 (I a.1),p 62 (B (a.1==4))] ((500000,bx 122 (A8 i (vl (c9 a.2 5)).2.2.1 (vl (c9 a.2 5)).2.2.2))::(500000,bx 122 (A8 aC a.2.2.1 a.2.2.2))::(3,bx 34 (Df k G v))::W2 d z)) (fun((P,aA,W,i,aC,k,G,v,d,z):Int×List Int×List Int×List Int×List Int×List o3×List ByteArray×List u3×List z6×List m5)=>Z (G7 []) ((500000,bx 122 (A8 i (vl (c9 a.2 5)).2.2.1 (vl (c9 a.2 5)).2.2.2))::(3,bx 34 (Df k G v))::W2 d z)) (fun((P,aA,W,i,aC,k,G,v,d,z):Int×List Int×List Int×List Int×List Int×List o3×List ByteArray×List u3×List z6×List m5)=>True) H (by kernel_rfl) (fun _ h=>by obtain⟨_,_,rfl,he,ho⟩:=h; obtain⟨_,_,rfl,⟨P,rfl,h1⟩,⟨_,_,rfl,rfl,⟨_,_,rfl,rfl,⟨_,_,rfl,rfl,⟨_,_,rfl,rfl,⟨_,_,rfl,rfl,⟨_,_,rfl,⟨aA,rfl,h2⟩,⟨_,_,rfl,rfl,⟨_,_,rfl,rfl,⟨_,_,rfl,rfl,⟨_,_,rfl,rfl,⟨_,_,rfl,rfl,⟨_,_,rfl,⟨W,rfl,h3⟩,⟨_,_,rfl,rfl,⟨_,_,rfl,rfl,⟨_,_,rfl,rfl,⟨_,_,rfl,rfl,⟨_,_,rfl,rfl,⟨_,_,rfl,rfl,⟨_,_,rfl,rfl,⟨_,_,rfl,rfl,⟨_,_,rfl,rfl,⟨_,_,rfl,rfl,⟨_,_,rfl,rfl,rfl⟩⟩⟩⟩⟩⟩⟩⟩⟩⟩⟩⟩⟩⟩⟩⟩⟩⟩⟩⟩⟩⟩⟩⟩:=he; obtain⟨_,_,rfl,⟨_,rfl,⟨_,_,rfl,⟨i,rfl,h4⟩,⟨_,_,rfl,rfl,⟨_,_,rfl,rfl,rfl⟩⟩⟩⟩,⟨_,_,rfl,⟨_,rfl,⟨_,_,rfl,⟨aC,rfl,h5⟩,⟨_,_,rfl,rfl,⟨_,_,rfl,rfl,rfl⟩⟩⟩⟩,⟨_,_,rfl,⟨_,rfl,⟨_,_,rfl,rfl,⟨_,_,rfl,⟨k,rfl,h6⟩,⟨_,_,rfl,⟨G,rfl,h7⟩,⟨_,_,rfl,⟨v,rfl,h8⟩,⟨_,_,rfl,rfl,rfl⟩⟩⟩⟩⟩⟩,⟨_,_,rfl,⟨d,rfl,h9⟩,⟨_,_,rfl,⟨z,rfl,h10⟩,⟨_,_,rfl,⟨_,rfl,⟨_,_,rfl,rfl,⟨_,_,rfl,rfl,⟨_,_,rfl,rfl,⟨_,_,rfl,rfl,⟨_,_,rfl,rfl,rfl⟩⟩⟩⟩⟩⟩,rfl⟩⟩⟩⟩⟩⟩:=ho; exact⟨⟨P,aA,W,i,aC,k,G,v,d,z⟩,⟨h1,h2,h3,h4,h5,h6,h7,h8,h9,h10⟩,rfl⟩) (fun _=>by kernel_rfl) fun⟨P,aA,W,i,aC,k,G,v,d,z⟩ H=>K3 H fun H=>fK<|n0 H
 refine iA [2,3,82]<|cD H (fun H=>?_) (fun H=>?_)
 ·refine zH M1 (HT.h) hB 5 [2,3] (Z [p 88 (N (i64.pr i64).pt (c.1.2.1.2.2.getD (Int.toNat (0:Int)) (a6 y202)).2),p 87 (N y202.pt (c.1.2.1.2.2.getD (Int.toNat (0:Int)) (a6 y202))),p 86 (M y202 c.1.2.1.2.2),p 85 (AV.ptr 3 3),p 84 (AV.ptr 3 1),p 2 (R 2),p 3 (R 3),p 82 (B (a.1==(5:Int)))] ((500000,K 122 m8 a.2)::(3,bx 34 (Q5 c.1.2.1))::W2 c.1.2.2 c.1.1)) (fun((aD,V,X,l,j,q,t,E,e):(Int×Int)×u3×List u3×List Int×List o3×List ByteArray×List u3×List z6×List m5)=>Z [p 88 (N (i64.pr i64).pt aD),p 87 (N y202.pt V),p 86 (M y202 X),p 85 (AV.ptr 3 3),p 84 (AV.ptr 3 1),p 2 (R 2),p 3 (R 3),p 82 (B (a.1==5))] ((500000,bx 122 (A8 l a.2.2.1 a.2.2.2))::(3,bx 34 (Df j q t))::W2 E e)) (fun((aD,V,X,l,j,q,t,E,e):(Int×Int)×u3×List u3×List Int×List o3×List ByteArray×List u3×List z6×List m5)=>Z (G7 []) ((500000,bx 122 (A8 l a.2.2.1 a.2.2.2))::(3,bx 34 (Df j q t))::W2 E e)) (fun((aD,V,X,l,j,q,t,E,e):(Int×Int)×u3×List u3×List Int×List o3×List ByteArray×List u3×List z6×List m5)=>True) H (by kernel_rfl) (fun _ h=>by obtain⟨_,_,rfl,he,ho⟩:=h; obtain⟨_,_,rfl,⟨aD,rfl,h1⟩,⟨_,_,rfl,⟨V,rfl,h2⟩,⟨_,_,rfl,⟨X,rfl,h3⟩,⟨_,_,rfl,rfl,⟨_,_,rfl,rfl,⟨_,_,rfl,rfl,⟨_,_,rfl,rfl,⟨_,_,rfl,rfl,rfl⟩⟩⟩⟩⟩⟩⟩⟩:=he; obtain⟨_,_,rfl,⟨_,rfl,⟨_,_,rfl,⟨l,rfl,h4⟩,⟨_,_,rfl,rfl,⟨_,_,rfl,rfl,rfl⟩⟩⟩⟩,⟨_,_,rfl,⟨_,rfl,⟨_,_,rfl,rfl,⟨_,_,rfl,⟨j,rfl,h5⟩,⟨_,_,rfl,⟨q,rfl,h6⟩,⟨_,_,rfl,⟨t,rfl,h7⟩,⟨_,_,rfl,rfl,rfl⟩⟩⟩⟩⟩⟩,⟨_,_,rfl,⟨E,rfl,h8⟩,⟨_,_,rfl,⟨e,rfl,h9⟩,⟨_,_,rfl,⟨_,rfl,⟨_,_,rfl,rfl,⟨_,_,rfl,rfl,⟨_,_,rfl,rfl,⟨_,_,rfl,rfl,⟨_,_,rfl,rfl,rfl⟩⟩⟩⟩⟩⟩,rfl⟩⟩⟩⟩⟩:=ho; exact⟨⟨aD,V,X,l,j,q,t,E,e⟩,⟨h1,h2,h3,h4,h5,h6,h7,h8,h9⟩,rfl⟩) (fun _=>by kernel_rfl) fun⟨aD,V,X,l,j,q,t,E,e⟩ H=>K3 H fun H=>fK<|n0 H
 exact vK<|fK<|n0 H
abbrev Qq(x:s9 [.io 122 m8]):Prop:=sd x.1
def Qr(r:j9×l6):AV:=AV.agg (Q2 r.1)
def IZ(r:j9×l6):B6 [.io 122 m8]:=r.2
def Vp:Prop:=kE prog 58 [.io 122 m8] Qq IY Qr IZ
def MA[Alw](a:Int×l6):Bool->Option Unit
 | d =>
 if d then
  gd (True/\Fx (a.2,(6:Int),true,()))<|Alw.alp (Z0 [Par.io 122 m8,Par.dat i64,Par.dat Ty.bool] GX Ha Q6) fun(b:(j9×l6)) =>
  gd (True) <|
  gd (IY (b.1,Q6 b))<|some ()
 else
  gd (True/\Fx (a.2,(6:Int),false,()))<|Alw.alp (Z0 [Par.io 122 m8,Par.dat i64,Par.dat Ty.bool] GX Ha Q6) fun(c:(j9×l6)) =>
  gd (True) <|
  gd (IY (c.1,Q6 c))<|some ()
def Qs[Alw](b:l6):Option Unit :=
 gd ((c9 b 12).isSome/\True)<|lt (vl (c9 b 12)) fun a =>
 if(a.1==0) then
  gd (True/\Qo (a.2,()))<|Alw.alp (Z0 [Par.io 122 m8] Qh Vn Mz) fun(c:(j9×l6)) =>
  gd (True) <|
  gd (IY (c.1,Mz c))<|some ()
 else
  if(a.1==1) then
   MA a (a.1==1)
  else
   MA a (a.1==2)
theorem e58[Alw](h61:My)(h118:Vo)(hF:∀x,Xv.wfs [.io 122 m8] x->Qq x->Qs x.1=some ()):Vp:=by
 refine GZ (f:=58) (ps:=[.io 122 m8]) (pre:=Qq) (post:=IY) (R:=Qr) (Z:=IZ) (F:=fun x=>Qs x.1) M1 [.cell 2 34] hF func58 ntmps58 rfl results58 (by kernel_rfl) rfl ?_;intro y ⟨_,_⟩ r H hB Q hn hr;have:=hz (tc F6 tn);refine iA [0,2]<|vQ<|qD (fun a=>Z [p 0 (R 500000),p 2 (R 2),p 4 (I a.1)] [(500000,K 122 m8 a.2),(2,bx 34 [nil,nil,nil,nil,nil])]) H fun a H=>vB<|iA [0,2,4,5]<|cD H (fun H=>vQ<|iE h118 1 [2] H fun e hp118 H=>K3 H fun H=>fQ<|j5<|m4<|fR<|hr (e.1,Mz e) (L7 H).1 (by kernel_rfl)) fun H=>jN r (fun(g:Bool)=>Z [p 0 (R 500000),p 2 (R 2),p 9 (B g)] [(500000,K 122 m8 a.2),(2,bx 34 [nil,nil,nil,nil,nil])]) (MA a) (fun g H=>?_) (fun _ d h i=>?_)
 ·refine cD H (fun H=>vQ<|iE h61 1 [2] H fun c hp61 H=>K3 H fun H=>fQ<|j5<|m4<|fR<|hr (c.1,Q6 c) (L7 H).1 (by kernel_rfl)) fun H=>vK<|fK<|fQ<|vQ<|iE h61 1 [2] H fun b hp61 H=>K3 H fun H=>fQ<|j5<|hr (b.1,Q6 b) (L7 H).1 (by kernel_rfl)
 refine iA [0,2,4,9]<|cD H (fun H=>vK<|d H) fun H=>jA [0,2,9]<|d H
abbrev Qt(x:s9 [.io 122 m8]):Prop:=sd x.1
def Vq(r:j9×p8×List Int×List m6×l6):AV:=AV.tup [AV.agg (Q2 r.1),AV.agg (Cp r.2.1.1 r.2.1.2.1 r.2.1.2.2.1 r.2.1.2.2.2.1 r.2.1.2.2.2.2),M i64 r.2.2.1,M y53 r.2.2.2.1]
def Vr(r:j9×p8×List Int×List m6×l6):B6 [.io 122 m8]:=r.2.2.2.2
def Vs:Prop:=kE prog 28 [.io 122 m8] Qt Qi Vq Vr
def Hb[Alw](e:List m5)(j:List o3)(d:List ByteArray)(g:List u3)(i:List z6)(k:p8×l6):List Int×List Int×Int×Int->Option Unit
 | (h,a,b,c) =>
 gd ((u64 (a,b,c) (e,(j,d,g),i)).isSome/\True)<|lt (vl (u64 (a,b,c) (e,(j,d,g),i))) fun f =>
 gd (Qi (((e,(j,d,g),i),k.1,h,f)))<|some ()
def MB[Alw](j:p8×l6):List m5×List o3×List ByteArray×List u3×List z6×List Int×Int×Int->Option Unit
 | (c,f,b,d,e,m,i,h) =>
 gd ((IL (m,i,h) (c,(f,b,d),e)).isSome/\True)<|lt (vl (IL (m,i,h) (c,(f,b,d),e))) fun a =>
 gd ((R5 (c,(f,b,d),e)).isSome/\True)<|if(vl (R5 (c,(f,b,d),e))&&(a.1.length:Int)==0) then
  gd ((c9 a.2 6).isSome/\True)<|gd (True) <|
  if(true&&decide (0 < (vl (c9 a.2 6)).1)) then
   gd ((Ft (c,(f,b,d),e)).isSome/\True)<|lt ((vl (Ft (c,(f,b,d),e)),vl (c9 a.2 6))) fun(l,g) =>
   Hb c f b d e j (l,g.2.1,g.2.2.1,g.2.2.2)
  else
   Hb c f b d e j ((a.1,(vl (c9 a.2 6)).2.1,(vl (c9 a.2 6)).2.2.1,(vl (c9 a.2 6)).2.2.2))
 else
  gd (True)<|gd (True) <|
  if(false&&false) then
   gd ((Ft (c,(f,b,d),e)).isSome/\True)<|lt (vl (Ft (c,(f,b,d),e))) fun k =>
   Hb c f b d e j (k,a.2.1,a.2.2.1,a.2.2.2)
  else
   Hb c f b d e j (a.1,a.2.1,a.2.2.1,a.2.2.2)
def Qu[Alw](e:l6):Option Unit :=
 gd (True/\Qq (e,()))<|Alw.alp (Z0 [Par.io 122 m8] IY Qr IZ) fun(b:(j9×l6)) =>
 gd (True) <|
 gd ((LQ (IZ b)).isSome/\True)<|lt (vl (LQ (IZ b))) fun d =>
 gd ((c9 d.2 3).isSome/\True)<|lt (vl (c9 d.2 3)) fun c =>
 if(c.1==0) then
  gd (True/\Fx (c.2,(5:Int),true,()))<|Alw.alp (Z0 [Par.io 122 m8,Par.dat i64,Par.dat Ty.bool] GX Ha Q6) fun(a:(j9×l6)) =>
  gd (True) <|
  MB d ((a.1.1,a.1.2.1.1,a.1.2.1.2.1,a.1.2.1.2.2,a.1.2.2,(Q6 a).1,(Q6 a).2.1,(Q6 a).2.2))
 else
  MB d (b.1.1,b.1.2.1.1,b.1.2.1.2.1,b.1.2.1.2.2,b.1.2.2,c.2.1,c.2.2.1,c.2.2.2)
theorem e28[Alw](h61:My)(h58:Vp)(hF:∀x,Xv.wfs [.io 122 m8] x->Qt x->Qu x.1=some ()):Vs:=by
 refine GZ (f:=28) (ps:=[.io 122 m8]) (pre:=Qt) (post:=Qi) (R:=Vq) (Z:=Vr) (F:=fun x=>Qu x.1) M1 [.cell 2 34,.cell 3 36,.tmp 4,.tmp 5] hF func28 ntmps28 rfl results28 (by kernel_rfl) rfl ?_;intro y ⟨_,_⟩ r H hB Q hn hr;have:=hz (tc o64 (tc o63 (tc F6 (tc Ix (tc o62 (tc o59 tn))))));refine iA [0,2,3]<|vQ<|iE h58 1 [0,2,3,6] H fun z hp58 H=>K3 H fun H=>fQ<|qD (fun b=>Z (G4 []) ((7,bx 36 (r5 true r7 b.1))::(500000,K 122 m8 b.2)::(6,bx 34 (Q2 z.1))::W1)) H fun b H=>jN r (fun((d,h,e,c,g,G,q,o):List m5×List o3×List ByteArray×List u3×List z6×List Int×Int×Int)=>Z (G4 []) ((6,bx 34 (BE d h e c g))::(500000,bx 122 [L b8 G,J q,J o])::(7,bx 36 (r5 true r7 b.1))::W1)) (MB b) (fun⟨d,h,e,c,g,G,q,o⟩ H=>?_) (fun _ E T P=>?_)
 ·refine qD (fun a=>Z (G4 [p 8 (O 20)]) ((20,A 2 i64 a.1 0)::(500000,K 122 m8 a.2)::(6,bx 34 (BE d h e c g))::(7,bx 36 (r5 true r7 b.1))::W1)) H fun a H=>jN r (fun((j,u,s,t):List Int×List Int×Int×Int)=>Z (G4 [p 8 (M i64 j)]) ((500000,bx 122 (A8 u s t))::(6,bx 34 (BE d h e c g))::(7,bx 36 (r5 true r7 b.1))::W1)) (Hb d h e c g b) (fun⟨j,u,s,t⟩ H=>?_) (fun _ v V W=>?_)
  ·refine qD (fun i=>Z (G7 [p 4 (M i64 j),p 5 (O 40)]) [(3,bx 36 (r5 true r7 b.1)),(2,bx 34 (BE d h e c g)),(40,A 53 y53 i.1 0),(500000,K 122 m8 i.2),(6,bx 34 (BE d h e c g)),(7,bx 36 (r5 true r7 b.1))]) H fun i H=>j5<|hr (((d,(h,e,c),g),b.1,j,i)) (L7 H).1 (by kernel_rfl)
  refine vQ<|Vc<|Qd 8 3 [(29,AV.ptr 500000 0),(30,I 0),(31,B false)] H (fun H=>K3 H fun H=>?_) (fun H=>K3 H fun H=>?_)
  ·refine IX [0,2,3,6,7,8,32] H fun H=>fQ<|cD H (fun H=>?_) (fun H=>?_)
   ·refine zD (fun(n,m)=>Z (G4 [p 8 (O 34)]) ((34,A 2 i64 n 0)::(500000,K 122 m8 m.2)::(20,A 2 i64 a.1 0)::(6,bx 34 (BE d h e c g))::(7,bx 36 (r5 true r7 b.1))::W1)) H fun⟨n,m⟩ H =>
     CD 34 (Z (G4 [p 8 (M i64 n)]) ((500000,K 122 m8 m.2)::(20,A 2 i64 a.1 0)::(6,bx 34 (BE d h e c g))::(7,bx 36 (r5 true r7 b.1))::W1)) (by kernel_rfl) rfl<|v H
   exact vK<|CD 20 (Z (G4 [p 8 (M i64 a.1),p 32 (B (true&&decide (0 < (vl (c9 a.2 6)).1)))]) ((500000,bx 122 (r5 false m8 (vl (c9 a.2 6)).2))::(6,bx 34 (BE d h e c g))::(7,bx 36 (r5 true r7 b.1))::W1)) (by kernel_rfl) rfl<|v H
  refine IX [0,2,3,6,7,8,32] H fun H=>fQ<|cD H (fun H=>zD (fun l=>Z (G4 [p 8 (O 34)]) ((34,A 2 i64 l 0)::(20,A 2 i64 a.1 0)::(500000,K 122 m8 a.2)::(6,bx 34 (BE d h e c g))::(7,bx 36 (r5 true r7 b.1))::W1)) H fun l H=>CD 34 (Z (G4 [p 8 (M i64 l)]) ((20,A 2 i64 a.1 0)::(500000,K 122 m8 a.2)::(6,bx 34 (BE d h e c g))::(7,bx 36 (r5 true r7 b.1))::W1)) (by kernel_rfl) rfl<|v H) fun H=>vK<|CD 20 (Z (G4 [p 8 (M i64 a.1),p 32 (B (false&&false))]) ((500000,K 122 m8 a.2)::(6,bx 34 (BE d h e c g))::(7,bx 36 (r5 true r7 b.1))::W1)) (by kernel_rfl) rfl<|v H
 refine qD (fun w=>Z (G4 [p 15 (B (w.1==0))]) ((500000,K 122 m8 w.2)::(7,bx 36 (r5 true r7 b.1))::(6,bx 34 (Q2 z.1))::W1)) H fun w H=>cD H (fun H=>iE h61 1 [0,2,3,6,7] H fun k hp61 H=>K3 H fun H=>CD 17 (Z (G4 []) ((6,bx 34 [L y64 k.1.1,M y139 k.1.2.1.1,M Ty.str k.1.2.1.2.1,M y202 k.1.2.1.2.2,AV.os 1017 0])::(1017,A 153 l7 k.1.2.2 0)::(500000,bx 122 (r5 false m8 (Q6 k)))::(7,bx 36 (r5 true r7 b.1))::W1)) (by kernel_rfl) rfl<|CD 1017 (Z (G4 []) ((6,bx 34 (Q2 k.1))::(500000,bx 122 (r5 false m8 (Q6 k)))::(7,bx 36 (r5 true r7 b.1))::W1)) (by kernel_rfl) rfl<|E H) fun H=>vK<|E H
abbrev P8(x:s9 [.dat (b8.sl)]):Prop:=True
def R8(r:j9×p8×List Int×List m6):AV:=AV.tup [AV.agg (Q2 r.1),AV.agg (Cp r.2.1.1 r.2.1.2.1 r.2.1.2.2.1 r.2.1.2.2.2.1 r.2.1.2.2.2.2),M i64 r.2.2.1,M y53 r.2.2.2]
def Z8(r:j9×p8×List Int×List m6):B6 [.dat (b8.sl)]:=()
def K8:Prop:=kE prog 8 [.dat (b8.sl)] P8 T8 R8 Z8
def u8[Alw](b:List Int):Option Unit :=
 gd ((LP b).isSome/\True)<|lt (vl (LP b)) fun c =>
 gd (True/\Qt (c,()))<|Alw.alp (Z0 [Par.io 122 m8] Qi Vq Vr) fun(a:(j9×p8×List Int×List m6×l6)) =>
 gd (True) <|
 gd (T8 (a.1,a.2.1,a.2.2.1,a.2.2.2.1))<|some ()
theorem e8[Alw](h28:Vs)(hF:∀x,Xv.wfs [.dat (b8.sl)] x->P8 x->u8 x.1=some ()):K8:=by
 refine GZ (f:=8) (ps:=[.dat (b8.sl)]) (pre:=P8) (post:=T8) (R:=R8) (Z:=Z8) (F:=fun x=>u8 x.1) M1 [.cell 2 34,.cell 3 36,.tmp 4,.tmp 5] hF func8 ntmps8 rfl results8 (by kernel_rfl) rfl ?_;intro y ⟨_,_⟩ r H hB Q hn hr;have:=hz (tc o27 tn);refine iA [0,2,3]<|qD (fun a=>Z (G7 [p 6 (R 8)]) ((8,bx 122 [L b8 a.1,I a.2.1,I a.2.2])::W1)) H fun a H=>vQ<|iE h28 1 [2,3,4,5] H fun b hp28 H=>K3 H fun H=>fQ<|j5<|hr (b.1,b.2.1,b.2.2.1,b.2.2.2.1) (L7 H).1 (by kernel_rfl)
def Vt[Alw](c:C3×Int)(a:C3×Int):List r8->Option Bool
 | b =>
 gd ((Dn (c.1.1,b,c.1.2.2) a.1).isSome/\True) <|
 some (vl (Dn (c.1.1,b,c.1.2.2) a.1))
def MC[Alw](a:Int)(c:Int×List r8->Option Bool):List r8->Option Bool
 | b =>
 gd (j0 (a+1)/\True) <|
 c (a+1,b)
def Vu[Alw](d:Int×AB)(c:C3×Int)(f:C3×Int)(g:Int×List r8->Option Bool):Int×List r8->Option Bool
 | (a,b) =>
 if(decide (a < (c.1.1.length:Int))) then
  gd (ix a c.1.1.length/\a.toNat<c.1.1.length/\True) <|
  if(c.1.1.getD a.toNat false) then
   gd (ix a b.length/\a.toNat<b.length/\j0 ((b.getD a.toNat (a6 y51)).1+(d.1-500))/\ix a b.length/\a.toNat<b.length/\j0 ((b.getD a.toNat (a6 y51)).2+(d.1-500))/\ix a b.length/\a.toNat<b.length/\True)<|lt (b.set a.toNat ((b.getD a.toNat (a6 y51)).1+(d.1-500),(b.getD a.toNat (a6 y51)).2+(d.1-500))) fun e =>
   MC a g e
  else
   MC a g b
 else
  Vt c f b
def Qv[Alw](d:Int×AB)(e:C3×Int)(c:j9×p8×List Int×List m6):List m6->Option Bool
 | b =>
 gd ((u9 c.1 c.2.1 c.2.2.1 b).isSome/\True)<|lt (vl (u9 c.1 c.2.1 c.2.2.1 b)) fun a =>
 gd ((LJ c.1 b).isSome/\True) <|
 if(!vl (LJ c.1 b)) then
  some (a.2==2)
 else
  if(a.2 != 0) then
   some (a.2==3&&decide (0<d.1-500))
  else
   lp (Vu d e a) (0,e.1.2.1)
def Vv[Alw](b:Int×AB)(e:j9×p8×List Int×List m6)(h:C3×Int)(g:Int×List m6->Option Bool):Int×List m6->Option Bool
 | (c,d) =>
 if(decide (c < (e.2.2.2.length:Int))) then
  gd (ix c e.2.2.2.length/\True)<|lt (e.2.2.2.getD c.toNat (a6 y53)) fun a =>
  gd (j0 (a.2.1.1+(b.1-500))/\j0 (a.2.1.2+(b.1-500))/\(d.length+[(a.1,(a.2.1.1+(b.1-500),a.2.1.2+(b.1-500)),a.2.2)].length<=9223372036854775807/\(d.length+[(a.1,(a.2.1.1+(b.1-500),a.2.1.2+(b.1-500)),a.2.2)].length)*40<=140737488355328)/\True)<|lt ((d++[(a.1,(a.2.1.1+(b.1-500),a.2.1.2+(b.1-500)),a.2.2)],[(a.1,(a.2.1.1+(b.1-500),a.2.1.2+(b.1-500)),a.2.2)])) fun(f,_) =>
  gd (j0 (c+1)/\True) <|
  g (c+1,f)
 else
  Qv b h e d
def u4[Alw](c:List Int):Option Bool :=
 gd ((u7 c).isSome/\True) <|
 if(vl (u7 c)) then
  some true
 else
  gd ((LG c 6104).isSome/\True)<|lt (vl (LG c 6104)) fun e =>
  gd (True/\P8 (c,()))<|Alw.alp (Z0 [Par.dat b8.sl] T8 R8 Z8) fun(a:(j9×p8×List Int×List m6)) =>
  gd (True) <|
  gd ((u9 a.1 a.2.1 a.2.2.1 a.2.2.2).isSome/\True)<|lt (vl (u9 a.1 a.2.1 a.2.2.1 a.2.2.2)) fun b =>
  gd ((Mp a.1 a.2.1 a.2.2.1 a.2.2.2).isSome/\True)<|lt (vl (Mp a.1 a.2.1 a.2.2.1 a.2.2.2)) fun d =>
  gd (((b.2 != d.2)=false/\True->(Dn b.1 d.1).isSome)/\True) <|
  if(b.2 != d.2||!vl (Dn b.1 d.1)) then
   some false
  else
   if(b.2 != 0) then
    some true
   else
    gd ((u16 e 1000).isSome/\j0 ((vl (u16 e 1000)).1-500)/\True)<|lt (vl (u16 e 1000)) fun f =>
    lp (Vv f a b) (0,[])
def k4[Alw]:Ct:=k6 4 [.dat (b8.sl)] (fun x=>u4 x.1) (fun r:Bool=>B r) (fun _=>())
theorem o4[Alw](h8:K8):Ok prog k4:=by
 refine l5 [.tmp 2] func4 ?_;intro y ⟨_,_⟩ r H Q hn hr;have:=hz (tc o11 (tc o17 (tc o9 (tc o16 (tc o10 (tc o15 (tc o7 tn)))))));refine iA [0]<|vQ<|iB [0,20] H fun H=>cD H (fun H=>iA [2]<|j5<|fR<|hr H) fun H=>vK<|fQ<|iD o15 [0,3] H fun _ H=>vQ<|iE h8 1 [3,4,5,6,7] H fun c hp8 H=>K3 H fun H=>fQ<|iD o9 [3,4,5,6,7,8,9] H fun b H=>vQ<|iD o10 [3,4,5,6,7,8,9,10,11] H fun _ H=>iB [3,4,5,6,7,8,9,54] H fun H=>cD H (fun H=>iA [2]<|j5<|fR<|hr H) fun H=>vK<|fQ<|vQ<|iA [3,4,5,6,7,8,56]<|cD H (fun H=>iA [2]<|j5<|fR<|hr H) fun H=>vK<|fQ<|iD o16 [4,5,6,7,8,12] H fun e H=>iA [4,5,6,7,8,12,13]<|jN r (fun(m:List m6)=>Z [p 4 (R 4),p 5 (R 5),p 6 (M i64 c.2.2.1),p 8 (R 8),p 12 (I (e.1-500)),p 13 (O 60)] [(60,A 53 y53 m 0),(8,bx 44 [AV.os 35 0,AV.os 1035 0,AV.os 2035 0]),(2035,A 51 y51 b.1.2.2 0),(1035,A 51 y51 b.1.2.1 0),(35,A 4 Ty.bool b.1.1 0),(5,bx 36 (r5 true r7 c.2.1)),(4,bx 34 (Q2 c.1))]) (Qv e b c) (fun m H=>?_) (fun _ w T P=>?_)
 ·refine iD o9 [4,8,12,13,16,17] H fun a H=>vQ<|iB [8,12,16,17,101] H fun H=>cD H (fun H=>iA [2]<|j5<|fR<|hr H) fun H=>vK<|fQ<|vQ<|iA [8,12,16,17,105]<|cD H (fun H=>iA [2]<|j5<|fR<|hr H) fun H=>vK<|fQ<|jN r (fun(k:List r8)=>Z [p 8 (R 8),p 16 (R 16)] [(16,bx 44 [AV.os 95 0,AV.os 1095 0,AV.os 2095 0]),(2095,A 51 y51 a.1.2.2 0),(1095,A 51 y51 a.1.2.1 0),(95,A 4 Ty.bool a.1.1 0),(8,bx 44 [AV.os 35 0,AV.os 1035 0,AV.os 2035 0]),(2035,A 51 y51 b.1.2.2 0),(1035,A 51 y51 k 0),(35,A 4 Ty.bool b.1.1 0)]) (Vt b a) (fun k H=>?_) (fun _ s V F=>?_)
  ·refine iB [2] H fun H=>j5<|hr H
  refine iA [8,12,16,18]<|vB<|lX (fun((d,i):Int×List r8)=>Z [p 8 (R 8),p 12 (I (e.1-500)),p 16 (R 16),p 18 (I d)] [(16,bx 44 [AV.os 95 0,AV.os 1095 0,AV.os 2095 0]),(2095,A 51 y51 a.1.2.2 0),(1095,A 51 y51 a.1.2.1 0),(95,A 4 Ty.bool a.1.1 0),(8,bx 44 [AV.os 35 0,AV.os 1035 0,AV.os 2035 0]),(2035,A 51 y51 b.1.2.2 0),(1035,A 51 y51 i 0),(35,A 4 Ty.bool b.1.1 0)]) (0,b.1.2.1) H fun _ t v x W ⟨d,i⟩ H=>vQ<|iA [8,12,16,18,116]<|cD H (fun H=>?_) (fun H=>?_)
  ·refine vK<|fQ<|jN r (fun(g:List r8)=>Z [p 8 (R 8),p 12 (I (e.1-500)),p 16 (R 16),p 18 (I d)] [(1035,A 51 y51 g 0),(16,bx 44 [AV.os 95 0,AV.os 1095 0,AV.os 2095 0]),(2095,A 51 y51 a.1.2.2 0),(1095,A 51 y51 a.1.2.1 0),(95,A 4 Ty.bool a.1.1 0),(8,bx 44 [AV.os 35 0,AV.os 1035 0,AV.os 2035 0]),(2035,A 51 y51 b.1.2.2 0),(35,A 4 Ty.bool b.1.1 0)]) (MC d t) (fun g H=>?_) (fun _ q E G=>?_)
   ·refine jB [8,12,16,18] H fun H=>v H
   refine vB<|iB [8,12,16,18,123] H fun H=>cD H (fun H=>zD (fun j=>Z [p 8 (R 8),p 12 (I (e.1-500)),p 16 (R 16),p 18 (I d)] [(1035,A 51 y51 j 0),(16,bx 44 [AV.os 95 0,AV.os 1095 0,AV.os 2095 0]),(2095,A 51 y51 a.1.2.2 0),(1095,A 51 y51 a.1.2.1 0),(95,A 4 Ty.bool a.1.1 0),(8,bx 44 [AV.os 35 0,AV.os 1035 0,AV.os 2035 0]),(2035,A 51 y51 b.1.2.2 0),(35,A 4 Ty.bool b.1.1 0)]) H fun j H=>fK<|q H) fun H=>vK<|fK<|q H
  exact vE<|fE<|x<|fX rfl<|s H
 refine iA [4,5,6,7,8,12,13,14]<|vB<|lX (fun((n,o):Int×List m6)=>Z [p 4 (R 4),p 5 (R 5),p 6 (M i64 c.2.2.1),p 7 (M y53 c.2.2.2),p 8 (R 8),p 12 (I (e.1-500)),p 13 (O 60),p 14 (I n)] [(60,A 53 y53 o 0),(8,bx 44 [AV.os 35 0,AV.os 1035 0,AV.os 2035 0]),(2035,A 51 y51 b.1.2.2 0),(1035,A 51 y51 b.1.2.1 0),(35,A 4 Ty.bool b.1.1 0),(5,bx 36 (r5 true r7 c.2.1)),(4,bx 34 (Q2 c.1))]) (0,[]) H fun _ Y z u X ⟨n,o⟩ H=>vQ<|iA [4,5,6,7,8,12,13,14,64]<|cD H (fun H=>?_) (fun H=>?_)
 ·refine vK<|fQ<|vQ<|vB<|qD (fun f=>Z [p 4 (R 4),p 5 (R 5),p 6 (M i64 c.2.2.1),p 7 (M y53 c.2.2.2),p 8 (R 8),p 12 (I (e.1-500)),p 13 (O 60),p 14 (I n),p 15 (R 15)] [(15,bx 53 (r5 true y53 f)),(60,A 53 y53 o 0),(8,bx 44 [AV.os 35 0,AV.os 1035 0,AV.os 2035 0]),(2035,A 51 y51 b.1.2.2 0),(1035,A 51 y51 b.1.2.1 0),(35,A 4 Ty.bool b.1.1 0),(5,bx 36 (r5 true r7 c.2.1)),(4,bx 34 (Q2 c.1))]) H fun f H=>zD (fun(h,l)=>Z [p 4 (R 4),p 5 (R 5),p 6 (M i64 c.2.2.1),p 7 (M y53 c.2.2.2),p 8 (R 8),p 12 (I (e.1-500)),p 13 (AV.os 60 1),p 14 (I n)] [(60,A 53 y53 h 1),(88,A 53 y53 l 0),(15,bx 53 (r5 true y53 f)),(8,bx 44 [AV.os 35 0,AV.os 1035 0,AV.os 2035 0]),(2035,A 51 y51 b.1.2.2 0),(1035,A 51 y51 b.1.2.1 0),(35,A 4 Ty.bool b.1.1 0),(5,bx 36 (r5 true r7 c.2.1)),(4,bx 34 (Q2 c.1))]) H fun⟨h,l⟩ H =>
   fK<|fQ <|
   jB [4,5,6,7,8,12,13,14] H fun H =>
   z H
 exact vE<|fE<|u<|fX rfl<|w H
end Go.Proofs.YtdjgagoledoaaaaGreatDoor
end
