/- A node's values: both ways say the same. -/
import Derived.Test.YtdjgagoledoaaaaGreatDoorWB
import Derived.Test.YtdjgagoledoaaaaGreatDoorF84c
set_option maxHeartbeats 0
section
namespace Go.Proofs.YtdjgagoledoaaaaGreatDoor
open Go Go.Proofs Go.Proofs.Sv Go.Proofs.Xv Go.Proofs.Xl Go.Proofs.Xd
theorem E0t{a:Type}(q:a->Bool)(d:a)(l:List a):l.find? q=((List.range l.length).find? fun i=>q (l.getD i d)).map fun i=>l.getD i d:=by
 cases h:(List.range l.length).find? fun i=>q (l.getD i d) with
 | none =>
   rw[List.find?_eq_none] at h;refine List.find?_eq_none.2 fun x b=>?_;obtain⟨i,hi,rfl⟩:=List.mem_iff_getElem.1 b
   simp_all
 | some i =>
   grind[List.find?_range_eq_some,hi,List.find?_eq_some_iff_getElem,List.getElem?_eq_getElem]
theorem y0v(l:List m6)(v:Nat)(c:l.length<=9223372036854775807):PV l (v:Int)=some (match(List.range l.length).find? (fun i=>(l.getD i (a6 y53)).1==(v:Int)) with | some i=>(i:Int) | none => -1):=by
 have a:=JD c (fun i=>(l.getD i (a6 y53)).1==(v:Int)) (fun i=>some (i:Int)) (e:=some (-1)) (F:=j0P l (v:Int)) 0 (Nat.zero_le _) (fun g i _ hi=>by
  have d:((i:Int)).toNat=i:=rfl;refine(if_pos (decide_eq_true (by omega))).trans ?_;rw[d];refine(gP ⟨oo,rfl,trivial⟩).trans ?_;show(if((l.getD i (a6 y53)).1==(v:Int))=true then _ else _)=_;by_cases b:((l.getD i (a6 y53)).1==(v:Int))=true
  ·simp_all
  ·rw[if_neg b,if_neg b];exact gP ⟨oo,trivial⟩) (fun g=>if_neg (by simp))
 rw[Nat.sub_zero,<- List.range_eq_range'] at a;refine Eq.trans a ?_
 grind
def L0X(v:Nat)(o:Option o6):m6×Bool:=match o with
 | some x=>(((v:Int),x.1,x.2),true)
 | none=>((0,(0,0),0,0),false)
theorem r96(l:List m6)(v:Nat)(b:l.length<=9223372036854775807):Mc l (v:Int)=some (L0X v (I5 l v)):=by
 unfold Mc;rw[y0v l v b,vS,gP ⟨rfl,trivial⟩,lE];unfold I5;rw[E0t _ (a6 y53)];cases h:(List.range l.length).find? fun i=>(l.getD i (a6 y53)).1==(v:Int) with
 | none=>rfl
 | some i =>
   rw[List.find?_range_eq_some] at h;obtain⟨a,c,-⟩:=h;have hi:=List.mem_range.1 c;have d:((i:Int)).toNat=i:=rfl;have a:(l.getD i (a6 y53)).1=(v:Int):=by simpa using a
   show(if decide ((0:Int)<=(i:Int))=true then _ else _)=_;refine(if_pos (decide_eq_true (by omega))).trans ?_;show gd (ix (i:Int) l.length/\True) _=_;rw[d];refine(gP ⟨oo,trivial⟩).trans ?_;rw[lE];show some (l.getD i (a6 y53),true)=some (((v:Int),(l.getD i (a6 y53)).2.1,(l.getD i (a6 y53)).2.2),true)
   grind
def By(v:Nat)(o:Option o6):Bool×m6:=match o with
 | some x=>(true,(v:Int),x.1,x.2)
 | none=>(false,0,(0,0),0,0)
def M5(v:Nat)(o:Option o6):m6×Bool:=match o with
 | some x=>(((v:Int),x.1,x.2),true)
 | none=>(((v:Int),(0,0),0,0),false)
theorem I0o(v:Nat)(o:Option o6)(x:o6):Fv (M5 v o).1 (M5 v o).2 x.1 x.2=some (M5 v (Bv o x)):=by
 cases o with
 | none=>rfl
 | some y =>
   unfold Fv;exact(if_neg (by simp[M5])).trans ((gP ⟨rfl,rfl,trivial⟩).trans rfl)
section
variable {b:j9}
theorem C0g{t:JB}{v:Nat}:BY t v=if t.1.getD v false=true then some (t.2.1.getD v (0,0),t.2.2.getD v (0,0)) else none:=rfl
theorem L0L(s:wf l9 b)(u:cnt l9 b<=1048576)(a:p9 b=true){c:p8}(d:wf r7 c)(w:G8 c=true){br:List Int}{ss:List m6}(G:ss.length<=9223372036854775807){t:JB}(l:JF (j7 b) t)(v:Nat) :
  IU (o5 b,D6 (lV b).length br) c ss t (v:Int)=some (By v (T6 b c br ss (BY t) v)):=by
 have hM:=Q8 a;have r:=Ra (lV b).length br;unfold IU;rw[r96 ss v G,vS,gP ⟨rfl,trivial⟩,lE];have f:∀o,Mr t (o5 b,D6 (lV b).length br) c (v:Int) ((M5 v o).1.1,(M5 v o).1.2.1.1,(M5 v o).1.2.1.2,(M5 v o).1.2.2.1,(M5 v o).1.2.2.2,(M5 v o).2)=some (By v (fN (Bw (o8 b) (p7 b) (J2 b br) (D7 b c) (BY t) v) (lV b).length o)):=by
  intro o;rw[Mr,r98 a r v,vS,gP ⟨rfl,trivial⟩,lE];obtain⟨q1,Q⟩:=FP (fun i=>J2 b br i&&p7 b i==v) (lV b).length;refine(lF (n:=(I1 (fun i=>J2 b br i&&p7 b i==v) (lV b).length).length) (by omega) (fun i (o:Option o6)=>((i:Int),(M5 v o).1.1,(M5 v o).1.2.1.1,(M5 v o).1.2.1.2,(M5 v o).1.2.2.1,(M5 v o).1.2.2.2,(M5 v o).2)) (fun i o=>match BY t (o8 b (((List.range (lV b).length).filter fun i=>J2 b br i&&p7 b i==v).getD i 0)) with
   | none=>o
   | some x=>Bv o (L0 x.1 (D7 b c (((List.range (lV b).length).filter fun i=>J2 b br i&&p7 b i==v).getD i 0) x.2).1,(D7 b c (((List.range (lV b).length).filter fun i=>J2 b br i&&p7 b i==v).getD i 0) x.2).2)) (fun _ _=>True) (J:=fun o=>some (By v o)) (F:=G0B t (o5 b,D6 (lV b).length br) c (I1 (fun i=>J2 b br i&&p7 b i==v) (lV b).length)) (fun g i o hi _=>?_) (fun _ _ _ _=>trivial) (fun g o _=>?_) o trivial).trans ?_
  ·have X:((i:Int)).toNat=i:=rfl;have j:=Nn (p:=fun i=>J2 b br i&&p7 b i==v) (M:=(lV b).length) (i:=i) (by omega);refine(if_pos (decide_eq_true (by omega))).trans ?_;rw[X];refine(gP ⟨oo,by omega,trivial⟩).trans ?_;rw[WU];generalize ((List.range (lV b).length).filter fun i=>J2 b br i&&p7 b i==v).getD i 0=k at j;have y:Int.toNat ((k:Nat):Int)=k:=rfl;obtain⟨P,f2,z,f4⟩:=N2 b a j;have hx:ix ((k:Nat):Int) (o5 b).2.2.1.length:=⟨by omega,by show((k:Nat):Int) < ((lV b).length:Int); omega⟩;refine(gP ⟨hx,trivial⟩).trans ?_;rw[lE,y];have V:((o5 b).2.2.1.getD k (a6 y80)).1=(o8 b k:Int):=P;have T:Int.toNat ((o8 b k:Nat):Int)=o8 b k:=rfl;have q:=l.vals _ z;have n1:=l.l1;have n2:=l.l2;have n3:=l.l3;rw[V];refine(gP ⟨oo,trivial⟩).trans ?_;rw[T];rw[C0g];by_cases h:t.1.getD (o8 b k) false=true
   ·rw[if_pos h,if_pos h];obtain⟨_,_,_,e⟩:=WZ s u a d w j;have H:=(e _ q.2.1).2;have ok:=Nq s u a d w j q.2.1;have Y:=JE.1 q.1;rw[show t.2.2.getD (o8 b k) (a6 y51)=t.2.2.getD (o8 b k) (0,0) from rfl,H,vS];refine(gP ⟨oo,rfl,trivial⟩).trans ?_;rw[lE];have E:Dr (t.2.1.getD (o8 b k) (a6 y51)) (D7 b c k (t.2.2.getD (o8 b k) (0,0))).1=some (L0 (t.2.1.getD (o8 b k) (0,0)) (D7 b c k (t.2.2.getD (o8 b k) (0,0))).1):=by
     unfold Dr;refine(gP ⟨⟨?_,?_⟩,⟨?_,?_⟩,trivial⟩).trans rfl
     ·grind
     ·grind
     ·grind
     ·grind
    rw[E,vS];have W:=I0o v o (L0 (t.2.1.getD (o8 b k) (0,0)) (D7 b c k (t.2.2.getD (o8 b k) (0,0))).1,(D7 b c k (t.2.2.getD (o8 b k) (0,0))).2);have m:Fv ((M5 v o).1.1,((M5 v o).1.2.1.1,(M5 v o).1.2.1.2),(M5 v o).1.2.2.1,(M5 v o).1.2.2.2) (M5 v o).2 (L0 (t.2.1.getD (o8 b k) (0,0)) (D7 b c k (t.2.2.getD (o8 b k) (0,0))).1) (D7 b c k (t.2.2.getD (o8 b k) (0,0))).2=some (M5 v (Bv o (L0 (t.2.1.getD (o8 b k) (0,0)) (D7 b c k (t.2.2.getD (o8 b k) (0,0))).1,(D7 b c k (t.2.2.getD (o8 b k) (0,0))).2))):=W;simp only[m,vS,Option.isSome_some];refine(gP ⟨⟨oo,trivial,trivial⟩,trivial,trivial⟩).trans ?_;rw[lE];refine(gP trivial).trans ?_;exact gP ⟨oo,trivial⟩
   ·rw[if_neg h,if_neg h];exact gP ⟨oo,trivial⟩
  ·refine(if_neg (by simp)).trans ?_;cases o <;> rfl
  ·rw[Q];exact congrArg (fun x=>some (By v x)) (s0s (fun i=>J2 b br i&&p7 b i==v) (fun k (o:Option o6)=>match BY t (o8 b k) with
    | none=>o
    | some x=>Bv o (L0 x.1 (D7 b c k x.2).1,(D7 b c k x.2).2)) (lV b).length o)
 show(if(L0X v (I5 ss v)).2=true then _ else _)=some (By v (fN (Bw (o8 b) (p7 b) (J2 b br) (D7 b c) (BY t) v) (lV b).length (I5 ss v)));cases Y:I5 ss v with
 | none=>exact f none
 | some x =>
   refine(if_pos rfl).trans ?_;refine(gP ⟨trivial,rfl,trivial⟩).trans ?_;rw[lE];refine(gP trivial).trans ?_;exact f (some x)
end
def P6(v i:Nat)(o:Option o6):Bool×Int×Int×Int×Int×Int×Int:=match o with
 | some x=>(true,(i:Int),(v:Int),x.1.1,x.1.2,x.2.1,x.2.2)
 | none=>(false,(i:Int),0,0,0,0,0)
section
variable {b:j9}
theorem x0Q(i:wf l9 b)(m:cnt l9 b<=1048576)(d:p9 b=true){c:p8}(a:wf r7 c)(h:G8 c=true){k:Nat}(j:k < (lV b).length){sp:Sp}(f:A6 sp=true):Iu b c ((lV b).getD k (a6 y80)) sp=some (D7 b c k sp):=by
 obtain⟨v,g,l⟩:=s0A i d h (WY j) sp f;obtain⟨_,_,_,e⟩:=WZ i m d a h j;rw[(e sp f).2] at g;cases g;exact l
theorem I0h(hw:wf l9 b)(hm:cnt l9 b<=1048576)(z:p9 b=true){c:p8}(s:wf r7 c)(hc:G8 c=true){br:List Int}{ss:List m6}(hl:ss.length<=9223372036854775807)(hi:Hz ss){t:JB}(E:JF (j7 b) t)(v:Nat) :
  IS b c (lV b) (D6 (lV b).length br) ss t (v:Int)=some (By v (T6 b c br ss (BY t) v)):=by
 have hM:=Q8 z;have aA:=Ra (lV b).length br;have X:∀o,IQ (v:Int) t b c (D6 (lV b).length br) (lV b) ((P6 v 0 o).1,(P6 v 0 o).2.2)=some (By v (fN (Bw (o8 b) (p7 b) (J2 b br) (D7 b c) (BY t) v) (lV b).length o)):=by
  intro o;rw[IQ];have e0:((P6 v 0 o).1,(0:Int),(P6 v 0 o).2.2.1,(P6 v 0 o).2.2.2.1,(P6 v 0 o).2.2.2.2.1,(P6 v 0 o).2.2.2.2.2.1,(P6 v 0 o).2.2.2.2.2.2)=P6 v 0 o:=by cases o <;> rfl
  rw[e0];refine lF (n:=(lV b).length) (by omega) (fun i o=>P6 v i o) (fun k o=>Bw (o8 b) (p7 b) (J2 b br) (D7 b c) (BY t) v k o) (fun _ _=>True) (J:=fun o=>some (By v o)) (F:=F0Y (v:Int) t b c (D6 (lV b).length br) (lV b)) (fun g k o Q _=>?_) (fun _ _ _ _=>trivial) (fun g o _=>?_) o trivial
  ·have G:Int.toNat ((k:Nat):Int)=k:=rfl;obtain⟨f1,f2,f3,f4⟩:=N2 b z Q;have T:=E.vals _ f3;have n1:=E.l1;have n2:=E.l2;have n3:=E.l3;have e6:Int.toNat ((o8 b k:Nat):Int)=o8 b k:=rfl;have a:∀(q:Bool) (P W Y V x5:Int) (y:Option o6),P6 v (k+1) y=(q,(k:Int)+1,P,W,Y,V,x5)->IP (k:Int) g (q,P,W,Y,V,x5)=g (P6 v (k+1) y):=fun q P W Y V x5 y e=>by
    rw[e];exact gP ⟨oo,trivial⟩
   obtain⟨q,w,m,u,r,x,d⟩:∃q w m u r x,P6 v k o=(q,(k:Int),w,m,u,r,x):=by cases o <;> exact⟨_,_,_,_,_,_,rfl⟩
   rw[d];refine(if_pos (decide_eq_true (by omega))).trans ?_;refine(gP ⟨oo,trivial⟩).trans ?_;rw[lE,G];have ne:(((lV b).getD k (a6 y80)).2.1 != (v:Int))=!(p7 b k==v):=by
    rw[f2];by_cases h:p7 b k=v
    ·rw[h,bne_self_eq_false,beq_self_eq_true];rfl
    ·have H:((p7 b k:Nat):Int)≠(v:Int):=by omega
     rw[bne_iff_ne.2 H,beq_eq_false_iff_ne.2 h];rfl
   rw[ne,f1,e6];refine(gP ⟨oo,(fun _=>oo),trivial⟩).trans ?_;show(if(!J2 b br k||!(p7 b k==v)||!t.1.getD (o8 b k) false)=true then _ else _)=_;unfold Bw;by_cases l:(J2 b br k&&p7 b k==v)=true
   ·rw[if_pos l,C0g];rw[ba] at l;rw[l.1,l.2];by_cases j:t.1.getD (o8 b k) false=true
    ·rw[if_pos j,j];rw[if_neg (by simp)];have es:=x0Q hw hm z s hc Q T.2.1;have ok:=Nq hw hm z s hc Q T.2.1;have hs:=JE.1 T.1;rw[show t.2.2.getD (o8 b k) (a6 y51)=t.2.2.getD (o8 b k) (0,0) from rfl,show t.2.1.getD (o8 b k) (a6 y51)=t.2.1.getD (o8 b k) (0,0) from rfl,es,vS];refine(gP ⟨oo,rfl,trivial⟩).trans ?_;rw[lE];refine(gP ⟨oo,oo,oo,oo,trivial⟩).trans ?_;show _=g (P6 v (k+1) (Bv o (L0 (t.2.1.getD (o8 b k) (0,0)) (D7 b c k (t.2.2.getD (o8 b k) (0,0))).1,(D7 b c k (t.2.2.getD (o8 b k) (0,0))).2)));generalize t.2.1.getD (o8 b k) (0,0)=A at hs;generalize D7 b c k (t.2.2.getD (o8 b k) (0,0))=D at ok;cases o with
     | none =>
       cases d;rw[if_neg (by simp)];show IP (k:Int) g (true,(v:Int),_,_,_,_)=_;exact a _ _ _ _ _ _ (Bv none (L0 A D.1,D.2)) rfl
     | some y =>
       cases d;refine(if_pos rfl).trans ?_;refine(gP ⟨rfl,trivial⟩).trans ?_;rw[lE];refine(gP ⟨rfl,trivial⟩).trans ?_;rw[lE];show IP (k:Int) g (true,(v:Int),_,_,_,_)=_;refine a _ _ _ _ _ _ (Bv (some y) (L0 A D.1,D.2)) ?_;show(true,_,_,(I0 y.1 (L0 A D.1)).1,(I0 y.1 (L0 A D.1)).2,(I0 y.2 D.2).1,(I0 y.2 D.2).2)=_;rw[k0r y.1,k0r y.2];rfl
    ·rw[if_neg j];have j:t.1.getD (o8 b k) false=false:=by simpa using j
     rw[j];refine(if_pos (by simp)).trans ?_;exact a _ _ _ _ _ _ o (by cases o <;> (cases d; rfl))
   ·rw[if_neg l];refine(if_pos ?_).trans (a _ _ _ _ _ _ o (by cases o <;> (cases d; rfl)));cases h1:J2 b br k <;> cases H:(p7 b k==v) <;> rw[h1,H] at l <;> simp_all
  ·cases o <;> exact if_neg (by simp)
 unfold IS;refine(lF (n:=ss.length) hl (fun i o=>P6 v i o) (fun i o=>DI ss (a6 y53) v i o) (fun _ _=>True) (J:=fun o=>IQ (v:Int) t b c (D6 (lV b).length br) (lV b) ((P6 v 0 o).1,(P6 v 0 o).2.2)) (F:=F0Z ss (v:Int) t b c (D6 (lV b).length br) (lV b)) (fun g i o hi _=>?_) (fun _ _ _ _=>trivial) (fun g o _=>?_) none trivial).trans ?_
 ·have G:Int.toNat ((i:Nat):Int)=i:=rfl;obtain⟨q,w,m,u,r,x,d⟩:∃q w m u r x,P6 v i o=(q,(i:Int),w,m,u,r,x):=by cases o <;> exact⟨_,_,_,_,_,_,rfl⟩
  rw[d];refine(if_pos (decide_eq_true (by omega))).trans ?_;refine(gP ⟨oo,trivial⟩).trans ?_;rw[G];unfold DI;by_cases f:((ss.getD i (a6 y53)).1==(v:Int))=true
  ·rw[if_pos f,if_pos f];refine(gP ⟨oo,trivial⟩).trans ?_;rw[lE];have f:(ss.getD i (a6 y53)).1=(v:Int):=by simpa using f
   refine(gP ⟨oo,trivial⟩).trans ?_;rw[f];rfl
  ·rw[if_neg f,if_neg f];refine(gP ⟨oo,trivial⟩).trans ?_;cases o <;> (cases d; rfl)
 ·cases o <;> exact if_neg (by simp)
 ·show IQ _ _ _ _ _ _ ((P6 v 0 (fN (DI ss (a6 y53) v) ss.length none)).1,(P6 v 0 (fN (DI ss (a6 y53) v) ss.length none)).2.2)=_;rw[x0T hi];exact X _
end
theorem q0R{N:Nat}{T:Nat->Option o6}{v:Nat}{x:Option o6}:(p6 N T).1.set v x.isSome=(p6 N (H3 T v x)).1/\(p6 N T).2.1.set v (x.getD ((0,0),(0,0))).1=(p6 N (H3 T v x)).2.1/\(p6 N T).2.2.set v (x.getD ((0,0),(0,0))).2=(p6 N (H3 T v x)).2.2:=by
 have e:H3 T v x v=x:=if_pos rfl;have b:∀w,w≠v->H3 T v x w=T w:=fun w a=>if_neg a
 grind[p6,v0z,H3]
theorem q0Q(N:Nat):p6 N (fun _=>none)=(List.replicate N false,List.replicate N ((0:Int),(0:Int)),List.replicate N ((0:Int),(0:Int))):=by
 grind[p6,List.map_const',List.length_range]
def HE(b:j9)(o:Option (Nat->Option o6)):C3×Bool:=match o with
 | some T=>(p6 (j7 b) T,true)
 | none=>(([],[],[]),false)
section
variable {b:j9}
theorem v0n(j:wf l9 b)(g:cnt l9 b<=1048576)(e:p9 b=true){c:p8}(a:wf r7 c)(h:G8 c=true){br:List Int}{ss:List K4}(d:∀s∈ss,C2 s.2.1=true/\A6 s.2.2=true){T:Nat->Option o6}(i:∀v x,T v=some x->C2 x.1=true/\A6 x.2=true){v:Nat}{x:o6}(f:T6 b c br ss T v=some x):A6 x.2=true :=
 (y0I j g e a h d i v _ (Nat.le_refl _) x f).2
structure Rd(b:j9)(out:List Nat)(i:Nat)(T:Nat->Option o6):Prop where
 ok:∀v x,T v=some x->C2 x.1=true/\A6 x.2=true
 no:∀j,i<=j->j<out.length->T (out.getD j 0)=none
theorem t0l(t:wf l9 b)(o:cnt l9 b<=1048576)(m:p9 b=true){c:p8}(g:wf r7 c)(r:G8 c=true){br:List Int}{ss:List K4}(k:∀s∈ss,C2 s.2.1=true/\A6 s.2.2=true){a:List Nat}(n:a.Nodup){i:Nat}(_:i<a.length){T:Nat->Option o6}(h:Rd b a i T)(l:AK AP (T6 b c br ss T (a.getD i 0))=true) :
  Rd b a (i+1) (H3 T (a.getD i 0) (T6 b c br ss T (a.getD i 0))):=by
 refine⟨fun v x f=>?_,fun j u d=>?_⟩
 ·unfold H3 at f;split at f
  ·rw[f] at l;exact⟨l,v0n t o m g r k h.ok f⟩
  ·exact h.ok v x f
 ·unfold H3;rw[if_neg (fun e=>y0F n (p:=i) (q:=j) (by omega) d e.symm)];exact h.no j (by omega) d
def FR(b:j9)(c:p8)(br:List Int)(ss:List K4)(out:List Nat)(i:Nat)(T:Nat->Option o6):Option (Nat->Option o6):=if AK AP (T6 b c br ss T (out.getD i 0))=true then some (H3 T (out.getD i 0) (T6 b c br ss T (out.getD i 0))) else none
theorem q0a{c:p8}{br:List Int}{ss:List K4}{a:List Nat}{i:Nat}(hi:i<a.length)(T:Nat->Option o6) :
  some (HE b (T4 (lV b).length (o8 b) (p7 b) (J2 b br) (D7 b c) (I5 ss) AP (a.drop i) T))=match FR b c br ss a i T with
   | some s'=>some (HE b (T4 (lV b).length (o8 b) (p7 b) (J2 b br) (D7 b c) (I5 ss) AP (a.drop (i+1)) s'))
   | none=>some (([],[],[]),false):=by
 have e:a.drop i=a.getD i 0 :: a.drop (i+1):=by
  rw[List.drop_eq_getElem_cons hi,gq,List.getElem?_eq_getElem hi];rfl
 rw[e,WA];unfold FR;show some (HE b (if AK AP (T6 b c br ss T (a.getD i 0))=true then _ else none))=_;by_cases h:AK AP (T6 b c br ss T (a.getD i 0))=true
 ·rw[if_pos h,if_pos h];rfl
 ·rw[if_neg h,if_neg h];rfl
theorem H0X(y:wf l9 b)(z:cnt l9 b<=1048576)(f:p9 b=true){c:p8}(j:wf r7 c)(G:G8 c=true){br:List Int}{ss:List m6}(X:ss.length<=9223372036854775807)(u:∀s∈ss,C2 s.2.1=true/\A6 s.2.2=true){a:List Nat}(E:OrdOk b br a)(l:a.length<=9223372036854775807) :
  GW (o5 b,D6 (lV b).length br) c ss (a.map fun v:Nat=>(v:Int))=some (HE b (T7 b c br ss a)):=by
 have hN:=AN b f;have Q:Mb (o5 b)=some (p6 (j7 b) fun _=>none):=by
  unfold Mb;rw[WN b f,vS,gP ⟨rfl,trivial⟩,lE,Int.toNat_natCast];refine(gP ⟨⟨by omega,rfl,by omega,by omega⟩,⟨by omega,rfl,by omega,by omega⟩,⟨by omega,rfl,by omega,by omega⟩,trivial⟩).trans ?_;rw[q0Q]
 unfold GW;rw[Q,vS,gP ⟨rfl,trivial⟩,lE];refine Np (n:=a.length) l (fun i T=>((i:Int),(p6 (j7 b) T).2.2,(p6 (j7 b) T).2.1,(p6 (j7 b) T).1)) (FR b c br ss a) (fun _ _=>some (([],[],[]),false)) (Rd b a) (J:=fun T=>some (p6 (j7 b) T,true)) (F:=G0W (a.map fun v:Nat=>(v:Int)) (o5 b,D6 (lV b).length br) c ss) (fun g i T hi m=>?_) (fun i T T' hi m e=>?_) (fun g T _=>if_neg (by simp)) (fun i T=>some (HE b (T4 (lV b).length (o8 b) (p7 b) (J2 b br) (D7 b c) (I5 ss) AP (a.drop i) T))) (fun T _=>?_) (fun i T hi _=>(q0a hi T).trans (by grind)) 0 (Nat.zero_le _) (fun _=>none) ⟨fun _ _ h=>(by cases h),fun _ _ _=>rfl⟩
 ·have Y:((i:Int)).toNat=i:=rfl;have W:=E.lt _ (H8 (d:=0) hi);refine(if_pos (decide_eq_true (by grind))).trans ?_;refine(gP ⟨⟨by omega,by grind⟩,trivial⟩).trans ?_;rw[Y,r0g];have H:=L0L y z f j G (br:=br) X (Xb (N:=j7 b) (fun v _ x hx=>m.ok v x hx)) (a.getD i 0);rw[k0j f (fun w q=>w0k q)] at H;have k:IU (o5 b,D6 (lV b).length br) c ss ((p6 (j7 b) T).1,(p6 (j7 b) T).2.1,(p6 (j7 b) T).2.2) ((a.getD i 0:Nat):Int)=some (By (a.getD i 0) (T6 b c br ss T (a.getD i 0))):=H;rw[k,vS,gP ⟨rfl,trivial⟩,lE];obtain⟨r,t,o⟩:=q0R (N:=j7 b) (T:=T) (v:=a.getD i 0) (x:=T6 b c br ss T (a.getD i 0));obtain⟨n1,n2,n3⟩:=DH (N:=j7 b) (T:=T);unfold FR;generalize a.getD i 0=v at W r t o;have P:Int.toNat ((v:Nat):Int)=v:=rfl;rw[P];cases hy:T6 b c br ss T v with
  | none =>
    rw[hy] at r t o;refine(gP ⟨fun h=>(by cases h.1),trivial⟩).trans ?_;refine(if_neg (by simp[By])).trans ?_;refine(gP ⟨oo,by omega,oo,by omega,oo,by omega,trivial⟩).trans ?_;refine(gP ⟨oo,trivial⟩).trans ?_;show g ((i:Int)+1,(p6 (j7 b) T).2.2.set v (0,0),(p6 (j7 b) T).2.1.set v (0,0),(p6 (j7 b) T).1.set v false)=g (((i+1:Nat):Int),(p6 (j7 b) (H3 T v none)).2.2,(p6 (j7 b) (H3 T v none)).2.1,(p6 (j7 b) (H3 T v none)).1)
    grind
  | some x =>
    rw[hy] at r t o;refine(gP ⟨fun _=>by grind[Nr],trivial⟩).trans ?_;rw[(Nr _).1,vS];show(if(true&&!C2 x.1)=true then _ else _)=_;rw[show AK AP (some x)=C2 x.1 from rfl];cases hs:C2 x.1 with
    | false=>rfl
    | true =>
      refine(if_neg (by simp)).trans ?_;refine(gP ⟨oo,by omega,oo,by omega,oo,by omega,trivial⟩).trans ?_;refine(gP ⟨oo,trivial⟩).trans ?_;show g ((i:Int)+1,(p6 (j7 b) T).2.2.set v x.2,(p6 (j7 b) T).2.1.set v x.1,(p6 (j7 b) T).1.set v true)=g (((i+1:Nat):Int),(p6 (j7 b) (H3 T v (some x))).2.2,(p6 (j7 b) (H3 T v (some x))).2.1,(p6 (j7 b) (H3 T v (some x))).1)
      grind
 ·unfold FR at e;split at e
  ·rename_i V;cases e;exact t0l y z f j G u E.nd hi m V
  grind
 ·rw[List.drop_length];rfl
theorem H0H(q:wf l9 b)(z:cnt l9 b<=1048576)(f:p9 b=true){c:p8}(k:wf r7 c)(P:G8 c=true){br:List Int}{ss:List m6}(hl:ss.length<=9223372036854775807)(j:Hz ss)(u:∀s∈ss,C2 s.2.1=true/\A6 s.2.2=true){a:List Nat}(G:OrdOk b br a)(o:a.length<=9223372036854775807) :
  IT b c (lV b) (D6 (lV b).length br) ss (a.map fun v:Nat=>(v:Int))=some (HE b (T7 b c br ss a)):=by
 have hN:=AN b f;have W:KC (j7 b:Int)=some (p6 (j7 b) fun _=>none):=by
  unfold KC;rw[Int.toNat_natCast];refine(gP ⟨⟨by omega,rfl,by omega,by omega⟩,⟨by omega,rfl,by omega,by omega⟩,⟨by omega,rfl,by omega,by omega⟩,trivial⟩).trans ?_;rw[q0Q]
 unfold IT;rw[WO b q f,vS,W,vS,gP ⟨rfl,rfl,trivial⟩,lE];refine Np (n:=a.length) o (fun i T=>((i:Int),(p6 (j7 b) T).2.2,(p6 (j7 b) T).2.1,(p6 (j7 b) T).1)) (FR b c br ss a) (fun _ _=>some (([],[],[]),false)) (Rd b a) (J:=fun T=>some (p6 (j7 b) T,true)) (F:=G0P (a.map fun v:Nat=>(v:Int)) b c (lV b) (D6 (lV b).length br) ss) (fun g i T hi l=>?_) (fun i T T' hi l e=>?_) (fun g T _=>if_neg (by simp)) (fun i T=>some (HE b (T4 (lV b).length (o8 b) (p7 b) (J2 b br) (D7 b c) (I5 ss) AP (a.drop i) T))) (fun T _=>?_) (fun i T hi _=>(q0a hi T).trans (by grind)) 0 (Nat.zero_le _) (fun _=>none) ⟨fun _ _ h=>(by cases h),fun _ _ _=>rfl⟩
 ·have e3:((i:Int)).toNat=i:=rfl;have Y:=G.lt _ (H8 (d:=0) hi);refine(if_pos (decide_eq_true (by grind))).trans ?_;refine(gP ⟨⟨by omega,by grind⟩,trivial⟩).trans ?_;rw[e3,r0g];have Q:=I0h q z f k P (br:=br) hl j (Xb (N:=j7 b) (fun v _ x hx=>l.ok v x hx)) (a.getD i 0);rw[k0j f (fun w t=>w0k t)] at Q;have m:IS b c (lV b) (D6 (lV b).length br) ss ((p6 (j7 b) T).1,(p6 (j7 b) T).2.1,(p6 (j7 b) T).2.2) ((a.getD i 0:Nat):Int)=some (By (a.getD i 0) (T6 b c br ss T (a.getD i 0))):=Q;rw[m,vS,gP ⟨rfl,trivial⟩,lE];obtain⟨E,H,y⟩:=q0R (N:=j7 b) (T:=T) (v:=a.getD i 0) (x:=T6 b c br ss T (a.getD i 0));obtain⟨n1,n2,n3⟩:=DH (N:=j7 b) (T:=T);have r:=l.no i (Nat.le_refl _) hi;unfold FR;generalize a.getD i 0=v at Y E H y r;have V:Int.toNat ((v:Nat):Int)=v:=rfl;rw[V];cases hy:T6 b c br ss T v with
  | none =>
    refine(if_pos rfl).trans ?_;refine(gP ⟨oo,trivial⟩).trans ?_;show g ((i:Int)+1,(p6 (j7 b) T).2.2,(p6 (j7 b) T).2.1,(p6 (j7 b) T).1)=g (((i+1:Nat):Int),(p6 (j7 b) (H3 T v none)).2.2,(p6 (j7 b) (H3 T v none)).2.1,(p6 (j7 b) (H3 T v none)).1)
    grind[z0E]
  | some x =>
    rw[hy] at E H y;refine(if_neg (by simp[By])).trans ?_;rw[(Nr _).2,vS];refine(gP ⟨rfl,trivial⟩).trans ?_;show(if(!C2 x.1)=true then _ else _)=_;rw[show AK AP (some x)=C2 x.1 from rfl];cases hs:C2 x.1 with
    | false=>rfl
    | true =>
      refine(if_neg (by simp)).trans ?_;refine(gP ⟨oo,by omega,trivial⟩).trans ?_;refine(gP ⟨oo,by omega,trivial⟩).trans ?_;refine(gP ⟨oo,by omega,trivial⟩).trans ?_;refine(gP ⟨oo,trivial⟩).trans ?_;show g ((i:Int)+1,(p6 (j7 b) T).2.2.set v x.2,(p6 (j7 b) T).2.1.set v x.1,(p6 (j7 b) T).1.set v true)=g (((i+1:Nat):Int),(p6 (j7 b) (H3 T v (some x))).2.2,(p6 (j7 b) (H3 T v (some x))).2.1,(p6 (j7 b) (H3 T v (some x))).1)
      grind
 ·unfold FR at e;split at e
  ·rename_i X;cases e;exact t0l q z f k P u G.nd hi l X
  grind
 ·rw[List.drop_length];rfl
end
def Q9(b:j9)(c:p8)(br:List Int)(ss:List m6):Int:=if(p9 b&&G8 c)=true then(if(AO (lV b).length br&&AQ b ss)=true then(if(X7 (P5 b (D6 (lV b).length br) [] (j7 b))).2=true then 0 else 7) else 2) else 1
structure TG(b:j9)(c:p8)(br:List Int)(ss:List m6)(out:List Nat):Prop where
 hb:p9 b=true
 hc:G8 c=true
 hbr:AO (lV b).length br=true
 hs:AQ b ss=true
 ho:P5 b (D6 (lV b).length br) [] (j7 b)=some out
section
variable {b:j9} {c:p8} {br:List Int} {ss:List m6} {out:List Nat}
theorem Xe(h:Q9 b c br ss=0):∃out,TG b c br ss out:=by
 unfold Q9 at h;split at h
 ·rename_i a;split at h
  ·rename_i d;split at h
   ·rename_i e;rw[ba] at a d;cases ho:P5 b (D6 (lV b).length br) [] (j7 b) with
    | none=>rw[ho] at e; cases e
    | some out=>exact⟨out,a.1,a.2,d.1,d.2,ho⟩
   ·cases h
  ·cases h
 ·cases h
theorem TG.code(h:TG b c br ss out):Q9 b c br ss=0:=by
 unfold Q9;rw[h.hb,h.hc,h.hbr,h.hs,h.ho];rfl
theorem TG.ord(h:TG b c br ss out):OrdOk b br out:=H0Z h.hb h.ho
theorem TG.len(h:TG b c br ss out):out.length<=1000000:=Nat.le_trans (Rb _ _ h.ord.nd h.ord.lt) (AN b h.hb)
theorem TG.src(h:TG b c br ss out):Hz ss/\∀s∈ss,C2 s.2.1=true/\A6 s.2.2=true:=⟨(Xc h.hs).1,fun s hs=>((Xc h.hs).2 s hs).2⟩
def Re(b:j9)(c:p8)(br:List Int)(ss:List m6):Int ⊕ (I4×List Int×Int):=if Q9 b c br ss=0 then .inr ((o5 b,D6 (lV b).length br),(X7 (P5 b (D6 (lV b).length br) [] (j7 b))).1,0) else .inl (Q9 b c br ss)
theorem K0A(e:wf l9 b)(g:cnt l9 b<=1048576)(d:wf r7 c)(a:br.length<=1048576)(f:ss.length<=9223372036854775807):BP b c br ss=some (Re b c br ss):=by
 unfold BP Re Q9;rw[r36 b e g,r54 c d,vS,vS];refine(gP ⟨rfl,fun _=>rfl,trivial⟩).trans ?_;cases hb:p9 b with
 | false=>rfl
 | true =>
   cases hc:G8 c with
   | false=>rfl
   | true =>
     refine(if_neg (by simp)).trans ?_;rw[r37 b e hb,vS];refine(gP ⟨rfl,trivial⟩).trans ?_;rw[lE,r65 hb br a,r66 b hb ss f,vS,vS];refine(gP ⟨rfl,fun _=>rfl,trivial⟩).trans ?_;cases hk:AO (lV b).length br with
     | false=>rfl
     | true =>
       cases hs:AQ b ss with
       | false=>rfl
       | true =>
         refine(if_neg (by simp)).trans ?_;rw[r67 hb hk a,vS];refine(gP ⟨rfl,trivial⟩).trans ?_;rw[lE,r68 hb (Ra _ _),vS];refine(gP ⟨rfl,trivial⟩).trans ?_;rw[lE];cases ho:(X7 (P5 b (D6 (lV b).length br) [] (j7 b))).2 <;> rfl
theorem D0z(d:wf l9 b)(f:cnt l9 b<=1048576)(e:wf r7 c)(a:br.length<=1048576)(g:ss.length<=9223372036854775807):Lc b c br ss=some (if Q9 b c br ss=0 then((X7 (P5 b (D6 (lV b).length br) [] (j7 b))).1,0) else([],Q9 b c br ss)):=by
 unfold Lc Q9;rw[Jp b d f,r70 c e,vS,vS];refine(gP ⟨rfl,fun _=>rfl,trivial⟩).trans ?_;cases hb:p9 b with
 | false=>rfl
 | true =>
   cases hc:G8 c with
   | false=>rfl
   | true =>
     refine(if_neg (by simp)).trans ?_;rw[r71 b d f br a,r44 b d hb ss g,vS,vS];refine(gP ⟨rfl,fun _=>rfl,trivial⟩).trans ?_;rw[lE,r72 b d f br a];unfold DJ WW DJ;rw[hb];cases hk:AO (lV b).length br with
     | false=>rfl
     | true =>
       cases hs:AQ b ss with
       | false=>rfl
       | true =>
         refine(if_neg (by simp)).trans ?_;rw[vS];refine(gP ⟨rfl,trivial⟩).trans ?_;rw[lE];cases ho:(X7 (P5 b (D6 (lV b).length br) [] (j7 b))).2 <;> rfl
def N3(b:j9)(c:p8)(br:List Int)(ss:List m6):C3×Int:=if Q9 b c br ss=0 then(match T7 b c br ss ((P5 b (D6 (lV b).length br) [] (j7 b)).getD []) with
 | some T=>(p6 (j7 b) T,0)
 | none=>(([],[],[]),3)) else(([],[],[]),Q9 b c br ss)
theorem TG.pt(h:TG b c br ss out):N3 b c br ss=match T7 b c br ss out with
 | some T=>(p6 (j7 b) T,0)
 | none=>(([],[],[]),3):=by
 unfold N3;rw[if_pos h.code,h.ho];rfl
theorem TG.res(h:TG b c br ss out):(X7 (P5 b (D6 (lV b).length br) [] (j7 b))).1=out.map fun v:Nat=>(v:Int):=by
 rw[h.ho];rfl
theorem M0m(j:wf l9 b)(i:cnt l9 b<=1048576)(e:wf r7 c)(f:br.length<=1048576)(g:ss.length<=9223372036854775807):u9 b c br ss=some (N3 b c br ss):=by
 unfold u9;rw[K0A j i e f g];by_cases h:Q9 b c br ss=0
 ·obtain⟨a,d⟩:=Xe h;unfold Re;rw[if_pos h,d.res,d.pt];refine(if_neg (by simp[Ms])).trans ((gP ⟨rfl,trivial⟩).trans ?_);show gd ((GW (o5 b,D6 (lV b).length br) c ss (a.map fun v:Nat=>(v:Int))).isSome=true/\True) (lt (vl (GW (o5 b,D6 (lV b).length br) c ss (a.map fun v:Nat=>(v:Int)))) fun l=>_)=_;have k:=d.len;rw[H0X j i d.hb e d.hc g d.src.2 d.ord (by omega),vS];refine(gP ⟨rfl,trivial⟩).trans ?_;rw[lE];cases T7 b c br ss a <;> rfl
 ·unfold Re N3;rw[if_neg h,if_neg h];refine(if_pos rfl).trans ((gP ⟨rfl,trivial⟩).trans ?_);exact if_pos (by show(Q9 b c br ss != 0)=true; simp[h])
theorem K0B(g:wf l9 b)(j:cnt l9 b<=1048576)(e:wf r7 c)(f:br.length<=1048576)(i:ss.length<=9223372036854775807):Mp b c br ss=some (N3 b c br ss):=by
 unfold Mp;rw[D0z g j e f i,vS];refine(gP ⟨rfl,trivial⟩).trans ?_;rw[lE];by_cases h:Q9 b c br ss=0
 ·obtain⟨d,a⟩:=Xe h;rw[if_pos h,a.res,a.pt];refine(if_neg (by simp)).trans ?_;have k:=a.len;have l:=Q8 a.hb;rw[MU b g a.hb,vS];refine(gP ⟨rfl,trivial⟩).trans ?_;rw[lE,WR _ _ (by omega) f,vS];show gd (_/\(IT b c (lV b) (D6 (lV b).length br) ss (d.map fun v:Nat=>(v:Int))).isSome=true/\True) _=_;rw[H0H g j a.hb e a.hc i a.src.1 a.src.2 a.ord (by omega),vS];refine(gP ⟨rfl,rfl,trivial⟩).trans ?_;rw[lE];cases T7 b c br ss d <;> rfl
 ·unfold N3;rw[if_neg h,if_neg h];exact if_pos (by show(Q9 b c br ss != 0)=true; simp[h])
theorem TG.rows(d:wf l9 b)(e:cnt l9 b<=1048576)(a:wf r7 c)(h:TG b c br ss out){T:Nat->Option o6}(f:T7 b c br ss out=some T):JF (j7 b) (p6 (j7 b) T) :=
 u0Q d e h.hb a h.hc h.src.2 h.ord f
theorem D0I(h:(N3 b c br ss).2≠0):(N3 b c br ss).1=([],[],[]):=by
 unfold N3 at h ⊢;split
 ·rename_i a;rw[if_pos a] at h;split
  ·rename_i T e;rw[e] at h;exact(h rfl).elim
  ·rfl
 ·rfl
end
theorem k0n(s:List r8)(h:s.length<=9223372036854775807):Fh s s=some true:=by
 unfold Fh;refine(if_neg (by simp)).trans ?_;have a:=H9 (n:=s.length) h (fun _=>false) (some false) (e:=some true) (F:=G0L s s) (fun g i hi=>by
  have b:((i:Int)).toNat=i:=rfl;refine(if_pos (decide_eq_true (by omega))).trans ?_;rw[b];refine(gP ⟨oo,oo,trivial⟩).trans ?_;refine(if_neg (by simp)).trans ?_;rw[if_neg (by simp)];exact gP ⟨oo,trivial⟩) (fun g=>if_neg (by simp))
 refine a.trans (if_neg (by simp))
theorem Xf(t:C3)(d:t.1.length<=9223372036854775807)(b:t.2.1.length<=9223372036854775807)(f:t.2.2.length<=9223372036854775807):Dn t t=some true:=by
 unfold Dn;refine(if_neg (by simp)).trans ?_;have a:=H9 (n:=t.1.length) d (fun _=>false) (some false) (e:=some true) (F:=H0D t t) (fun g i hi=>by
  have c:((i:Int)).toNat=i:=rfl;refine(if_pos (decide_eq_true (by omega))).trans ?_;rw[c];refine(gP ⟨oo,oo,trivial⟩).trans ?_;refine(if_neg (by simp)).trans ?_;rw[if_neg (by simp)];exact gP ⟨oo,trivial⟩) (fun g=>by
  refine(if_neg (by simp)).trans ?_;rw[TH,k0n _ b,k0n _ f];exact gP ⟨rfl,fun _=>rfl,trivial⟩)
 refine a.trans (if_neg (by simp))
section
variable {b:j9} {c:p8} {br:List Int} {ss:List m6} {out:List Nat} {t:C3}
end
theorem K0z{n:Int}(e:0<=n)(d:n<3)(a b c:Int):[a,b,c].getD n.toNat 0=a∨[a,b,c].getD n.toNat 0=b∨[a,b,c].getD n.toNat 0=c:=by
 have:n=0∨n=1∨n=2:=by omega
 rcases this with rfl | rfl | rfl
 ·exact .inl rfl
 ·exact .inr (.inl rfl)
 ·exact .inr (.inr rfl)
theorem Ns{n:ByteArray}{a b c d:Int}(e : -10000<=a/\a<=10000)(g : -10000<=b/\b<=10000)(f : -10000<=c/\c<=10000)(h : -10000<=d/\d<=10000):N0j (n,a,b,c,d):=⟨e,g,f,h⟩
theorem I0B{s:l6}(h:Sd s):∃r,LQ s=some r/\(Sd r.2/\N0j r.1):=by
 obtain⟨v0,P,w,g,E,m,-⟩:=A0 (n:=3) h (by omega);have m:=m (by omega);obtain⟨v1,s1,x,b,a1,t,-⟩:=A0 (n:=20) g (by omega);have t:=t (by omega);obtain⟨X,s2,z,d,a2,l,-⟩:=A0 (n:=20) b (by omega);have l:=l (by omega);obtain⟨v3,Y,H,e,a3,o,-⟩:=A0 (n:=60) d (by omega);have o:=o (by omega);obtain⟨v4,s4,v,c,Q,u,-⟩:=A0 (n:=40) e (by omega);have u:=u (by omega);obtain⟨v5,W,G,a,a5,b5,-⟩:=A0 (n:=30) c (by omega);obtain⟨v6,V,F,i,k,j,-⟩:=A0 (n:=3) a (by omega);have j:=j (by omega);obtain⟨T,s7,y,f,a7,q,-⟩:=A0 (n:=2) a (by omega);have q:=q (by omega);have t6:=K0z k j 99 100 (-1);unfold LQ;simp only[w,x,z,vS,Option.isSome_some];refine k8 ⟨trivial,⟨E,by simp; omega⟩,by simp; omega,trivial,oo,oo,trivial,oo,oo,trivial⟩ (w6 ?_);dsimp only;simp only[H,vS,Option.isSome_some];refine k8 ⟨trivial,oo,oo,trivial⟩ (w6 ?_);dsimp only;simp only[v,vS,Option.isSome_some];refine k8 ⟨trivial,oo,oo,trivial⟩ (w6 ?_);dsimp only;simp only[G,vS,Option.isSome_some];refine k8 ⟨trivial,trivial⟩ (w6 ?_);dsimp only;split
 ·exact k8 ⟨oo,trivial⟩ ⟨_,rfl,a,Ns oo oo oo oo⟩
 split
 ·simp only[F,vS,Option.isSome_some];refine k8 ⟨trivial,⟨k,by simp; omega⟩,by simp; omega,trivial⟩ (w6 ?_);dsimp only;exact⟨_,rfl,i,Ns oo oo oo oo⟩
 split
 ·simp only[y,vS,Option.isSome_some];refine k8 ⟨trivial,oo,trivial⟩ (w6 ?_);exact⟨_,rfl,f,Ns oo oo oo oo⟩
 split
 ·exact⟨_,rfl,a,Ns oo oo oo oo⟩
 ·exact⟨_,rfl,a,Ns oo oo oo oo⟩
section
variable [Alw]
end
theorem wfR{v:j9×p8×List Int×List m6}(h:HC (R8 v)):wf l9 v.1/\wf r7 v.2.1/\v.2.2.2.length<=9223372036854775807 :=
 ⟨⟨h.1.1,⟨h.1.2.1,h.1.2.2.1,h.1.2.2.2.1⟩,h.1.2.2.2.2.1⟩,⟨h.2.1.1,h.2.1.2.1,h.2.1.2.2.1,h.2.1.2.2.2.1,h.2.1.2.2.2.2.1⟩,h.2.2.2.1.1⟩
theorem v0a{b:j9}{c:p8}{br:List Int}{ss:List m6}(a:p9 b=true∨(N3 b c br ss).2≠0):Dn (N3 b c br ss).1 (N3 b c br ss).1=some true:=by
 have hz:Dn ([],[],[]) ([],[],[])=some true:=Xf _ (Nat.zero_le _) (Nat.zero_le _) (Nat.zero_le _);by_cases d:(N3 b c br ss).2=0
 ·have a:=a.resolve_right (fun h=>h d);have e:=AN b a;unfold N3;split
  ·split
   ·rename_i T _;obtain⟨f,g,n3⟩:=DH (N:=j7 b) (T:=T);exact Xf _ (by simp only; omega) (by simp only; omega) (by simp only; omega)
   ·exact hz
  ·exact hz
 ·rw[D0I d];exact hz
theorem D0H{b:j9}{c:p8}{br:List Int}{ss:List m6}(h:(N3 b c br ss).2=0):∃out T,TG b c br ss out/\T7 b c br ss out=some T/\N3 b c br ss=(p6 (j7 b) T,0):=by
 by_cases a:Q9 b c br ss=0
 ·obtain⟨out,d⟩:=Xe a;have e:=d.pt;cases hr:T7 b c br ss out with
  | none=>rw[hr] at e; rw[e] at h; cases h
  | some T=>rw[hr] at e; exact⟨out,T,d,hr,e⟩
 ·unfold N3 at h;rw[if_neg a] at h;exact(a h).elim
def Dd(d:AB):Prop:=d.1.length<=4096/\0<=d.2.1/\d.2.1<=4096/\∀b∈d.1,0<=b/\b<=255
theorem D0C{c:List Int}(h:wf (.sl (.int .u8)) c)(k:c.length<=4096)(s:Int):∃d,LG c s=some d/\Dd d:=by
 unfold LG;refine k8 ⟨trivial,oo,trivial,trivial⟩ (w6 ?_);refine N1 (fun x=>4097-x.1.toNat) (fun x=>0<=x.1/\x.1<=4096) ?_ ⟨by simp only; omega,by simp only; omega⟩ (by simp only; omega);rintro g ⟨i,x⟩ ⟨j,i2⟩ l;simp only at j i2;unfold H0r;dsimp only;split
 ·rename_i e;have e:=of_decide_eq_true e;have a:i.toNat<c.length:=by omega
  have f:0<=c.getD i.toNat 0/\c.getD i.toNat 0<=255:=by
   rw[gq,List.getElem?_eq_getElem a];exact h.2 _ (List.getElem_mem a)
  refine k8 ⟨trivial,⟨j,e⟩,oo,trivial,trivial,trivial⟩ (w6 (k8 ⟨oo,trivial⟩ ?_));exact l _ ⟨by simp only; omega,by simp only; omega⟩ (by simp only; omega)
 ·exact⟨_,rfl,k,by simp only; omega,by simp only; omega,fun b f=>h.2 b f⟩
theorem z0P{d:AB}(h:Dd d){n:Int}(E:1<=n):∃x d',u16 d n=some (x,d')/\Dd d'/\0<=x/\x<n:=by
 obtain⟨m,l,s,c⟩:=h;have j:∃r,u16 d n=some r/\(Dd r.2/\0<=r.1/\r.1<n):=by
  unfold u16;refine k8 ⟨trivial,trivial,trivial⟩ (w6 ?_);generalize hv:(d.2.2*6364136223846793005 % 18446744073709551616+1442695040888963407) % 18446744073709551616=v;have F:0<=v:=by rw[<- hv]; exact Int.emod_nonneg _ (by decide)
  have G:v<=18446744073709551615:=by
   have:=Int.emod_lt_of_pos (d.2.2*6364136223846793005 % 18446744073709551616+1442695040888963407) (show(0:Int)<18446744073709551616 by decide);omega
  have g:(2:Int) ^ Int.toNat (33:Int)=8589934592:=by decide
  have b:0<=v.fdiv ((2:Int) ^ Int.toNat (33:Int))/\v.fdiv ((2:Int) ^ Int.toNat (33:Int))<=18446744073709551615:=by
   rw[g,Int.fdiv_eq_ediv_of_nonneg _ (by decide)];omega
  have f:∀k:Nat,(0:Int)<=((k &&& Int.toNat (16777215:Int):Nat):Int)/\((k &&& Int.toNat (16777215:Int):Nat):Int)<=16777215:=fun k=>by
   have:k &&& Int.toNat (16777215:Int)<=Int.toNat (16777215:Int):=Nat.and_le_right;omega
  generalize hx:v.fdiv ((2:Int) ^ Int.toNat (33:Int))=x at b;obtain⟨q,w⟩:=f x.toNat;refine k8 ⟨⟨⟨by decide,by decide⟩,b.1,b.2⟩,⟨b.1,by decide⟩,oo,trivial⟩ (w6 ?_);generalize ((x.toNat &&& Int.toNat (16777215:Int):Nat):Int)=y at q w;split
  ·rename_i i;have i:=of_decide_eq_true i;have a:d.2.1.toNat<d.1.length:=by omega
   have z:0<=d.1.getD d.2.1.toNat 0/\d.1.getD d.2.1.toNat 0<=255:=by
    rw[gq,List.getElem?_eq_getElem a];exact c _ (List.getElem_mem a)
   refine k8 ⟨⟨l,i⟩,trivial,oo,trivial⟩ (k8 ⟨oo,trivial⟩ ?_);unfold LH;exact k8 ⟨by omega,trivial⟩ ⟨_,rfl,⟨m,by simp only; omega,by simp only; omega,c⟩,Int.tmod_nonneg _ (by omega),Int.tmod_lt_of_pos _ (by omega)⟩
  ·unfold LH;exact k8 ⟨by omega,trivial⟩ ⟨_,rfl,⟨m,l,s,c⟩,Int.tmod_nonneg _ (by omega),Int.tmod_lt_of_pos _ (by omega)⟩
 obtain⟨⟨x,d'⟩,e,u,o,t⟩:=j;exact⟨x,d',e,u,o,t⟩
def T9(d:Int)(T:Nat->Option o6)(i:Nat):Nat->Option o6:=fun v=>if v<i then F3 d (T v) else T v
theorem D0w{d:Int}{T:Nat->Option o6}{N:Nat}:(p6 N (T9 d T N)).2.1=(p6 N fun v=>F3 d (T v)).2.1:=by
 unfold p6 T9;refine List.map_congr_left fun v a=>?_;rw[if_pos (List.mem_range.1 a)]
theorem u0E{d:Int}{T:Nat->Option o6}{N:Nat}:(p6 N T).1=(p6 N fun v=>F3 d (T v)).1/\(p6 N T).2.2=(p6 N fun v=>F3 d (T v)).2.2:=by
 unfold p6 F3;exact⟨List.map_congr_left fun v _=>by cases h:T v <;> simp[h],List.map_congr_left fun v _=>by cases h:T v <;> simp[h]⟩
theorem y0c{d:Int}{T:Nat->Option o6}{N i:Nat}(h:T i=none):(p6 N (T9 d T (i+1))).2.1=(p6 N (T9 d T i)).2.1:=by
 unfold p6 T9;refine List.map_congr_left fun v _=>?_;by_cases e:v=i
 ·subst e;rw[if_pos (by omega),if_neg (by omega),h]; rfl
 ·by_cases l:v<i
  ·rw[if_pos (by omega),if_pos l]
  ·rw[if_neg (by omega),if_neg l]
theorem y0b{d:Int}{T:Nat->Option o6}{N i:Nat}{x:o6}(h:T i=some x):(p6 N (T9 d T i)).2.1.set i (x.1.1+d,x.1.2+d)=(p6 N (T9 d T (i+1))).2.1:=by
 have:=v0z (fun v=>((T9 d T i v).getD ((0,0),(0,0))).1) (fun v=>((T9 d T (i+1) v).getD ((0,0),(0,0))).1) N i fun w _ a=>by
  unfold T9;by_cases l:w<i
  ·rw[if_pos l,if_pos (by omega)]
  ·rw[if_neg l,if_neg (by omega)]
 have e:((T9 d T (i+1) i).getD ((0,0),(0,0))).1=(x.1.1+d,x.1.2+d):=by
  unfold T9;rw[if_pos (by omega),h]; rfl
 rw[e] at this;exact this
theorem D0v{d:Int}{T:Nat->Option o6}{N i:Nat}{x:o6}(h:T i=some x)(hi:i<N):(p6 N (T9 d T i)).2.1.getD i (a6 y51)=x.1:=by
 refine(CL _ N _ hi).trans ?_;unfold T9;rw[if_neg (by omega),h]; rfl
section
variable {b:j9} {k:p8} {br:List Int} {ss:List m6}
theorem H0M[Alw]{T:Nat->Option o6}{dd:Int×AB}{z:Int}(G : -500<=dd.1-500)(Q:dd.1-500<=500)(k:JF (j7 b) (p6 (j7 b) T))(X:j7 b<=1000000):∃r,lp (Vu dd (p6 (j7 b) T,z) (p6 (j7 b) fun v=>F3 (dd.1-500) (T v),z)) (0,(p6 (j7 b) T).2.1)=some r/\r=true:=by
 obtain⟨H,E,n3⟩:=DH (N:=j7 b) (T:=T);refine N1 (fun s:Int×List r8=>j7 b+1-s.1.toNat) (fun s=>(0<=s.1/\s.1<=(j7 b:Int))/\s.2=(p6 (j7 b) (T9 (dd.1-500) T s.1.toNat)).2.1) ?_ ⟨⟨by simp only; omega,by simp only; omega⟩,?_⟩ (by simp only; omega)
 ·rintro g ⟨i,h⟩ ⟨⟨l,i2⟩,e⟩ f;simp only at l i2 e;obtain⟨v,rfl⟩:∃v:Nat,i=(v:Int):=⟨i.toNat,by omega⟩;simp only[Int.toNat_natCast] at e;subst e;have P:=(DH (N:=j7 b) (T:=T9 (dd.1-500) T v)).2.1;unfold Vu;dsimp only;by_cases j:(v:Int) < ((p6 (j7 b) T).1.length:Int)
  ·rw[if_pos (decide_eq_true j)];have a:v<j7 b:=by omega
   obtain⟨w,y,F⟩:=E0x (T:=T) a;refine k8 ⟨oo,by show v<_; omega,trivial⟩ ?_;have u:((v:Int)).toNat=v:=rfl;rw[u,w];cases hx:T v with
   | none =>
     rw[if_neg (by simp)];unfold MC;exact k8 ⟨oo,trivial⟩ (f _ ⟨⟨by simp only; omega,by simp only; omega⟩,(y0c hx).symm⟩ (by simp only; omega))
   | some x =>
     rw[if_pos (by simp)];have c:=(k.vals v a).1;rw[y,hx] at c;have c:=JE.1 (show C2 x.1=true from c);have m:=D0v (d:=dd.1-500) hx a;rw[m];refine k8 ⟨oo,by omega,oo,oo,by omega,oo,oo,by omega,trivial⟩ (w6 ?_);unfold MC;refine k8 ⟨oo,trivial⟩ (f _ ⟨⟨by simp only; omega,by simp only; omega⟩,?_⟩ (by simp only; omega));exact y0b hx
  ·rw[if_neg (by simpa using j)];have a:v=j7 b:=by omega
   subst a;unfold Vt;obtain⟨n,o⟩:=u0E (d:=dd.1-500) (T:=T) (N:=j7 b);obtain⟨V,Y,W⟩:=DH (N:=j7 b) (T:=fun v=>F3 (dd.1-500) (T v));have t:((p6 (j7 b) T).1,(p6 (j7 b) (T9 (dd.1-500) T (j7 b))).2.1,(p6 (j7 b) T).2.2)=p6 (j7 b) fun v=>F3 (dd.1-500) (T v):=by
    rw[D0w,n,o]
   have q:=Xf (p6 (j7 b) fun v=>F3 (dd.1-500) (T v)) (by omega) (by omega) (by omega);simp only[t,q,vS,Option.isSome_some];exact k8 ⟨trivial,trivial⟩ ⟨_,rfl,rfl⟩
 ·show(p6 (j7 b) T).2.1=_;unfold p6 T9;exact List.map_congr_left fun v _=>by rw[if_neg (by simp)]
theorem N0v[Alw](c:wf l9 b)(m:cnt l9 b<=1048576)(f:wf r7 k)(hbr:br.length<=1048576)(q:ss.length<=9223372036854775807){d:List Nat}(a:TG b k br ss d){T:Nat->Option o6}(o:T7 b k br ss d=some T){dd:Int×AB}(t : -500<=dd.1-500)(w:dd.1-500<=500):∃r,Qv dd (p6 (j7 b) T,0) (b,k,br,ss) (ss.map (T5 (dd.1-500)))=some r/\r=true:=by
 have l:(ss.map (T5 (dd.1-500))).length<=9223372036854775807:=by rw[List.length_map]; exact q
 unfold Qv;simp only[M0m c m f hbr l,vS,Option.isSome_some];refine k8 ⟨trivial,trivial⟩ (w6 ?_);simp only[r17 b c m _ l,vS,Option.isSome_some];refine k8 ⟨trivial,trivial⟩ ?_;by_cases g:AQ b (ss.map (T5 (dd.1-500)))=true
 ·rw[if_neg (by unfold Rc; rw[a.hb,g]; simp)];have i:TG b k br (ss.map (T5 (dd.1-500))) d:=⟨a.hb,a.hc,a.hbr,g,a.ho⟩;have n:∀s∈ss,C2 (s.2.1.1+(dd.1-500),s.2.1.2+(dd.1-500))=true:=fun s h=>((Xc g).2 _ (List.mem_map_of_mem h)).2.1;rcases s0a c m a.hb f a.hc a.src.2 n o with e | ⟨e,hd⟩
  ·have j:N3 b k br (ss.map (T5 (dd.1-500)))=(p6 (j7 b) fun v=>F3 (dd.1-500) (T v),0):=by rw[i.pt,e]
   rw[j,if_neg (by simp)];exact H0M t w (a.rows c m f o) (AN b a.hb)
  ·have j:N3 b k br (ss.map (T5 (dd.1-500)))=(([],[],[]),3):=by rw[i.pt,e]
   rw[j,if_pos (by simp)];exact⟨_,rfl,by show((3:Int)==3&&decide (0<dd.1-500))=true; rw[decide_eq_true hd]; rfl⟩
 ·have u:Q9 b k br (ss.map (T5 (dd.1-500)))=2:=by
   unfold Q9;rw[if_pos (by rw[a.hb,a.hc]; rfl),if_neg (by simp[g])]
  have j:N3 b k br (ss.map (T5 (dd.1-500)))=(([],[],[]),2):=by
   unfold N3;rw[u]; rfl
  rw[if_pos (by unfold Rc; simp[g]),j];exact⟨_,rfl,rfl⟩
theorem N0u[Alw](f:wf l9 b)(u:cnt l9 b<=1048576)(d:wf r7 k)(h:br.length<=1048576)(E:ss.length<=20000){c:List Nat}(j:TG b k br ss c){T:Nat->Option o6}(n:T7 b k br ss c=some T){dd:Int×AB}(t : -500<=dd.1-500)(x:dd.1-500<=500):∃r,lp (Vv dd (b,k,br,ss) (p6 (j7 b) T,0)) (0,[])=some r/\r=true:=by
 refine N1 (fun s:Int×List m6=>ss.length+1-s.1.toNat) (fun s=>(0<=s.1/\s.1<=(ss.length:Int))/\s.2=(ss.take s.1.toNat).map (T5 (dd.1-500))) ?_ ⟨⟨by simp only; omega,by simp only; omega⟩,rfl⟩ (by simp only; omega);rintro g ⟨i,z⟩ ⟨⟨q,i2⟩,e⟩ o;simp only at q i2 e;obtain⟨v,rfl⟩:∃v:Nat,i=(v:Int):=⟨i.toNat,by omega⟩;simp only[Int.toNat_natCast] at e;subst e;unfold Vv;dsimp only;by_cases l:(v:Int) < (ss.length:Int)
 ·rw[if_pos (decide_eq_true l)];have a:v<ss.length:=by omega
  have y:((v:Int)).toNat=v:=rfl;have w:ss.getD v (a6 y53)=ss[v]:=by rw[gq,List.getElem?_eq_getElem a]; rfl
  have m:=(j.src.2 ss[v] (List.getElem_mem a)).1;have m:=JE.1 m;have F:((ss.take v).map (T5 (dd.1-500))).length=v:=by rw[List.length_map,List.length_take]; omega
  rw[y,w];refine k8 ⟨oo,trivial⟩ (w6 ?_);refine k8 ⟨oo,oo,⟨by simp only[List.length_singleton]; omega,by simp only[List.length_singleton]; omega⟩,trivial⟩ (w6 ?_);refine k8 ⟨oo,trivial⟩ (o _ ⟨⟨by simp only; omega,by simp only; omega⟩,?_⟩ (by simp only; omega));show(ss.take v).map (T5 (dd.1-500))++[T5 (dd.1-500) ss[v]]=(ss.take (v+1)).map (T5 (dd.1-500));rw[List.take_succ_eq_append_getElem a,List.map_append];rfl
 ·rw[if_neg (by simpa using l)];have a:v=ss.length:=by omega
  subst a;rw[List.take_length];exact N0v f u d h (by omega) j n t x
end
theorem lw4[Alw](c:List Int)(o:wf (.sl (.int .u8)) c):u4 c=some true:=by
 have g:∀e:Option Bool,(∃r,e=some r/\r=true)->e=some true:=by rintro e ⟨r,rfl,rfl⟩; rfl
 refine g _ ?_;unfold u4;refine k8 ⟨rfl,trivial⟩ ?_;split
 ·exact⟨_,rfl,rfl⟩
 ·rename_i a;have a:c.length<=4096:=by
   have:¬(decide ((4096:Int) < (c.length:Int))=true):=a;simp only[dq] at this;omega
  obtain⟨W,u,q⟩:=D0C o a 6104;simp only[u,vS,Option.isSome_some];refine k8 ⟨trivial,trivial⟩ (w6 (k8 ⟨trivial,trivial⟩ ⟨true,?_,rfl⟩));refine Alw.alp_of (([],([],[],[]),[]),(ByteArray.empty,0,0,0,0),[],[]) ⟨⟨by decide,by decide,by decide⟩,⟨⟨HD,HD,HD,HD,HD,trivial⟩,⟨by show(0:Nat)<=_; decide,⟨by decide,by decide⟩,⟨by decide,by decide⟩,⟨by decide,by decide⟩,⟨by decide,by decide⟩,trivial⟩,HD,HD,trivial⟩,trivial⟩ fun F z=>?_;obtain⟨⟨G,w,t⟩,y,-⟩:=z;obtain⟨f,d,m⟩:=wfR y;obtain⟨b,k,br,ss⟩:=F;simp only at G w t f d m;have l:cnt l9 b<=1048576:=by omega
  have i:br.length<=1048576:=by omega
  refine(gP trivial).trans (g _ ?_);simp only[M0m f l d i m,K0B f l d i m,vS,Option.isSome_some];refine k8 ⟨trivial,trivial⟩ (w6 (k8 ⟨trivial,trivial⟩ (w6 ?_)));by_cases j:(N3 b k br ss).2=0
  ·obtain⟨E,T,s,v,e⟩:=D0H j;have h:=v0a (b:=b) (c:=k) (br:=br) (ss:=ss) (.inl s.hb);simp only[h,vS,Option.isSome_some];refine k8 ⟨fun _=>trivial,trivial⟩ ?_;rw[if_neg (by simp),if_neg (by simpa using j)];obtain⟨x,Q,H,P,X,V⟩:=z0P q (n:=1000) (by omega);simp only[H,vS,Option.isSome_some];refine k8 ⟨trivial,oo,trivial⟩ (w6 ?_);rw[e];exact N0u (dd:=(x,Q)) f l d i t s v (by simp only; omega) (by simp only; omega)
  ·have h:=v0a (b:=b) (c:=k) (br:=br) (ss:=ss) (.inr j);simp only[h,vS,Option.isSome_some];refine k8 ⟨fun _=>trivial,trivial⟩ ?_;rw[if_neg (by simp),if_pos (by simpa using j)];exact⟨_,rfl,rfl⟩
theorem L0q{a b ρ:Type}(mk:a->b){F:(b->Option ρ)->b->Option ρ}{G:(a->Option ρ)->a->Option ρ}(h:∀g s,F g (mk s)=G (fun s=>g (mk s)) s)(s:a):lp F (mk s)=lp G s:=by
 have c:∀n s,J6 F n (mk s)=J6 G n s:=by
  intro n
  induction n with
  | zero=>intro s; rfl
  | succ n d =>
    intro s;show F (J6 F n) (mk s)=G (J6 G n) s;rw[h];congr 1;exact funext fun s=>d s
 exact c _ s
section
variable {b:j9}
def DK(b:j9)(fw:Bool):Nat->Nat:=if fw=true then o8 b else p7 b
def DL(b:j9)(fw:Bool):Nat->Nat:=if fw=true then p7 b else o8 b
theorem u0y(e:p9 b=true)(a:Bool){i:Nat}(hi:i < (lV b).length):DK b a i<j7 b/\DL b a i<j7 b:=by
 obtain⟨_,_,c,d⟩:=N2 b e hi;cases a
 ·exact⟨d,c⟩
 ·exact⟨c,d⟩
theorem Xg(f:p9 b=true){lv:List Bool}(z:lv.length=(lV b).length){s:Nat}(u:s<j7 b)(a:Bool):∃L,RB (lV b).length (j7 b) (DK b a) (DL b a) (fun i=>lv.getD i false) s L/\Dq (j7 b:Int) (lV b) lv (s:Int) a=some L:=by
 have T:=Q8 f;have G:=AN b f;unfold Dq;have x:((j7 b:Int)).toNat=j7 b:=rfl;have y:((s:Int)).toNat=s:=rfl;rw[x,y,gP ⟨⟨by omega,rfl,by omega,by omega⟩,trivial⟩,gP ⟨by rw[List.length_replicate]; exact oo,by rw[List.length_replicate]; exact u,trivial⟩];obtain⟨L,E,w⟩:=p0P (ρ:=List Bool) (lV b).length (j7 b) (DK b a) (DL b a) (fun i=>lv.getD i false) (fun i hi=>(u0y f a hi).2) G u (F:=fun g q=>A0L lv a (lV b) (fun t=>g (t.2,t.1)) (q.2,q.1)) (J:=fun L=>some L) (fun g q P=>by
  obtain⟨r,c⟩:=q;cases c with
  | false=>rfl
  | true =>
    refine Eq.trans (if_pos (c:=(true:Bool)=true) (t:=lp (Ux lv a (lV b) fun t=>g (t.2,t.1)) (false,0,r)) (e:=Uv r) rfl) ?_;show _=g (fN (H2 (DK b a) (DL b a) fun i=>lv.getD i false) (lV b).length (r,false));refine lF (n:=(lV b).length) (by omega) (fun(k:Nat) (s:List Bool×Bool)=>(s.2,(k:Int),s.1)) (H2 (DK b a) (DL b a) fun i=>lv.getD i false) (fun _ s=>s.1.length=j7 b) (J:=fun s=>g (s.1,s.2)) (F:=Ux lv a (lV b) fun t=>g (t.2,t.1)) (fun m k s l d=>?_) (fun k s l d=>?_) (fun m s _=>aE) (r,false) P
    ·obtain⟨o,v,_,_⟩:=N2 b f l;obtain⟨V,Q⟩:=u0y f a l;have d:s.1.length=j7 b:=d;have H:((k:Int)).toNat=k:=rfl;have j:PM (k:Int) s.1 s.2 lv m ((DK b a k:Int),(DL b a k:Int))=m ((H2 (DK b a) (DL b a) (fun i=>lv.getD i false) k s).2,((k+1:Nat):Int),(H2 (DK b a) (DL b a) (fun i=>lv.getD i false) k s).1):=by
      refine(gP ⟨oo,(fun _=>oo),(fun _=>by omega),(fun _=>oo),(fun _=>by omega),trivial⟩).trans ?_;unfold H2;by_cases h:(lv.getD k false&&s.1.getD (DK b a k) false&&!s.1.getD (DL b a k) false)=true
      ·rw[if_pos h];refine(if_pos h).trans ?_;refine(gP ⟨oo,by omega,trivial⟩).trans ?_;exact gP ⟨oo,trivial⟩
      ·rw[if_neg h];refine(if_neg h).trans ?_;exact gP ⟨oo,trivial⟩
     refine(if_pos (by simpa using l)).trans ?_;refine(gP ⟨oo,oo,trivial⟩).trans ?_;rw[lE,H];cases a with
     | false =>
       refine(if_pos rfl).trans ?_;rw[o,v];exact j
     | true =>
       refine(if_neg (by simp)).trans ?_;rw[o,v];exact j
    ·have d:s.1.length=j7 b:=d;unfold H2;split
     ·show(s.1.set _ true).length=_;rw[List.length_set]; exact d
     ·exact d)
 refine⟨L,E,Eq.trans ?_ w⟩;exact L0q (fun q:List Bool×Bool=>(q.2,q.1)) (fun g s=>rfl) ((List.replicate (j7 b) false).set s true,true)
end
section
variable {b:j9}
end
theorem E0m{l:List Int}{x:Int}:D2 l x=true↔x∈l:=by
 unfold D2;rw[List.any_eq_true];constructor
 ·rintro⟨j,a,b⟩;rw[<- eq_of_beq b];exact H8 (List.mem_range.1 a)
 ·intro h;obtain⟨j,a,rfl⟩:=List.getElem_of_mem h;exact⟨j,List.mem_range.2 a,by rw[gq,List.getElem?_eq_getElem a]; exact beq_self_eq_true _⟩
def CN(p:Nat->Bool)(N:Nat)(S:List Bool):List Bool:=(List.range N).map fun w=>S.getD w false||p w
theorem Rf(p:Nat->Bool)(N:Nat)(S:List Bool):(CN p N S).length=N:=by
 grind[CN,List.length_map,List.length_range]
theorem Xh(p:Nat->Bool)(N:Nat)(S:List Bool){w:Nat}(h:w<N):(CN p N S).getD w false=(S.getD w false||p w):=by
 grind[CN]
def L8(N v:Nat)(S:List Bool):List Bool:=(List.range N).map fun w=>decide (w<v)||S.getD w false
theorem Nt(N v:Nat)(S:List Bool):(L8 N v S).length=N:=by
 grind[L8,List.length_map,List.length_range]
theorem Nu(N v:Nat)(S:List Bool){w:Nat}(h:w<N):(L8 N v S).getD w false=(decide (w<v)||S.getD w false):=by
 grind[L8]
theorem q0P{N:Nat}{p:Nat->Bool}(h:((List.range N).filter p).length<2){v w:Nat}(f:v<N)(e:p v=true)(d:w<N)(c:p w=true):w=v:=by
 have a:v∈(List.range N).filter p:=List.mem_filter.2 ⟨List.mem_range.2 f,e⟩;have b:w∈(List.range N).filter p:=List.mem_filter.2 ⟨List.mem_range.2 d,c⟩;generalize (List.range N).filter p=l at h a b
 match l,h with
 | [],_=>cases a
 | [x],_=>grind
 | x :: y :: r,h=>grind
theorem p0V(p:Nat->Bool)(N:Nat)(D:List Bool)(a:D.length=N):∀m,m<=N->(fN (fun w (s:List Bool)=>if p w=true then s.set w true else s) m D).length=N/\∀w,w<N->(fN (fun w (s:List Bool)=>if p w=true then s.set w true else s) m D).getD w false=(D.getD w false||(decide (w<m)&&p w))
 | 0,_=>⟨a,fun w _=>by simp[fN]⟩
 | m+1,h=>by
   obtain⟨b,c⟩:=p0V p N D a m (by omega);show(if p m=true then List.set _ m true else _:List Bool).length=N/\∀w,w<N->(if p m=true then List.set _ m true else _:List Bool).getD w false=_
   grind
theorem u0G(p:Nat->Bool)(N:Nat)(D:List Bool)(c:D.length=N):fN (fun w (s:List Bool)=>if p w=true then s.set w true else s) N D=CN p N D:=by
 obtain⟨b,d⟩:=p0V p N D c N (Nat.le_refl _);refine Jy false (by rw[b,Rf]) fun w a=>?_;rw[b] at a;rw[d w a,Xh _ _ _ a,decide_eq_true a,Bool.true_and]
theorem r0s(M:Nat)(q:Nat->Bool):(List.range M).any q=decide (0 < ((I1 q M).length:Int)):=by
 rw[Bool.eq_iff_iff,List.any_eq_true,dq,(FP q M).2];constructor
 ·rintro⟨x,a,c⟩;have:x∈(List.range M).filter q:=List.mem_filter.2 ⟨a,c⟩;have:=List.length_pos_of_mem this;omega
 ·intro h;obtain⟨x,b⟩:=List.exists_mem_of_length_pos (show 0 < ((List.range M).filter q).length by omega);exact⟨x,List.mem_filter.1 b⟩
section
variable {b:j9}
def DM(b:j9)(lv:List Bool)(v:Nat):List Bool:=vl (Dq (j7 b:Int) (lV b) lv (v:Int) true)
theorem Nv(c:p9 b=true){lv:List Bool}(a:lv.length=(lV b).length){v:Nat}(f:v<j7 b):RB (lV b).length (j7 b) (o8 b) (p7 b) (fun i=>lv.getD i false) v (DM b lv v)/\Dq (j7 b:Int) (lV b) lv (v:Int) true=some (DM b lv v):=by
 obtain⟨L,e,d⟩:=Xg c a f true;unfold DM;rw[d];exact⟨e,rfl⟩
def J9(b:j9)(lv:List Bool)(v w:Nat):Bool:=(DM b lv v).getD w false&&(DM b lv w).getD v false
def Ao(b:j9)(lv:List Bool)(v:Nat):List Int:=I1 (J9 b lv v) (j7 b)
def Nw(b:j9)(lv:List Bool)(v:Nat):Bool:=decide (0 < ((I1 (fun k=>lv.getD k false&&(o8 b k==v&&p7 b k==v)) (lV b).length).length:Int))
def Ap(b:j9)(lv:List Bool)(v:Nat):Bool:=decide (1 < ((Ao b lv v).length:Int))||Nw b lv v
def P7(b:j9)(lv:List Bool)(v:Nat)(s:List Bool×List (List Int)):List Bool×List (List Int):=if s.1.getD v false=true then s else if Ap b lv v=true then(CN (J9 b lv v) (j7 b) s.1,s.2++[Ao b lv v]) else s
def Aq(b:j9)(lv:List Bool):List (List Int):=(fN (P7 b lv) (j7 b) (List.replicate (j7 b) false,[])).2
theorem v0B(b:j9)(lv:List Bool){v:Nat}{s:List Bool×List (List Int)}(h:s.1.length=j7 b/\s.2.length<=v):(P7 b lv v s).1.length=j7 b/\(P7 b lv v s).2.length<=v+1:=by
 grind[P7,Rf,List.length_append,List.length_singleton]
theorem Xi(d:p9 b=true){lv:List Bool}(a:lv.length=(lV b).length){v:Nat}(c:v<j7 b):J9 b lv v v=true:=by
 have h:=((Nv d a c).1.2 v c).2 .refl
 grind[J9]
theorem w0t(b:j9)(lv:List Bool)(v:Nat):(Ao b lv v).length<=j7 b:=(FP _ _).1
theorem y0M(i:p9 b=true){lv:List Bool}(f:lv.length=(lV b).length){v:Nat}(j:v<j7 b){s:List Bool×List (List Int)}(_:s.1.length=j7 b):(s.1.getD v false=true->L8 (j7 b) v s.1=L8 (j7 b) (v+1) s.1)/\(s.1.getD v false=false->CN (J9 b lv v) (j7 b) (L8 (j7 b) v s.1)=L8 (j7 b) (v+1) (P7 b lv v s).1):=by
 have a:=Xi i f j;refine⟨fun h=>Jy false (by grind[Nt]) fun w c=>?_,fun h=>Jy false (by rw[Rf,Nt]) fun w c=>?_⟩
 ·grind[Nt,Nu]
 ·rw[Rf] at c;rw[Xh _ _ _ c,Nu _ _ _ c,Nu _ _ _ c];unfold P7;rw[if_neg (by rw[h]; simp)];by_cases d:Ap b lv v=true
  ·rw[if_pos d,Xh _ _ _ c];by_cases e:w=v
   ·subst e; rw[a]; simp
   ·have:(w<v+1)↔w<v:=by omega
    simp[this,Bool.or_assoc]
  ·rw[if_neg d];have g:((List.range (j7 b)).filter (J9 b lv v)).length<2:=by
    have:=(FP (J9 b lv v) (j7 b)).2;unfold Ap at d;rw[Bool.or_eq_true,not_or,dq] at d;unfold Ao at d;omega
   grind[J9,absurd,q0P]
theorem M0g(d:p9 b=true){lv:List Bool}(o:lv.length=(lV b).length)(a:Nat):LR (lV b) lv (a:Int)=some (Nw b lv a):=by
 have q:=Q8 d;unfold Nw;rw[<- r0s];have c:=H9 (n:=(lV b).length) (by omega) (fun i=>lv.getD i false&&(o8 b i==a&&p7 b i==a)) (some true) (e:=some false) (F:=A0J lv (lV b) (a:Int)) (fun g i hi=>by
  obtain⟨k,f,_⟩:=N2 b d hi;have l:((i:Int)).toNat=i:=rfl;have j:((o8 b i:Int)==(a:Int))=(o8 b i==a):=by
   rw[Bool.eq_iff_iff,beq_iff_eq,beq_iff_eq]; omega
  have m:((p7 b i:Int)==(a:Int))=(p7 b i==a):=by
   rw[Bool.eq_iff_iff,beq_iff_eq,beq_iff_eq]; omega
  refine(if_pos (by simpa using hi)).trans ?_;rw[l,k,f,j,m,Bool.and_assoc];refine(gP ⟨oo,(fun _=>oo),(fun _=>oo),trivial⟩).trans ?_;by_cases h:(lv.getD i false&&(o8 b i==a&&p7 b i==a))=true
  ·simp_all
  ·rw[if_neg h,if_neg h];exact gP ⟨oo,trivial⟩) (fun g=>aE)
 refine c.trans ?_
 grind
theorem O0g(d:p9 b=true){lv:List Bool}(a:lv.length=(lV b).length):GS (j7 b:Int) (lV b) lv=some (Aq b lv):=by
 have hM:=Q8 d;have hN:=AN b d;have e0:((j7 b:Int)).toNat=j7 b:=rfl;unfold GS;rw[gP ⟨⟨by omega,rfl,by omega,by omega⟩,trivial⟩,e0];have m:List.replicate (j7 b) false=L8 (j7 b) 0 (List.replicate (j7 b) false):=Jy false (by rw[Nt,List.length_replicate]) fun w i=>by
  grind[List.length_replicate,Nu]
 refine Eq.trans (congrArg (fun x=>lp (UA (lV b) lv (j7 b:Int)) (0,x,[])) m) ?_;refine lF (n:=j7 b) (by omega) (fun(v:Nat) (s:List Bool×List (List Int))=>((v:Int),L8 (j7 b) v s.1,s.2)) (P7 b lv) (fun v s=>s.1.length=j7 b/\s.2.length<=v) (J:=fun s=>some s.2) (F:=UA (lV b) lv (j7 b:Int)) (fun g v s e j=>?_) (fun v s e j=>v0B b lv j) (fun g s _=>aE) (List.replicate (j7 b) false,[]) ⟨List.length_replicate,Nat.le_refl _⟩;obtain⟨z,H⟩:=j;obtain⟨S,o⟩:=s;have z:S.length=j7 b:=z;have H:o.length<=v:=H;have e3:((v:Int)).toNat=v:=rfl;have k:=Nt (j7 b) v S;have u:(L8 (j7 b) v S).getD v false=S.getD v false:=by
  rw[Nu _ _ _ e,decide_eq_false (Nat.lt_irrefl v),Bool.false_or]
 obtain⟨V,E⟩:=y0M d a e (s:=(S,o)) z;have V:S.getD v false=true->L8 (j7 b) v S=L8 (j7 b) (v+1) S:=V;have E:S.getD v false=false->CN (J9 b lv v) (j7 b) (L8 (j7 b) v S)=L8 (j7 b) (v+1) (P7 b lv v (S,o)).1:=E;have j2:∀y q,IM (v:Int) g (y,q)=g (((v+1:Nat):Int),y,q):=fun y q=>gP ⟨oo,trivial⟩;refine(if_pos (decide_eq_true (by omega))).trans ?_;refine(gP ⟨⟨by omega,by grind⟩,by grind,trivial⟩).trans ?_;show(if(L8 (j7 b) v S).getD v false=true then IM (v:Int) g (L8 (j7 b) v S,o) else _)=g (((v+1:Nat):Int),L8 (j7 b) (v+1) (P7 b lv v (S,o)).1,(P7 b lv v (S,o)).2);rw[u];cases hS:S.getD v false with
 | true =>
   refine(if_pos rfl).trans ?_
   grind[P7]
 | false =>
   refine(if_neg (by simp)).trans ?_;obtain⟨T,t1,Y⟩:=Xg d a e true;obtain⟨B,W,b2⟩:=Xg d a e false;have c:=Nv d a e;obtain rfl:T=DM b lv v:=t1.uniq c.1;have r:∀w,w<j7 b->B.getD w false=(DM b lv w).getD v false:=fun w i=>by
    rw[Bool.eq_iff_iff,W.2 w i,(Nv d a i).1.2 v e];exact⟨fun h=>Rch.back h,fun h=>Rch.back h⟩
   rw[Y,b2,vS,vS];refine(gP ⟨rfl,rfl,trivial⟩).trans ?_;rw[lE];have aA:=c.1.1;have aB:=W.1;rw[<- E hS];have G:lp (Uz (DM b lv v) B (v:Int) o (lV b) lv (j7 b:Int) g) (0,[],L8 (j7 b) v S)=LS (v:Int) o (lV b) lv g (Ao b lv v,CN (J9 b lv v) (j7 b) (L8 (j7 b) v S)):=by
    unfold Ao;rw[<- FO,<- u0G (J9 b lv v) (j7 b) (L8 (j7 b) v S) k];have f:∀n,fN (fun w (s:List Int×List Bool)=>if J9 b lv v w=true then(s.1++[(w:Int)],s.2.set w true) else s) n ([],L8 (j7 b) v S)=(fN (fun w (s:List Int)=>if J9 b lv v w=true then s++[(w:Int)] else s) n [],fN (fun w (s:List Bool)=>if J9 b lv v w=true then s.set w true else s) n (L8 (j7 b) v S)):=by
     intro n
     induction n with
     | zero=>rfl
     | succ n ih =>
       grind[J9,fN,set]
    rw[<- f];refine lF (n:=j7 b) (by omega) (fun(w:Nat) (s:List Int×List Bool)=>((w:Int),s.1,s.2)) (fun w (s:List Int×List Bool)=>if J9 b lv v w=true then(s.1++[(w:Int)],s.2.set w true) else s) (fun w s=>s.1.length<=w/\s.2.length=j7 b) (J:=fun s=>LS (v:Int) o (lV b) lv g s) (F:=Uz (DM b lv v) B (v:Int) o (lV b) lv (j7 b:Int) g) (fun P w s i j=>?_) (fun w s i j=>?_) (fun P s _=>aE) ([],L8 (j7 b) v S) ⟨Nat.le_refl _,k⟩
    ·obtain⟨Q,i2⟩:=j;obtain⟨l,D⟩:=s;have Q:l.length<=w:=Q;have i2:D.length=j7 b:=i2;have X:((w:Int)).toNat=w:=rfl;refine(if_pos (decide_eq_true (by omega))).trans ?_;rw[X,r w i];refine(gP ⟨oo,by omega,(fun _=>oo),(fun _=>by omega),trivial⟩).trans ?_;show(if J9 b lv v w=true then _ else _)=P (((w+1:Nat):Int),(if J9 b lv v w=true then(l++[(w:Int)],D.set w true) else(l,D)).1,(if J9 b lv v w=true then(l++[(w:Int)],D.set w true) else(l,D)).2);by_cases h:J9 b lv v w=true
     ·rw[if_pos h,if_pos h];refine(gP ⟨⟨by grind,by grind⟩,trivial⟩).trans ?_;refine(gP ⟨oo,by omega,trivial⟩).trans ?_;exact gP ⟨oo,trivial⟩
     ·rw[if_neg h,if_neg h];exact gP ⟨oo,trivial⟩
    ·grind
   refine G.trans ?_;have aC:=w0t b lv v;rw[LS];refine(gP ⟨fun _=>(by grind[M0g]),trivial⟩).trans ?_;rw[M0g d a,vS];have t:P7 b lv v (S,o)=if Ap b lv v=true then(CN (J9 b lv v) (j7 b) S,o++[Ao b lv v]) else(S,o):=if_neg (by grind)
   rw[t];show(if Ap b lv v=true then _ else _)=_;cases hc:Ap b lv v with
   | true =>
     refine(if_pos rfl).trans ?_;rw[j2];exact gP ⟨⟨by grind,by grind⟩,trivial⟩
   | false =>
     grind
end
end Go.Proofs.YtdjgagoledoaaaaGreatDoor
end
section
namespace Go.Proofs.Xd
open Go.Proofs.Xl
section
variable (M N:Nat) (fr to:Nat->Nat) (lv:Nat->Bool)
def Rg:Prop:=∃i,i<M/\lv i=true/\Rch M fr to lv (to i) (fr i)
theorem q0Z:∀r:List Bool,C9 r<r.length->∃v,v<r.length/\r.getD v false=false
 | [],h=>by simp at h
 | false :: r,_=>⟨0,by simp,rfl⟩
 | true :: r,h=>by
   have e:C9 (true :: r)=C9 r+1:=by unfold C9; rw[List.countP_cons]; rfl
   obtain⟨v,a,b⟩:=q0Z r (by rw[e] at h; simpa using h);exact⟨v+1,by simpa using a,by simpa using b⟩
theorem Xj:∀(a b:List Bool),a.length=b.length->(∀v,a.getD v false=true->b.getD v false=true)->(∃v,a.getD v false=false/\b.getD v false=true)->C9 a<C9 b:=by
 have k:∀(a b:List Bool),a.length=b.length->(∀v,a.getD v false=true->b.getD v false=true)->C9 a<=C9 b:=by
  intro a
  induction a with
  | nil=>grind
  | cons x a d =>
    intro b c h;cases b with
    | nil=>grind
    | cons y b =>
      have g:=h 0;have:=d b (by grind) (fun v e=>by have:=h (v+1); simpa using this (by simpa using e))
      grind[C9,List.getD_cons_zero]
 intro a
 induction a with
 | nil=>grind
 | cons x a d =>
   intro b c h ⟨v,l,j⟩;cases b with
   | nil=>simp at c
   | cons y b =>
     have f:a.length=b.length:=by simpa using c
     have g:=h 0;have i:∀v,a.getD v false=true->b.getD v false=true:=fun v e=>by have:=h (v+1); simpa using this (by simpa using e)
     simp only[List.getD_cons_zero] at g;cases v with
     | zero =>
       grind[List.getD_cons_zero,C9]
     | succ v =>
       have:=d b f i ⟨v,by grind,by grind⟩
       grind[C9]
theorem I0y(o:∀i,i<M->fr i<N)(_:∀i,i<M->to i<N)(r:N<=1000000){U:Nat->Prop}(k:∀u,U u->u<N/\∃i,i<M/\lv i=true/\to i=u/\U (fr i)){u:Nat}(b:U u):Rg M fr to lv:=by
 have l:∀(n u:Nat) (L:List Bool),U u->RB M N to fr lv u L->C9 L<=n->Rg M fr to lv:=by
  intro n
  induction n with
  | zero =>
    intro u L b a x;obtain⟨g,i,hi,j,e,q⟩:=k u b;have hz:L.getD u false=true:=(a.2 u g).2 .refl;have:0<C9 L:=by
     unfold C9;rw[List.countP_pos_iff];refine⟨true,?_,rfl⟩;have f:u<L.length:=by rw[a.1]; exact g
     rw[gq,List.getElem?_eq_getElem f] at hz;have hz:L[u]=true:=hz;rw[<- hz];exact List.getElem_mem f
    omega
  | succ n w =>
    intro u L b a x;obtain⟨g,i,hi,j,e,q⟩:=k u b;by_cases s:Rch M fr to lv u (fr i)
    ·exact⟨i,hi,j,by grind⟩
    ·obtain⟨K,c⟩:=B0I M N to fr lv o r (o i hi);refine w (fr i) K q c ?_;have:C9 K<C9 L:=by
      refine Xj K L (by rw[c.1,a.1]) (fun v m=>?_) ⟨u,?_,(a.2 u g).2 .refl⟩
      ·have d:v<N:=by
        rcases Nat.lt_or_ge v N with h | h
        ·exact h
        ·rw[gq,List.getElem?_eq_none (by rw[c.1]; exact h)] at m; cases m
       refine(a.2 v d).2 ?_;have t:=(c.2 v d).1 m;have y:Rch M to fr lv u (fr i):=by
        have:=Rch.one (M:=M) (fr:=to) (to:=fr) (lv:=lv) hi j
        rwa [e] at this
       exact y.trans t
      ·cases hc:K.getD u false with
       | false=>rfl
       | true=>exact(s ((c.2 u g).1 hc).back).elim
     omega
 obtain⟨L,a⟩:=B0I M N to fr lv o r (k u b).1;exact l _ u L b a (Nat.le_refl _)
structure LI(out:List Nat):Prop where
 cnt:C9 (O5 N out)=out.length
 lt:∀v∈out,v<N
 cls:∀i,i<M->lv i=true->to i∈out->fr i∈out
 acy:∀i,i<M->lv i=true->fr i∈out->¬Rch M fr to lv (to i) (fr i)
theorem LI.nil:LI M N fr to lv []:=by
 refine⟨?_,(fun _ h=>by cases h),(fun _ _ _ h=>by cases h),(fun _ _ _ h=>by cases h)⟩;show C9 (List.replicate N false)=0
 grind[C9,List.countP_eq_zero]
theorem LI.snoc{M N:Nat}{fr to:Nat->Nat}{lv:Nat->Bool}{a:List Nat}(h:LI M N fr to lv a){v:Nat}(t:v<N)(s:v ∉ a)(m:X6 M fr to lv a v=0):LI M N fr to lv (a++[v]):=by
 have l:∀i,i<M->lv i=true->to i=v->fr i∈a:=fun i hi c e=>by
  unfold X6 at m;rw[List.countP_eq_zero] at m;have:=m i (List.mem_range.2 hi);simpa [c,e] using this
 have n:=Nh h.lt v;refine⟨?_,fun w g=>?_,fun i hi c b=>?_,fun i hi c b d=>?_⟩
 ·rw[n0c,q0Y (by rw[n.1]; exact t) (by rw[n.2]; simpa using s),h.cnt,List.length_append];rfl
 ·rcases List.mem_append.1 g with g | g
  ·exact h.lt w g
  grind
 ·rcases List.mem_append.1 b with b | b
  ·exact List.mem_append_left _ (h.cls i hi c b)
  grind
 ·rcases List.mem_append.1 b with b | b
  ·exact h.acy i hi c b d
  ·have e:=List.mem_singleton.1 b;rw[e] at d;generalize hq:to i=q at d;cases d with
   | refl =>
     grind
   | @step j d o f =>
     have k:=l j o f rfl;refine h.acy j o f k ?_;have r:=Rch.one (M:=M) (fr:=fr) (to:=to) (lv:=lv) hi c;rw[e,hq] at r;exact r.trans d
theorem D0M(t:∀i,i<M->fr i<N)(F:∀i,i<M->to i<N)(G:N<=1000000):AJ M N fr to lv N []=none↔Rg M fr to lv:=by
 have n:∀(k:Nat) (a:List Nat),LI M N fr to lv a->a.length+k=N->(AJ M N fr to lv k a=none->Rg M fr to lv)/\∀l,AJ M N fr to lv k a=some l->LI M N fr to lv l/\l.length=N:=by
  intro k
  induction k with
  | zero=>intro a h y; exact⟨(fun e=>by cases e),fun l e=>by cases e; grind⟩
  | succ k r =>
    intro a h y;show((match N0 M N fr to lv a with | none=>none | some v=>AJ M N fr to lv k (a++[v]))=none->_)/\∀l,(match N0 M N fr to lv a with | none=>none | some v=>AJ M N fr to lv k (a++[v]))=some l->_;cases hn:N0 M N fr to lv a with
    | none =>
      refine⟨fun _=>?_,fun l e=>by cases e⟩;have w:∀v,v<N->v ∉ a->X6 M fr to lv a v≠0:=fun v b d g=>by
       unfold N0 at hn;rw[List.find?_eq_none] at hn;have:=hn v (List.mem_range.2 b);simp[d,g] at this
      have f:=fun v=>Nh h.lt v;obtain⟨v,b,c⟩:=q0Z (O5 N a) (by rw[h.cnt,(f 0).1]; omega);rw[(f v).1] at b;rw[(f v).2] at c;refine I0y M N fr to lv t F G (U:=fun v=>v<N/\v ∉ a) (fun u ⟨x,d⟩=>⟨x,?_⟩) (u:=v) ⟨b,by simpa using c⟩
      grind[X6]
    | some v =>
      obtain⟨E,s⟩:=Ng hn;have g:X6 M fr to lv a v=0:=by
       unfold N0 at hn;have:=List.find?_some hn;simp only[ba,beq_iff_eq] at this;exact this.2
      exact r (a++[v]) (h.snoc E s g) (by grind)
 obtain⟨o,H⟩:=n N [] (LI.nil M N fr to lv) (by simp);refine⟨o,fun⟨i,hi,z,q⟩=>?_⟩;cases ho:AJ M N fr to lv N [] with
 | none=>rfl
 | some l =>
   obtain⟨m,P⟩:=H l ho;have d:fr i∈l:=by
    have f:=Nh m.lt (fr i);cases g:l.contains (fr i) with
    | true=>grind
    | false =>
      exfalso;have j:C9 (O5 N l)<N:=by
       have:=Xj (O5 N l) (List.replicate N true) (by grind) (fun v b=>?_) ⟨fr i,by grind,?_⟩
       ·grind[C9,List.replicate,Wy,List.length_replicate]
       ·grind
       ·grind
      rw[m.cnt] at j;omega
   exact(m.acy i hi z d q).elim
end
end Go.Proofs.Xd
end
section
namespace Go.Proofs.YtdjgagoledoaaaaGreatDoor
open Go Go.Proofs Go.Proofs.Sv Go.Proofs.Xv Go.Proofs.Xl Go.Proofs.Xd
section
variable {b:j9}
def Nx(b:j9)(i:Nat):Int:=((lV b).getD i (a6 y80)).2.2.1
theorem I0n(h:p9 b=true){i:Nat}(hi:i < (lV b).length):Nx b i=1∨((u5 b.2.1 (o8 b i / 2)).2.2.2=true/\(u5 b.2.1 (p7 b i / 2)).2.2.2=false):=by
 have l:=H8 (d:=a6 y80) hi;unfold Nx o8 p7;rcases Wj l with ⟨r,j,t,_,_,_,e⟩ | ⟨n,k,t,c,hk,ht,e⟩
 ·left;rw[e]; rfl
 ·right;have c:n<b.2.2.length:=c;obtain⟨q,f,_,_,o⟩:=MI (u5 b.2.1) n (q9 b.2.1).length _ (H8 (d:=0) hk);have f:(y9 b.2.1 n).getD k 0=(q:Int):=f;obtain⟨p,m,g,_,a⟩:=w0e (w0f h c);have a:J5 b n=(p:Int):=a;unfold X5 at g;rw[ba] at g;rw[e,f,a];show(u5 b.2.1 ((2*(p:Int)+(t:Int)).toNat / 2)).2.2.2=true/\(u5 b.2.1 ((2*(q:Int)+(t:Int)).toNat / 2)).2.2.2=false
  grind
end
end Go.Proofs.YtdjgagoledoaaaaGreatDoor
namespace Go.Proofs.Xd
open Go.Proofs.Xl
theorem q0f{M:Nat}{fr to:Nat->Nat}{lv:Nat->Bool}{a c:Nat}(h:Rch M fr to lv a c):a=c∨∃i,i<M/\lv i=true/\fr i=a/\Rch M fr to lv (to i) c:=by
 induction h with
 | refl=>omega
 | @step j g d b f =>
   rcases f with e | ⟨i,h1,h2,h3,h4⟩
   ·exact .inr ⟨j,d,b,e.symm,.refl⟩
   ·exact .inr ⟨i,h1,h2,h3,h4.step d b⟩
theorem z0y{N:Nat}{p:Nat->Bool}{v:Nat}(h:1 < ((List.range N).filter p).length):∃w,w<N/\p w=true/\w≠v:=by
 have c:((List.range N).filter p).Nodup:=List.nodup_range.filter _;have a:∀x∈(List.range N).filter p,x<N/\p x=true:=fun x f=>by
  grind
 generalize (List.range N).filter p=l at h c a
 match l,h with
 | x :: y :: r,_ =>
   have b:x≠y:=fun e=>by
    grind
   by_cases e:x=v
   ·exact⟨y,(a y (by simp)).1,(a y (by simp)).2,fun d=>b (by omega)⟩
   ·exact⟨x,(a x (by simp)).1,(a x (by simp)).2,e⟩
end Go.Proofs.Xd
namespace Go.Proofs.YtdjgagoledoaaaaGreatDoor
open Go Go.Proofs Go.Proofs.Sv Go.Proofs.Xv Go.Proofs.Xl Go.Proofs.Xd
section
variable {b:j9}
def Rh(q:Nat->Bool)(m:Nat):Int:=fN (fun k (l:Int)=>if q k=true then(k:Int) else l) m (-1)
theorem Xk(q:Nat->Bool):∀m,(∃k,k<m/\q k=true)->∃k,k<m/\q k=true/\Rh q m=(k:Int)/\0 < (I1 q m).length/\(I1 q m).getD (((I1 q m).length:Int)-1).toNat 0=(k:Int)
 | 0,⟨k,h,_⟩=>by omega
 | m+1,⟨k,h,hk⟩=>by
   have e:Rh q (m+1)=if q m=true then(m:Int) else Rh q m:=rfl
   have d:I1 q (m+1)=if q m=true then I1 q m++[(m:Int)] else I1 q m:=by
    rw[<- FO,<- FO]; rfl
   rw[e,d];by_cases a:q m=true
   ·rw[if_pos a,if_pos a];refine⟨m,by omega,a,rfl,by grind,?_⟩
    simp_all
   ·rw[if_neg a,if_neg a];have b:k<m:=by
     rcases Nat.lt_or_ge k m with c | c
     ·exact c
     ·grind
    obtain⟨l,g,n,j,f,i⟩:=Xk q m ⟨k,b,hk⟩
    grind
abbrev Ri(b:j9)(lv:List Bool)(v w:Nat):Prop:=Rch (lV b).length (o8 b) (p7 b) (fun i=>lv.getD i false) v w
theorem Ny(c:p9 b=true){lv:List Bool}(a:lv.length=(lV b).length){v w:Nat}(d:v<j7 b)(e:w<j7 b):J9 b lv v w=true↔Ri b lv v w/\Ri b lv w v:=by
 unfold J9;rw[ba,(Nv c a d).1.2 w e,(Nv c a e).1.2 v d]
theorem Xm(j:p9 b=true){lv:List Bool}(g:lv.length=(lV b).length){v:Nat}(r:v<j7 b):Ap b lv v=true↔∃i,i < (lV b).length/\lv.getD i false=true/\o8 b i=v/\Ri b lv (p7 b i) v:=by
 unfold Ap;rw[Bool.or_eq_true,dq];have l:Nw b lv v=true↔∃i,i < (lV b).length/\lv.getD i false=true/\o8 b i=v/\p7 b i=v:=by
  unfold Nw;rw[<- r0s,List.any_eq_true];constructor
  ·grind
  ·grind
 have s:(Ao b lv v).length=((List.range (j7 b)).filter (J9 b lv v)).length:=(FP _ _).2;constructor
 ·rintro(h | h)
  ·obtain⟨w,q,k,o⟩:=z0y (v:=v) (show 1 < ((List.range (j7 b)).filter (J9 b lv v)).length by omega);obtain⟨n,m⟩:=(Ny j g r q).1 k;rcases q0f n with e | ⟨i,a,c,f,d⟩
   ·omega
   ·exact⟨i,a,c,f,d.trans m⟩
  ·obtain⟨i,a,c,f,d⟩:=l.1 h;exact⟨i,a,c,f,by rw[d]; exact .refl⟩
 ·rintro⟨i,a,c,f,d⟩;by_cases e:p7 b i=v
  ·grind
  ·left;obtain⟨_,_,_,t⟩:=N2 b j a
   grind[Ny,Rch.one,Nat.lt_or_ge,q0P,Xi]
theorem z0N(c:p9 b=true){lv:List Bool}(a:lv.length=(lV b).length){v:Nat}(f:v<j7 b)(h:Ap b lv v=true):∃k,k < (lV b).length/\lv.getD k false=true/\Nx b k=1/\J9 b lv v (o8 b k)=true/\J9 b lv v (p7 b k)=true:=by
 obtain⟨i,d,l,m,n⟩:=(Xm c a f).1 h;obtain⟨_,_,_,r⟩:=N2 b c d;have q:Ri b lv v (p7 b i):=by
  have:=Rch.one (M:=(lV b).length) (fr:=o8 b) (to:=p7 b) (lv:=fun i=>lv.getD i false) d l;rw[m] at this; exact this
 rcases I0n c d with g | ⟨_,k2⟩
 ·exact⟨i,d,l,g,by rw[m]; exact Xi c a f,(Ny c a f r).2 ⟨q,n⟩⟩
 ·rcases q0f n with e | ⟨j,j1,j2,j3,j4⟩
  ·grind
  ·obtain⟨_,_,t,s⟩:=N2 b c j1;have o:=Rch.one (M:=(lV b).length) (fr:=o8 b) (to:=p7 b) (lv:=fun i=>lv.getD i false) j1 j2;rw[j3] at o;rcases I0n c j1 with g | ⟨k3,_⟩
   ·exact⟨j,j1,j2,g,by grind[Ny],(Ny c a f s).2 ⟨q.trans o,j4⟩⟩
   grind
theorem Rj(b:j9)(lv:List Bool):∀m,m<=j7 b->((fN (P7 b lv) m (List.replicate (j7 b) false,[]))=(List.replicate (j7 b) false,[])/\∀v,v<m->Ap b lv v=false)∨∃v t,v<m/\Ap b lv v=true/\(fN (P7 b lv) m (List.replicate (j7 b) false,[])).2=Ao b lv v :: t
 | 0,_=>.inl ⟨rfl,fun v h=>by omega⟩
 | m+1,h=>by
   have e:fN (P7 b lv) (m+1) (List.replicate (j7 b) false,[])=P7 b lv m (fN (P7 b lv) m (List.replicate (j7 b) false,[])):=rfl;rw[e];rcases Rj b lv m (by omega) with ⟨c,a⟩ | ⟨v,t,c,a,h3⟩
   ·rw[c];have d:(List.replicate (j7 b) false).getD m false=false:=by
     rw[gq,List.getElem?_replicate];split <;> rfl
    unfold P7;show(if(List.replicate (j7 b) false).getD m false=true then _ else _)=_/\_∨∃v t,_/\_/\(if(List.replicate (j7 b) false).getD m false=true then _ else _:List Bool×List (List Int)).2=_;rw[d];cases hc:Ap b lv m with
    | false =>
      left;refine⟨rfl,fun v f=>?_⟩;by_cases e:v=m
      ·rw[e]; exact hc
      ·exact a v (by omega)
    | true=>exact .inr ⟨m,[],by omega,hc,rfl⟩
   ·right;generalize fN (P7 b lv) m (List.replicate (j7 b) false,[])=s at h3;unfold P7;split
    ·exact⟨v,t,by omega,a,h3⟩
    ·split
     ·exact⟨v,t++[Ao b lv m],by omega,a,by show s.2++[_]=_; rw[h3]; rfl⟩
     ·exact⟨v,t,by omega,a,h3⟩
def HF(b:j9)(lv:List Bool):Bool:=!(X7 (P5 b lv [] (j7 b))).2
theorem v0C(a:p9 b=true){lv:List Bool}(d:lv.length=(lV b).length):HF b lv=true↔∃v,v<j7 b/\Ap b lv v=true:=by
 have j:=AN b a;have k:=D0M (lV b).length (j7 b) (o8 b) (p7 b) (fun i=>lv.getD i false) (fun i hi=>(N2 b a hi).2.2.1) (fun i hi=>(N2 b a hi).2.2.2) j;have c:HF b lv=true↔P5 b lv [] (j7 b)=none:=by
  unfold HF;cases P5 b lv [] (j7 b) with
  | none=>exact⟨fun _=>rfl,fun _=>rfl⟩
  | some l=>exact⟨fun h=>(by cases h),fun h=>(by cases h)⟩
 rw[c];refine k.trans ⟨?_,?_⟩
 ·rintro⟨i,c,e,g⟩;obtain⟨_,_,f,_⟩:=N2 b a c;exact⟨o8 b i,f,(Xm a d f).2 ⟨i,c,e,rfl,g⟩⟩
 ·rintro⟨v,m,h⟩;obtain⟨i,c,e,g,n⟩:=(Xm a d m).1 h;exact⟨i,c,e,by grind⟩
def Ca(b:j9)(lv:List Bool):List Int:=(Aq b lv).getD 0 []
def qB(b:j9)(lv:List Bool)(k:Nat):Bool:=lv.getD k false&&(Nx b k==1&&D2 (Ca b lv) (o8 b k:Int)&&D2 (Ca b lv) (p7 b k:Int))
theorem s0l(d:p9 b=true){lv:List Bool}(c:lv.length=(lV b).length)(h:HF b lv=false):Aq b lv=[]:=by
 unfold Aq;rcases Rj b lv (j7 b) (Nat.le_refl _) with ⟨a,_⟩ | ⟨v,t,a,h2,_⟩
 ·rw[a]
 grind[v0C]
theorem k0m(c:p9 b=true){lv:List Bool}(a:lv.length=(lV b).length)(h:HF b lv=true):0 < (Aq b lv).length/\∃k,k < (lV b).length/\qB b lv k=true:=by
 obtain⟨q,i,s⟩:=(v0C c a).1 h;unfold qB Ca;have d:∃v t,v<j7 b/\Ap b lv v=true/\Aq b lv=Ao b lv v :: t:=by
  unfold Aq;rcases Rj b lv (j7 b) (Nat.le_refl _) with ⟨_,g⟩ | ⟨v,t,h1,g,h3⟩
  ·grind
  ·grind
 obtain⟨v,t,m,l,e⟩:=d;rw[e];refine⟨by grind,?_⟩;obtain⟨k,f,r,u,k4,y⟩:=z0N c a m l;obtain⟨_,_,n,z⟩:=N2 b c f;have j:∀w,w<j7 b->J9 b lv v w=true->D2 (Ao b lv v) (w:Int)=true:=fun w x o=>by
  rw[E0m];unfold Ao I1
  grind
 grind
end
section
variable {b:j9}
def JG(b:j9)(lv:List Bool):Int:=Rh (qB b lv) (lV b).length
theorem z0x(c:p9 b=true){lv:List Bool}(_:lv.length=(lV b).length):(Ca b lv).length<=1000000:=by
 have d:=AN b c;unfold Ca Aq;rcases Rj b lv (j7 b) (Nat.le_refl _) with ⟨a,_⟩ | ⟨v,t,_,_,h3⟩
 ·rw[a]; exact Nat.zero_le _
 ·rw[h3];have:=w0t b lv v;show(Ao b lv v).length<=_;omega
theorem D0A(Q:wf l9 b)(a:p9 b=true):∃l:List Int,l.length<=6000/\Ft b=some l:=by
 have hM:=Q8 a;have hN:=AN b a;have ll:(D6 (lV b).length []).length=(lV b).length:=FD _ _;obtain⟨d,r2,e,e2⟩:=Wk (F:=G0s (lV b) (j7 b:Int)) (J:=fun t=>LU t) C9 (fun t=>t.length=(lV b).length) (HF b) (fun t=>t.set (JG b t).toNat false)
  (fun g t c=>by
    have G:GS (j7 b:Int) (lV b) t=some (Aq b t):=O0g a c;show gd ((GS (j7 b:Int) (lV b) t).isSome=true/\True) _=_;rw[G,vS,gP ⟨rfl,trivial⟩,lE];cases e:HF b t with
    | false =>
      rw[s0l a c e];rfl
    | true =>
      obtain⟨V,H⟩:=k0m a c e;obtain⟨k,Y,o,y,k4,k5⟩:=Xk (qB b t) _ H;have E:¬(((Aq b t).length:Int)==0)=true:=by rw[beq_iff_eq]; omega
      refine(if_neg E).trans ?_;have aA:=z0x a c;refine(lF (n:=(lV b).length) (by omega) (fun i (s:Int)=>(s,(i:Int))) (fun i (s:Int)=>if qB b t i=true then(i:Int) else s) (fun _ _=>True) (J:=fun s=>LV t g s) (F:=G0r t (lV b) (Aq b t) g) (fun r i s hi _=>?_) (fun _ _ _ _=>trivial) (fun r s _=>aE) (-1) trivial).trans ?_
      ·have f:((i:Int)).toNat=i:=rfl;obtain⟨f1,f2,_⟩:=N2 b a hi;have ha:U8 ((Aq b t).getD (Int.toNat (0:Int)) []) ((lV b).getD ((i:Int)).toNat (a6 y80)).1=some (D2 (Ca b t) (o8 b i:Int)):=by
        rw[f,f1]; exact WQ (Ca b t) _ (by omega)
       have hz:U8 ((Aq b t).getD (Int.toNat (0:Int)) []) ((lV b).getD ((i:Int)).toNat (a6 y80)).2.1=some (D2 (Ca b t) (p7 b i:Int)):=by
        rw[f,f2]; exact WQ (Ca b t) _ (by omega)
       refine(if_pos (decide_eq_true (by omega))).trans ?_;rw[ha,hz,vS,vS];have u:ix (i:Int) (lV b).length:=oo;have P:((i:Int)).toNat < (lV b).length:=hi;have X:ix (0:Int) (Aq b t).length:=oo;refine(gP ⟨oo,by omega,(fun _=>u),(fun _=>P),(fun _=>X),(fun _=>V),(fun _=>u),(fun _=>P),(fun _=>rfl),(fun _=>X),(fun _=>V),(fun _=>u),(fun _=>P),(fun _=>rfl),trivial⟩).trans ?_;have eq:(t.getD ((i:Int)).toNat false&&((lV b).getD ((i:Int)).toNat (a6 y80)).2.2.1==(1:Int)&&D2 (Ca b t) (o8 b i:Int)&&D2 (Ca b t) (p7 b i:Int))=qB b t i:=by
        unfold qB Nx;rw[f,Bool.and_assoc,Bool.and_assoc,Bool.and_assoc]
       rw[eq];have W:∀x,PN (i:Int) r x=r (x,((i+1:Nat):Int)):=fun x=>gP ⟨oo,trivial⟩;rw[W,W];by_cases h:qB b t i=true
       ·rw[if_pos h,if_pos h]
       ·rw[if_neg h,if_neg h]
      ·show LV t g (JG b t)=_;have q:JG b t=(k:Int):=y;rw[LV,q];refine(gP ⟨oo,by show k<t.length; omega,trivial⟩).trans ?_;rfl)
  (fun t c e=>by
    have c:t.length=(lV b).length:=c;obtain⟨_,H⟩:=k0m a c e;obtain⟨k,Y,o,y,_,_⟩:=Xk (qB b t) _ H;have q:JG b t=(k:Int):=y;have hk:t.getD k false=true:=by
     unfold qB at o;rw[ba] at o;exact o.1
    have T:∀w,(t.set k false).getD w false=if w=k then false else t.getD w false:=fun w=>Jx false (by omega)
    have z:C9 (t.set k false)<C9 t:=by
     refine Xj _ _ (by rw[List.length_set]) (fun v m=>?_) ⟨k,by rw[T,if_pos rfl],hk⟩;rw[T] at m;split at m
     ·cases m
     ·exact m
    show(t.set (JG b t).toNat false).length=(lV b).length/\C9 (t.set (JG b t).toNat false)<C9 t;rw[q,Int.toNat_natCast];exact⟨by rw[List.length_set]; exact c,z⟩)
  (D6 (lV b).length []) ll (by
    have:=Wy (D6 (lV b).length []);omega)
 refine⟨I1 (fun k=>!d.getD k false) (lV b).length,by have:=(FP (fun k=>!d.getD k false) (lV b).length).1; omega,?_⟩
 ·unfold Ft;rw[MU b Q a,vS,gP ⟨rfl,trivial⟩,lE,WR _ _ (by omega) (Nat.zero_le _),vS,gP ⟨rfl,trivial⟩,lE,WO b Q a,vS,gP ⟨rfl,trivial⟩,lE];refine e2.trans ?_;show LU d=_;rw[LU,<- FO];refine lF (n:=(lV b).length) (by omega) (fun(i:Nat) (s:List Int)=>((i:Int),s)) (fun i s=>if(!d.getD i false)=true then s++[(i:Int)] else s) (fun i s=>s.length<=i) (J:=fun s=>some s) (F:=G0q d) (fun g i s hi j=>?_) (fun i s hi j=>?_) (fun g s _=>?_) [] (Nat.le_refl _)
  ·have j:s.length<=i:=j;have f:((i:Int)).toNat=i:=rfl;refine(if_pos (decide_eq_true (by omega))).trans ?_;refine(gP ⟨oo,by omega,trivial⟩).trans ?_;rw[f];by_cases h:(!d.getD i false)=true
   ·rw[if_pos h,if_pos h];refine(gP ⟨⟨by show s.length+1<=_; omega,by show(s.length+1)*8<=_; omega⟩,trivial⟩).trans ?_;exact gP ⟨oo,trivial⟩
   ·rw[if_neg h,if_neg h];exact gP ⟨oo,trivial⟩
  ·have j:s.length<=i:=j;split
   ·rw[List.length_append,List.length_singleton]; omega
   ·omega
  ·exact if_neg (by rw[dq]; omega)
end
def JH(l:List m6):Prop:=∀x∈l,-1000<=x.2.1.2/\x.2.1.2<=1000
def Xn{ρ:Type}(v78 v117:Int)(v118:List m6)(s:l6)(K:List m6×List Int×Int×Int->Option ρ):Option ρ :=
     gd ((c9 s 200).isSome=true/\j0 ((vl (c9 s 200)).1-50)/\(c9 (vl (c9 s 200)).2 30).isSome=true/\True)<|lt ((vl (c9 s 200),vl (c9 (vl (c9 s 200)).2 30))) fun(v137,v138) =>
     gd (j0 (2*v78)/\j0 (2*v78+v117)/\(c9 v138.2 40).isSome=true/\j0 (v137.1-50+(vl (c9 v138.2 40)).1)/\(c9 (vl (c9 v138.2 40)).2 12).isSome=true/\j0 (v138.1+(vl (c9 (vl (c9 v138.2 40)).2 12)).1)/\(v118.length+[(2*v78+v117,(v137.1-50,v137.1-50+(vl (c9 v138.2 40)).1),v138.1,v138.1+(vl (c9 (vl (c9 v138.2 40)).2 12)).1)].length<=9223372036854775807/\(v118.length+[(2*v78+v117,(v137.1-50,v137.1-50+(vl (c9 v138.2 40)).1),v138.1,v138.1+(vl (c9 (vl (c9 v138.2 40)).2 12)).1)].length)*40<=140737488355328)/\True)<|lt ((vl (c9 v138.2 40),vl (c9 (vl (c9 v138.2 40)).2 12),v118++[(2*v78+v117,(v137.1-50,v137.1-50+(vl (c9 v138.2 40)).1),v138.1,v138.1+(vl (c9 (vl (c9 v138.2 40)).2 12)).1)],[(2*v78+v117,(v137.1-50,v137.1-50+(vl (c9 v138.2 40)).1),v138.1,v138.1+(vl (c9 (vl (c9 v138.2 40)).2 12)).1)])) fun(_,v140,v141,_) =>
     K (v141,v140.2.1,v140.2.2.1,v140.2.2.2)
theorem x0N{ρ:Type}{P:ρ->Prop}{b a:Int}{l:List m6}{s:l6}{K:List m6×List Int×Int×Int->Option ρ}(h:Sd s)(T:0<=b)(a1:b<=1000)(F:0<=a)(b1:a<=2)(H:l.length<=10000)(t:JH l)(j:∀l' s',Sd s'->l'.length=l.length+1->JH l'->∃r,K (l',s')=some r/\P r):∃r,Xn b a l s K=some r/\P r:=by
 obtain⟨G,Q,o,u,z,g,-⟩:=A0 (n:=200) h (by omega);have g:=g (by omega);obtain⟨x2,W,q,k,c2,f,-⟩:=A0 (n:=30) u (by omega);have f:=f (by omega);obtain⟨x3,E,w,v,V,e,-⟩:=A0 (n:=40) k (by omega);have e:=e (by omega);obtain⟨X,y,i,m,Y,d,-⟩:=A0 (n:=12) v (by omega);have d:=d (by omega);unfold Xn;simp only[o,q,vS,Option.isSome_some];refine k8 ⟨trivial,oo,trivial,trivial⟩ (w6 ?_);dsimp only;simp only[w,i,vS,Option.isSome_some];refine k8 ⟨oo,oo,trivial,oo,trivial,oo,⟨by rw[List.length_singleton]; omega,by rw[List.length_singleton]; omega⟩,trivial⟩ (w6 ?_);dsimp only;refine j _ y m (by rw[List.length_append,List.length_singleton]) fun x c=>?_;rcases List.mem_append.1 c with c | c
 ·exact t x c
 ·rw[List.mem_singleton.1 c];exact⟨by simp only; omega,by simp only; omega⟩
theorem z0G{l:List m6}{s:l6}(h:Sd s)(F:l.length<=10000)(y:JH l):∃r,Qc (l,s.1,s.2.1,s.2.2)=some r/\(Sd r.2/\r.1.length<=20000):=by
 have a:∀(j:List m6) (i:l6),Sd i->j.length<=20000->∃r,Fw (j,i.1,i.2.1,i.2.2)=some r/\(Sd r.2/\r.1.length<=20000):=fun j i u o=>⟨_,rfl,u,o⟩;unfold Qc;dsimp only;split
 ·rename_i t;have t:=of_decide_eq_true t;obtain⟨k,w,v,z,g,b,-⟩:=A0 (n:=(l.length:Int)) h (by omega);have b:=b (by omega);obtain⟨m,f,x,e,H,E,-⟩:=A0 (n:=30) z (by omega);have q:c9 (s.1,s.2.1,s.2.2) (l.length:Int)=some (k,w):=v;simp only[q,vS,Option.isSome_some];refine k8 ⟨trivial,trivial⟩ (w6 ?_);dsimp only;simp only[x,vS,Option.isSome_some];refine k8 ⟨trivial,trivial⟩ (w6 ?_);dsimp only;have c:k.toNat<l.length:=by omega
  have G:=y _ (H8 (d:=a6 y53) c);split
  ·refine k8 ⟨oo,by show(0:Int).toNat<l.length; simp; omega,⟨g,b⟩,c,trivial⟩ (w6 ?_);exact a _ f e (by rw[List.length_set]; omega)
  ·split
   ·refine k8 ⟨⟨g,b⟩,c,oo,⟨g,b⟩,c,trivial⟩ (w6 ?_);exact a _ f e (by rw[List.length_set]; omega)
   ·split
    ·refine k8 ⟨⟨g,b⟩,c,trivial⟩ (w6 ?_);exact a _ f e (by rw[List.length_set]; omega)
    ·split
     ·refine k8 ⟨⟨g,b⟩,c,trivial⟩ (w6 ?_);exact a _ f e (by rw[List.length_set]; omega)
     ·exact a _ f e (by omega)
 ·exact a _ s h (by omega)
theorem E0y{s:l6}(h:Sd s){b:j9}(T:wf l9 b)(hm:cnt l9 b<=20000):∃r,u64 s b=some r/\(Sd r.2/\r.1.length<=20000):=by
 unfold u64;simp only[Jp b T (Nat.le_trans hm (by decide)),vS,Option.isSome_some];cases hb:p9 b with
 | false =>
   refine k8 ⟨trivial,trivial⟩ ?_;rw[if_pos (by decide)];exact⟨_,rfl,h,by simp⟩
 | true =>
   refine k8 ⟨trivial,trivial⟩ ?_;rw[if_neg (by decide)];have o:=V6 (X3 hb).1;have hp:(M4 b.2.1.1.length b.2.1.2.2.length (m7 b.2.1) (A9 b.2.1)).length<=78:=o.len;simp only[DA b.2.1 T.2.1 o.fac.ni14 o.fac.np8 o.pin,vS,Option.isSome_some];refine k8 ⟨trivial,trivial⟩ (w6 ?_);generalize M4 b.2.1.1.length b.2.1.2.2.length (m7 b.2.1) (A9 b.2.1)=M at hp;refine N1 (fun x=>79-x.1.toNat) (fun x=>Sd (x.2.2.1,x.2.2.2.1,x.2.2.2.2)/\0<=x.1/\x.1<=(M.length:Int)/\(x.2.1.length:Int)<=2*x.1/\JH x.2.1) ?_ ⟨h,by simp only; omega,by simp only; omega,by simp,fun _ h=>by cases h⟩ (by simp only; omega);rintro g ⟨i,l,c,F,v⟩ ⟨y,i2,i3,i4,i5⟩ ih;simp only at y i2 i3 i4 i5;unfold G0p;dsimp only;by_cases q:i < (M.length:Int)
   ·rw[if_pos (decide_eq_true q)];refine k8 ⟨⟨i2,q⟩,by omega,fun _=>⟨i2,q⟩,fun _=>by omega,trivial⟩ ?_;refine N1 (fun x=>3-x.1.toNat) (fun x=>Sd (x.2.2.1,x.2.2.2.1,x.2.2.2.2)/\0<=x.1/\x.1<=2/\(x.2.1.length:Int)<=2*i+x.1/\JH x.2.1) ?_ ⟨y,by simp only; omega,by simp only; omega,by simp only; omega,i5⟩ (by simp only; omega);rintro V ⟨j,u,c3,aA,aB⟩ ⟨m,X,j3,j4,k⟩ G;simp only at m X j3 j4 k;have H:∀(f:List m6) (a:l6),Sd a->j<2->(f.length:Int)<=2*i+j+1->JH f->∃r,Bj j V (f,a.1,a.2.1,a.2.2)=some r/\(Sd r.2/\r.1.length<=20000):=fun f a t hj z e=>by
     unfold Bj;dsimp only;exact k8 ⟨oo,trivial⟩ (G _ ⟨t,by simp only; omega,by simp only; omega,by simp only; omega,e⟩ (by simp only; omega))
    have w:∀(a:l6),Sd a->j<2->∃r,Xn i j u a (Bj j V)=some r/\(Sd r.2/\r.1.length<=20000):=fun a t hj=>x0N t i2 (by omega) X (by omega) (by omega) k fun f E P z e=>H f E P hj (by omega) e
    unfold G0o;dsimp only;by_cases d:j<2
    ·rw[if_pos (decide_eq_true d)];obtain⟨x1,s1,e1,h1,-,-,-⟩:=A0 (n:=8) m (by omega);obtain⟨x2,Y,e2,Q,-,-,-⟩:=A0 (n:=24) h1 (by omega);obtain⟨x3,W,e3,h3,-,-,-⟩:=A0 (n:=24) m (by omega);refine k8 trivial ?_;split
     ·simp only[e1,vS,Option.isSome_some];refine k8 ⟨trivial,trivial⟩ (k8 trivial ?_);split
      ·refine k8 trivial (k8 trivial ?_);rw[if_pos (show(true||false)=true from rfl)];exact w s1 h1 d
      ·simp only[e2,vS,Option.isSome_some];refine k8 ⟨trivial,trivial⟩ (k8 trivial ?_);split
       ·exact w Y Q d
       ·exact H u Y Q d (by omega) k
     ·refine k8 trivial (k8 trivial ?_);rw[if_neg (by decide)];simp only[e3,vS,Option.isSome_some];refine k8 ⟨trivial,trivial⟩ (k8 trivial ?_);split
      ·exact w W h3 d
      ·exact H u W h3 d (by omega) k
    ·rw[if_neg (by simpa using d)];unfold Vb;dsimp only;exact k8 ⟨oo,trivial⟩ (ih _ ⟨m,by simp only; omega,by simp only; omega,by simp only; omega,k⟩ (by simp only; omega))
   ·rw[if_neg (by simpa using q)];exact z0G (s:=(c,F,v)) y (by omega) i5
section
variable [Alw]
theorem Xo{b:j9}(i:wf l9 b)(c:cnt l9 b<=20000){v1:p8×l6}{l:List Int}(d:l.length<=20000){s:l6}(h:Sd s):∃r,Hb b.1 b.2.1.1 b.2.1.2.1 b.2.1.2.2 b.2.2 v1 (l,s.1,s.2.1,s.2.2)=some r/\True:=by
 obtain⟨r,e,g,a⟩:=E0y h i c;have f:u64 (s.1,s.2.1,s.2.2) (b.1,(b.2.1.1,b.2.1.2.1,b.2.1.2.2),b.2.2)=some r:=e;unfold Hb;simp only[f,vS,Option.isSome_some];exact k8 ⟨trivial,trivial⟩ (w6 (k8 ⟨g.1,c,d,a⟩ ⟨_,rfl,trivial⟩))
theorem n0I{b:j9}(a:wf l9 b)(c:cnt l9 b<=20000){v1:p8×l6}{s:l6}(h:Sd s):∃r,MB v1 (b.1,b.2.1.1,b.2.1.2.1,b.2.1.2.2,b.2.2,s.1,s.2.1,s.2.2)=some r/\True:=by
 obtain⟨r,e,i,k⟩:=I0I h a c;have m:IL (s.1,s.2.1,s.2.2) (b.1,(b.2.1.1,b.2.1.2.1,b.2.1.2.2),b.2.2)=some r:=e;have q:R5 (b.1,(b.2.1.1,b.2.1.2.1,b.2.1.2.2),b.2.2)=some (p9 b):=Jp b a (Nat.le_trans c (by decide));obtain⟨x,g,t,j,-,-,-⟩:=A0 (n:=6) i (by omega);unfold MB;simp only[m,q,vS,Option.isSome_some];refine k8 ⟨trivial,trivial⟩ (w6 ?_);refine k8 ⟨trivial,trivial⟩ ?_;by_cases d:(p9 b&&(r.1.length:Int)==0)=true
 ·rw[if_pos d];rw[ba] at d;obtain⟨l,u,o⟩:=D0A a d.1;have f:Ft (b.1,(b.2.1.1,b.2.1.2.1,b.2.1.2.2),b.2.2)=some l:=o;simp only[t,f,vS,Option.isSome_some];refine k8 ⟨trivial,trivial⟩ (k8 trivial ?_);split
  ·refine k8 ⟨trivial,trivial⟩ (w6 ?_);exact Xo (l:=l) (s:=g) a c (by omega) j
  ·exact Xo (l:=r.1) (s:=g) a c (by omega) j
 ·rw[if_neg d];refine k8 trivial (k8 trivial ?_);rw[if_neg (by decide)];exact Xo (l:=r.1) (s:=r.2) a c (by omega) i
omit [Alw] in
theorem wfB{v:j9×l6}(h:HC (Ha v)):wf l9 v.1:=⟨h.1,⟨h.2.1,h.2.2.1,h.2.2.2.1⟩,h.2.2.2.2.1⟩
theorem E0N{s:l6}(h:Sd s):Qu s=some ():=by
 refine O7 ?_;unfold Qu;refine k8 ⟨trivial,h.1⟩ (An ?_);intro e ⟨⟨k,g⟩,o,hz⟩;refine O7 (k8 trivial ?_);have a:=BZ hz k;obtain⟨r,l,q,u⟩:=I0B (s:=IZ e) a;obtain⟨x,t,f,d,-,-,-⟩:=A0 (n:=3) q (by omega);simp only[l,vS,Option.isSome_some];refine k8 ⟨trivial,trivial⟩ (w6 ?_);simp only[f,vS,Option.isSome_some];refine k8 ⟨trivial,trivial⟩ (w6 ?_);dsimp only;split
 ·refine k8 ⟨trivial,QY d.1 (by decide) (by decide)⟩ (An ?_);intro i ⟨⟨j,_,_,_,m⟩,c,b⟩;refine O7 (k8 trivial ?_);exact n0I (s:=Q6 i) (wfB c) (Nat.le_trans m (by decide)) (BZ b j)
 ·exact n0I (wf9 o) g d
theorem P0m:Vs:=e28 WM P0l fun _ b a=>E0N (BZ b.1 a)
theorem z0I{c:List Int}(h:wf (.sl (.int .u8)) c):u8 c=some ():=by
 obtain⟨s,e,d⟩:=E0q h;refine O7 ?_;unfold u8;simp only[e,vS,Option.isSome_some];refine k8 ⟨trivial,trivial⟩ (w6 ?_);refine k8 ⟨trivial,d.1⟩ (An ?_);intro g ⟨⟨_,a,b,f⟩,_,_⟩;exact O7 (k8 trivial (k8 ⟨a,b,f⟩ ⟨_,rfl,trivial⟩))
theorem kw8:K8:=e8 P0m fun _ a _=>z0I a.1
end
end Go.Proofs.YtdjgagoledoaaaaGreatDoor
end
