/- A node's values: both ways say the same. -/
import Derived.Test.YtdjgagoledoaaaaGreatDoorWB
import Derived.Test.YtdjgagoledoaaaaGreatDoorF85c
set_option maxHeartbeats 0
section
namespace Go.Proofs.YtdjgagoledoaaaaGreatDoor
open Go Go.Proofs Go.Proofs.Sv Go.Proofs.Xv Go.Proofs.Xl Go.Proofs.Xd
theorem E0o{a:Type}(q:a->Bool)(d:a)(l:List a):l.find? q=((List.range l.length).find? fun i=>q (l.getD i d)).map fun i=>l.getD i d:=by
 cases h:(List.range l.length).find? fun i=>q (l.getD i d) with
 | none =>
   rw[List.find?_eq_none] at h;refine List.find?_eq_none.2 fun x b=>?_;obtain⟨i,hi,rfl⟩:=List.mem_iff_getElem.1 b
   simp_all
 | some i =>
   grind[List.find?_range_eq_some,hi,List.find?_eq_some_iff_getElem,List.getElem?_eq_getElem]
theorem y0v(l:List m6)(v:Nat)(c:l.length<=9223372036854775807):PO l (v:Int)=some (match(List.range l.length).find? (fun i=>(l.getD i (b7 y53)).1==(v:Int)) with | some i=>(i:Int) | none => -1):=by
 have a:=Jz c (fun i=>(l.getD i (b7 y53)).1==(v:Int)) (fun i=>some (i:Int)) (e:=some (-1)) (F:=j0P l (v:Int)) 0 (Nat.zero_le _) (fun g i _ hi=>by
  have d:((i:Int)).toNat=i:=rfl;refine(if_pos (decide_eq_true (by omega))).trans ?_;rw[d];refine(gP ⟨oo,rfl,trivial⟩).trans ?_;show(if((l.getD i (b7 y53)).1==(v:Int))=true then _ else _)=_;by_cases b:((l.getD i (b7 y53)).1==(v:Int))=true
  ·simp_all
  ·rw[if_neg b,if_neg b];exact gP ⟨oo,trivial⟩) (fun g=>if_neg (by simp))
 rw[Nat.sub_zero,<- List.range_eq_range'] at a;refine Eq.trans a ?_
 grind
def L0V(v:Nat)(o:Option q9):m6×Bool:=match o with
 | some x=>(((v:Int),x.1,x.2),true)
 | none=>((0,(0,0),0,0),false)
theorem r96(l:List m6)(v:Nat)(b:l.length<=9223372036854775807):LU l (v:Int)=some (L0V v (L3 l v)):=by
 unfold LU;rw[y0v l v b,vS,gP ⟨rfl,trivial⟩,lE];unfold L3;rw[E0o _ (b7 y53)];cases h:(List.range l.length).find? fun i=>(l.getD i (b7 y53)).1==(v:Int) with
 | none=>rfl
 | some i =>
   rw[List.find?_range_eq_some] at h;obtain⟨a,d,-⟩:=h;have hi:=List.mem_range.1 d;have c:((i:Int)).toNat=i:=rfl;have a:(l.getD i (b7 y53)).1=(v:Int):=by simpa using a
   show(if decide ((0:Int)<=(i:Int))=true then _ else _)=_;refine(if_pos (decide_eq_true (by omega))).trans ?_;show gd (ix (i:Int) l.length/\True) _=_;rw[c];refine(gP ⟨oo,trivial⟩).trans ?_;rw[lE];show some (l.getD i (b7 y53),true)=some (((v:Int),(l.getD i (b7 y53)).2.1,(l.getD i (b7 y53)).2.2),true)
   grind
def Br(v:Nat)(o:Option q9):Bool×m6:=match o with
 | some x=>(true,(v:Int),x.1,x.2)
 | none=>(false,0,(0,0),0,0)
def M0(v:Nat)(o:Option q9):m6×Bool:=match o with
 | some x=>(((v:Int),x.1,x.2),true)
 | none=>(((v:Int),(0,0),0,0),false)
theorem I0l(v:Nat)(o:Option q9)(x:q9):Fs (M0 v o).1 (M0 v o).2 x.1 x.2=some (M0 v (BQ o x)):=by
 cases o with
 | none=>rfl
 | some y =>
   unfold Fs;exact(if_neg (by simp[M0])).trans ((gP ⟨rfl,rfl,trivial⟩).trans rfl)
section
variable {b:j7}
theorem C0e{t:Hw}{v:Nat}:BS t v=if t.1.getD v false=true then some (t.2.1.getD v (0,0),t.2.2.getD v (0,0)) else none:=rfl
theorem L0I(w:wf l9 b)(s:cnt l9 b<=1048576)(d:p7 b=true){c:p5}(a:wf r5 c)(u:G8 c=true){br:List Int}{ss:List m6}(hl:ss.length<=9223372036854775807){t:Hw}(h:WR (j6 b) t)(v:Nat) :
  IS (o3 b,D4 (lV b).length br) c ss t (v:Int)=some (Br v (V0 b c br ss (BS t) v)):=by
 have hM:=P6 d;have m:=QW (lV b).length br;unfold IS;rw[r96 ss v hl,vS,gP ⟨rfl,trivial⟩,lE];have f:∀o,Mh t (o3 b,D4 (lV b).length br) c (v:Int) ((M0 v o).1.1,(M0 v o).1.2.1.1,(M0 v o).1.2.1.2,(M0 v o).1.2.2.1,(M0 v o).1.2.2.2,(M0 v o).2)=some (Br v (fN (Bp (o6 b) (o8 b) (J9 b br) (D5 b c) (BS t) v) (lV b).length o)):=by
  intro o;rw[Mh,r98 d m v,vS,gP ⟨rfl,trivial⟩,lE];obtain⟨q1,T⟩:=FL (fun i=>J9 b br i&&o8 b i==v) (lV b).length;refine(lF (n:=(H6 (fun i=>J9 b br i&&o8 b i==v) (lV b).length).length) (by omega) (fun i (o:Option q9)=>((i:Int),(M0 v o).1.1,(M0 v o).1.2.1.1,(M0 v o).1.2.1.2,(M0 v o).1.2.2.1,(M0 v o).1.2.2.2,(M0 v o).2)) (fun i o=>match BS t (o6 b (((List.range (lV b).length).filter fun i=>J9 b br i&&o8 b i==v).getD i 0)) with
   | none=>o
   | some x=>BQ o (M7 x.1 (D5 b c (((List.range (lV b).length).filter fun i=>J9 b br i&&o8 b i==v).getD i 0) x.2).1,(D5 b c (((List.range (lV b).length).filter fun i=>J9 b br i&&o8 b i==v).getD i 0) x.2).2)) (fun _ _=>True) (J:=fun o=>some (Br v o)) (F:=G0y t (o3 b,D4 (lV b).length br) c (H6 (fun i=>J9 b br i&&o8 b i==v) (lV b).length)) (fun g i o hi _=>?_) (fun _ _ _ _=>trivial) (fun g o _=>?_) o trivial).trans ?_
  ·have E:((i:Int)).toNat=i:=rfl;have j:=Nh (p:=fun i=>J9 b br i&&o8 b i==v) (M:=(lV b).length) (i:=i) (by omega);refine(if_pos (decide_eq_true (by omega))).trans ?_;rw[E];refine(gP ⟨oo,by omega,trivial⟩).trans ?_;rw[WM];generalize ((List.range (lV b).length).filter fun i=>J9 b br i&&o8 b i==v).getD i 0=k at j;have y:Int.toNat ((k:Nat):Int)=k:=rfl;obtain⟨G,f2,Y,f4⟩:=M8 b d j;have P:ix ((k:Nat):Int) (o3 b).2.2.1.length:=⟨by omega,by show((k:Nat):Int) < ((lV b).length:Int); omega⟩;refine(gP ⟨P,trivial⟩).trans ?_;rw[lE,y];have X:((o3 b).2.2.1.getD k (b7 y80)).1=(o6 b k:Int):=G;have Q:Int.toNat ((o6 b k:Nat):Int)=o6 b k:=rfl;have r:=h.vals _ Y;have n1:=h.l1;have n2:=h.l2;have n3:=h.l3;rw[X];refine(gP ⟨oo,trivial⟩).trans ?_;rw[Q];rw[C0e];by_cases l:t.1.getD (o6 b k) false=true
   ·rw[if_pos l,if_pos l];obtain⟨_,_,_,e⟩:=QZ w s d a u j;have H:=(e _ r.2.1).2;have ok:=Ra w s d a u j r.2.1;have z:=Rb.1 r.1;rw[show t.2.2.getD (o6 b k) (b7 y51)=t.2.2.getD (o6 b k) (0,0) from rfl,H,vS];refine(gP ⟨oo,rfl,trivial⟩).trans ?_;rw[lE];have W:Dl (t.2.1.getD (o6 b k) (b7 y51)) (D5 b c k (t.2.2.getD (o6 b k) (0,0))).1=some (M7 (t.2.1.getD (o6 b k) (0,0)) (D5 b c k (t.2.2.getD (o6 b k) (0,0))).1):=by
     unfold Dl;refine(gP ⟨⟨?_,?_⟩,⟨?_,?_⟩,trivial⟩).trans rfl
     ·grind
     ·grind
     ·grind
     ·grind
    rw[W,vS];have V:=I0l v o (M7 (t.2.1.getD (o6 b k) (0,0)) (D5 b c k (t.2.2.getD (o6 b k) (0,0))).1,(D5 b c k (t.2.2.getD (o6 b k) (0,0))).2);have q:Fs ((M0 v o).1.1,((M0 v o).1.2.1.1,(M0 v o).1.2.1.2),(M0 v o).1.2.2.1,(M0 v o).1.2.2.2) (M0 v o).2 (M7 (t.2.1.getD (o6 b k) (0,0)) (D5 b c k (t.2.2.getD (o6 b k) (0,0))).1) (D5 b c k (t.2.2.getD (o6 b k) (0,0))).2=some (M0 v (BQ o (M7 (t.2.1.getD (o6 b k) (0,0)) (D5 b c k (t.2.2.getD (o6 b k) (0,0))).1,(D5 b c k (t.2.2.getD (o6 b k) (0,0))).2))):=V;simp only[q,vS,Option.isSome_some];refine(gP ⟨⟨oo,trivial,trivial⟩,trivial,trivial⟩).trans ?_;rw[lE];refine(gP trivial).trans ?_;exact gP ⟨oo,trivial⟩
   ·rw[if_neg l,if_neg l];exact gP ⟨oo,trivial⟩
  ·refine(if_neg (by simp)).trans ?_;cases o <;> rfl
  ·rw[T];exact congrArg (fun x=>some (Br v x)) (s0o (fun i=>J9 b br i&&o8 b i==v) (fun k (o:Option q9)=>match BS t (o6 b k) with
    | none=>o
    | some x=>BQ o (M7 x.1 (D5 b c k x.2).1,(D5 b c k x.2).2)) (lV b).length o)
 show(if(L0V v (L3 ss v)).2=true then _ else _)=some (Br v (fN (Bp (o6 b) (o8 b) (J9 b br) (D5 b c) (BS t) v) (lV b).length (L3 ss v)));cases z:L3 ss v with
 | none=>exact f none
 | some x =>
   refine(if_pos rfl).trans ?_;refine(gP ⟨trivial,rfl,trivial⟩).trans ?_;rw[lE];refine(gP trivial).trans ?_;exact f (some x)
end
def P0(v i:Nat)(o:Option q9):Bool×Int×Int×Int×Int×Int×Int:=match o with
 | some x=>(true,(i:Int),(v:Int),x.1.1,x.1.2,x.2.1,x.2.2)
 | none=>(false,(i:Int),0,0,0,0,0)
section
variable {b:j7}
theorem x0Q(i:wf l9 b)(l:cnt l9 b<=1048576)(h:p7 b=true){c:p5}(a:wf r5 c)(j:G8 c=true){k:Nat}(f:k < (lV b).length){sp:Sp}(g:B4 sp=true):Is b c ((lV b).getD k (b7 y80)) sp=some (D5 b c k sp):=by
 obtain⟨v,d,m⟩:=s0w i h j (QY f) sp g;obtain⟨_,_,_,e⟩:=QZ i l h a j f;rw[(e sp g).2] at d;cases d;exact m
theorem I0e(hw:wf l9 b)(hm:cnt l9 b<=1048576)(E:p7 b=true){c:p5}(m:wf r5 c)(hc:G8 c=true){br:List Int}{ss:List m6}(hl:ss.length<=9223372036854775807)(hi:DD ss){t:Hw}(z:WR (j6 b) t)(v:Nat) :
  IP b c (lV b) (D4 (lV b).length br) ss t (v:Int)=some (Br v (V0 b c br ss (BS t) v)):=by
 have hM:=P6 E;have aA:=QW (lV b).length br;have Y:∀o,IN (v:Int) t b c (D4 (lV b).length br) (lV b) ((P0 v 0 o).1,(P0 v 0 o).2.2)=some (Br v (fN (Bp (o6 b) (o8 b) (J9 b br) (D5 b c) (BS t) v) (lV b).length o)):=by
  intro o;rw[IN];have e0:((P0 v 0 o).1,(0:Int),(P0 v 0 o).2.2.1,(P0 v 0 o).2.2.2.1,(P0 v 0 o).2.2.2.2.1,(P0 v 0 o).2.2.2.2.2.1,(P0 v 0 o).2.2.2.2.2.2)=P0 v 0 o:=by cases o <;> rfl
  rw[e0];refine lF (n:=(lV b).length) (by omega) (fun i o=>P0 v i o) (fun k o=>Bp (o6 b) (o8 b) (J9 b br) (D5 b c) (BS t) v k o) (fun _ _=>True) (J:=fun o=>some (Br v o)) (F:=F0U (v:Int) t b c (D4 (lV b).length br) (lV b)) (fun g k o P _=>?_) (fun _ _ _ _=>trivial) (fun g o _=>?_) o trivial
  ·have G:Int.toNat ((k:Nat):Int)=k:=rfl;obtain⟨f1,f2,f3,f4⟩:=M8 b E P;have hv:=z.vals _ f3;have n1:=z.l1;have n2:=z.l2;have n3:=z.l3;have e6:Int.toNat ((o6 b k:Nat):Int)=o6 b k:=rfl;have a:∀(q:Bool) (X W V H T:Int) (y:Option q9),P0 v (k+1) y=(q,(k:Int)+1,X,W,V,H,T)->IM (k:Int) g (q,X,W,V,H,T)=g (P0 v (k+1) y):=fun q X W V H T y e=>by
    rw[e];exact gP ⟨oo,trivial⟩
   obtain⟨q,x,s,w,u,r,d⟩:∃q x s w u r,P0 v k o=(q,(k:Int),x,s,w,u,r):=by cases o <;> exact⟨_,_,_,_,_,_,rfl⟩
   rw[d];refine(if_pos (decide_eq_true (by omega))).trans ?_;refine(gP ⟨oo,trivial⟩).trans ?_;rw[lE,G];have ne:(((lV b).getD k (b7 y80)).2.1 != (v:Int))=!(o8 b k==v):=by
    rw[f2];by_cases h:o8 b k=v
    ·rw[h,bne_self_eq_false,beq_self_eq_true];rfl
    ·have Q:((o8 b k:Nat):Int)≠(v:Int):=by omega
     rw[bne_iff_ne.2 Q,beq_eq_false_iff_ne.2 h];rfl
   rw[ne,f1,e6];refine(gP ⟨oo,(fun _=>oo),trivial⟩).trans ?_;show(if(!J9 b br k||!(o8 b k==v)||!t.1.getD (o6 b k) false)=true then _ else _)=_;unfold Bp;by_cases j:(J9 b br k&&o8 b k==v)=true
   ·rw[if_pos j,C0e];rw[ba] at j;rw[j.1,j.2];by_cases l:t.1.getD (o6 b k) false=true
    ·rw[if_pos l,l];rw[if_neg (by simp)];have es:=x0Q hw hm E m hc P hv.2.1;have ok:=Ra hw hm E m hc P hv.2.1;have hs:=Rb.1 hv.1;rw[show t.2.2.getD (o6 b k) (b7 y51)=t.2.2.getD (o6 b k) (0,0) from rfl,show t.2.1.getD (o6 b k) (b7 y51)=t.2.1.getD (o6 b k) (0,0) from rfl,es,vS];refine(gP ⟨oo,rfl,trivial⟩).trans ?_;rw[lE];refine(gP ⟨oo,oo,oo,oo,trivial⟩).trans ?_;show _=g (P0 v (k+1) (BQ o (M7 (t.2.1.getD (o6 b k) (0,0)) (D5 b c k (t.2.2.getD (o6 b k) (0,0))).1,(D5 b c k (t.2.2.getD (o6 b k) (0,0))).2)));generalize t.2.1.getD (o6 b k) (0,0)=A at hs;generalize D5 b c k (t.2.2.getD (o6 b k) (0,0))=D at ok;cases o with
     | none =>
       cases d;rw[if_neg (by simp)];show IM (k:Int) g (true,(v:Int),_,_,_,_)=_;exact a _ _ _ _ _ _ (BQ none (M7 A D.1,D.2)) rfl
     | some y =>
       cases d;refine(if_pos rfl).trans ?_;refine(gP ⟨rfl,trivial⟩).trans ?_;rw[lE];refine(gP ⟨rfl,trivial⟩).trans ?_;rw[lE];show IM (k:Int) g (true,(v:Int),_,_,_,_)=_;refine a _ _ _ _ _ _ (BQ (some y) (M7 A D.1,D.2)) ?_;show(true,_,_,(K3 y.1 (M7 A D.1)).1,(K3 y.1 (M7 A D.1)).2,(K3 y.2 D.2).1,(K3 y.2 D.2).2)=_;rw[k0r y.1,k0r y.2];rfl
    ·rw[if_neg l];have l:t.1.getD (o6 b k) false=false:=by simpa using l
     rw[l];refine(if_pos (by simp)).trans ?_;exact a _ _ _ _ _ _ o (by cases o <;> (cases d; rfl))
   ·rw[if_neg j];refine(if_pos ?_).trans (a _ _ _ _ _ _ o (by cases o <;> (cases d; rfl)));cases h1:J9 b br k <;> cases Q:(o8 b k==v) <;> rw[h1,Q] at j <;> simp_all
  ·cases o <;> exact if_neg (by simp)
 unfold IP;refine(lF (n:=ss.length) hl (fun i o=>P0 v i o) (fun i o=>DE ss (b7 y53) v i o) (fun _ _=>True) (J:=fun o=>IN (v:Int) t b c (D4 (lV b).length br) (lV b) ((P0 v 0 o).1,(P0 v 0 o).2.2)) (F:=F0V ss (v:Int) t b c (D4 (lV b).length br) (lV b)) (fun g i o hi _=>?_) (fun _ _ _ _=>trivial) (fun g o _=>?_) none trivial).trans ?_
 ·have G:Int.toNat ((i:Nat):Int)=i:=rfl;obtain⟨q,x,s,w,u,r,d⟩:∃q x s w u r,P0 v i o=(q,(i:Int),x,s,w,u,r):=by cases o <;> exact⟨_,_,_,_,_,_,rfl⟩
  rw[d];refine(if_pos (decide_eq_true (by omega))).trans ?_;refine(gP ⟨oo,trivial⟩).trans ?_;rw[G];unfold DE;by_cases f:((ss.getD i (b7 y53)).1==(v:Int))=true
  ·rw[if_pos f,if_pos f];refine(gP ⟨oo,trivial⟩).trans ?_;rw[lE];have f:(ss.getD i (b7 y53)).1=(v:Int):=by simpa using f
   refine(gP ⟨oo,trivial⟩).trans ?_;rw[f];rfl
  ·rw[if_neg f,if_neg f];refine(gP ⟨oo,trivial⟩).trans ?_;cases o <;> (cases d; rfl)
 ·cases o <;> exact if_neg (by simp)
 ·show IN _ _ _ _ _ _ ((P0 v 0 (fN (DE ss (b7 y53) v) ss.length none)).1,(P0 v 0 (fN (DE ss (b7 y53) v) ss.length none)).2.2)=_;rw[x0U hi];exact Y _
end
theorem q0O{N:Nat}{T:Nat->Option q9}{v:Nat}{x:Option q9}:(w5 N T).1.set v x.isSome=(w5 N (H2 T v x)).1/\(w5 N T).2.1.set v (x.getD ((0,0),(0,0))).1=(w5 N (H2 T v x)).2.1/\(w5 N T).2.2.set v (x.getD ((0,0),(0,0))).2=(w5 N (H2 T v x)).2.2:=by
 have e:H2 T v x v=x:=if_pos rfl;have b:∀w,w≠v->H2 T v x w=T w:=fun w a=>if_neg a
 grind[w5,D0R,H2]
theorem q0N(N:Nat):w5 N (fun _=>none)=(List.replicate N false,List.replicate N ((0:Int),(0:Int)),List.replicate N ((0:Int),(0:Int))):=by
 grind[w5,List.map_const',List.length_range]
def HB(b:j7)(o:Option (Nat->Option q9)):B7×Bool:=match o with
 | some T=>(w5 (j6 b) T,true)
 | none=>(([],[],[]),false)
section
variable {b:j7}
theorem v0h(g:wf l9 b)(e:cnt l9 b<=1048576)(f:p7 b=true){c:p5}(d:wf r5 c)(j:G8 c=true){br:List Int}{ss:List O1}(a:∀s∈ss,D0 s.2.1=true/\B4 s.2.2=true){T:Nat->Option q9}(h:∀v x,T v=some x->D0 x.1=true/\B4 x.2=true){v:Nat}{x:q9}(i:V0 b c br ss T v=some x):B4 x.2=true :=
 (y0H g e f d j a h v _ (Nat.le_refl _) x i).2
structure Rc(b:j7)(out:List Nat)(i:Nat)(T:Nat->Option q9):Prop where
 ok:∀v x,T v=some x->D0 x.1=true/\B4 x.2=true
 no:∀j,i<=j->j<out.length->T (out.getD j 0)=none
theorem t0e(r:wf l9 b)(m:cnt l9 b<=1048576)(o:p7 b=true){c:p5}(k:wf r5 c)(t:G8 c=true){br:List Int}{ss:List O1}(g:∀s∈ss,D0 s.2.1=true/\B4 s.2.2=true){a:List Nat}(n:a.Nodup){i:Nat}(_:i<a.length){T:Nat->Option q9}(h:Rc b a i T)(l:DC BU (V0 b c br ss T (a.getD i 0))=true) :
  Rc b a (i+1) (H2 T (a.getD i 0) (V0 b c br ss T (a.getD i 0))):=by
 refine⟨fun v x d=>?_,fun j u f=>?_⟩
 ·unfold H2 at d;split at d
  ·rw[d] at l;exact⟨l,v0h r m o k t g h.ok d⟩
  ·exact h.ok v x d
 ·unfold H2;rw[if_neg (fun e=>y0F n (p:=i) (q:=j) (by omega) f e.symm)];exact h.no j (by omega) f
def FN(b:j7)(c:p5)(br:List Int)(ss:List O1)(out:List Nat)(i:Nat)(T:Nat->Option q9):Option (Nat->Option q9):=if DC BU (V0 b c br ss T (out.getD i 0))=true then some (H2 T (out.getD i 0) (V0 b c br ss T (out.getD i 0))) else none
theorem p0W{c:p5}{br:List Int}{ss:List O1}{a:List Nat}{i:Nat}(hi:i<a.length)(T:Nat->Option q9) :
  some (HB b (BR (lV b).length (o6 b) (o8 b) (J9 b br) (D5 b c) (L3 ss) BU (a.drop i) T))=match FN b c br ss a i T with
   | some s'=>some (HB b (BR (lV b).length (o6 b) (o8 b) (J9 b br) (D5 b c) (L3 ss) BU (a.drop (i+1)) s'))
   | none=>some (([],[],[]),false):=by
 have e:a.drop i=a.getD i 0 :: a.drop (i+1):=by
  rw[List.drop_eq_getElem_cons hi,gq,List.getElem?_eq_getElem hi];rfl
 rw[e,u0J];unfold FN;show some (HB b (if DC BU (V0 b c br ss T (a.getD i 0))=true then _ else none))=_;by_cases h:DC BU (V0 b c br ss T (a.getD i 0))=true
 ·rw[if_pos h,if_pos h];rfl
 ·rw[if_neg h,if_neg h];rfl
theorem H0U(H:wf l9 b)(y:cnt l9 b<=1048576)(j:p7 b=true){c:p5}(f:wf r5 c)(z:G8 c=true){br:List Int}{ss:List m6}(hl:ss.length<=9223372036854775807)(m:∀s∈ss,D0 s.2.1=true/\B4 s.2.2=true){a:List Nat}(G:OrdOk b br a)(l:a.length<=9223372036854775807) :
  GS (o3 b,D4 (lV b).length br) c ss (a.map fun v:Nat=>(v:Int))=some (HB b (BV b c br ss a)):=by
 have hN:=AG b j;have Y:LS (o3 b)=some (w5 (j6 b) fun _=>none):=by
  unfold LS;rw[WH b j,vS,gP ⟨rfl,trivial⟩,lE,Int.toNat_natCast];refine(gP ⟨⟨by omega,rfl,by omega,by omega⟩,⟨by omega,rfl,by omega,by omega⟩,⟨by omega,rfl,by omega,by omega⟩,trivial⟩).trans ?_;rw[q0N]
 unfold GS;rw[Y,vS,gP ⟨rfl,trivial⟩,lE];refine Ni (n:=a.length) l (fun i T=>((i:Int),(w5 (j6 b) T).2.2,(w5 (j6 b) T).2.1,(w5 (j6 b) T).1)) (FN b c br ss a) (fun _ _=>some (([],[],[]),false)) (Rc b a) (J:=fun T=>some (w5 (j6 b) T,true)) (F:=G0T (a.map fun v:Nat=>(v:Int)) (o3 b,D4 (lV b).length br) c ss) (fun g i T hi q=>?_) (fun i T T' hi q e=>?_) (fun g T _=>if_neg (by simp)) (fun i T=>some (HB b (BR (lV b).length (o6 b) (o8 b) (J9 b br) (D5 b c) (L3 ss) BU (a.drop i) T))) (fun T _=>?_) (fun i T hi _=>(p0W hi T).trans (by grind)) 0 (Nat.zero_le _) (fun _=>none) ⟨fun _ _ h=>(by cases h),fun _ _ _=>rfl⟩
 ·have Q:((i:Int)).toNat=i:=rfl;have X:=G.lt _ (F0 (d:=0) hi);refine(if_pos (decide_eq_true (by grind))).trans ?_;refine(gP ⟨⟨by omega,by grind⟩,trivial⟩).trans ?_;rw[Q,r0e];have E:=L0I H y j f z (br:=br) hl (q0P (N:=j6 b) (fun v _ x W=>q.ok v x W)) (a.getD i 0);rw[k0j j (fun w o=>w0g o)] at E;have t:IS (o3 b,D4 (lV b).length br) c ss ((w5 (j6 b) T).1,(w5 (j6 b) T).2.1,(w5 (j6 b) T).2.2) ((a.getD i 0:Nat):Int)=some (Br (a.getD i 0) (V0 b c br ss T (a.getD i 0))):=E;rw[t,vS,gP ⟨rfl,trivial⟩,lE];obtain⟨r,k,u⟩:=q0O (N:=j6 b) (T:=T) (v:=a.getD i 0) (x:=V0 b c br ss T (a.getD i 0));obtain⟨n1,n2,n3⟩:=FG (N:=j6 b) (T:=T);unfold FN;generalize a.getD i 0=v at X r k u;have P:Int.toNat ((v:Nat):Int)=v:=rfl;rw[P];cases hy:V0 b c br ss T v with
  | none =>
    rw[hy] at r k u;refine(gP ⟨fun h=>(by cases h.1),trivial⟩).trans ?_;refine(if_neg (by simp[Br])).trans ?_;refine(gP ⟨oo,by omega,oo,by omega,oo,by omega,trivial⟩).trans ?_;refine(gP ⟨oo,trivial⟩).trans ?_;show g ((i:Int)+1,(w5 (j6 b) T).2.2.set v (0,0),(w5 (j6 b) T).2.1.set v (0,0),(w5 (j6 b) T).1.set v false)=g (((i+1:Nat):Int),(w5 (j6 b) (H2 T v none)).2.2,(w5 (j6 b) (H2 T v none)).2.1,(w5 (j6 b) (H2 T v none)).1)
    grind
  | some x =>
    rw[hy] at r k u;refine(gP ⟨fun _=>by grind[Nj],trivial⟩).trans ?_;rw[(Nj _).1,vS];show(if(true&&!D0 x.1)=true then _ else _)=_;rw[show DC BU (some x)=D0 x.1 from rfl];cases hs:D0 x.1 with
    | false=>rfl
    | true =>
      refine(if_neg (by simp)).trans ?_;refine(gP ⟨oo,by omega,oo,by omega,oo,by omega,trivial⟩).trans ?_;refine(gP ⟨oo,trivial⟩).trans ?_;show g ((i:Int)+1,(w5 (j6 b) T).2.2.set v x.2,(w5 (j6 b) T).2.1.set v x.1,(w5 (j6 b) T).1.set v true)=g (((i+1:Nat):Int),(w5 (j6 b) (H2 T v (some x))).2.2,(w5 (j6 b) (H2 T v (some x))).2.1,(w5 (j6 b) (H2 T v (some x))).1)
      grind
 ·unfold FN at e;split at e
  ·rename_i V;cases e;exact t0e H y j f z m G.nd hi q V
  grind
 ·rw[List.drop_length];rfl
theorem H0F(u:wf l9 b)(z:cnt l9 b<=1048576)(k:p7 b=true){c:p5}(f:wf r5 c)(E:G8 c=true){br:List Int}{ss:List m6}(hl:ss.length<=9223372036854775807)(j:DD ss)(o:∀s∈ss,D0 s.2.1=true/\B4 s.2.2=true){a:List Nat}(Q:OrdOk b br a)(m:a.length<=9223372036854775807) :
  IQ b c (lV b) (D4 (lV b).length br) ss (a.map fun v:Nat=>(v:Int))=some (HB b (BV b c br ss a)):=by
 have hN:=AG b k;have e0:Kw (j6 b:Int)=some (w5 (j6 b) fun _=>none):=by
  unfold Kw;rw[Int.toNat_natCast];refine(gP ⟨⟨by omega,rfl,by omega,by omega⟩,⟨by omega,rfl,by omega,by omega⟩,⟨by omega,rfl,by omega,by omega⟩,trivial⟩).trans ?_;rw[q0N]
 unfold IQ;rw[WI b u k,vS,e0,vS,gP ⟨rfl,rfl,trivial⟩,lE];refine Ni (n:=a.length) m (fun i T=>((i:Int),(w5 (j6 b) T).2.2,(w5 (j6 b) T).2.1,(w5 (j6 b) T).1)) (FN b c br ss a) (fun _ _=>some (([],[],[]),false)) (Rc b a) (J:=fun T=>some (w5 (j6 b) T,true)) (F:=G0M (a.map fun v:Nat=>(v:Int)) b c (lV b) (D4 (lV b).length br) ss) (fun g i T hi l=>?_) (fun i T T' hi l e=>?_) (fun g T _=>if_neg (by simp)) (fun i T=>some (HB b (BR (lV b).length (o6 b) (o8 b) (J9 b br) (D5 b c) (L3 ss) BU (a.drop i) T))) (fun T _=>?_) (fun i T hi _=>(p0W hi T).trans (by grind)) 0 (Nat.zero_le _) (fun _=>none) ⟨fun _ _ h=>(by cases h),fun _ _ _=>rfl⟩
 ·have W:((i:Int)).toNat=i:=rfl;have hv:=Q.lt _ (F0 (d:=0) hi);refine(if_pos (decide_eq_true (by grind))).trans ?_;refine(gP ⟨⟨by omega,by grind⟩,trivial⟩).trans ?_;rw[W,r0e];have P:=I0e u z k f E (br:=br) hl j (q0P (N:=j6 b) (fun v _ x Y=>l.ok v x Y)) (a.getD i 0);rw[k0j k (fun w q=>w0g q)] at P;have t:IP b c (lV b) (D4 (lV b).length br) ss ((w5 (j6 b) T).1,(w5 (j6 b) T).2.1,(w5 (j6 b) T).2.2) ((a.getD i 0:Nat):Int)=some (Br (a.getD i 0) (V0 b c br ss T (a.getD i 0))):=P;rw[t,vS,gP ⟨rfl,trivial⟩,lE];obtain⟨G,y,H⟩:=q0O (N:=j6 b) (T:=T) (v:=a.getD i 0) (x:=V0 b c br ss T (a.getD i 0));obtain⟨n1,n2,n3⟩:=FG (N:=j6 b) (T:=T);have r:=l.no i (Nat.le_refl _) hi;unfold FN;generalize a.getD i 0=v at hv G y H r;have V:Int.toNat ((v:Nat):Int)=v:=rfl;rw[V];cases hy:V0 b c br ss T v with
  | none =>
    refine(if_pos rfl).trans ?_;refine(gP ⟨oo,trivial⟩).trans ?_;show g ((i:Int)+1,(w5 (j6 b) T).2.2,(w5 (j6 b) T).2.1,(w5 (j6 b) T).1)=g (((i+1:Nat):Int),(w5 (j6 b) (H2 T v none)).2.2,(w5 (j6 b) (H2 T v none)).2.1,(w5 (j6 b) (H2 T v none)).1)
    grind[z0D]
  | some x =>
    rw[hy] at G y H;refine(if_neg (by simp[Br])).trans ?_;rw[(Nj _).2,vS];refine(gP ⟨rfl,trivial⟩).trans ?_;show(if(!D0 x.1)=true then _ else _)=_;rw[show DC BU (some x)=D0 x.1 from rfl];cases hs:D0 x.1 with
    | false=>rfl
    | true =>
      refine(if_neg (by simp)).trans ?_;refine(gP ⟨oo,by omega,trivial⟩).trans ?_;refine(gP ⟨oo,by omega,trivial⟩).trans ?_;refine(gP ⟨oo,by omega,trivial⟩).trans ?_;refine(gP ⟨oo,trivial⟩).trans ?_;show g ((i:Int)+1,(w5 (j6 b) T).2.2.set v x.2,(w5 (j6 b) T).2.1.set v x.1,(w5 (j6 b) T).1.set v true)=g (((i+1:Nat):Int),(w5 (j6 b) (H2 T v (some x))).2.2,(w5 (j6 b) (H2 T v (some x))).2.1,(w5 (j6 b) (H2 T v (some x))).1)
      grind
 ·unfold FN at e;split at e
  ·rename_i X;cases e;exact t0e u z k f E o Q.nd hi l X
  grind
 ·rw[List.drop_length];rfl
end
def V2(b:j7)(c:p5)(br:List Int)(ss:List m6):Int:=if(p7 b&&G8 c)=true then(if(AH (lV b).length br&&AI b ss)=true then(if(W9 (O9 b (D4 (lV b).length br) [] (j6 b))).2=true then 0 else 7) else 2) else 1
structure TG(b:j7)(c:p5)(br:List Int)(ss:List m6)(out:List Nat):Prop where
 hb:p7 b=true
 hc:G8 c=true
 hbr:AH (lV b).length br=true
 hs:AI b ss=true
 ho:O9 b (D4 (lV b).length br) [] (j6 b)=some out
section
variable {b:j7} {c:p5} {br:List Int} {ss:List m6} {out:List Nat}
theorem WU(h:V2 b c br ss=0):∃out,TG b c br ss out:=by
 unfold V2 at h;split at h
 ·rename_i a;split at h
  ·rename_i d;split at h
   ·rename_i e;rw[ba] at a d;cases ho:O9 b (D4 (lV b).length br) [] (j6 b) with
    | none=>rw[ho] at e; cases e
    | some out=>exact⟨out,a.1,a.2,d.1,d.2,ho⟩
   ·cases h
  ·cases h
 ·cases h
theorem TG.code(h:TG b c br ss out):V2 b c br ss=0:=by
 unfold V2;rw[h.hb,h.hc,h.hbr,h.hs,h.ho];rfl
theorem TG.ord(h:TG b c br ss out):OrdOk b br out:=H0W h.hb h.ho
theorem TG.len(h:TG b c br ss out):out.length<=1000000:=Nat.le_trans (QX _ _ h.ord.nd h.ord.lt) (AG b h.hb)
theorem TG.src(h:TG b c br ss out):DD ss/\∀s∈ss,D0 s.2.1=true/\B4 s.2.2=true:=⟨(u0p h.hs).1,fun s hs=>((u0p h.hs).2 s hs).2⟩
def Rd(b:j7)(c:p5)(br:List Int)(ss:List m6):Int ⊕ (H9×List Int×Int):=if V2 b c br ss=0 then .inr ((o3 b,D4 (lV b).length br),(W9 (O9 b (D4 (lV b).length br) [] (j6 b))).1,0) else .inl (V2 b c br ss)
theorem K0v(e:wf l9 b)(f:cnt l9 b<=1048576)(d:wf r5 c)(a:br.length<=1048576)(g:ss.length<=9223372036854775807):BI b c br ss=some (Rd b c br ss):=by
 unfold BI Rd V2;rw[r36 b e f,r54 c d,vS,vS];refine(gP ⟨rfl,fun _=>rfl,trivial⟩).trans ?_;cases hb:p7 b with
 | false=>rfl
 | true =>
   cases hc:G8 c with
   | false=>rfl
   | true =>
     refine(if_neg (by simp)).trans ?_;rw[r37 b e hb,vS];refine(gP ⟨rfl,trivial⟩).trans ?_;rw[lE,r65 hb br a,r66 b hb ss g,vS,vS];refine(gP ⟨rfl,fun _=>rfl,trivial⟩).trans ?_;cases hk:AH (lV b).length br with
     | false=>rfl
     | true =>
       cases hs:AI b ss with
       | false=>rfl
       | true =>
         refine(if_neg (by simp)).trans ?_;rw[r67 hb hk a,vS];refine(gP ⟨rfl,trivial⟩).trans ?_;rw[lE,r68 hb (QW _ _),vS];refine(gP ⟨rfl,trivial⟩).trans ?_;rw[lE];cases ho:(W9 (O9 b (D4 (lV b).length br) [] (j6 b))).2 <;> rfl
theorem D0v(d:wf l9 b)(e:cnt l9 b<=1048576)(f:wf r5 c)(a:br.length<=1048576)(g:ss.length<=9223372036854775807):KX b c br ss=some (if V2 b c br ss=0 then((W9 (O9 b (D4 (lV b).length br) [] (j6 b))).1,0) else([],V2 b c br ss)):=by
 unfold KX V2;rw[MK b d e,r70 c f,vS,vS];refine(gP ⟨rfl,fun _=>rfl,trivial⟩).trans ?_;cases hb:p7 b with
 | false=>rfl
 | true =>
   cases hc:G8 c with
   | false=>rfl
   | true =>
     refine(if_neg (by simp)).trans ?_;rw[r71 b d e br a,r44 b d hb ss g,vS,vS];refine(gP ⟨rfl,fun _=>rfl,trivial⟩).trans ?_;rw[lE,r72 b d e br a];unfold DG WO DG;rw[hb];cases hk:AH (lV b).length br with
     | false=>rfl
     | true =>
       cases hs:AI b ss with
       | false=>rfl
       | true =>
         refine(if_neg (by simp)).trans ?_;rw[vS];refine(gP ⟨rfl,trivial⟩).trans ?_;rw[lE];cases ho:(W9 (O9 b (D4 (lV b).length br) [] (j6 b))).2 <;> rfl
def P7(b:j7)(c:p5)(br:List Int)(ss:List m6):B7×Int:=if V2 b c br ss=0 then(match BV b c br ss ((O9 b (D4 (lV b).length br) [] (j6 b)).getD []) with
 | some T=>(w5 (j6 b) T,0)
 | none=>(([],[],[]),3)) else(([],[],[]),V2 b c br ss)
theorem TG.pt(h:TG b c br ss out):P7 b c br ss=match BV b c br ss out with
 | some T=>(w5 (j6 b) T,0)
 | none=>(([],[],[]),3):=by
 unfold P7;rw[if_pos h.code,h.ho];rfl
theorem TG.res(h:TG b c br ss out):(W9 (O9 b (D4 (lV b).length br) [] (j6 b))).1=out.map fun v:Nat=>(v:Int):=by
 rw[h.ho];rfl
theorem M0k(i:wf l9 b)(g:cnt l9 b<=1048576)(e:wf r5 c)(f:br.length<=1048576)(j:ss.length<=9223372036854775807):u9 b c br ss=some (P7 b c br ss):=by
 unfold u9;rw[K0v i g e f j];by_cases h:V2 b c br ss=0
 ·obtain⟨a,d⟩:=WU h;unfold Rd;rw[if_pos h,d.res,d.pt];refine(if_neg (by simp[Mi])).trans ((gP ⟨rfl,trivial⟩).trans ?_);show gd ((GS (o3 b,D4 (lV b).length br) c ss (a.map fun v:Nat=>(v:Int))).isSome=true/\True) (lt (vl (GS (o3 b,D4 (lV b).length br) c ss (a.map fun v:Nat=>(v:Int)))) fun l=>_)=_;have k:=d.len;rw[H0U i g d.hb e d.hc j d.src.2 d.ord (by omega),vS];refine(gP ⟨rfl,trivial⟩).trans ?_;rw[lE];cases BV b c br ss a <;> rfl
 ·unfold Rd P7;rw[if_neg h,if_neg h];refine(if_pos rfl).trans ((gP ⟨rfl,trivial⟩).trans ?_);exact if_pos (by show(V2 b c br ss != 0)=true; simp[h])
theorem K0w(g:wf l9 b)(i:cnt l9 b<=1048576)(e:wf r5 c)(f:br.length<=1048576)(j:ss.length<=9223372036854775807):Mf b c br ss=some (P7 b c br ss):=by
 unfold Mf;rw[D0v g i e f j,vS];refine(gP ⟨rfl,trivial⟩).trans ?_;rw[lE];by_cases h:V2 b c br ss=0
 ·obtain⟨d,a⟩:=WU h;rw[if_pos h,a.res,a.pt];refine(if_neg (by simp)).trans ?_;have k:=a.len;have l:=P6 a.hb;rw[MO b g a.hb,vS];refine(gP ⟨rfl,trivial⟩).trans ?_;rw[lE,WK _ _ (by omega) f,vS];show gd (_/\(IQ b c (lV b) (D4 (lV b).length br) ss (d.map fun v:Nat=>(v:Int))).isSome=true/\True) _=_;rw[H0F g i a.hb e a.hc j a.src.1 a.src.2 a.ord (by omega),vS];refine(gP ⟨rfl,rfl,trivial⟩).trans ?_;rw[lE];cases BV b c br ss d <;> rfl
 ·unfold P7;rw[if_neg h,if_neg h];exact if_pos (by show(V2 b c br ss != 0)=true; simp[h])
theorem D0D(h:(P7 b c br ss).2≠0):(P7 b c br ss).1=([],[],[]):=by
 unfold P7 at h ⊢;split
 ·rename_i a;rw[if_pos a] at h;split
  ·rename_i T e;rw[e] at h;exact(h rfl).elim
  ·rfl
 ·rfl
end
theorem k0n(s:List u3)(h:s.length<=9223372036854775807):Fe s s=some true:=by
 unfold Fe;refine(if_neg (by simp)).trans ?_;have a:=H5 (n:=s.length) h (fun _=>false) (some false) (e:=some true) (F:=G0I s s) (fun g i hi=>by
  have b:((i:Int)).toNat=i:=rfl;refine(if_pos (decide_eq_true (by omega))).trans ?_;rw[b];refine(gP ⟨oo,oo,trivial⟩).trans ?_;refine(if_neg (by simp)).trans ?_;rw[if_neg (by simp)];exact gP ⟨oo,trivial⟩) (fun g=>if_neg (by simp))
 refine a.trans (if_neg (by simp))
theorem j0Z(t:B7)(f:t.1.length<=9223372036854775807)(c:t.2.1.length<=9223372036854775807)(d:t.2.2.length<=9223372036854775807):GA t t=some true:=by
 unfold GA;refine(if_neg (by simp)).trans ?_;have a:=H5 (n:=t.1.length) f (fun _=>false) (some false) (e:=some true) (F:=H0C t t) (fun g i hi=>by
  have b:((i:Int)).toNat=i:=rfl;refine(if_pos (decide_eq_true (by omega))).trans ?_;rw[b];refine(gP ⟨oo,oo,trivial⟩).trans ?_;refine(if_neg (by simp)).trans ?_;rw[if_neg (by simp)];exact gP ⟨oo,trivial⟩) (fun g=>by
  refine(if_neg (by simp)).trans ?_;rw[TF,k0n _ c,k0n _ d];exact gP ⟨rfl,fun _=>rfl,trivial⟩)
 refine a.trans (if_neg (by simp))
section
variable {b:j7} {c:p5} {br:List Int} {ss:List m6} {out:List Nat} {t:B7}
end
theorem K0u{n:Int}(d:0<=n)(e:n<3)(a b c:Int):[a,b,c].getD n.toNat 0=a∨[a,b,c].getD n.toNat 0=b∨[a,b,c].getD n.toNat 0=c:=by
 have:n=0∨n=1∨n=2:=by omega
 rcases this with rfl | rfl | rfl
 ·exact .inl rfl
 ·exact .inr (.inl rfl)
 ·exact .inr (.inr rfl)
theorem Nk{n:ByteArray}{a b c d:Int}(g : -10000<=a/\a<=10000)(h : -10000<=b/\b<=10000)(f : -10000<=c/\c<=10000)(e : -10000<=d/\d<=10000):N0g (n,a,b,c,d):=⟨g,h,f,e⟩
theorem I0z{s:l5}(h:Sd s):∃r,LH s=some r/\(Sd r.2/\N0g r.1):=by
 obtain⟨v0,s0,F,b,w,m,-⟩:=z8 (n:=3) h (by omega);have m:=m (by omega);obtain⟨v1,s1,E,j,a1,k,-⟩:=z8 (n:=20) b (by omega);have k:=k (by omega);obtain⟨v2,P,y,i,a2,l,-⟩:=z8 (n:=20) j (by omega);have l:=l (by omega);obtain⟨V,s3,x,c,a3,t,-⟩:=z8 (n:=60) i (by omega);have t:=t (by omega);obtain⟨W,s4,v,f,a4,u,-⟩:=z8 (n:=40) c (by omega);have u:=u (by omega);obtain⟨v5,s5,H,a,a5,b5,-⟩:=z8 (n:=30) f (by omega);obtain⟨T,X,G,g,q,e,-⟩:=z8 (n:=3) a (by omega);have e:=e (by omega);obtain⟨v7,s7,z,d,Y,o,-⟩:=z8 (n:=2) a (by omega);have o:=o (by omega);have Q:=K0u q e 99 100 (-1);unfold LH;simp only[F,E,y,vS,Option.isSome_some];refine k6 ⟨trivial,⟨w,by simp; omega⟩,by simp; omega,trivial,oo,oo,trivial,oo,oo,trivial⟩ (x6 ?_);dsimp only;simp only[x,vS,Option.isSome_some];refine k6 ⟨trivial,oo,oo,trivial⟩ (x6 ?_);dsimp only;simp only[v,vS,Option.isSome_some];refine k6 ⟨trivial,oo,oo,trivial⟩ (x6 ?_);dsimp only;simp only[H,vS,Option.isSome_some];refine k6 ⟨trivial,trivial⟩ (x6 ?_);dsimp only;split
 ·exact k6 ⟨oo,trivial⟩ ⟨_,rfl,a,Nk oo oo oo oo⟩
 split
 ·simp only[G,vS,Option.isSome_some];refine k6 ⟨trivial,⟨q,by simp; omega⟩,by simp; omega,trivial⟩ (x6 ?_);dsimp only;exact⟨_,rfl,g,Nk oo oo oo oo⟩
 split
 ·simp only[z,vS,Option.isSome_some];refine k6 ⟨trivial,oo,trivial⟩ (x6 ?_);exact⟨_,rfl,d,Nk oo oo oo oo⟩
 split
 ·exact⟨_,rfl,a,Nk oo oo oo oo⟩
 ·exact⟨_,rfl,a,Nk oo oo oo oo⟩
section
variable [Alw]
end
theorem wfR{v:j7×p5×List Int×List m6}(h:Hz (R8 v)):wf l9 v.1/\wf r5 v.2.1/\v.2.2.2.length<=9223372036854775807 :=
 ⟨⟨h.1.1,⟨h.1.2.1,h.1.2.2.1,h.1.2.2.2.1⟩,h.1.2.2.2.2.1⟩,⟨h.2.1.1,h.2.1.2.1,h.2.1.2.2.1,h.2.1.2.2.2.1,h.2.1.2.2.2.2.1⟩,h.2.2.2.1.1⟩
theorem u0T{b:j7}{c:p5}{br:List Int}{ss:List m6}(a:p7 b=true∨(P7 b c br ss).2≠0):GA (P7 b c br ss).1 (P7 b c br ss).1=some true:=by
 have hz:GA ([],[],[]) ([],[],[])=some true:=j0Z _ (Nat.zero_le _) (Nat.zero_le _) (Nat.zero_le _);by_cases d:(P7 b c br ss).2=0
 ·have a:=a.resolve_right (fun h=>h d);have f:=AG b a;unfold P7;split
  ·split
   ·rename_i T _;obtain⟨e,g,n3⟩:=FG (N:=j6 b) (T:=T);exact j0Z _ (by simp only; omega) (by simp only; omega) (by simp only; omega)
   ·exact hz
  ·exact hz
 ·rw[D0D d];exact hz
theorem D0C{b:j7}{c:p5}{br:List Int}{ss:List m6}(h:(P7 b c br ss).2=0):∃out T,TG b c br ss out/\BV b c br ss out=some T/\P7 b c br ss=(w5 (j6 b) T,0):=by
 by_cases a:V2 b c br ss=0
 ·obtain⟨out,d⟩:=WU a;have e:=d.pt;cases hr:BV b c br ss out with
  | none=>rw[hr] at e; rw[e] at h; cases h
  | some T=>rw[hr] at e; exact⟨out,T,d,hr,e⟩
 ·unfold P7 at h;rw[if_neg a] at h;exact(a h).elim
theorem I0n{N:Nat}{a d:B7}(j:a.1.length=N/\a.2.1.length=N)(k:d.1.length=N/\d.2.1.length=N)(q:N<=1000000)(h:v0H N a d):ID a d=some true:=by
 have c:∀e:Option Bool,(∃r,e=some r/\r=true)->e=some true:=by rintro e ⟨r,rfl,rfl⟩; rfl
 refine c _ ?_;unfold ID;rw[if_neg (by rw[j.1,j.2,k.1,k.2]; simp)];refine K4 (fun i:Int=>N+1-i.toNat) (fun i=>0<=i/\i<=(N:Int)) ?_ oo (by omega);rintro g i ⟨t,i2⟩ l;obtain⟨v,rfl⟩:∃v:Nat,i=(v:Int):=⟨i.toNat,by omega⟩;have m:((v:Int)).toNat=v:=rfl;unfold H0f;by_cases f:(v:Int) < (a.1.length:Int)
 ·rw[if_pos (decide_eq_true f),m];have n:v<N:=by omega
  refine k6 ⟨oo,fun _=>oo,fun _=>oo,fun _=>oo,fun _=>oo,fun _=>oo,trivial⟩ ?_;have b:(a.1.getD v false&&(!d.1.getD v false||decide ((a.2.1.getD v (b7 y51)).1 < (d.2.1.getD v (b7 y51)).1)||decide ((d.2.1.getD v (b7 y51)).2 < (a.2.1.getD v (b7 y51)).2)))=false:=by
   cases hx:a.1.getD v false with
   | false=>rfl
   | true =>
     obtain⟨o,s,u⟩:=h v n hx;rw[o,decide_eq_false (by show ¬(a.2.1.getD v (0,0)).1 < (d.2.1.getD v (0,0)).1; omega),decide_eq_false (by show ¬(d.2.1.getD v (0,0)).2 < (a.2.1.getD v (0,0)).2; omega)];rfl
  rw[b,if_neg (by simp)];exact k6 ⟨oo,trivial⟩ (l _ oo (by omega))
 ·rw[if_neg (by simpa using f)];exact⟨_,rfl,rfl⟩
theorem WV{t:s8}(o:wf y70 t)(d:C3 t=true):∃r,Di t=some r/\(r=true->U9 t):=by
 obtain⟨E,F,G,x,T,z,y⟩:=Ds d;have j:=r45 t o;rw[d] at j;unfold Di;simp only[j,vS,Option.isSome_some];refine k6 ⟨trivial,trivial⟩ ?_;rw[if_neg (by simp)];refine K4 (fun i:Int=>t.2.2.length+1-i.toNat) (fun i=>(0<=i/\i<=(t.2.2.length:Int))/\∀w:Nat,(w:Int)<i->t.2.1.length<=w->t.2.2.getD (w-t.2.1.length) 0<=t.2.2.getD w 0) ?_ ⟨oo,fun w h _=>by omega⟩ (by omega);rintro g i ⟨⟨u,i2⟩,c⟩ m;obtain⟨v,rfl⟩:∃v:Nat,i=(v:Int):=⟨i.toNat,by omega⟩;unfold H0j;by_cases k:(v:Int) < (t.2.2.length:Int)
 ·rw[if_pos (decide_eq_true k)];have a:decide (0 < (v:Int).tmod (t.2.1.length:Int))=true->1<=v:=fun h=>by
   rcases Nat.eq_zero_or_pos v with e | e
   ·subst e; simp at h
   ·exact e
  refine k6 ⟨by omega,fun h=>?_,fun h=>?_,fun h=>?_,fun h=>?_,fun h=>?_,fun h=>?_,trivial⟩ ?_
  ·have:=a h.1; exact oo
  ·have:=a h.1; exact oo
  ·exact oo
  ·exact oo
  ·have:=of_decide_eq_true h.1; exact oo
  ·exact oo
  ·split
   ·exact⟨_,rfl,fun h=>by cases h⟩
   ·rename_i b;refine k6 ⟨oo,trivial⟩ (m _ ⟨oo,fun w s f=>?_⟩ (by omega));by_cases e:w=v
    ·subst e;have n:((w:Int)).toNat=w:=rfl;have l:((w:Int)-(t.2.1.length:Int)).toNat=w-t.2.1.length:=by omega
     rw[n,l] at b;simp only[Bool.or_eq_true,ba,dq,not_or,not_and] at b;have:=b.2 (by omega);omega
    ·exact c w (by omega) f
 ·rw[if_neg (by simpa using k)];refine⟨_,rfl,fun _ r q H P=>?_⟩;have s:(r+1+1)*t.2.1.length<=t.1.length*t.2.1.length:=Nat.mul_le_mul_right _ (by omega);have f:(r+1+1)*t.2.1.length=(r+1)*t.2.1.length+t.2.1.length:=Nat.succ_mul _ _;have Q:(r+1)*t.2.1.length=r*t.2.1.length+t.2.1.length:=Nat.succ_mul _ _;have:=c ((r+1)*t.2.1.length+q) (by omega) (by omega);rw[show(r+1)*t.2.1.length+q-t.2.1.length=r*t.2.1.length+q by omega] at this;exact this
theorem WW{l:List s8}(h:l.length=2){p:s8->Prop}(a:∀w:Nat,(w:Int)<2->p (l.getD w (b7 y70))):∀t∈l,p t:=fun t b=>by
 obtain⟨i,hi,rfl⟩:=List.mem_iff_getElem.1 b;have:=a i (by omega)
 rwa [gq,List.getElem?_eq_getElem hi] at this
theorem P0g[Alw]{a:z7}(E:∀t∈a.2.2.2.2.1,wf y70 t)(x:∀t∈a.2.2.2.2.2,wf y70 t)(c:C0 a.2.2.2.2.1 true=true)(b:C0 a.2.2.2.2.2 true=true){v:Int}{g:Int->Option Bool}(next:(∀t∈a.2.2.2.2.1,U9 t)->(∀t∈a.2.2.2.2.2,U9 t)->∃r,IY v g ()=some r/\r=true):∃r,lp (Mv a v g) 0=some r/\r=true:=by
 have G:a.2.2.2.2.1.length=2:=by unfold C0 at c; rw[ba,dq] at c; exact c.1
 have T:a.2.2.2.2.2.length=2:=by unfold C0 at b; rw[ba,dq] at b; exact b.1
 refine K4 (fun i:Int=>3-i.toNat) (fun i=>(0<=i/\i<=2)/\∀w:Nat,(w:Int)<i->U9 (a.2.2.2.2.1.getD w (b7 y70))/\U9 (a.2.2.2.2.2.getD w (b7 y70))) ?_ ⟨oo,fun w h=>by omega⟩ (by omega);rintro W i ⟨⟨V,i2⟩,j⟩ s;obtain⟨w,rfl⟩:∃w:Nat,i=(w:Int):=⟨i.toNat,by omega⟩;unfold Mv;by_cases n:(w:Int) < (a.2.2.2.2.1.length:Int)
 ·rw[if_pos (decide_eq_true n)];have l:(w:Int)=0∨(w:Int)=1:=by omega
  have z:((w:Int)).toNat=w:=rfl;obtain⟨m,H,Q⟩:=WV (E _ (F0 (d:=b7 y70) (by omega:w<a.2.2.2.2.1.length))) (AB c l).2;obtain⟨q,F,y⟩:=WV (x _ (F0 (d:=b7 y70) (by omega:w<a.2.2.2.2.2.length))) (AB b l).2;simp only[z,H,F,vS,Option.isSome_some];refine k6 ⟨oo,trivial,fun _=>oo,fun _=>trivial,trivial⟩ ?_;split
  ·exact⟨_,rfl,rfl⟩
  ·rename_i P;have f:decide ((w:Int) < (a.2.2.2.2.2.length:Int))=true:=decide_eq_true (by omega);rw[f] at P;have o:m=true/\q=true:=by cases m <;> cases q <;> simp_all
   refine k6 ⟨oo,trivial⟩ (s _ ⟨oo,fun u k=>?_⟩ (by omega));by_cases e:u=w
   ·subst e; exact⟨Q o.1,y o.2⟩
   ·exact j u (by omega)
 ·rw[if_neg (by simpa using n)];exact next (WW G fun u k=>(j u (by omega)).1) (WW T fun u k=>(j u (by omega)).2)
theorem L0l[Alw]{a:z7}{pos:Bool}(o:∀t∈a.2.2.2.2.1,wf y70 t)(b:C0 a.2.2.2.2.1 pos=true)(j:a.2.2.2.2.2=[]){v:Int}{g:Int->Option Bool}(next:(∀t∈a.2.2.2.2.1,U9 t)->(∀t∈a.2.2.2.2.2,U9 t)->∃r,IY v g ()=some r/\r=true):∃r,lp (Mv a v g) 0=some r/\r=true:=by
 have s:a.2.2.2.2.1.length=2:=by unfold C0 at b; rw[ba,dq] at b; exact b.1
 refine K4 (fun i:Int=>3-i.toNat) (fun i=>(0<=i/\i<=2)/\∀w:Nat,(w:Int)<i->U9 (a.2.2.2.2.1.getD w (b7 y70))) ?_ ⟨oo,fun w h=>by omega⟩ (by omega);rintro H i ⟨⟨G,i2⟩,f⟩ m;obtain⟨w,rfl⟩:∃w:Nat,i=(w:Int):=⟨i.toNat,by omega⟩;unfold Mv;by_cases l:(w:Int) < (a.2.2.2.2.1.length:Int)
 ·rw[if_pos (decide_eq_true l)];have y:(w:Int)=0∨(w:Int)=1:=by omega
  have n:((w:Int)).toNat=w:=rfl;have c:decide ((w:Int) < (a.2.2.2.2.2.length:Int))=false:=decide_eq_false (by rw[j,List.length_nil]; omega);obtain⟨k,z,E⟩:=WV (o _ (F0 (d:=b7 y70) (by omega:w<a.2.2.2.2.1.length))) (AB b y).2;simp only[n,z,c,vS,Option.isSome_some];refine k6 ⟨oo,trivial,fun h=>(nomatch h.1),fun h=>(nomatch h.1),trivial⟩ ?_;split
  ·exact⟨_,rfl,rfl⟩
  ·rename_i P;have F:k=true:=by cases k <;> simp_all
   refine k6 ⟨oo,trivial⟩ (m _ ⟨oo,fun u x=>?_⟩ (by omega));by_cases e:u=w
   ·subst e; exact E F
   ·exact f u (by omega)
 ·rw[if_neg (by simpa using l)];exact next (WW s fun u x=>f u (by omega)) (by rw[j]; intro t q; cases q)
def AX(ar:z7):Prop:=(∀t∈ar.2.2.2.2.1,wf y70 t)/\(∀t∈ar.2.2.2.2.2,wf y70 t)/\(C0 ar.2.2.2.2.1 true=true/\C0 ar.2.2.2.2.2 true=true∨C0 ar.2.2.2.2.1 false=true/\ar.2.2.2.2.2=[])
def PX(ar:z7):Prop:=(∀t∈ar.2.2.2.2.1,U9 t)/\∀t∈ar.2.2.2.2.2,U9 t
theorem w0H{a:Type}{l:List a}{d:a}{p:a->Prop}(h:∀w:Nat,(w:Int) < (l.length:Int)->p (l.getD w d)):∀t∈l,p t:=fun t b=>by
 obtain⟨i,hi,rfl⟩:=List.mem_iff_getElem.1 b;have:=h i (by omega)
 rwa [gq,List.getElem?_eq_getElem hi] at this
theorem P0h[Alw]{v0:j7×p5×List Int×List m6}{v:Nat}(z:v<v0.1.1.length)(x:(v0.1.1.getD v (b7 y64)).2.2.2.1.length<=8)(o:∀ar∈(v0.1.1.getD v (b7 y64)).2.2.2.1,AX ar){c:Int->Option Bool}(next:(∀ar∈(v0.1.1.getD v (b7 y64)).2.2.2.1,PX ar)->∃r,Qq (v:Int) c ()=some r/\r=true):∃r,lp (Vr v0 (v:Int) c) 0=some r/\r=true:=by
 refine K4 (fun i:Int=>9-i.toNat) (fun i=>(0<=i/\i<=((v0.1.1.getD v (b7 y64)).2.2.2.1.length:Int))/\∀w:Nat,(w:Int)<i->PX ((v0.1.1.getD v (b7 y64)).2.2.2.1.getD w (b7 y67))) ?_ ⟨oo,fun w h=>by omega⟩ (by omega);rintro k i ⟨⟨y,i2⟩,f⟩ l;obtain⟨w,rfl⟩:∃w:Nat,i=(w:Int):=⟨i.toNat,by omega⟩;unfold Vr;simp only[Int.toNat_natCast];refine k6 ⟨oo,trivial⟩ ?_;by_cases g:(w:Int) < ((v0.1.1.getD v (b7 y64)).2.2.2.1.length:Int)
 ·rw[if_pos (decide_eq_true g)];refine k6 ⟨oo,oo,trivial⟩ (x6 ?_);obtain⟨j,m,a⟩:=o _ (F0 (d:=b7 y67) (by omega:w < (v0.1.1.getD v (b7 y64)).2.2.2.1.length))
  suffices key:(∀t∈((v0.1.1.getD v (b7 y64)).2.2.2.1.getD w (b7 y67)).2.2.2.2.1,U9 t)->(∀t∈((v0.1.1.getD v (b7 y64)).2.2.2.1.getD w (b7 y67)).2.2.2.2.2,U9 t)->∃r,IY (w:Int) k ()=some r/\r=true by
   rcases a with ⟨a,b⟩ | ⟨a,b⟩
   ·exact P0g j m a b key
   ·exact L0l j a b key
  intro s q;unfold IY;refine k6 ⟨oo,trivial⟩ (l _ ⟨oo,fun u n=>?_⟩ (by omega));by_cases e:u=w
  ·subst e; exact⟨s,q⟩
  ·exact f u (by omega)
 ·rw[if_neg (by simpa using g)];exact next (w0H fun u n=>f u (by omega))
theorem P0i[Alw]{v0:j7×p5×List Int×List m6}{v1:B7×Int}(n:v0.1.1.length<=1048576)(k:∀ce∈v0.1.1,ce.2.2.2.1.length<=8/\∀ar∈ce.2.2.2.1,AX ar)(next:Jx v0.1->∃r,Mu v1 v0 ()=some r/\r=true):∃r,lp (Vs v0 v1) 0=some r/\r=true:=by
 refine K4 (fun i:Int=>v0.1.1.length+1-i.toNat) (fun i=>(0<=i/\i<=(v0.1.1.length:Int))/\∀w:Nat,(w:Int)<i->∀ar∈(v0.1.1.getD w (b7 y64)).2.2.2.1,PX ar) ?_ ⟨oo,fun w h=>by omega⟩ (by omega);rintro l i ⟨⟨m,i2⟩,a⟩ f;obtain⟨w,rfl⟩:∃w:Nat,i=(w:Int):=⟨i.toNat,by omega⟩;unfold Vs;by_cases b:(w:Int) < (v0.1.1.length:Int)
 ·rw[if_pos (decide_eq_true b)];have c:=k _ (F0 (d:=b7 y64) (by omega:w<v0.1.1.length));refine P0h (by omega) c.1 c.2 fun j=>?_;unfold Qq;refine k6 ⟨oo,trivial⟩ (f _ ⟨oo,fun u g=>?_⟩ (by omega));by_cases e:u=w
  ·subst e; exact j
  ·exact a u (by omega)
 ·rw[if_neg (by simpa using b)];exact next (w0H (d:=b7 y64) (p:=fun ce:m4=>∀ar∈ce.2.2.2.1,PX ar) fun u g=>a u (by omega))
theorem v0P{a:Type}{l:List a}{i:Nat}{d:a}(h:i<l.length):l.getD i d=l[i]:=by
 rw[gq,List.getElem?_eq_getElem h]; rfl
theorem L0H{b:j7}(l:wf l9 b)(k:p7 b=true):∀ce∈b.1,ce.2.2.2.1.length<=8/\∀ar∈ce.2.2.2.1,AX ar:=by
 intro ce e;have m:CE b.1=true:=(R9 (U5 k).1).lib;obtain⟨i,hi,rfl⟩:=List.mem_iff_getElem.1 e;have h:=VZ m hi;rw[show P5 b.1 i=b.1[i] from v0P hi] at h;refine⟨(Dw h).2.2.1,fun ar d=>?_⟩;obtain⟨j,f,rfl⟩:=List.mem_iff_getElem.1 d;have a:=Wg h f;rw[show m8 b.1[i] j=b.1[i].2.2.2.1[j] from v0P f] at a;have g:wf y64 b.1[i]:=l.1.2 _ (List.getElem_mem hi);have c:wf y67 b.1[i].2.2.2.1[j]:=g.2.2.2.1.2 _ (List.getElem_mem f);refine⟨c.2.2.2.2.1.2,c.2.2.2.2.2.2,?_⟩;unfold F2 at a;rw[ba] at a;obtain⟨-,a⟩:=a;split at a
 ·simp only[ba] at a;exact .inl ⟨a.1.2,a.2⟩
 ·split at a
  ·simp only[ba] at a;exact .inl ⟨a.1.2,a.2⟩
  ·split at a
   ·simp only[ba,beq_iff_eq] at a;exact .inr ⟨a.1.2,List.eq_nil_of_length_eq_zero (by have:=a.2; omega)⟩
   ·cases a
section
variable {b:j7} {k:p5} {br:List Int} {ss:List m6}
theorem P0j[Alw](e:wf l9 b)(i:cnt l9 b<=1048576)(d:wf r5 k)(hbr:br.length<=1048576)(y:ss.length<=20000)(n:1<=ss.length)(o:Jx b){c:List Nat}(a:TG b k br ss c){T:Nat->Option q9}(t:BV b k br ss c=some T):∃r,Mu (w5 (j6 b) T,0) (b,k,br,ss) ()=some r/\r=true:=by
 have h:(ss.drop 1).length<=9223372036854775807:=by rw[List.length_drop]; omega
 have f:TG b k br (ss.drop 1) c:=⟨a.hb,a.hc,a.hbr,u0q a.hs,a.ho⟩;obtain⟨Q,w,hi⟩:=u0H e i a.hb o d a.hc a.src.1 a.src.2 t;have u:P7 b k br (ss.drop 1)=(w5 (j6 b) Q,0):=by rw[f.pt,w]
 have m:=AG b a.hb;obtain⟨l,v,n3⟩:=FG (N:=j6 b) (T:=T);obtain⟨s,j,x⟩:=FG (N:=j6 b) (T:=Q);have g:ID (w5 (j6 b) Q) (w5 (j6 b) T)=some true:=I0n ⟨s,j⟩ ⟨l,v⟩ m (E0s hi);have q:Int.toNat (1:Int)=1:=rfl;unfold Mu;simp only[q,M0k e i d hbr h,u,vS,Option.isSome_some];refine k6 ⟨⟨by omega,by omega,by omega⟩,trivial,trivial⟩ (x6 ?_);simp only[g,vS,Option.isSome_some];exact k6 ⟨fun _=>trivial,trivial⟩ ⟨_,rfl,rfl⟩
end
theorem lw5[Alw](c:List Int)(_:wf (.sl (.int .u8)) c):u5 c=some true:=by
 have f:∀e:Option Bool,(∃r,e=some r/\r=true)->e=some true:=by rintro e ⟨r,rfl,rfl⟩; rfl
 refine f _ ?_;unfold u5;refine k6 ⟨rfl,trivial⟩ ?_;split
 ·exact⟨_,rfl,rfl⟩
 ·refine k6 ⟨trivial,trivial⟩ ⟨true,?_,rfl⟩;refine Alw.alp_of (([],([],[],[]),[]),(ByteArray.empty,0,0,0,0),[],[]) ⟨⟨by decide,by decide,by decide⟩,⟨⟨HA,HA,HA,HA,HA,trivial⟩,⟨by show(0:Nat)<=_; decide,⟨by decide,by decide⟩,⟨by decide,by decide⟩,⟨by decide,by decide⟩,⟨by decide,by decide⟩,trivial⟩,HA,HA,trivial⟩,trivial⟩ fun v0 y=>?_;obtain⟨⟨w,x,q⟩,v,-⟩:=y;obtain⟨a,d,o⟩:=wfR v;obtain⟨b,k,br,ss⟩:=v0;simp only at w x q a d o;have j:cnt l9 b<=1048576:=by omega
  have g:br.length<=1048576:=by omega
  refine(gP trivial).trans (f _ ?_);simp only[M0k a j d g o,K0w a j d g o,vS,Option.isSome_some];refine k6 ⟨trivial,trivial⟩ (x6 (k6 ⟨trivial,trivial⟩ (x6 ?_)));by_cases l:(P7 b k br ss).2=0
  ·obtain⟨s,T,m,u,e⟩:=D0C l;have i:=u0T (b:=b) (c:=k) (br:=br) (ss:=ss) (.inl m.hb);simp only[i,vS,Option.isSome_some];refine k6 ⟨fun _=>trivial,trivial⟩ ?_;rw[if_neg (by simp),e];split
   ·exact⟨_,rfl,rfl⟩
   ·rename_i h;have h:1<=ss.length:=by
     simp only[Bool.or_eq_true,beq_iff_eq,not_or] at h;omega
    have n:b.1.length<=1048576:=Bj (cF j);exact P0i (v0:=(b,k,br,ss)) n (L0H a m.hb) fun t=>P0j a j d g q h t m u
  ·have i:=u0T (b:=b) (c:=k) (br:=br) (ss:=ss) (.inr l);simp only[i,vS,Option.isSome_some];refine k6 ⟨fun _=>trivial,trivial⟩ ?_;rw[if_neg (by simp),if_pos (by simp[l])];exact⟨_,rfl,rfl⟩
theorem L0m{a b ρ:Type}(mk:a->b){F:(b->Option ρ)->b->Option ρ}{G:(a->Option ρ)->a->Option ρ}(h:∀g s,F g (mk s)=G (fun s=>g (mk s)) s)(s:a):lp F (mk s)=lp G s:=by
 have c:∀n s,I9 F n (mk s)=I9 G n s:=by
  intro n
  induction n with
  | zero=>intro s; rfl
  | succ n d =>
    intro s;show F (I9 F n) (mk s)=G (I9 G n) s;rw[h];congr 1;exact funext fun s=>d s
 exact c _ s
section
variable {b:j7}
def DH(b:j7)(fw:Bool):Nat->Nat:=if fw=true then o6 b else o8 b
def DI(b:j7)(fw:Bool):Nat->Nat:=if fw=true then o8 b else o6 b
theorem u0r(e:p7 b=true)(a:Bool){i:Nat}(hi:i < (lV b).length):DH b a i<j6 b/\DI b a i<j6 b:=by
 obtain⟨_,_,c,d⟩:=M8 b e hi;cases a
 ·exact⟨d,c⟩
 ·exact⟨c,d⟩
theorem WX(f:p7 b=true){lv:List Bool}(z:lv.length=(lV b).length){s:Nat}(o:s<j6 b)(a:Bool):∃L,RB (lV b).length (j6 b) (DH b a) (DI b a) (fun i=>lv.getD i false) s L/\Dk (j6 b:Int) (lV b) lv (s:Int) a=some L:=by
 have V:=P6 f;have x:=AG b f;unfold Dk;have G:((j6 b:Int)).toNat=j6 b:=rfl;have E:((s:Int)).toNat=s:=rfl;rw[G,E,gP ⟨⟨by omega,rfl,by omega,by omega⟩,trivial⟩,gP ⟨by rw[List.length_replicate]; exact oo,by rw[List.length_replicate]; exact o,trivial⟩];obtain⟨L,P,y⟩:=p0K (ρ:=List Bool) (lV b).length (j6 b) (DH b a) (DI b a) (fun i=>lv.getD i false) (fun i hi=>(u0r f a hi).2) x o (F:=fun g q=>A0J lv a (lV b) (fun t=>g (t.2,t.1)) (q.2,q.1)) (J:=fun L=>some L) (fun g q H=>by
  obtain⟨r,c⟩:=q;cases c with
  | false=>rfl
  | true =>
    refine Eq.trans (if_pos (c:=(true:Bool)=true) (t:=lp (Uv lv a (lV b) fun t=>g (t.2,t.1)) (false,0,r)) (e:=Ut r) rfl) ?_;show _=g (fN (F8 (DH b a) (DI b a) fun i=>lv.getD i false) (lV b).length (r,false));refine lF (n:=(lV b).length) (by omega) (fun(k:Nat) (s:List Bool×Bool)=>(s.2,(k:Int),s.1)) (F8 (DH b a) (DI b a) fun i=>lv.getD i false) (fun _ s=>s.1.length=j6 b) (J:=fun s=>g (s.1,s.2)) (F:=Uv lv a (lV b) fun t=>g (t.2,t.1)) (fun m k s l d=>?_) (fun k s l d=>?_) (fun m s _=>aE) (r,false) H
    ·obtain⟨u,v,_,_⟩:=M8 b f l;obtain⟨T,Q⟩:=u0r f a l;have d:s.1.length=j6 b:=d;have w:((k:Int)).toNat=k:=rfl;have j:PG (k:Int) s.1 s.2 lv m ((DH b a k:Int),(DI b a k:Int))=m ((F8 (DH b a) (DI b a) (fun i=>lv.getD i false) k s).2,((k+1:Nat):Int),(F8 (DH b a) (DI b a) (fun i=>lv.getD i false) k s).1):=by
      refine(gP ⟨oo,(fun _=>oo),(fun _=>by omega),(fun _=>oo),(fun _=>by omega),trivial⟩).trans ?_;unfold F8;by_cases h:(lv.getD k false&&s.1.getD (DH b a k) false&&!s.1.getD (DI b a k) false)=true
      ·rw[if_pos h];refine(if_pos h).trans ?_;refine(gP ⟨oo,by omega,trivial⟩).trans ?_;exact gP ⟨oo,trivial⟩
      ·rw[if_neg h];refine(if_neg h).trans ?_;exact gP ⟨oo,trivial⟩
     refine(if_pos (by simpa using l)).trans ?_;refine(gP ⟨oo,oo,trivial⟩).trans ?_;rw[lE,w];cases a with
     | false =>
       refine(if_pos rfl).trans ?_;rw[u,v];exact j
     | true =>
       refine(if_neg (by simp)).trans ?_;rw[u,v];exact j
    ·have d:s.1.length=j6 b:=d;unfold F8;split
     ·show(s.1.set _ true).length=_;rw[List.length_set]; exact d
     ·exact d)
 refine⟨L,P,Eq.trans ?_ y⟩;exact L0m (fun q:List Bool×Bool=>(q.2,q.1)) (fun g s=>rfl) ((List.replicate (j6 b) false).set s true,true)
end
section
variable {b:j7}
end
theorem E0h{l:List Int}{x:Int}:C9 l x=true↔x∈l:=by
 unfold C9;rw[List.any_eq_true];constructor
 ·rintro⟨j,a,b⟩;rw[<- eq_of_beq b];exact F0 (List.mem_range.1 a)
 ·intro h;obtain⟨j,a,rfl⟩:=List.getElem_of_mem h;exact⟨j,List.mem_range.2 a,by rw[gq,List.getElem?_eq_getElem a]; exact beq_self_eq_true _⟩
def CJ(p:Nat->Bool)(N:Nat)(S:List Bool):List Bool:=(List.range N).map fun w=>S.getD w false||p w
theorem Re(p:Nat->Bool)(N:Nat)(S:List Bool):(CJ p N S).length=N:=by
 grind[CJ,List.length_map,List.length_range]
theorem WY(p:Nat->Bool)(N:Nat)(S:List Bool){w:Nat}(h:w<N):(CJ p N S).getD w false=(S.getD w false||p w):=by
 grind[CJ]
def L4(N v:Nat)(S:List Bool):List Bool:=(List.range N).map fun w=>decide (w<v)||S.getD w false
theorem Nl(N v:Nat)(S:List Bool):(L4 N v S).length=N:=by
 grind[L4,List.length_map,List.length_range]
theorem Nn(N v:Nat)(S:List Bool){w:Nat}(h:w<N):(L4 N v S).getD w false=(decide (w<v)||S.getD w false):=by
 grind[L4]
theorem q0M{N:Nat}{p:Nat->Bool}(h:((List.range N).filter p).length<2){v w:Nat}(f:v<N)(b:p v=true)(e:w<N)(d:p w=true):w=v:=by
 have a:v∈(List.range N).filter p:=List.mem_filter.2 ⟨List.mem_range.2 f,b⟩;have c:w∈(List.range N).filter p:=List.mem_filter.2 ⟨List.mem_range.2 e,d⟩;generalize (List.range N).filter p=l at h a c
 match l,h with
 | [],_=>cases a
 | [x],_=>grind
 | x :: y :: r,h=>grind
theorem p0R(p:Nat->Bool)(N:Nat)(D:List Bool)(a:D.length=N):∀m,m<=N->(fN (fun w (s:List Bool)=>if p w=true then s.set w true else s) m D).length=N/\∀w,w<N->(fN (fun w (s:List Bool)=>if p w=true then s.set w true else s) m D).getD w false=(D.getD w false||(decide (w<m)&&p w))
 | 0,_=>⟨a,fun w _=>by simp[fN]⟩
 | m+1,h=>by
   obtain⟨b,c⟩:=p0R p N D a m (by omega);show(if p m=true then List.set _ m true else _:List Bool).length=N/\∀w,w<N->(if p m=true then List.set _ m true else _:List Bool).getD w false=_
   grind
theorem u0x(p:Nat->Bool)(N:Nat)(D:List Bool)(c:D.length=N):fN (fun w (s:List Bool)=>if p w=true then s.set w true else s) N D=CJ p N D:=by
 obtain⟨b,d⟩:=p0R p N D c N (Nat.le_refl _);refine Jw false (by rw[b,Re]) fun w a=>?_;rw[b] at a;rw[d w a,WY _ _ _ a,decide_eq_true a,Bool.true_and]
theorem r0q(M:Nat)(q:Nat->Bool):(List.range M).any q=decide (0 < ((H6 q M).length:Int)):=by
 rw[Bool.eq_iff_iff,List.any_eq_true,dq,(FL q M).2];constructor
 ·rintro⟨x,b,c⟩;have:x∈(List.range M).filter q:=List.mem_filter.2 ⟨b,c⟩;have:=List.length_pos_of_mem this;omega
 ·intro h;obtain⟨x,a⟩:=List.exists_mem_of_length_pos (show 0 < ((List.range M).filter q).length by omega);exact⟨x,List.mem_filter.1 a⟩
section
variable {b:j7}
def DJ(b:j7)(lv:List Bool)(v:Nat):List Bool:=vl (Dk (j6 b:Int) (lV b) lv (v:Int) true)
theorem Np(d:p7 b=true){lv:List Bool}(a:lv.length=(lV b).length){v:Nat}(e:v<j6 b):RB (lV b).length (j6 b) (o6 b) (o8 b) (fun i=>lv.getD i false) v (DJ b lv v)/\Dk (j6 b:Int) (lV b) lv (v:Int) true=some (DJ b lv v):=by
 obtain⟨L,f,c⟩:=WX d a e true;unfold DJ;rw[c];exact⟨f,rfl⟩
def J2(b:j7)(lv:List Bool)(v w:Nat):Bool:=(DJ b lv v).getD w false&&(DJ b lv w).getD v false
def Ai(b:j7)(lv:List Bool)(v:Nat):List Int:=H6 (J2 b lv v) (j6 b)
def Nq(b:j7)(lv:List Bool)(v:Nat):Bool:=decide (0 < ((H6 (fun k=>lv.getD k false&&(o6 b k==v&&o8 b k==v)) (lV b).length).length:Int))
def Aj(b:j7)(lv:List Bool)(v:Nat):Bool:=decide (1 < ((Ai b lv v).length:Int))||Nq b lv v
def P1(b:j7)(lv:List Bool)(v:Nat)(s:List Bool×List (List Int)):List Bool×List (List Int):=if s.1.getD v false=true then s else if Aj b lv v=true then(CJ (J2 b lv v) (j6 b) s.1,s.2++[Ai b lv v]) else s
def Ak(b:j7)(lv:List Bool):List (List Int):=(fN (P1 b lv) (j6 b) (List.replicate (j6 b) false,[])).2
theorem v0u(b:j7)(lv:List Bool){v:Nat}{s:List Bool×List (List Int)}(h:s.1.length=j6 b/\s.2.length<=v):(P1 b lv v s).1.length=j6 b/\(P1 b lv v s).2.length<=v+1:=by
 grind[P1,Re,List.length_append,List.length_singleton]
theorem WZ(d:p7 b=true){lv:List Bool}(a:lv.length=(lV b).length){v:Nat}(c:v<j6 b):J2 b lv v v=true:=by
 have h:=((Np d a c).1.2 v c).2 .refl
 grind[J2]
theorem w0p(b:j7)(lv:List Bool)(v:Nat):(Ai b lv v).length<=j6 b:=(FL _ _).1
theorem y0L(i:p7 b=true){lv:List Bool}(f:lv.length=(lV b).length){v:Nat}(j:v<j6 b){s:List Bool×List (List Int)}(_:s.1.length=j6 b):(s.1.getD v false=true->L4 (j6 b) v s.1=L4 (j6 b) (v+1) s.1)/\(s.1.getD v false=false->CJ (J2 b lv v) (j6 b) (L4 (j6 b) v s.1)=L4 (j6 b) (v+1) (P1 b lv v s).1):=by
 have a:=WZ i f j;refine⟨fun h=>Jw false (by grind[Nl]) fun w c=>?_,fun h=>Jw false (by rw[Re,Nl]) fun w c=>?_⟩
 ·grind[Nl,Nn]
 ·rw[Re] at c;rw[WY _ _ _ c,Nn _ _ _ c,Nn _ _ _ c];unfold P1;rw[if_neg (by rw[h]; simp)];by_cases d:Aj b lv v=true
  ·rw[if_pos d,WY _ _ _ c];by_cases e:w=v
   ·subst e; rw[a]; simp
   ·have:(w<v+1)↔w<v:=by omega
    simp[this,Bool.or_assoc]
  ·rw[if_neg d];have g:((List.range (j6 b)).filter (J2 b lv v)).length<2:=by
    have:=(FL (J2 b lv v) (j6 b)).2;unfold Aj at d;rw[Bool.or_eq_true,not_or,dq] at d;unfold Ai at d;omega
   grind[J2,absurd,q0M]
theorem M0e(d:p7 b=true){lv:List Bool}(m:lv.length=(lV b).length)(a:Nat):LJ (lV b) lv (a:Int)=some (Nq b lv a):=by
 have q:=P6 d;unfold Nq;rw[<- r0q];have c:=H5 (n:=(lV b).length) (by omega) (fun i=>lv.getD i false&&(o6 b i==a&&o8 b i==a)) (some true) (e:=some false) (F:=A0H lv (lV b) (a:Int)) (fun g i hi=>by
  obtain⟨o,f,_⟩:=M8 b d hi;have k:((i:Int)).toNat=i:=rfl;have j:((o6 b i:Int)==(a:Int))=(o6 b i==a):=by
   rw[Bool.eq_iff_iff,beq_iff_eq,beq_iff_eq]; omega
  have l:((o8 b i:Int)==(a:Int))=(o8 b i==a):=by
   rw[Bool.eq_iff_iff,beq_iff_eq,beq_iff_eq]; omega
  refine(if_pos (by simpa using hi)).trans ?_;rw[k,o,f,j,l,Bool.and_assoc];refine(gP ⟨oo,(fun _=>oo),(fun _=>oo),trivial⟩).trans ?_;by_cases h:(lv.getD i false&&(o6 b i==a&&o8 b i==a))=true
  ·simp_all
  ·rw[if_neg h,if_neg h];exact gP ⟨oo,trivial⟩) (fun g=>aE)
 refine c.trans ?_
 grind
theorem O0b(c:p7 b=true){lv:List Bool}(a:lv.length=(lV b).length):GP (j6 b:Int) (lV b) lv=some (Ak b lv):=by
 have hM:=P6 c;have hN:=AG b c;have e0:((j6 b:Int)).toNat=j6 b:=rfl;unfold GP;rw[gP ⟨⟨by omega,rfl,by omega,by omega⟩,trivial⟩,e0];have y:List.replicate (j6 b) false=L4 (j6 b) 0 (List.replicate (j6 b) false):=Jw false (by rw[Nl,List.length_replicate]) fun w j=>by
  grind[List.length_replicate,Nn]
 refine Eq.trans (congrArg (fun x=>lp (Uy (lV b) lv (j6 b:Int)) (0,x,[])) y) ?_;refine lF (n:=j6 b) (by omega) (fun(v:Nat) (s:List Bool×List (List Int))=>((v:Int),L4 (j6 b) v s.1,s.2)) (P1 b lv) (fun v s=>s.1.length=j6 b/\s.2.length<=v) (J:=fun s=>some s.2) (F:=Uy (lV b) lv (j6 b:Int)) (fun g v s e i=>?_) (fun v s e i=>v0u b lv i) (fun g s _=>aE) (List.replicate (j6 b) false,[]) ⟨List.length_replicate,Nat.le_refl _⟩;obtain⟨G,Q⟩:=i;obtain⟨S,o⟩:=s;have G:S.length=j6 b:=G;have Q:o.length<=v:=Q;have e3:((v:Int)).toNat=v:=rfl;have k:=Nl (j6 b) v S;have r:(L4 (j6 b) v S).getD v false=S.getD v false:=by
  rw[Nn _ _ _ e,decide_eq_false (Nat.lt_irrefl v),Bool.false_or]
 obtain⟨W,t⟩:=y0L c a e (s:=(S,o)) G;have W:S.getD v false=true->L4 (j6 b) v S=L4 (j6 b) (v+1) S:=W;have t:S.getD v false=false->CJ (J2 b lv v) (j6 b) (L4 (j6 b) v S)=L4 (j6 b) (v+1) (P1 b lv v (S,o)).1:=t;have j2:∀u m,IK (v:Int) g (u,m)=g (((v+1:Nat):Int),u,m):=fun u m=>gP ⟨oo,trivial⟩;refine(if_pos (decide_eq_true (by omega))).trans ?_;refine(gP ⟨⟨by omega,by grind⟩,by grind,trivial⟩).trans ?_;show(if(L4 (j6 b) v S).getD v false=true then IK (v:Int) g (L4 (j6 b) v S,o) else _)=g (((v+1:Nat):Int),L4 (j6 b) (v+1) (P1 b lv v (S,o)).1,(P1 b lv v (S,o)).2);rw[r];cases hS:S.getD v false with
 | true =>
   refine(if_pos rfl).trans ?_
   grind[P1]
 | false =>
   refine(if_neg (by simp)).trans ?_;obtain⟨T,t1,t2⟩:=WX c a e true;obtain⟨B,H,Y⟩:=WX c a e false;have d:=Np c a e;obtain rfl:T=DJ b lv v:=t1.uniq d.1;have E:∀w,w<j6 b->B.getD w false=(DJ b lv w).getD v false:=fun w j=>by
    rw[Bool.eq_iff_iff,H.2 w j,(Np c a j).1.2 v e];exact⟨fun h=>Rch.back h,fun h=>Rch.back h⟩
   rw[t2,Y,vS,vS];refine(gP ⟨rfl,rfl,trivial⟩).trans ?_;rw[lE];have aB:=d.1.1;have aC:=H.1;rw[<- t hS];have q:lp (Ux (DJ b lv v) B (v:Int) o (lV b) lv (j6 b:Int) g) (0,[],L4 (j6 b) v S)=LK (v:Int) o (lV b) lv g (Ai b lv v,CJ (J2 b lv v) (j6 b) (L4 (j6 b) v S)):=by
    unfold Ai;rw[<- FK,<- u0x (J2 b lv v) (j6 b) (L4 (j6 b) v S) k];have f:∀n,fN (fun w (s:List Int×List Bool)=>if J2 b lv v w=true then(s.1++[(w:Int)],s.2.set w true) else s) n ([],L4 (j6 b) v S)=(fN (fun w (s:List Int)=>if J2 b lv v w=true then s++[(w:Int)] else s) n [],fN (fun w (s:List Bool)=>if J2 b lv v w=true then s.set w true else s) n (L4 (j6 b) v S)):=by
     intro n
     induction n with
     | zero=>rfl
     | succ n ih =>
       grind[J2,fN,set]
    rw[<- f];refine lF (n:=j6 b) (by omega) (fun(w:Nat) (s:List Int×List Bool)=>((w:Int),s.1,s.2)) (fun w (s:List Int×List Bool)=>if J2 b lv v w=true then(s.1++[(w:Int)],s.2.set w true) else s) (fun w s=>s.1.length<=w/\s.2.length=j6 b) (J:=fun s=>LK (v:Int) o (lV b) lv g s) (F:=Ux (DJ b lv v) B (v:Int) o (lV b) lv (j6 b:Int) g) (fun V w s j i=>?_) (fun w s j i=>?_) (fun V s _=>aE) ([],L4 (j6 b) v S) ⟨Nat.le_refl _,k⟩
    ·obtain⟨P,i2⟩:=i;obtain⟨l,D⟩:=s;have P:l.length<=w:=P;have i2:D.length=j6 b:=i2;have X:((w:Int)).toNat=w:=rfl;refine(if_pos (decide_eq_true (by omega))).trans ?_;rw[X,E w j];refine(gP ⟨oo,by omega,(fun _=>oo),(fun _=>by omega),trivial⟩).trans ?_;show(if J2 b lv v w=true then _ else _)=V (((w+1:Nat):Int),(if J2 b lv v w=true then(l++[(w:Int)],D.set w true) else(l,D)).1,(if J2 b lv v w=true then(l++[(w:Int)],D.set w true) else(l,D)).2);by_cases h:J2 b lv v w=true
     ·rw[if_pos h,if_pos h];refine(gP ⟨⟨by grind,by grind⟩,trivial⟩).trans ?_;refine(gP ⟨oo,by omega,trivial⟩).trans ?_;exact gP ⟨oo,trivial⟩
     ·rw[if_neg h,if_neg h];exact gP ⟨oo,trivial⟩
    ·grind
   refine q.trans ?_;have aA:=w0p b lv v;rw[LK];refine(gP ⟨fun _=>(by grind[M0e]),trivial⟩).trans ?_;rw[M0e c a,vS];have z:P1 b lv v (S,o)=if Aj b lv v=true then(CJ (J2 b lv v) (j6 b) S,o++[Ai b lv v]) else(S,o):=if_neg (by grind)
   rw[z];show(if Aj b lv v=true then _ else _)=_;cases hc:Aj b lv v with
   | true =>
     refine(if_pos rfl).trans ?_;rw[j2];exact gP ⟨⟨by grind,by grind⟩,trivial⟩
   | false =>
     grind
end
end Go.Proofs.YtdjgagoledoaaaaGreatDoor
end
section
namespace Go.Proofs.Xd
open Go.Proofs.Xl
section
variable (M N:Nat) (fr to:Nat->Nat) (lv:Nat->Bool)
def Rf:Prop:=∃i,i<M/\lv i=true/\Rch M fr to lv (to i) (fr i)
theorem q0X:∀r:List Bool,C6 r<r.length->∃v,v<r.length/\r.getD v false=false
 | [],h=>by simp at h
 | false :: r,_=>⟨0,by simp,rfl⟩
 | true :: r,h=>by
   have e:C6 (true :: r)=C6 r+1:=by unfold C6; rw[List.countP_cons]; rfl
   obtain⟨v,a,b⟩:=q0X r (by rw[e] at h; simpa using h);exact⟨v+1,by simpa using a,by simpa using b⟩
theorem Xa:∀(a b:List Bool),a.length=b.length->(∀v,a.getD v false=true->b.getD v false=true)->(∃v,a.getD v false=false/\b.getD v false=true)->C6 a<C6 b:=by
 have j:∀(a b:List Bool),a.length=b.length->(∀v,a.getD v false=true->b.getD v false=true)->C6 a<=C6 b:=by
  intro a
  induction a with
  | nil=>grind
  | cons x a c =>
    intro b f h;cases b with
    | nil=>grind
    | cons y b =>
      have g:=h 0;have:=c b (by grind) (fun v e=>by have:=h (v+1); simpa using this (by simpa using e))
      grind[C6,List.getD_cons_zero]
 intro a
 induction a with
 | nil=>grind
 | cons x a c =>
   intro b f h ⟨v,l,k⟩;cases b with
   | nil=>simp at f
   | cons y b =>
     have d:a.length=b.length:=by simpa using f
     have g:=h 0;have i:∀v,a.getD v false=true->b.getD v false=true:=fun v e=>by have:=h (v+1); simpa using this (by simpa using e)
     simp only[List.getD_cons_zero] at g;cases v with
     | zero =>
       grind[List.getD_cons_zero,C6]
     | succ v =>
       have:=c b d i ⟨v,by grind,by grind⟩
       grind[C6]
theorem I0w(j:∀i,i<M->fr i<N)(_:∀i,i<M->to i<N)(q:N<=1000000){U:Nat->Prop}(k:∀u,U u->u<N/\∃i,i<M/\lv i=true/\to i=u/\U (fr i)){u:Nat}(b:U u):Rf M fr to lv:=by
 have l:∀(n u:Nat) (L:List Bool),U u->RB M N to fr lv u L->C6 L<=n->Rf M fr to lv:=by
  intro n
  induction n with
  | zero =>
    intro u L b a t;obtain⟨g,i,hi,o,e,r⟩:=k u b;have hz:L.getD u false=true:=(a.2 u g).2 .refl;have:0<C6 L:=by
     unfold C6;rw[List.countP_pos_iff];refine⟨true,?_,rfl⟩;have d:u<L.length:=by rw[a.1]; exact g
     rw[gq,List.getElem?_eq_getElem d] at hz;have hz:L[u]=true:=hz;rw[<- hz];exact List.getElem_mem d
    omega
  | succ n s =>
    intro u L b a t;obtain⟨g,i,hi,o,e,r⟩:=k u b;by_cases w:Rch M fr to lv u (fr i)
    ·exact⟨i,hi,o,by grind⟩
    ·obtain⟨K,c⟩:=B0G M N to fr lv j q (j i hi);refine s (fr i) K r c ?_;have:C6 K<C6 L:=by
      refine Xa K L (by rw[c.1,a.1]) (fun v m=>?_) ⟨u,?_,(a.2 u g).2 .refl⟩
      ·have f:v<N:=by
        rcases Nat.lt_or_ge v N with h | h
        ·exact h
        ·rw[gq,List.getElem?_eq_none (by rw[c.1]; exact h)] at m; cases m
       refine(a.2 v f).2 ?_;have x:=(c.2 v f).1 m;have y:Rch M to fr lv u (fr i):=by
        have:=Rch.one (M:=M) (fr:=to) (to:=fr) (lv:=lv) hi o
        rwa [e] at this
       exact y.trans x
      ·cases hc:K.getD u false with
       | false=>rfl
       | true=>exact(w ((c.2 u g).1 hc).back).elim
     omega
 obtain⟨L,a⟩:=B0G M N to fr lv j q (k u b).1;exact l _ u L b a (Nat.le_refl _)
structure LI(out:List Nat):Prop where
 cnt:C6 (O0 N out)=out.length
 lt:∀v∈out,v<N
 cls:∀i,i<M->lv i=true->to i∈out->fr i∈out
 acy:∀i,i<M->lv i=true->fr i∈out->¬Rch M fr to lv (to i) (fr i)
theorem LI.nil:LI M N fr to lv []:=by
 refine⟨?_,(fun _ h=>by cases h),(fun _ _ _ h=>by cases h),(fun _ _ _ h=>by cases h)⟩;show C6 (List.replicate N false)=0
 grind[C6,List.countP_eq_zero]
theorem LI.snoc{M N:Nat}{fr to:Nat->Nat}{lv:Nat->Bool}{a:List Nat}(h:LI M N fr to lv a){v:Nat}(t:v<N)(s:v ∉ a)(m:W7 M fr to lv a v=0):LI M N fr to lv (a++[v]):=by
 have k:∀i,i<M->lv i=true->to i=v->fr i∈a:=fun i hi d e=>by
  unfold W7 at m;rw[List.countP_eq_zero] at m;have:=m i (List.mem_range.2 hi);simpa [d,e] using this
 have r:=Na h.lt v;refine⟨?_,fun w g=>?_,fun i hi d b=>?_,fun i hi d b c=>?_⟩
 ·rw[m0Y,q0W (by rw[r.1]; exact t) (by rw[r.2]; simpa using s),h.cnt,List.length_append];rfl
 ·rcases List.mem_append.1 g with g | g
  ·exact h.lt w g
  grind
 ·rcases List.mem_append.1 b with b | b
  ·exact List.mem_append_left _ (h.cls i hi d b)
  grind
 ·rcases List.mem_append.1 b with b | b
  ·exact h.acy i hi d b c
  ·have e:=List.mem_singleton.1 b;rw[e] at c;generalize hq:to i=q at c;cases c with
   | refl =>
     grind
   | @step j c n f =>
     have l:=k j n f rfl;refine h.acy j n f l ?_;have o:=Rch.one (M:=M) (fr:=fr) (to:=to) (lv:=lv) hi d;rw[e,hq] at o;exact o.trans c
theorem D0H(z:∀i,i<M->fr i<N)(s:∀i,i<M->to i<N)(x:N<=1000000):AD M N fr to lv N []=none↔Rf M fr to lv:=by
 have m:∀(k:Nat) (a:List Nat),LI M N fr to lv a->a.length+k=N->(AD M N fr to lv k a=none->Rf M fr to lv)/\∀l,AD M N fr to lv k a=some l->LI M N fr to lv l/\l.length=N:=by
  intro k
  induction k with
  | zero=>intro a h t; exact⟨(fun e=>by cases e),fun l e=>by cases e; grind⟩
  | succ k o =>
    intro a h t;show((match M6 M N fr to lv a with | none=>none | some v=>AD M N fr to lv k (a++[v]))=none->_)/\∀l,(match M6 M N fr to lv a with | none=>none | some v=>AD M N fr to lv k (a++[v]))=some l->_;cases hn:M6 M N fr to lv a with
    | none =>
      refine⟨fun _=>?_,fun l e=>by cases e⟩;have r:∀v,v<N->v ∉ a->W7 M fr to lv a v≠0:=fun v b d f=>by
       unfold M6 at hn;rw[List.find?_eq_none] at hn;have:=hn v (List.mem_range.2 b);simp[d,f] at this
      have g:=fun v=>Na h.lt v;obtain⟨v,b,c⟩:=q0X (O0 N a) (by rw[h.cnt,(g 0).1]; omega);rw[(g v).1] at b;rw[(g v).2] at c;refine I0w M N fr to lv z s x (U:=fun v=>v<N/\v ∉ a) (fun u ⟨y,d⟩=>⟨y,?_⟩) (u:=v) ⟨b,by simpa using c⟩
      grind[W7]
    | some v =>
      obtain⟨w,G⟩:=MZ hn;have f:W7 M fr to lv a v=0:=by
       unfold M6 at hn;have:=List.find?_some hn;simp only[ba,beq_iff_eq] at this;exact this.2
      exact o (a++[v]) (h.snoc w G f) (by grind)
 obtain⟨E,q⟩:=m N [] (LI.nil M N fr to lv) (by simp);refine⟨E,fun⟨i,hi,H,F⟩=>?_⟩;cases ho:AD M N fr to lv N [] with
 | none=>rfl
 | some l =>
   obtain⟨n,P⟩:=q l ho;have d:fr i∈l:=by
    have g:=Na n.lt (fr i);cases f:l.contains (fr i) with
    | true=>grind
    | false =>
      exfalso;have j:C6 (O0 N l)<N:=by
       have:=Xa (O0 N l) (List.replicate N true) (by grind) (fun v b=>?_) ⟨fr i,by grind,?_⟩
       ·grind[C6,List.replicate,Wx,List.length_replicate]
       ·grind
       ·grind
      rw[n.cnt] at j;omega
   exact(n.acy i hi H d F).elim
end
end Go.Proofs.Xd
end
section
namespace Go.Proofs.YtdjgagoledoaaaaGreatDoor
open Go Go.Proofs Go.Proofs.Sv Go.Proofs.Xv Go.Proofs.Xl Go.Proofs.Xd
section
variable {b:j7}
def Nr(b:j7)(i:Nat):Int:=((lV b).getD i (b7 y80)).2.2.1
theorem I0k(l:p7 b=true){i:Nat}(hi:i < (lV b).length):Nr b i=1∨((s9 b.2.1 (o6 b i / 2)).2.2.2=true/\(s9 b.2.1 (o8 b i / 2)).2.2.2=false):=by
 have h:=F0 (d:=b7 y80) hi;unfold Nr o6 o8;rcases Wi h with ⟨r,j,t,_,_,_,e⟩ | ⟨n,k,t,a,hk,ht,e⟩
 ·left;rw[e]; rfl
 ·right;have a:n<b.2.2.length:=a;obtain⟨q,f,_,_,m⟩:=MB (s9 b.2.1) n (p6 b.2.1).length _ (F0 (d:=0) hk);have f:(x7 b.2.1 n).getD k 0=(q:Int):=f;obtain⟨p,o,g,_,c⟩:=w0a (w0b l a);have c:I8 b n=(p:Int):=c;unfold W4 at g;rw[ba] at g;rw[e,f,c];show(s9 b.2.1 ((2*(p:Int)+(t:Int)).toNat / 2)).2.2.2=true/\(s9 b.2.1 ((2*(q:Int)+(t:Int)).toNat / 2)).2.2.2=false
  grind
end
end Go.Proofs.YtdjgagoledoaaaaGreatDoor
namespace Go.Proofs.Xd
open Go.Proofs.Xl
theorem q0c{M:Nat}{fr to:Nat->Nat}{lv:Nat->Bool}{a c:Nat}(h:Rch M fr to lv a c):a=c∨∃i,i<M/\lv i=true/\fr i=a/\Rch M fr to lv (to i) c:=by
 induction h with
 | refl=>omega
 | @step j g b d f =>
   rcases f with e | ⟨i,h1,h2,h3,h4⟩
   ·exact .inr ⟨j,b,d,e.symm,.refl⟩
   ·exact .inr ⟨i,h1,h2,h3,h4.step b d⟩
theorem z0x{N:Nat}{p:Nat->Bool}{v:Nat}(h:1 < ((List.range N).filter p).length):∃w,w<N/\p w=true/\w≠v:=by
 have c:((List.range N).filter p).Nodup:=List.nodup_range.filter _;have a:∀x∈(List.range N).filter p,x<N/\p x=true:=fun x f=>by
  grind
 generalize (List.range N).filter p=l at h c a
 match l,h with
 | x :: y :: r,_ =>
   have b:x≠y:=fun e=>by
    grind
   by_cases e:x=v
   ·exact⟨y,(a y (by simp)).1,(a y (by simp)).2,fun d=>b (by omega)⟩
   ·exact⟨x,(a x (by simp)).1,(a x (by simp)).2,e⟩
end Go.Proofs.Xd
namespace Go.Proofs.YtdjgagoledoaaaaGreatDoor
open Go Go.Proofs Go.Proofs.Sv Go.Proofs.Xv Go.Proofs.Xl Go.Proofs.Xd
section
variable {b:j7}
def Rg(q:Nat->Bool)(m:Nat):Int:=fN (fun k (l:Int)=>if q k=true then(k:Int) else l) m (-1)
theorem Xb(q:Nat->Bool):∀m,(∃k,k<m/\q k=true)->∃k,k<m/\q k=true/\Rg q m=(k:Int)/\0 < (H6 q m).length/\(H6 q m).getD (((H6 q m).length:Int)-1).toNat 0=(k:Int)
 | 0,⟨k,h,_⟩=>by omega
 | m+1,⟨k,h,hk⟩=>by
   have d:Rg q (m+1)=if q m=true then(m:Int) else Rg q m:=rfl
   have e:H6 q (m+1)=if q m=true then H6 q m++[(m:Int)] else H6 q m:=by
    rw[<- FK,<- FK]; rfl
   rw[d,e];by_cases a:q m=true
   ·rw[if_pos a,if_pos a];refine⟨m,by omega,a,rfl,by grind,?_⟩
    simp_all
   ·rw[if_neg a,if_neg a];have b:k<m:=by
     rcases Nat.lt_or_ge k m with c | c
     ·exact c
     ·grind
    obtain⟨f,i,j,l,n,g⟩:=Xb q m ⟨k,b,hk⟩
    grind
abbrev Rh(b:j7)(lv:List Bool)(v w:Nat):Prop:=Rch (lV b).length (o6 b) (o8 b) (fun i=>lv.getD i false) v w
theorem Ns(c:p7 b=true){lv:List Bool}(a:lv.length=(lV b).length){v w:Nat}(d:v<j6 b)(e:w<j6 b):J2 b lv v w=true↔Rh b lv v w/\Rh b lv w v:=by
 unfold J2;rw[ba,(Np c a d).1.2 w e,(Np c a e).1.2 v d]
theorem Xc(j:p7 b=true){lv:List Bool}(g:lv.length=(lV b).length){v:Nat}(r:v<j6 b):Aj b lv v=true↔∃i,i < (lV b).length/\lv.getD i false=true/\o6 b i=v/\Rh b lv (o8 b i) v:=by
 unfold Aj;rw[Bool.or_eq_true,dq];have m:Nq b lv v=true↔∃i,i < (lV b).length/\lv.getD i false=true/\o6 b i=v/\o8 b i=v:=by
  unfold Nq;rw[<- r0q,List.any_eq_true];constructor
  ·grind
  ·grind
 have t:(Ai b lv v).length=((List.range (j6 b)).filter (J2 b lv v)).length:=(FL _ _).2;constructor
 ·rintro(h | h)
  ·obtain⟨w,n,k,q⟩:=z0x (v:=v) (show 1 < ((List.range (j6 b)).filter (J2 b lv v)).length by omega);obtain⟨l,o⟩:=(Ns j g r n).1 k;rcases q0c l with e | ⟨i,a,d,f,c⟩
   ·omega
   ·exact⟨i,a,d,f,c.trans o⟩
  ·obtain⟨i,a,d,f,c⟩:=m.1 h;exact⟨i,a,d,f,by rw[c]; exact .refl⟩
 ·rintro⟨i,a,d,f,c⟩;by_cases e:o8 b i=v
  ·grind
  ·left;obtain⟨_,_,_,s⟩:=M8 b j a
   grind[Ns,Rch.one,Nat.lt_or_ge,q0M,WZ]
theorem z0M(c:p7 b=true){lv:List Bool}(a:lv.length=(lV b).length){v:Nat}(d:v<j6 b)(h:Aj b lv v=true):∃k,k < (lV b).length/\lv.getD k false=true/\Nr b k=1/\J2 b lv v (o6 b k)=true/\J2 b lv v (o8 b k)=true:=by
 obtain⟨i,f,m,o,l⟩:=(Xc c a d).1 h;obtain⟨_,_,_,s⟩:=M8 b c f;have n:Rh b lv v (o8 b i):=by
  have:=Rch.one (M:=(lV b).length) (fr:=o6 b) (to:=o8 b) (lv:=fun i=>lv.getD i false) f m;rw[o] at this; exact this
 rcases I0k c f with g | ⟨_,k2⟩
 ·exact⟨i,f,m,g,by rw[o]; exact WZ c a d,(Ns c a d s).2 ⟨n,l⟩⟩
 ·rcases q0c l with e | ⟨j,j1,j2,j3,j4⟩
  ·grind
  ·obtain⟨_,_,t,r⟩:=M8 b c j1;have q:=Rch.one (M:=(lV b).length) (fr:=o6 b) (to:=o8 b) (lv:=fun i=>lv.getD i false) j1 j2;rw[j3] at q;rcases I0k c j1 with g | ⟨k3,_⟩
   ·exact⟨j,j1,j2,g,by grind[Ns],(Ns c a d r).2 ⟨n.trans q,j4⟩⟩
   grind
theorem Ri(b:j7)(lv:List Bool):∀m,m<=j6 b->((fN (P1 b lv) m (List.replicate (j6 b) false,[]))=(List.replicate (j6 b) false,[])/\∀v,v<m->Aj b lv v=false)∨∃v t,v<m/\Aj b lv v=true/\(fN (P1 b lv) m (List.replicate (j6 b) false,[])).2=Ai b lv v :: t
 | 0,_=>.inl ⟨rfl,fun v h=>by omega⟩
 | m+1,h=>by
   have e:fN (P1 b lv) (m+1) (List.replicate (j6 b) false,[])=P1 b lv m (fN (P1 b lv) m (List.replicate (j6 b) false,[])):=rfl;rw[e];rcases Ri b lv m (by omega) with ⟨c,a⟩ | ⟨v,t,c,a,h3⟩
   ·rw[c];have d:(List.replicate (j6 b) false).getD m false=false:=by
     rw[gq,List.getElem?_replicate];split <;> rfl
    unfold P1;show(if(List.replicate (j6 b) false).getD m false=true then _ else _)=_/\_∨∃v t,_/\_/\(if(List.replicate (j6 b) false).getD m false=true then _ else _:List Bool×List (List Int)).2=_;rw[d];cases hc:Aj b lv m with
    | false =>
      left;refine⟨rfl,fun v f=>?_⟩;by_cases e:v=m
      ·rw[e]; exact hc
      ·exact a v (by omega)
    | true=>exact .inr ⟨m,[],by omega,hc,rfl⟩
   ·right;generalize fN (P1 b lv) m (List.replicate (j6 b) false,[])=s at h3;unfold P1;split
    ·exact⟨v,t,by omega,a,h3⟩
    ·split
     ·exact⟨v,t++[Ai b lv m],by omega,a,by show s.2++[_]=_; rw[h3]; rfl⟩
     ·exact⟨v,t,by omega,a,h3⟩
def HC(b:j7)(lv:List Bool):Bool:=!(W9 (O9 b lv [] (j6 b))).2
theorem v0v(a:p7 b=true){lv:List Bool}(d:lv.length=(lV b).length):HC b lv=true↔∃v,v<j6 b/\Aj b lv v=true:=by
 have j:=AG b a;have k:=D0H (lV b).length (j6 b) (o6 b) (o8 b) (fun i=>lv.getD i false) (fun i hi=>(M8 b a hi).2.2.1) (fun i hi=>(M8 b a hi).2.2.2) j;have c:HC b lv=true↔O9 b lv [] (j6 b)=none:=by
  unfold HC;cases O9 b lv [] (j6 b) with
  | none=>exact⟨fun _=>rfl,fun _=>rfl⟩
  | some l=>exact⟨fun h=>(by cases h),fun h=>(by cases h)⟩
 rw[c];refine k.trans ⟨?_,?_⟩
 ·rintro⟨i,c,e,f⟩;obtain⟨_,_,g,_⟩:=M8 b a c;exact⟨o6 b i,g,(Xc a d g).2 ⟨i,c,e,rfl,f⟩⟩
 ·rintro⟨v,m,h⟩;obtain⟨i,c,e,f,n⟩:=(Xc a d m).1 h;exact⟨i,c,e,by grind⟩
def BW(b:j7)(lv:List Bool):List Int:=(Ak b lv).getD 0 []
def qB(b:j7)(lv:List Bool)(k:Nat):Bool:=lv.getD k false&&(Nr b k==1&&C9 (BW b lv) (o6 b k:Int)&&C9 (BW b lv) (o8 b k:Int))
theorem s0g(d:p7 b=true){lv:List Bool}(c:lv.length=(lV b).length)(h:HC b lv=false):Ak b lv=[]:=by
 unfold Ak;rcases Ri b lv (j6 b) (Nat.le_refl _) with ⟨a,_⟩ | ⟨v,t,a,h2,_⟩
 ·rw[a]
 grind[v0v]
theorem k0m(c:p7 b=true){lv:List Bool}(a:lv.length=(lV b).length)(h:HC b lv=true):0 < (Ak b lv).length/\∃k,k < (lV b).length/\qB b lv k=true:=by
 obtain⟨x,j,q⟩:=(v0v c a).1 h;unfold qB BW;have d:∃v t,v<j6 b/\Aj b lv v=true/\Ak b lv=Ai b lv v :: t:=by
  unfold Ak;rcases Ri b lv (j6 b) (Nat.le_refl _) with ⟨_,i⟩ | ⟨v,t,h1,i,h3⟩
  ·grind
  ·grind
 obtain⟨v,t,l,m,e⟩:=d;rw[e];refine⟨by grind,?_⟩;obtain⟨k,g,r,y,n,k5⟩:=z0M c a l m;obtain⟨_,_,o,s⟩:=M8 b c g;have f:∀w,w<j6 b->J2 b lv v w=true->C9 (Ai b lv v) (w:Int)=true:=fun w z u=>by
  rw[E0h];unfold Ai H6
  grind
 grind
end
section
variable {b:j7}
def JA(b:j7)(lv:List Bool):Int:=Rg (qB b lv) (lV b).length
theorem z0w(a:p7 b=true){lv:List Bool}(_:lv.length=(lV b).length):(BW b lv).length<=1000000:=by
 have d:=AG b a;unfold BW Ak;rcases Ri b lv (j6 b) (Nat.le_refl _) with ⟨c,_⟩ | ⟨v,t,_,_,h3⟩
 ·rw[c]; exact Nat.zero_le _
 ·rw[h3];have:=w0p b lv v;show(Ai b lv v).length<=_;omega
theorem D0w(W:wf l9 b)(a:p7 b=true):∃l:List Int,l.length<=6000/\Fp b=some l:=by
 have hM:=P6 a;have hN:=AG b a;have ll:(D4 (lV b).length []).length=(lV b).length:=Fz _ _;obtain⟨d,r2,j,Y⟩:=Wj (F:=G0o (lV b) (j6 b:Int)) (J:=fun t=>LL t) C6 (fun t=>t.length=(lV b).length) (HC b) (fun t=>t.set (JA b t).toNat false)
  (fun g t c=>by
    have P:GP (j6 b:Int) (lV b) t=some (Ak b t):=O0b a c;show gd ((GP (j6 b:Int) (lV b) t).isSome=true/\True) _=_;rw[P,vS,gP ⟨rfl,trivial⟩,lE];cases j:HC b t with
    | false =>
      rw[s0g a c j];rfl
    | true =>
      obtain⟨T,E⟩:=k0m a c j;obtain⟨k,k1,m,G,k4,k5⟩:=Xb (qB b t) _ E;have u:¬(((Ak b t).length:Int)==0)=true:=by rw[beq_iff_eq]; omega
      refine(if_neg u).trans ?_;have aA:=z0w a c;refine(lF (n:=(lV b).length) (by omega) (fun i (s:Int)=>(s,(i:Int))) (fun i (s:Int)=>if qB b t i=true then(i:Int) else s) (fun _ _=>True) (J:=fun s=>LM t g s) (F:=G0n t (lV b) (Ak b t) g) (fun z i s hi _=>?_) (fun _ _ _ _=>trivial) (fun z s _=>aE) (-1) trivial).trans ?_
      ·have f:((i:Int)).toNat=i:=rfl;obtain⟨f1,f2,_⟩:=M8 b a hi;have ha:T5 ((Ak b t).getD (Int.toNat (0:Int)) []) ((lV b).getD ((i:Int)).toNat (b7 y80)).1=some (C9 (BW b t) (o6 b i:Int)):=by
        rw[f,f1]; exact WJ (BW b t) _ (by omega)
       have hz:T5 ((Ak b t).getD (Int.toNat (0:Int)) []) ((lV b).getD ((i:Int)).toNat (b7 y80)).2.1=some (C9 (BW b t) (o8 b i:Int)):=by
        rw[f,f2]; exact WJ (BW b t) _ (by omega)
       refine(if_pos (decide_eq_true (by omega))).trans ?_;rw[ha,hz,vS,vS];have H:ix (i:Int) (lV b).length:=oo;have y:((i:Int)).toNat < (lV b).length:=hi;have V:ix (0:Int) (Ak b t).length:=oo;refine(gP ⟨oo,by omega,(fun _=>H),(fun _=>y),(fun _=>V),(fun _=>T),(fun _=>H),(fun _=>y),(fun _=>rfl),(fun _=>V),(fun _=>T),(fun _=>H),(fun _=>y),(fun _=>rfl),trivial⟩).trans ?_;have eq:(t.getD ((i:Int)).toNat false&&((lV b).getD ((i:Int)).toNat (b7 y80)).2.2.1==(1:Int)&&C9 (BW b t) (o6 b i:Int)&&C9 (BW b t) (o8 b i:Int))=qB b t i:=by
        unfold qB Nr;rw[f,Bool.and_assoc,Bool.and_assoc,Bool.and_assoc]
       rw[eq];have X:∀x,PH (i:Int) z x=z (x,((i+1:Nat):Int)):=fun x=>gP ⟨oo,trivial⟩;rw[X,X];by_cases h:qB b t i=true
       ·rw[if_pos h,if_pos h]
       ·rw[if_neg h,if_neg h]
      ·show LM t g (JA b t)=_;have q:JA b t=(k:Int):=G;rw[LM,q];refine(gP ⟨oo,by show k<t.length; omega,trivial⟩).trans ?_;rfl)
  (fun t c j=>by
    have c:t.length=(lV b).length:=c;obtain⟨_,E⟩:=k0m a c j;obtain⟨k,k1,m,G,_,_⟩:=Xb (qB b t) _ E;have q:JA b t=(k:Int):=G;have hk:t.getD k false=true:=by
     unfold qB at m;rw[ba] at m;exact m.1
    have Q:∀w,(t.set k false).getD w false=if w=k then false else t.getD w false:=fun w=>Jv false (by omega)
    have r:C6 (t.set k false)<C6 t:=by
     refine Xa _ _ (by rw[List.length_set]) (fun v o=>?_) ⟨k,by rw[Q,if_pos rfl],hk⟩;rw[Q] at o;split at o
     ·cases o
     ·exact o
    show(t.set (JA b t).toNat false).length=(lV b).length/\C6 (t.set (JA b t).toNat false)<C6 t;rw[q,Int.toNat_natCast];exact⟨by rw[List.length_set]; exact c,r⟩)
  (D4 (lV b).length []) ll (by
    have:=Wx (D4 (lV b).length []);omega)
 refine⟨H6 (fun k=>!d.getD k false) (lV b).length,by have:=(FL (fun k=>!d.getD k false) (lV b).length).1; omega,?_⟩
 ·unfold Fp;rw[MO b W a,vS,gP ⟨rfl,trivial⟩,lE,WK _ _ (by omega) (Nat.zero_le _),vS,gP ⟨rfl,trivial⟩,lE,WI b W a,vS,gP ⟨rfl,trivial⟩,lE];refine Y.trans ?_;show LL d=_;rw[LL,<- FK];refine lF (n:=(lV b).length) (by omega) (fun(i:Nat) (s:List Int)=>((i:Int),s)) (fun i s=>if(!d.getD i false)=true then s++[(i:Int)] else s) (fun i s=>s.length<=i) (J:=fun s=>some s) (F:=G0m d) (fun g i s hi e=>?_) (fun i s hi e=>?_) (fun g s _=>?_) [] (Nat.le_refl _)
  ·have e:s.length<=i:=e;have f:((i:Int)).toNat=i:=rfl;refine(if_pos (decide_eq_true (by omega))).trans ?_;refine(gP ⟨oo,by omega,trivial⟩).trans ?_;rw[f];by_cases h:(!d.getD i false)=true
   ·rw[if_pos h,if_pos h];refine(gP ⟨⟨by show s.length+1<=_; omega,by show(s.length+1)*8<=_; omega⟩,trivial⟩).trans ?_;exact gP ⟨oo,trivial⟩
   ·rw[if_neg h,if_neg h];exact gP ⟨oo,trivial⟩
  ·have e:s.length<=i:=e;split
   ·rw[List.length_append,List.length_singleton]; omega
   ·omega
  ·exact if_neg (by rw[dq]; omega)
end
def JB(l:List m6):Prop:=∀x∈l,-1000<=x.2.1.2/\x.2.1.2<=1000
def Xe{ρ:Type}(v78 v117:Int)(v118:List m6)(s:l5)(K:List m6×List Int×Int×Int->Option ρ):Option ρ :=
     gd ((c8 s 200).isSome=true/\c9 ((vl (c8 s 200)).1-50)/\(c8 (vl (c8 s 200)).2 30).isSome=true/\True)<|lt ((vl (c8 s 200),vl (c8 (vl (c8 s 200)).2 30))) fun(v137,v138) =>
     gd (c9 (2*v78)/\c9 (2*v78+v117)/\(c8 v138.2 40).isSome=true/\c9 (v137.1-50+(vl (c8 v138.2 40)).1)/\(c8 (vl (c8 v138.2 40)).2 12).isSome=true/\c9 (v138.1+(vl (c8 (vl (c8 v138.2 40)).2 12)).1)/\(v118.length+[(2*v78+v117,(v137.1-50,v137.1-50+(vl (c8 v138.2 40)).1),v138.1,v138.1+(vl (c8 (vl (c8 v138.2 40)).2 12)).1)].length<=9223372036854775807/\(v118.length+[(2*v78+v117,(v137.1-50,v137.1-50+(vl (c8 v138.2 40)).1),v138.1,v138.1+(vl (c8 (vl (c8 v138.2 40)).2 12)).1)].length)*40<=140737488355328)/\True)<|lt ((vl (c8 v138.2 40),vl (c8 (vl (c8 v138.2 40)).2 12),v118++[(2*v78+v117,(v137.1-50,v137.1-50+(vl (c8 v138.2 40)).1),v138.1,v138.1+(vl (c8 (vl (c8 v138.2 40)).2 12)).1)],[(2*v78+v117,(v137.1-50,v137.1-50+(vl (c8 v138.2 40)).1),v138.1,v138.1+(vl (c8 (vl (c8 v138.2 40)).2 12)).1)])) fun(_,v140,v141,_) =>
     K (v141,v140.2.1,v140.2.2.1,v140.2.2.2)
theorem x0N{ρ:Type}{P:ρ->Prop}{b a:Int}{l:List m6}{s:l5}{K:List m6×List Int×Int×Int->Option ρ}(h:Sd s)(E:0<=b)(a1:b<=1000)(Q:0<=a)(G:a<=2)(hl:l.length<=10000)(j:JB l)(v:∀l' s',Sd s'->l'.length=l.length+1->JB l'->∃r,K (l',s')=some r/\P r):∃r,Xe b a l s K=some r/\P r:=by
 obtain⟨x1,W,t,y,c1,d,-⟩:=z8 (n:=200) h (by omega);have d:=d (by omega);obtain⟨Y,z,m,o,V,f,-⟩:=z8 (n:=30) y (by omega);have f:=f (by omega);obtain⟨X,s3,k,w,T,g,-⟩:=z8 (n:=40) o (by omega);have g:=g (by omega);obtain⟨H,u,i,q,F,e,-⟩:=z8 (n:=12) w (by omega);have e:=e (by omega);unfold Xe;simp only[t,m,vS,Option.isSome_some];refine k6 ⟨trivial,oo,trivial,trivial⟩ (x6 ?_);dsimp only;simp only[k,i,vS,Option.isSome_some];refine k6 ⟨oo,oo,trivial,oo,trivial,oo,⟨by rw[List.length_singleton]; omega,by rw[List.length_singleton]; omega⟩,trivial⟩ (x6 ?_);dsimp only;refine v _ u q (by rw[List.length_append,List.length_singleton]) fun x c=>?_;rcases List.mem_append.1 c with c | c
 ·exact j x c
 ·rw[List.mem_singleton.1 c];exact⟨by simp only; omega,by simp only; omega⟩
theorem z0F{l:List m6}{s:l5}(h:Sd s)(H:l.length<=10000)(u:JB l):∃r,PW (l,s.1,s.2.1,s.2.2)=some r/\(Sd r.2/\r.1.length<=20000):=by
 have a:∀(j:List m6) (f:l5),Sd f->j.length<=20000->∃r,Ft (j,f.1,f.2.1,f.2.2)=some r/\(Sd r.2/\r.1.length<=20000):=fun j f v o=>⟨_,rfl,v,o⟩;unfold PW;dsimp only;split
 ·rename_i t;have t:=of_decide_eq_true t;obtain⟨k,x,y,z,i,b,-⟩:=z8 (n:=(l.length:Int)) h (by omega);have b:=b (by omega);obtain⟨m,e,w,g,G,E,-⟩:=z8 (n:=30) z (by omega);have q:c8 (s.1,s.2.1,s.2.2) (l.length:Int)=some (k,x):=y;simp only[q,vS,Option.isSome_some];refine k6 ⟨trivial,trivial⟩ (x6 ?_);dsimp only;simp only[w,vS,Option.isSome_some];refine k6 ⟨trivial,trivial⟩ (x6 ?_);dsimp only;have c:k.toNat<l.length:=by omega
  have F:=u _ (F0 (d:=b7 y53) c);split
  ·refine k6 ⟨oo,by show(0:Int).toNat<l.length; simp; omega,⟨i,b⟩,c,trivial⟩ (x6 ?_);exact a _ e g (by rw[List.length_set]; omega)
  ·split
   ·refine k6 ⟨⟨i,b⟩,c,oo,⟨i,b⟩,c,trivial⟩ (x6 ?_);exact a _ e g (by rw[List.length_set]; omega)
   ·split
    ·refine k6 ⟨⟨i,b⟩,c,trivial⟩ (x6 ?_);exact a _ e g (by rw[List.length_set]; omega)
    ·split
     ·refine k6 ⟨⟨i,b⟩,c,trivial⟩ (x6 ?_);exact a _ e g (by rw[List.length_set]; omega)
     ·exact a _ e g (by omega)
 ·exact a _ s h (by omega)
theorem E0t{s:l5}(h:Sd s){b:j7}(hw:wf l9 b)(hm:cnt l9 b<=20000):∃r,u64 s b=some r/\(Sd r.2/\r.1.length<=20000):=by
 unfold u64;simp only[MK b hw (Nat.le_trans hm (by decide)),vS,Option.isSome_some];cases hb:p7 b with
 | false =>
   refine k6 ⟨trivial,trivial⟩ ?_;rw[if_pos (by decide)];exact⟨_,rfl,h,by simp⟩
 | true =>
   refine k6 ⟨trivial,trivial⟩ ?_;rw[if_neg (by decide)];have m:=R9 (U5 hb).1;have hp:(L9 b.2.1.1.length b.2.1.2.2.length (m5 b.2.1) (A6 b.2.1)).length<=78:=m.len;simp only[Dv b.2.1 hw.2.1 m.fac.ni14 m.fac.np8 m.pin,vS,Option.isSome_some];refine k6 ⟨trivial,trivial⟩ (x6 ?_);generalize L9 b.2.1.1.length b.2.1.2.2.length (m5 b.2.1) (A6 b.2.1)=M at hp;refine K4 (fun x=>79-x.1.toNat) (fun x=>Sd (x.2.2.1,x.2.2.2.1,x.2.2.2.2)/\0<=x.1/\x.1<=(M.length:Int)/\(x.2.1.length:Int)<=2*x.1/\JB x.2.1) ?_ ⟨h,by simp only; omega,by simp only; omega,by simp,fun _ h=>by cases h⟩ (by simp only; omega);rintro g ⟨i,l,c,G,z⟩ ⟨w,i2,i3,i4,i5⟩ ih;simp only at w i2 i3 i4 i5;unfold G0l;dsimp only;by_cases o:i < (M.length:Int)
   ·rw[if_pos (decide_eq_true o)];refine k6 ⟨⟨i2,o⟩,by omega,fun _=>⟨i2,o⟩,fun _=>by omega,trivial⟩ ?_;refine K4 (fun x=>3-x.1.toNat) (fun x=>Sd (x.2.2.1,x.2.2.2.1,x.2.2.2.2)/\0<=x.1/\x.1<=2/\(x.2.1.length:Int)<=2*i+x.1/\JB x.2.1) ?_ ⟨w,by simp only; omega,by simp only; omega,by simp only; omega,i5⟩ (by simp only; omega);rintro X ⟨j,F,c3,aA,aB⟩ ⟨q,Y,j3,j4,k⟩ P;simp only at q Y j3 j4 k;have t:∀(f:List m6) (a:l5),Sd a->j<2->(f.length:Int)<=2*i+j+1->JB f->∃r,Bc j X (f,a.1,a.2.1,a.2.2)=some r/\(Sd r.2/\r.1.length<=20000):=fun f a u T H e=>by
     unfold Bc;dsimp only;exact k6 ⟨oo,trivial⟩ (P _ ⟨u,by simp only; omega,by simp only; omega,by simp only; omega,e⟩ (by simp only; omega))
    have E:∀(a:l5),Sd a->j<2->∃r,Xe i j F a (Bc j X)=some r/\(Sd r.2/\r.1.length<=20000):=fun a u T=>x0N u i2 (by omega) Y (by omega) (by omega) k fun f y v H e=>t f y v T (by omega) e
    unfold G0k;dsimp only;by_cases d:j<2
    ·rw[if_pos (decide_eq_true d)];obtain⟨x1,s1,e1,h1,-,-,-⟩:=z8 (n:=8) q (by omega);obtain⟨x2,Q,e2,V,-,-,-⟩:=z8 (n:=24) h1 (by omega);obtain⟨x3,W,e3,h3,-,-,-⟩:=z8 (n:=24) q (by omega);refine k6 trivial ?_;split
     ·simp only[e1,vS,Option.isSome_some];refine k6 ⟨trivial,trivial⟩ (k6 trivial ?_);split
      ·refine k6 trivial (k6 trivial ?_);rw[if_pos (show(true||false)=true from rfl)];exact E s1 h1 d
      ·simp only[e2,vS,Option.isSome_some];refine k6 ⟨trivial,trivial⟩ (k6 trivial ?_);split
       ·exact E Q V d
       ·exact t F Q V d (by omega) k
     ·refine k6 trivial (k6 trivial ?_);rw[if_neg (by decide)];simp only[e3,vS,Option.isSome_some];refine k6 ⟨trivial,trivial⟩ (k6 trivial ?_);split
      ·exact E W h3 d
      ·exact t F W h3 d (by omega) k
    ·rw[if_neg (by simpa using d)];unfold UZ;dsimp only;exact k6 ⟨oo,trivial⟩ (ih _ ⟨q,by simp only; omega,by simp only; omega,by simp only; omega,k⟩ (by simp only; omega))
   ·rw[if_neg (by simpa using o)];exact z0F (s:=(c,G,z)) w (by omega) i5
section
variable [Alw]
theorem Xf{b:j7}(g:wf l9 b)(c:cnt l9 b<=20000){v1:p5×l5}{l:List Int}(i:l.length<=20000){s:l5}(h:Sd s):∃r,GY b.1 b.2.1.1 b.2.1.2.1 b.2.1.2.2 b.2.2 v1 (l,s.1,s.2.1,s.2.2)=some r/\True:=by
 obtain⟨r,e,d,a⟩:=E0t h g c;have f:u64 (s.1,s.2.1,s.2.2) (b.1,(b.2.1.1,b.2.1.2.1,b.2.1.2.2),b.2.2)=some r:=e;unfold GY;simp only[f,vS,Option.isSome_some];exact k6 ⟨trivial,trivial⟩ (x6 (k6 ⟨d.1,c,i,a⟩ ⟨_,rfl,trivial⟩))
theorem n0D{b:j7}(a:wf l9 b)(c:cnt l9 b<=20000){v1:p5×l5}{s:l5}(h:Sd s):∃r,Mt v1 (b.1,b.2.1.1,b.2.1.2.1,b.2.1.2.2,b.2.2,s.1,s.2.1,s.2.2)=some r/\True:=by
 obtain⟨r,e,g,o⟩:=I0G h a c;have t:IJ (s.1,s.2.1,s.2.2) (b.1,(b.2.1.1,b.2.1.2.1,b.2.1.2.2),b.2.2)=some r:=e;have k:Y1 (b.1,(b.2.1.1,b.2.1.2.1,b.2.1.2.2),b.2.2)=some (p7 b):=MK b a (Nat.le_trans c (by decide));obtain⟨x,j,q,i,-,-,-⟩:=z8 (n:=6) g (by omega);unfold Mt;simp only[t,k,vS,Option.isSome_some];refine k6 ⟨trivial,trivial⟩ (x6 ?_);refine k6 ⟨trivial,trivial⟩ ?_;by_cases d:(p7 b&&(r.1.length:Int)==0)=true
 ·rw[if_pos d];rw[ba] at d;obtain⟨l,u,m⟩:=D0w a d.1;have f:Fp (b.1,(b.2.1.1,b.2.1.2.1,b.2.1.2.2),b.2.2)=some l:=m;simp only[q,f,vS,Option.isSome_some];refine k6 ⟨trivial,trivial⟩ (k6 trivial ?_);split
  ·refine k6 ⟨trivial,trivial⟩ (x6 ?_);exact Xf (l:=l) (s:=j) a c (by omega) i
  ·exact Xf (l:=r.1) (s:=j) a c (by omega) i
 ·rw[if_neg d];refine k6 trivial (k6 trivial ?_);rw[if_neg (by decide)];exact Xf (l:=r.1) (s:=r.2) a c (by omega) g
omit [Alw] in
theorem wfB{v:j7×l5}(h:Hz (GX v)):wf l9 v.1:=⟨h.1,⟨h.2.1,h.2.2.1,h.2.2.2.1⟩,h.2.2.2.2.1⟩
theorem E0I{s:l5}(h:Sd s):Qp s=some ():=by
 refine O2 ?_;unfold Qp;refine k6 ⟨trivial,h.1⟩ (Ah ?_);intro j ⟨⟨o,q⟩,l,hz⟩;refine O2 (k6 trivial ?_);have c:=BT hz o;obtain⟨t,e,m,u⟩:=I0z (s:=IX j) c;obtain⟨x,r,i,d,-,-,-⟩:=z8 (n:=3) m (by omega);simp only[e,vS,Option.isSome_some];refine k6 ⟨trivial,trivial⟩ (x6 ?_);simp only[i,vS,Option.isSome_some];refine k6 ⟨trivial,trivial⟩ (x6 ?_);dsimp only;split
 ·refine k6 ⟨trivial,QU d.1 (by decide) (by decide)⟩ (Ah ?_);intro g ⟨⟨k,_,_,_,f⟩,b,a⟩;refine O2 (k6 trivial ?_);exact n0D (s:=P3 g) (wfB b) (Nat.le_trans f (by decide)) (BT a k)
 ·exact n0D (wf9 l) q d
theorem P0l:Vq:=e28 WG P0k fun _ a b=>E0I (BT a.1 b)
theorem z0H{c:List Int}(h:wf (.sl (.int .u8)) c):u8 c=some ():=by
 obtain⟨s,e,b⟩:=E0l h;refine O2 ?_;unfold u8;simp only[e,vS,Option.isSome_some];refine k6 ⟨trivial,trivial⟩ (x6 ?_);refine k6 ⟨trivial,b.1⟩ (Ah ?_);intro g ⟨⟨_,f,d,a⟩,_,_⟩;exact O2 (k6 trivial (k6 ⟨f,d,a⟩ ⟨_,rfl,trivial⟩))
theorem kw8:K8:=e8 P0l fun _ a _=>z0H a.1
end
end Go.Proofs.YtdjgagoledoaaaaGreatDoor
end
