/- A node's values: both ways say the same. -/
import Derived.Test.YtdjgagoledoaaaaGreatDoorWB
import Derived.Test.YtdjgagoledoaaaaGreatDoorF83c
set_option maxHeartbeats 0
section
namespace Go.Proofs.YtdjgagoledoaaaaGreatDoor
open Go Go.Proofs Go.Proofs.Sv Go.Proofs.Xv Go.Proofs.Xl Go.Proofs.Xd
theorem E0k{a:Type}(q:a->Bool)(d:a)(l:List a):l.find? q=((List.range l.length).find? fun i=>q (l.getD i d)).map fun i=>l.getD i d:=by
 cases h:(List.range l.length).find? fun i=>q (l.getD i d) with
 | none =>
   rw[List.find?_eq_none] at h;refine List.find?_eq_none.2 fun x b=>?_;obtain⟨i,hi,rfl⟩:=List.mem_iff_getElem.1 b
   simp_all
 | some i =>
   grind[List.find?_range_eq_some,hi,List.find?_eq_some_iff_getElem,List.getElem?_eq_getElem]
theorem y0p(l:List m6)(v:Nat)(c:l.length<=9223372036854775807):Qg l (v:Int)=some (match(List.range l.length).find? (fun i=>(l.getD i (b7 y53)).1==(v:Int)) with | some i=>(i:Int) | none => -1):=by
 have a:=Ke c (fun i=>(l.getD i (b7 y53)).1==(v:Int)) (fun i=>some (i:Int)) (e:=some (-1)) (F:=j0R l (v:Int)) 0 (Nat.zero_le _) (fun g i _ hi=>by
  have d:((i:Int)).toNat=i:=rfl;refine(if_pos (decide_eq_true (by omega))).trans ?_;rw[d];refine(gP ⟨oo,rfl,trivial⟩).trans ?_;show(if((l.getD i (b7 y53)).1==(v:Int))=true then _ else _)=_;by_cases b:((l.getD i (b7 y53)).1==(v:Int))=true
  ·simp_all
  ·rw[if_neg b,if_neg b];exact gP ⟨oo,trivial⟩) (fun g=>if_neg (by simp))
 rw[Nat.sub_zero,<- List.range_eq_range'] at a;refine Eq.trans a ?_
 grind
def L0A(v:Nat)(o:Option r6):m6×Bool:=match o with
 | some x=>(((v:Int),x.1,x.2),true)
 | none=>((0,(0,0),0,0),false)
theorem r96(l:List m6)(v:Nat)(b:l.length<=9223372036854775807):Mu l (v:Int)=some (L0A v (M7 l v)):=by
 unfold Mu;rw[y0p l v b,vS,gP ⟨rfl,trivial⟩,lE];unfold M7;rw[E0k _ (b7 y53)];cases h:(List.range l.length).find? fun i=>(l.getD i (b7 y53)).1==(v:Int) with
 | none=>rfl
 | some i =>
   rw[List.find?_range_eq_some] at h;obtain⟨a,c,-⟩:=h;have hi:=List.mem_range.1 c;have d:((i:Int)).toNat=i:=rfl;have a:(l.getD i (b7 y53)).1=(v:Int):=by simpa using a
   show(if decide ((0:Int)<=(i:Int))=true then _ else _)=_;refine(if_pos (decide_eq_true (by omega))).trans ?_;show gd (ix (i:Int) l.length/\True) _=_;rw[d];refine(gP ⟨oo,trivial⟩).trans ?_;rw[lE];show some (l.getD i (b7 y53),true)=some (((v:Int),(l.getD i (b7 y53)).2.1,(l.getD i (b7 y53)).2.2),true)
   grind
def BA(v:Nat)(o:Option r6):Bool×m6:=match o with
 | some x=>(true,(v:Int),x.1,x.2)
 | none=>(false,0,(0,0),0,0)
def L8(v:Nat)(o:Option r6):m6×Bool:=match o with
 | some x=>(((v:Int),x.1,x.2),true)
 | none=>(((v:Int),(0,0),0,0),false)
theorem I0c(v:Nat)(o:Option r6)(x:r6):FF (L8 v o).1 (L8 v o).2 x.1 x.2=some (L8 v (FY o x)):=by
 cases o with
 | none=>rfl
 | some y =>
   unfold FF;exact(if_neg (by simp[L8])).trans ((gP ⟨rfl,rfl,trivial⟩).trans rfl)
section
variable {b:j7}
theorem C0a{t:Kb}{v:Nat}:Ak t v=if t.1.getD v false=true then some (t.2.1.getD v (0,0),t.2.2.getD v (0,0)) else none:=rfl
theorem I0D(s:wf k8 b)(w:cnt k8 b<=1048576)(a:p8 b=true){c:p7}(f:wf p5 c)(u:F6 c=true){br:List Int}{ss:List m6}(G:ss.length<=9223372036854775807){t:Kb}(l:Kg (j6 b) t)(v:Nat) :
  CF (m9 b,C4 (lV b).length br) c ss t (v:Int)=some (BA v (O2 b c br ss (Ak t) v)):=by
 have hM:=R3 a;have q:=NE (lV b).length br;unfold CF;rw[r96 ss v G,vS,gP ⟨rfl,trivial⟩,lE];have d:∀o,MH t (m9 b,C4 (lV b).length br) c (v:Int) ((L8 v o).1.1,(L8 v o).1.2.1.1,(L8 v o).1.2.1.2,(L8 v o).1.2.2.1,(L8 v o).1.2.2.2,(L8 v o).2)=some (BA v (fN (Cc (o6 b) (p6 b) (J7 b br) (F1 b c) (Ak t) v) (lV b).length o)):=by
  intro o;rw[MH,r98 a q v,vS,gP ⟨rfl,trivial⟩,lE];obtain⟨q1,E⟩:=Ge (fun i=>J7 b br i&&p6 b i==v) (lV b).length;refine(lF (n:=(H6 (fun i=>J7 b br i&&p6 b i==v) (lV b).length).length) (by omega) (fun i (o:Option r6)=>((i:Int),(L8 v o).1.1,(L8 v o).1.2.1.1,(L8 v o).1.2.1.2,(L8 v o).1.2.2.1,(L8 v o).1.2.2.2,(L8 v o).2)) (fun i o=>match Ak t (o6 b (((List.range (lV b).length).filter fun i=>J7 b br i&&p6 b i==v).getD i 0)) with
   | none=>o
   | some x=>FY o (O0 x.1 (F1 b c (((List.range (lV b).length).filter fun i=>J7 b br i&&p6 b i==v).getD i 0) x.2).1,(F1 b c (((List.range (lV b).length).filter fun i=>J7 b br i&&p6 b i==v).getD i 0) x.2).2)) (fun _ _=>True) (J:=fun o=>some (BA v o)) (F:=G0s t (m9 b,C4 (lV b).length br) c (H6 (fun i=>J7 b br i&&p6 b i==v) (lV b).length)) (fun g i o hi _=>?_) (fun _ _ _ _=>trivial) (fun g o _=>?_) o trivial).trans ?_
  ·have X:((i:Int)).toNat=i:=rfl;have h:=NC (p:=fun i=>J7 b br i&&p6 b i==v) (M:=(lV b).length) (i:=i) (by omega);refine(if_pos (decide_eq_true (by omega))).trans ?_;rw[X];refine(gP ⟨oo,by omega,trivial⟩).trans ?_;rw[Xh];generalize ((List.range (lV b).length).filter fun i=>J7 b br i&&p6 b i==v).getD i 0=k at h;have z:Int.toNat ((k:Nat):Int)=k:=rfl;obtain⟨Y,f2,H,f4⟩:=M8 b a h;have W:ix ((k:Nat):Int) (m9 b).2.2.1.length:=⟨by omega,by show((k:Nat):Int) < ((lV b).length:Int); omega⟩;refine(gP ⟨W,trivial⟩).trans ?_;rw[lE,z];have P:((m9 b).2.2.1.getD k (b7 y80)).1=(o6 b k:Int):=Y;have Q:Int.toNat ((o6 b k:Nat):Int)=o6 b k:=rfl;have r:=l.vals _ H;have n1:=l.l1;have n2:=l.l2;have n3:=l.l3;rw[P];refine(gP ⟨oo,trivial⟩).trans ?_;rw[Q];rw[C0a];by_cases j:t.1.getD (o6 b k) false=true
   ·rw[if_pos j,if_pos j];obtain⟨_,_,_,e⟩:=Xn s w a f u h;have V:=(e _ r.2.1).2;have ok:=Rq s w a f u h r.2.1;have hs:=NF.1 r.1;rw[show t.2.2.getD (o6 b k) (b7 y51)=t.2.2.getD (o6 b k) (0,0) from rfl,V,vS];refine(gP ⟨oo,rfl,trivial⟩).trans ?_;rw[lE];have T:Dy (t.2.1.getD (o6 b k) (b7 y51)) (F1 b c k (t.2.2.getD (o6 b k) (0,0))).1=some (O0 (t.2.1.getD (o6 b k) (0,0)) (F1 b c k (t.2.2.getD (o6 b k) (0,0))).1):=by
     unfold Dy;refine(gP ⟨⟨?_,?_⟩,⟨?_,?_⟩,trivial⟩).trans rfl
     ·grind
     ·grind
     ·grind
     ·grind
    rw[T,vS];have y:=I0c v o (O0 (t.2.1.getD (o6 b k) (0,0)) (F1 b c k (t.2.2.getD (o6 b k) (0,0))).1,(F1 b c k (t.2.2.getD (o6 b k) (0,0))).2);have m:FF ((L8 v o).1.1,((L8 v o).1.2.1.1,(L8 v o).1.2.1.2),(L8 v o).1.2.2.1,(L8 v o).1.2.2.2) (L8 v o).2 (O0 (t.2.1.getD (o6 b k) (0,0)) (F1 b c k (t.2.2.getD (o6 b k) (0,0))).1) (F1 b c k (t.2.2.getD (o6 b k) (0,0))).2=some (L8 v (FY o (O0 (t.2.1.getD (o6 b k) (0,0)) (F1 b c k (t.2.2.getD (o6 b k) (0,0))).1,(F1 b c k (t.2.2.getD (o6 b k) (0,0))).2))):=y;simp only[m,vS,Option.isSome_some];refine(gP ⟨⟨oo,trivial,trivial⟩,trivial,trivial⟩).trans ?_;rw[lE];refine(gP trivial).trans ?_;exact gP ⟨oo,trivial⟩
   ·rw[if_neg j,if_neg j];exact gP ⟨oo,trivial⟩
  ·refine(if_neg (by simp)).trans ?_;cases o <;> rfl
  ·rw[E];exact congrArg (fun x=>some (BA v x)) (s0o (fun i=>J7 b br i&&p6 b i==v) (fun k (o:Option r6)=>match Ak t (o6 b k) with
    | none=>o
    | some x=>FY o (O0 x.1 (F1 b c k x.2).1,(F1 b c k x.2).2)) (lV b).length o)
 show(if(L0A v (M7 ss v)).2=true then _ else _)=some (BA v (fN (Cc (o6 b) (p6 b) (J7 b br) (F1 b c) (Ak t) v) (lV b).length (M7 ss v)));cases hs:M7 ss v with
 | none=>exact d none
 | some x =>
   refine(if_pos rfl).trans ?_;refine(gP ⟨trivial,rfl,trivial⟩).trans ?_;rw[lE];refine(gP trivial).trans ?_;exact d (some x)
end
def P3(v i:Nat)(o:Option r6):Bool×Int×Int×Int×Int×Int×Int:=match o with
 | some x=>(true,(i:Int),(v:Int),x.1.1,x.1.2,x.2.1,x.2.2)
 | none=>(false,(i:Int),0,0,0,0,0)
section
variable {b:j7}
theorem x0M(h:wf k8 b)(m:cnt k8 b<=1048576)(f:p8 b=true){c:p7}(a:wf p5 c)(j:F6 c=true){k:Nat}(g:k < (lV b).length){sp:Sp}(d:B0 sp=true):IX b c ((lV b).getD k (b7 y80)) sp=some (F1 b c k sp):=by
 obtain⟨v,i,l⟩:=s0w h f j (Xm g) sp d;obtain⟨_,_,_,e⟩:=Xn h m f a j g;rw[(e sp d).2] at i;cases i;exact l
theorem H0V(hw:wf k8 b)(hm:cnt k8 b<=1048576)(z:p8 b=true){c:p7}(x:wf p5 c)(hc:F6 c=true){br:List Int}{ss:List m6}(hl:ss.length<=9223372036854775807)(hi:HZ ss){t:Kb}(E:Kg (j6 b) t)(v:Nat) :
  Jr b c (lV b) (C4 (lV b).length br) ss t (v:Int)=some (BA v (O2 b c br ss (Ak t) v)):=by
 have hM:=R3 z;have aA:=NE (lV b).length br;have G:∀o,Jq (v:Int) t b c (C4 (lV b).length br) (lV b) ((P3 v 0 o).1,(P3 v 0 o).2.2)=some (BA v (fN (Cc (o6 b) (p6 b) (J7 b br) (F1 b c) (Ak t) v) (lV b).length o)):=by
  intro o;rw[Jq];have e0:((P3 v 0 o).1,(0:Int),(P3 v 0 o).2.2.1,(P3 v 0 o).2.2.2.1,(P3 v 0 o).2.2.2.2.1,(P3 v 0 o).2.2.2.2.2.1,(P3 v 0 o).2.2.2.2.2.2)=P3 v 0 o:=by cases o <;> rfl
  rw[e0];refine lF (n:=(lV b).length) (by omega) (fun i o=>P3 v i o) (fun k o=>Cc (o6 b) (p6 b) (J7 b br) (F1 b c) (Ak t) v k o) (fun _ _=>True) (J:=fun o=>some (BA v o)) (F:=F0Q (v:Int) t b c (C4 (lV b).length br) (lV b)) (fun g k o P _=>?_) (fun _ _ _ _=>trivial) (fun g o _=>?_) o trivial
  ·have H:Int.toNat ((k:Nat):Int)=k:=rfl;obtain⟨f1,f2,f3,f4⟩:=M8 b z P;have W:=E.vals _ f3;have n1:=E.l1;have n2:=E.l2;have n3:=E.l3;have e6:Int.toNat ((o6 b k:Nat):Int)=o6 b k:=rfl;have a:∀(q:Bool) (Y Q T V x5:Int) (y:Option r6),P3 v (k+1) y=(q,(k:Int)+1,Y,Q,T,V,x5)->Jp (k:Int) g (q,Y,Q,T,V,x5)=g (P3 v (k+1) y):=fun q Y Q T V x5 y e=>by
    rw[e];exact gP ⟨oo,trivial⟩
   obtain⟨q,u,w,s,m,r,d⟩:∃q u w s m r,P3 v k o=(q,(k:Int),u,w,s,m,r):=by cases o <;> exact⟨_,_,_,_,_,_,rfl⟩
   rw[d];refine(if_pos (decide_eq_true (by omega))).trans ?_;refine(gP ⟨oo,trivial⟩).trans ?_;rw[lE,H];have ne:(((lV b).getD k (b7 y80)).2.1 != (v:Int))=!(p6 b k==v):=by
    rw[f2];by_cases h:p6 b k=v
    ·rw[h,bne_self_eq_false,beq_self_eq_true];rfl
    ·have X:((p6 b k:Nat):Int)≠(v:Int):=by omega
     rw[bne_iff_ne.2 X,beq_eq_false_iff_ne.2 h];rfl
   rw[ne,f1,e6];refine(gP ⟨oo,(fun _=>oo),trivial⟩).trans ?_;show(if(!J7 b br k||!(p6 b k==v)||!t.1.getD (o6 b k) false)=true then _ else _)=_;unfold Cc;by_cases l:(J7 b br k&&p6 b k==v)=true
   ·rw[if_pos l,C0a];rw[ba] at l;rw[l.1,l.2];by_cases j:t.1.getD (o6 b k) false=true
    ·rw[if_pos j,j];rw[if_neg (by simp)];have es:=x0M hw hm z x hc P W.2.1;have ok:=Rq hw hm z x hc P W.2.1;have hs:=NF.1 W.1;rw[show t.2.2.getD (o6 b k) (b7 y51)=t.2.2.getD (o6 b k) (0,0) from rfl,show t.2.1.getD (o6 b k) (b7 y51)=t.2.1.getD (o6 b k) (0,0) from rfl,es,vS];refine(gP ⟨oo,rfl,trivial⟩).trans ?_;rw[lE];refine(gP ⟨oo,oo,oo,oo,trivial⟩).trans ?_;show _=g (P3 v (k+1) (FY o (O0 (t.2.1.getD (o6 b k) (0,0)) (F1 b c k (t.2.2.getD (o6 b k) (0,0))).1,(F1 b c k (t.2.2.getD (o6 b k) (0,0))).2)));generalize t.2.1.getD (o6 b k) (0,0)=A at hs;generalize F1 b c k (t.2.2.getD (o6 b k) (0,0))=D at ok;cases o with
     | none =>
       cases d;rw[if_neg (by simp)];show Jp (k:Int) g (true,(v:Int),_,_,_,_)=_;exact a _ _ _ _ _ _ (FY none (O0 A D.1,D.2)) rfl
     | some y =>
       cases d;refine(if_pos rfl).trans ?_;refine(gP ⟨rfl,trivial⟩).trans ?_;rw[lE];refine(gP ⟨rfl,trivial⟩).trans ?_;rw[lE];show Jp (k:Int) g (true,(v:Int),_,_,_,_)=_;refine a _ _ _ _ _ _ (FY (some y) (O0 A D.1,D.2)) ?_;show(true,_,_,(M5 y.1 (O0 A D.1)).1,(M5 y.1 (O0 A D.1)).2,(M5 y.2 D.2).1,(M5 y.2 D.2).2)=_;rw[k0s y.1,k0s y.2];rfl
    ·rw[if_neg j];have j:t.1.getD (o6 b k) false=false:=by simpa using j
     rw[j];refine(if_pos (by simp)).trans ?_;exact a _ _ _ _ _ _ o (by cases o <;> (cases d; rfl))
   ·rw[if_neg l];refine(if_pos ?_).trans (a _ _ _ _ _ _ o (by cases o <;> (cases d; rfl)));cases h1:J7 b br k <;> cases X:(p6 b k==v) <;> rw[h1,X] at l <;> simp_all
  ·cases o <;> exact if_neg (by simp)
 unfold Jr;refine(lF (n:=ss.length) hl (fun i o=>P3 v i o) (fun i o=>DP ss (b7 y53) v i o) (fun _ _=>True) (J:=fun o=>Jq (v:Int) t b c (C4 (lV b).length br) (lV b) ((P3 v 0 o).1,(P3 v 0 o).2.2)) (F:=F0R ss (v:Int) t b c (C4 (lV b).length br) (lV b)) (fun g i o hi _=>?_) (fun _ _ _ _=>trivial) (fun g o _=>?_) none trivial).trans ?_
 ·have H:Int.toNat ((i:Nat):Int)=i:=rfl;obtain⟨q,u,w,s,m,r,d⟩:∃q u w s m r,P3 v i o=(q,(i:Int),u,w,s,m,r):=by cases o <;> exact⟨_,_,_,_,_,_,rfl⟩
  rw[d];refine(if_pos (decide_eq_true (by omega))).trans ?_;refine(gP ⟨oo,trivial⟩).trans ?_;rw[H];unfold DP;by_cases f:((ss.getD i (b7 y53)).1==(v:Int))=true
  ·rw[if_pos f,if_pos f];refine(gP ⟨oo,trivial⟩).trans ?_;rw[lE];have f:(ss.getD i (b7 y53)).1=(v:Int):=by simpa using f
   refine(gP ⟨oo,trivial⟩).trans ?_;rw[f];rfl
  ·rw[if_neg f,if_neg f];refine(gP ⟨oo,trivial⟩).trans ?_;cases o <;> (cases d; rfl)
 ·cases o <;> exact if_neg (by simp)
 ·show Jq _ _ _ _ _ _ ((P3 v 0 (fN (DP ss (b7 y53) v) ss.length none)).1,(P3 v 0 (fN (DP ss (b7 y53) v) ss.length none)).2.2)=_;rw[x0P hi];exact G _
end
theorem q0O{N:Nat}{T:Nat->Option r6}{v:Nat}{x:Option r6}:(r7 N T).1.set v x.isSome=(r7 N (I1 T v x)).1/\(r7 N T).2.1.set v (x.getD ((0,0),(0,0))).1=(r7 N (I1 T v x)).2.1/\(r7 N T).2.2.set v (x.getD ((0,0),(0,0))).2=(r7 N (I1 T v x)).2.2:=by
 have e:I1 T v x v=x:=if_pos rfl;have b:∀w,w≠v->I1 T v x w=T w:=fun w a=>if_neg a
 grind[r7,D0M,I1]
theorem q0N(N:Nat):r7 N (fun _=>none)=(List.replicate N false,List.replicate N ((0:Int),(0:Int)),List.replicate N ((0:Int),(0:Int))):=by
 grind[r7,List.map_const',List.length_range]
def Ig(b:j7)(o:Option (Nat->Option r6)):B3×Bool:=match o with
 | some T=>(r7 (j6 b) T,true)
 | none=>(([],[],[]),false)
section
variable {b:j7}
theorem v0k(h:wf k8 b)(j:cnt k8 b<=1048576)(f:p8 b=true){c:p7}(d:wf p5 c)(i:F6 c=true){br:List Int}{ss:List M6}(a:∀s∈ss,C1 s.2.1=true/\B0 s.2.2=true){T:Nat->Option r6}(e:∀v x,T v=some x->C1 x.1=true/\B0 x.2=true){v:Nat}{x:r6}(g:O2 b c br ss T v=some x):B0 x.2=true :=
 (y0H h j f d i a e v _ (Nat.le_refl _) x g).2
structure Rr(b:j7)(out:List Nat)(i:Nat)(T:Nat->Option r6):Prop where
 ok:∀v x,T v=some x->C1 x.1=true/\B0 x.2=true
 no:∀j,i<=j->j<out.length->T (out.getD j 0)=none
theorem t0h(n:wf k8 b)(t:cnt k8 b<=1048576)(m:p8 b=true){c:p7}(k:wf p5 c)(o:F6 c=true){br:List Int}{ss:List M6}(g:∀s∈ss,C1 s.2.1=true/\B0 s.2.2=true){a:List Nat}(r:a.Nodup){i:Nat}(_:i<a.length){T:Nat->Option r6}(h:Rr b a i T)(l:CP Bx (O2 b c br ss T (a.getD i 0))=true) :
  Rr b a (i+1) (I1 T (a.getD i 0) (O2 b c br ss T (a.getD i 0))):=by
 refine⟨fun v x d=>?_,fun j u f=>?_⟩
 ·unfold I1 at d;split at d
  ·rw[d] at l;exact⟨l,v0k n t m k o g h.ok d⟩
  ·exact h.ok v x d
 ·unfold I1;rw[if_neg (fun e=>y0G r (p:=i) (q:=j) (by omega) f e.symm)];exact h.no j (by omega) f
def Gj(b:j7)(c:p7)(br:List Int)(ss:List M6)(out:List Nat)(i:Nat)(T:Nat->Option r6):Option (Nat->Option r6):=if CP Bx (O2 b c br ss T (out.getD i 0))=true then some (I1 T (out.getD i 0) (O2 b c br ss T (out.getD i 0))) else none
theorem p0Y{c:p7}{br:List Int}{ss:List M6}{a:List Nat}{i:Nat}(hi:i<a.length)(T:Nat->Option r6) :
  some (Ig b (Aj (lV b).length (o6 b) (p6 b) (J7 b br) (F1 b c) (M7 ss) Bx (a.drop i) T))=match Gj b c br ss a i T with
   | some s'=>some (Ig b (Aj (lV b).length (o6 b) (p6 b) (J7 b br) (F1 b c) (M7 ss) Bx (a.drop (i+1)) s'))
   | none=>some (([],[],[]),false):=by
 have e:a.drop i=a.getD i 0 :: a.drop (i+1):=by
  rw[List.drop_eq_getElem_cons hi,gq,List.getElem?_eq_getElem hi];rfl
 rw[e,u0N];unfold Gj;show some (Ig b (if CP Bx (O2 b c br ss T (a.getD i 0))=true then _ else none))=_;by_cases h:CP Bx (O2 b c br ss T (a.getD i 0))=true
 ·rw[if_pos h,if_pos h];rfl
 ·rw[if_neg h,if_neg h];rfl
theorem H0M(E:wf k8 b)(H:cnt k8 b<=1048576)(f:p8 b=true){c:p7}(j:wf p5 c)(G:F6 c=true){br:List Int}{ss:List m6}(V:ss.length<=9223372036854775807)(k:∀s∈ss,C1 s.2.1=true/\B0 s.2.2=true){a:List Nat}(z:OrdOk b br a)(t:a.length<=9223372036854775807) :
  Ht (m9 b,C4 (lV b).length br) c ss (a.map fun v:Nat=>(v:Int))=some (Ig b (By b c br ss a)):=by
 have hN:=Am b f;have P:Mt (m9 b)=some (r7 (j6 b) fun _=>none):=by
  unfold Mt;rw[Xc b f,vS,gP ⟨rfl,trivial⟩,lE,Int.toNat_natCast];refine(gP ⟨⟨by omega,rfl,by omega,by omega⟩,⟨by omega,rfl,by omega,by omega⟩,⟨by omega,rfl,by omega,by omega⟩,trivial⟩).trans ?_;rw[q0N]
 unfold Ht;rw[P,vS,gP ⟨rfl,trivial⟩,lE];refine ND (n:=a.length) t (fun i T=>((i:Int),(r7 (j6 b) T).2.2,(r7 (j6 b) T).2.1,(r7 (j6 b) T).1)) (Gj b c br ss a) (fun _ _=>some (([],[],[]),false)) (Rr b a) (J:=fun T=>some (r7 (j6 b) T,true)) (F:=G0O (a.map fun v:Nat=>(v:Int)) (m9 b,C4 (lV b).length br) c ss) (fun g i T hi u=>?_) (fun i T T' hi u e=>?_) (fun g T _=>if_neg (by simp)) (fun i T=>some (Ig b (Aj (lV b).length (o6 b) (p6 b) (J7 b br) (F1 b c) (M7 ss) Bx (a.drop i) T))) (fun T _=>?_) (fun i T hi _=>(p0Y hi T).trans (by grind)) 0 (Nat.zero_le _) (fun _=>none) ⟨fun _ _ h=>(by cases h),fun _ _ _=>rfl⟩
 ·have Y:((i:Int)).toNat=i:=rfl;have hv:=z.lt _ (H5 (d:=0) hi);refine(if_pos (decide_eq_true (by grind))).trans ?_;refine(gP ⟨⟨by omega,by grind⟩,trivial⟩).trans ?_;rw[Y,r0e];have y:=I0D E H f j G (br:=br) V (Xp (N:=j6 b) (fun v _ x X=>u.ok v x X)) (a.getD i 0);rw[Xq f (fun w m=>WU m)] at y;have l:CF (m9 b,C4 (lV b).length br) c ss ((r7 (j6 b) T).1,(r7 (j6 b) T).2.1,(r7 (j6 b) T).2.2) ((a.getD i 0:Nat):Int)=some (BA (a.getD i 0) (O2 b c br ss T (a.getD i 0))):=y;rw[l,vS,gP ⟨rfl,trivial⟩,lE];obtain⟨q,r,o⟩:=q0O (N:=j6 b) (T:=T) (v:=a.getD i 0) (x:=O2 b c br ss T (a.getD i 0));obtain⟨n1,n2,n3⟩:=FZ (N:=j6 b) (T:=T);unfold Gj;generalize a.getD i 0=v at hv q r o;have Q:Int.toNat ((v:Nat):Int)=v:=rfl;rw[Q];cases hy:O2 b c br ss T v with
  | none =>
    rw[hy] at q r o;refine(gP ⟨fun h=>(by cases h.1),trivial⟩).trans ?_;refine(if_neg (by simp[BA])).trans ?_;refine(gP ⟨oo,by omega,oo,by omega,oo,by omega,trivial⟩).trans ?_;refine(gP ⟨oo,trivial⟩).trans ?_;show g ((i:Int)+1,(r7 (j6 b) T).2.2.set v (0,0),(r7 (j6 b) T).2.1.set v (0,0),(r7 (j6 b) T).1.set v false)=g (((i+1:Nat):Int),(r7 (j6 b) (I1 T v none)).2.2,(r7 (j6 b) (I1 T v none)).2.1,(r7 (j6 b) (I1 T v none)).1)
    grind
  | some x =>
    rw[hy] at q r o;refine(gP ⟨fun _=>by grind[Gf],trivial⟩).trans ?_;rw[(Gf _).1,vS];show(if(true&&!C1 x.1)=true then _ else _)=_;rw[show CP Bx (some x)=C1 x.1 from rfl];cases hs:C1 x.1 with
    | false=>rfl
    | true =>
      refine(if_neg (by simp)).trans ?_;refine(gP ⟨oo,by omega,oo,by omega,oo,by omega,trivial⟩).trans ?_;refine(gP ⟨oo,trivial⟩).trans ?_;show g ((i:Int)+1,(r7 (j6 b) T).2.2.set v x.2,(r7 (j6 b) T).2.1.set v x.1,(r7 (j6 b) T).1.set v true)=g (((i+1:Nat):Int),(r7 (j6 b) (I1 T v (some x))).2.2,(r7 (j6 b) (I1 T v (some x))).2.1,(r7 (j6 b) (I1 T v (some x))).1)
      grind
 ·unfold Gj at e;split at e
  ·rename_i W;cases e;exact t0h E H f j G k z.nd hi u W
  grind
 ·rw[List.drop_length];rfl
theorem H0x(r:wf k8 b)(Q:cnt k8 b<=1048576)(f:p8 b=true){c:p7}(k:wf p5 c)(H:F6 c=true){br:List Int}{ss:List m6}(X:ss.length<=9223372036854775807)(j:HZ ss)(m:∀s∈ss,C1 s.2.1=true/\B0 s.2.2=true){a:List Nat}(z:OrdOk b br a)(t:a.length<=9223372036854775807) :
  Js b c (lV b) (C4 (lV b).length br) ss (a.map fun v:Nat=>(v:Int))=some (Ig b (By b c br ss a)):=by
 have hN:=Am b f;have V:Lb (j6 b:Int)=some (r7 (j6 b) fun _=>none):=by
  unfold Lb;rw[Int.toNat_natCast];refine(gP ⟨⟨by omega,rfl,by omega,by omega⟩,⟨by omega,rfl,by omega,by omega⟩,⟨by omega,rfl,by omega,by omega⟩,trivial⟩).trans ?_;rw[q0N]
 unfold Js;rw[Rn b r f,vS,V,vS,gP ⟨rfl,rfl,trivial⟩,lE];refine ND (n:=a.length) t (fun i T=>((i:Int),(r7 (j6 b) T).2.2,(r7 (j6 b) T).2.1,(r7 (j6 b) T).1)) (Gj b c br ss a) (fun _ _=>some (([],[],[]),false)) (Rr b a) (J:=fun T=>some (r7 (j6 b) T,true)) (F:=G0H (a.map fun v:Nat=>(v:Int)) b c (lV b) (C4 (lV b).length br) ss) (fun g i T hi l=>?_) (fun i T T' hi l e=>?_) (fun g T _=>if_neg (by simp)) (fun i T=>some (Ig b (Aj (lV b).length (o6 b) (p6 b) (J7 b br) (F1 b c) (M7 ss) Bx (a.drop i) T))) (fun T _=>?_) (fun i T hi _=>(p0Y hi T).trans (by grind)) 0 (Nat.zero_le _) (fun _=>none) ⟨fun _ _ h=>(by cases h),fun _ _ _=>rfl⟩
 ·have e3:((i:Int)).toNat=i:=rfl;have hv:=z.lt _ (H5 (d:=0) hi);refine(if_pos (decide_eq_true (by grind))).trans ?_;refine(gP ⟨⟨by omega,by grind⟩,trivial⟩).trans ?_;rw[e3,r0e];have y:=H0V r Q f k H (br:=br) X j (Xp (N:=j6 b) (fun v _ x hx=>l.ok v x hx)) (a.getD i 0);rw[Xq f (fun w q=>WU q)] at y;have o:Jr b c (lV b) (C4 (lV b).length br) ss ((r7 (j6 b) T).1,(r7 (j6 b) T).2.1,(r7 (j6 b) T).2.2) ((a.getD i 0:Nat):Int)=some (BA (a.getD i 0) (O2 b c br ss T (a.getD i 0))):=y;rw[o,vS,gP ⟨rfl,trivial⟩,lE];obtain⟨G,P,E⟩:=q0O (N:=j6 b) (T:=T) (v:=a.getD i 0) (x:=O2 b c br ss T (a.getD i 0));obtain⟨n1,n2,n3⟩:=FZ (N:=j6 b) (T:=T);have u:=l.no i (Nat.le_refl _) hi;unfold Gj;generalize a.getD i 0=v at hv G P E u;have W:Int.toNat ((v:Nat):Int)=v:=rfl;rw[W];cases hy:O2 b c br ss T v with
  | none =>
    refine(if_pos rfl).trans ?_;refine(gP ⟨oo,trivial⟩).trans ?_;show g ((i:Int)+1,(r7 (j6 b) T).2.2,(r7 (j6 b) T).2.1,(r7 (j6 b) T).1)=g (((i+1:Nat):Int),(r7 (j6 b) (I1 T v none)).2.2,(r7 (j6 b) (I1 T v none)).2.1,(r7 (j6 b) (I1 T v none)).1)
    grind[z0C]
  | some x =>
    rw[hy] at G P E;refine(if_neg (by simp[BA])).trans ?_;rw[(Gf _).2,vS];refine(gP ⟨rfl,trivial⟩).trans ?_;show(if(!C1 x.1)=true then _ else _)=_;rw[show CP Bx (some x)=C1 x.1 from rfl];cases hs:C1 x.1 with
    | false=>rfl
    | true =>
      refine(if_neg (by simp)).trans ?_;refine(gP ⟨oo,by omega,trivial⟩).trans ?_;refine(gP ⟨oo,by omega,trivial⟩).trans ?_;refine(gP ⟨oo,by omega,trivial⟩).trans ?_;refine(gP ⟨oo,trivial⟩).trans ?_;show g ((i:Int)+1,(r7 (j6 b) T).2.2.set v x.2,(r7 (j6 b) T).2.1.set v x.1,(r7 (j6 b) T).1.set v true)=g (((i+1:Nat):Int),(r7 (j6 b) (I1 T v (some x))).2.2,(r7 (j6 b) (I1 T v (some x))).2.1,(r7 (j6 b) (I1 T v (some x))).1)
      grind
 ·unfold Gj at e;split at e
  ·rename_i Y;cases e;exact t0h r Q f k H m z.nd hi l Y
  grind
 ·rw[List.drop_length];rfl
end
def R4(b:j7)(c:p7)(br:List Int)(ss:List m6):Int:=if(p8 b&&F6 c)=true then(if(An (lV b).length br&&Bz b ss)=true then(if(T6 (M9 b (C4 (lV b).length br) [] (j6 b))).2=true then 0 else 7) else 2) else 1
structure TG(b:j7)(c:p7)(br:List Int)(ss:List m6)(out:List Nat):Prop where
 hb:p8 b=true
 hc:F6 c=true
 hbr:An (lV b).length br=true
 hs:Bz b ss=true
 ho:M9 b (C4 (lV b).length br) [] (j6 b)=some out
section
variable {b:j7} {c:p7} {br:List Int} {ss:List m6} {out:List Nat}
theorem Rs(h:R4 b c br ss=0):∃out,TG b c br ss out:=by
 unfold R4 at h;split at h
 ·rename_i a;split at h
  ·rename_i d;split at h
   ·rename_i e;rw[ba] at a d;cases ho:M9 b (C4 (lV b).length br) [] (j6 b) with
    | none=>rw[ho] at e; cases e
    | some out=>exact⟨out,a.1,a.2,d.1,d.2,ho⟩
   ·cases h
  ·cases h
 ·cases h
theorem TG.code(h:TG b c br ss out):R4 b c br ss=0:=by
 unfold R4;rw[h.hb,h.hc,h.hbr,h.hs,h.ho];rfl
theorem TG.ord(h:TG b c br ss out):OrdOk b br out:=H0O h.hb h.ho
theorem TG.len(h:TG b c br ss out):out.length<=1000000:=Nat.le_trans (Rp _ _ h.ord.nd h.ord.lt) (Am b h.hb)
theorem TG.src(h:TG b c br ss out):HZ ss/\∀s∈ss,C1 s.2.1=true/\B0 s.2.2=true:=⟨(u0u h.hs).1,fun s hs=>((u0u h.hs).2 s hs).2⟩
def Rt(b:j7)(c:p7)(br:List Int)(ss:List m6):Int ⊕ (F4×List Int×Int):=if R4 b c br ss=0 then .inr ((m9 b,C4 (lV b).length br),(T6 (M9 b (C4 (lV b).length br) [] (j6 b))).1,0) else .inl (R4 b c br ss)
theorem K0g(e:wf k8 b)(g:cnt k8 b<=1048576)(d:wf p5 c)(a:br.length<=1048576)(f:ss.length<=9223372036854775807):BT b c br ss=some (Rt b c br ss):=by
 unfold BT Rt R4;rw[Wn b e g,r54 c d,vS,vS];refine(gP ⟨rfl,fun _=>rfl,trivial⟩).trans ?_;cases hb:p8 b with
 | false=>rfl
 | true =>
   cases hc:F6 c with
   | false=>rfl
   | true =>
     refine(if_neg (by simp)).trans ?_;rw[Ws b e hb,vS];refine(gP ⟨rfl,trivial⟩).trans ?_;rw[lE,r65 hb br a,r66 b hb ss f,vS,vS];refine(gP ⟨rfl,fun _=>rfl,trivial⟩).trans ?_;cases hk:An (lV b).length br with
     | false=>rfl
     | true =>
       cases hs:Bz b ss with
       | false=>rfl
       | true =>
         refine(if_neg (by simp)).trans ?_;rw[r67 hb hk a,vS];refine(gP ⟨rfl,trivial⟩).trans ?_;rw[lE,r68 hb (NE _ _),vS];refine(gP ⟨rfl,trivial⟩).trans ?_;rw[lE];cases ho:(T6 (M9 b (C4 (lV b).length br) [] (j6 b))).2 <;> rfl
theorem D0q(d:wf k8 b)(f:cnt k8 b<=1048576)(e:wf p5 c)(a:br.length<=1048576)(g:ss.length<=9223372036854775807):LB b c br ss=some (if R4 b c br ss=0 then((T6 (M9 b (C4 (lV b).length br) [] (j6 b))).1,0) else([],R4 b c br ss)):=by
 unfold LB R4;rw[JO b d f,r70 c e,vS,vS];refine(gP ⟨rfl,fun _=>rfl,trivial⟩).trans ?_;cases hb:p8 b with
 | false=>rfl
 | true =>
   cases hc:F6 c with
   | false=>rfl
   | true =>
     refine(if_neg (by simp)).trans ?_;rw[r71 b d f br a,r44 b d hb ss g,vS,vS];refine(gP ⟨rfl,fun _=>rfl,trivial⟩).trans ?_;rw[lE,r72 b d f br a];unfold DQ Xj DQ;rw[hb];cases hk:An (lV b).length br with
     | false=>rfl
     | true =>
       cases hs:Bz b ss with
       | false=>rfl
       | true =>
         refine(if_neg (by simp)).trans ?_;rw[vS];refine(gP ⟨rfl,trivial⟩).trans ?_;rw[lE];cases ho:(T6 (M9 b (C4 (lV b).length br) [] (j6 b))).2 <;> rfl
def T7(b:j7)(c:p7)(br:List Int)(ss:List m6):B3×Int:=if R4 b c br ss=0 then(match By b c br ss ((M9 b (C4 (lV b).length br) [] (j6 b)).getD []) with
 | some T=>(r7 (j6 b) T,0)
 | none=>(([],[],[]),3)) else(([],[],[]),R4 b c br ss)
theorem TG.pt(h:TG b c br ss out):T7 b c br ss=match By b c br ss out with
 | some T=>(r7 (j6 b) T,0)
 | none=>(([],[],[]),3):=by
 unfold T7;rw[if_pos h.code,h.ho];rfl
theorem TG.res(h:TG b c br ss out):(T6 (M9 b (C4 (lV b).length br) [] (j6 b))).1=out.map fun v:Nat=>(v:Int):=by
 rw[h.ho];rfl
theorem N0s(g:wf k8 b)(j:cnt k8 b<=1048576)(e:wf p5 c)(f:br.length<=1048576)(i:ss.length<=9223372036854775807):u9 b c br ss=some (T7 b c br ss):=by
 unfold u9;rw[K0g g j e f i];by_cases h:R4 b c br ss=0
 ·obtain⟨d,a⟩:=Rs h;unfold Rt;rw[if_pos h,a.res,a.pt];refine(if_neg (by simp[FG])).trans ((gP ⟨rfl,trivial⟩).trans ?_);show gd ((Ht (m9 b,C4 (lV b).length br) c ss (d.map fun v:Nat=>(v:Int))).isSome=true/\True) (lt (vl (Ht (m9 b,C4 (lV b).length br) c ss (d.map fun v:Nat=>(v:Int)))) fun l=>_)=_;have k:=a.len;rw[H0M g j a.hb e a.hc i a.src.2 a.ord (by omega),vS];refine(gP ⟨rfl,trivial⟩).trans ?_;rw[lE];cases By b c br ss d <;> rfl
 ·unfold Rt T7;rw[if_neg h,if_neg h];refine(if_pos rfl).trans ((gP ⟨rfl,trivial⟩).trans ?_);exact if_pos (by show(R4 b c br ss != 0)=true; simp[h])
theorem K0j(g:wf k8 b)(j:cnt k8 b<=1048576)(f:wf p5 c)(e:br.length<=1048576)(i:ss.length<=9223372036854775807):MF b c br ss=some (T7 b c br ss):=by
 unfold MF;rw[D0q g j f e i,vS];refine(gP ⟨rfl,trivial⟩).trans ?_;rw[lE];by_cases h:R4 b c br ss=0
 ·obtain⟨d,a⟩:=Rs h;rw[if_pos h,a.res,a.pt];refine(if_neg (by simp)).trans ?_;have k:=a.len;have l:=R3 a.hb;rw[Nj b g a.hb,vS];refine(gP ⟨rfl,trivial⟩).trans ?_;rw[lE,Xf _ _ (by omega) e,vS];show gd (_/\(Js b c (lV b) (C4 (lV b).length br) ss (d.map fun v:Nat=>(v:Int))).isSome=true/\True) _=_;rw[H0x g j a.hb f a.hc i a.src.1 a.src.2 a.ord (by omega),vS];refine(gP ⟨rfl,rfl,trivial⟩).trans ?_;rw[lE];cases By b c br ss d <;> rfl
 ·unfold T7;rw[if_neg h,if_neg h];exact if_pos (by show(R4 b c br ss != 0)=true; simp[h])
theorem TG.rows(d:wf k8 b)(f:cnt k8 b<=1048576)(a:wf p5 c)(h:TG b c br ss out){T:Nat->Option r6}(e:By b c br ss out=some T):Kg (j6 b) (r7 (j6 b) T) :=
 u0M d f h.hb a h.hc h.src.2 h.ord e
theorem D0y(h:(T7 b c br ss).2≠0):(T7 b c br ss).1=([],[],[]):=by
 unfold T7 at h ⊢;split
 ·rename_i a;rw[if_pos a] at h;split
  ·rename_i T e;rw[e] at h;exact(h rfl).elim
  ·rfl
 ·rfl
end
theorem k0o(s:List s9)(h:s.length<=9223372036854775807):Fv s s=some true:=by
 unfold Fv;refine(if_neg (by simp)).trans ?_;have a:=H2 (n:=s.length) h (fun _=>false) (some false) (e:=some true) (F:=G0D s s) (fun g i hi=>by
  have b:((i:Int)).toNat=i:=rfl;refine(if_pos (decide_eq_true (by omega))).trans ?_;rw[b];refine(gP ⟨oo,oo,trivial⟩).trans ?_;refine(if_neg (by simp)).trans ?_;rw[if_neg (by simp)];exact gP ⟨oo,trivial⟩) (fun g=>if_neg (by simp))
 refine a.trans (if_neg (by simp))
theorem k0b(t:B3)(d:t.1.length<=9223372036854775807)(b:t.2.1.length<=9223372036854775807)(c:t.2.2.length<=9223372036854775807):GX t t=some true:=by
 unfold GX;refine(if_neg (by simp)).trans ?_;have a:=H2 (n:=t.1.length) d (fun _=>false) (some false) (e:=some true) (F:=H0t t t) (fun g i hi=>by
  have f:((i:Int)).toNat=i:=rfl;refine(if_pos (decide_eq_true (by omega))).trans ?_;rw[f];refine(gP ⟨oo,oo,trivial⟩).trans ?_;refine(if_neg (by simp)).trans ?_;rw[if_neg (by simp)];exact gP ⟨oo,trivial⟩) (fun g=>by
  refine(if_neg (by simp)).trans ?_;rw[Ub,k0o _ b,k0o _ c];exact gP ⟨rfl,fun _=>rfl,trivial⟩)
 refine a.trans (if_neg (by simp))
def Ce(b:j7)(c:p7)(br:List Int)(ss:List m6)(t:B3):Int:=if(p8 b&&F6 c&&!Gi (J9 b) t)=true then 1 else R4 b c br ss
def Xr(b:j7)(c:p7)(br:List Int)(ss:List m6)(t:B3):Int ⊕ (F4×List Int×Int):=if Ce b c br ss t=0 then .inr ((m9 b,C4 (lV b).length br),(T6 (M9 b (C4 (lV b).length br) [] (j6 b))).1,0) else .inl (Ce b c br ss t)
section
variable {b:j7} {c:p7} {br:List Int} {ss:List m6} {out:List Nat} {t:B3}
theorem u0n(h:Ce b c br ss t=0):Gi (J9 b) t=true/\∃out,TG b c br ss out:=by
 unfold Ce at h;split at h
 ·cases h
 ·rename_i d;obtain⟨out,a⟩:=Rs h;refine⟨?_,out,a⟩;rw[a.hb,a.hc] at d;simpa using d
theorem TG.codeT(h:TG b c br ss out)(a:Gi (J9 b) t=true):Ce b c br ss t=0:=by
 unfold Ce;rw[if_neg (by rw[a]; simp)];exact h.code
theorem K0h(f:wf k8 b)(h:cnt k8 b<=1048576)(d:wf p5 c)(a:br.length<=1048576)(g:ss.length<=9223372036854775807)(e:wf y44 t):BU b c br ss t=some (Xr b c br ss t):=by
 unfold BU Xr Ce R4;rw[Wn b f h,r54 c d,vS,vS];refine(gP ⟨rfl,fun _=>rfl,trivial⟩).trans ?_;cases hb:p8 b with
 | false=>rfl
 | true =>
   cases hc:F6 c with
   | false=>rfl
   | true =>
     refine(if_neg (by simp)).trans ?_;rw[Ws b f hb,vS];refine(gP ⟨rfl,trivial⟩).trans ?_;rw[lE,r38 b hb t e,vS];refine(gP ⟨fun _=>rfl,trivial⟩).trans ?_;cases htm:Gi (J9 b) t with
     | false=>rfl
     | true =>
       refine(if_neg (by simp)).trans ?_;rw[r65 hb br a,r66 b hb ss g,vS,vS];refine(gP ⟨rfl,fun _=>rfl,trivial⟩).trans ?_;cases hk:An (lV b).length br with
       | false=>rfl
       | true =>
         cases hs:Bz b ss with
         | false=>rfl
         | true =>
           refine(if_neg (by simp)).trans ?_;rw[r67 hb hk a,vS];refine(gP ⟨rfl,trivial⟩).trans ?_;rw[lE,r68 hb (NE _ _),vS];refine(gP ⟨rfl,trivial⟩).trans ?_;rw[lE];cases ho:(T6 (M9 b (C4 (lV b).length br) [] (j6 b))).2 <;> rfl
abbrev Ru:m6:=(0,(0,0),0,0)
def Cf(v:Nat)(o:Option r6):Bool×m6×Int:=match o with
 | some x=>if C1 x.1=true then(true,((v:Int),x.1,x.2),0) else(false,Ru,3)
 | none=>(false,Ru,0)
def Xs(b:j7)(c:p7)(br:List Int)(ss:List m6)(t:B3)(v:Int):Bool×m6×Int:=if Ce b c br ss t=0 then(if m0 v 0 ((j6 b:Int)-1)=true then Cf v.toNat (O2 b c br ss (Ak t) v.toNat) else(false,Ru,4)) else(false,Ru,Ce b c br ss t)
theorem P0b(g:wf k8 b)(j:cnt k8 b<=1048576)(d:wf p5 c)(e:br.length<=1048576)(i:ss.length<=9223372036854775807)(f:wf y44 t)(v:Int):Ju b c br ss t v=some (Xs b c br ss t v):=by
 unfold Ju Xs;rw[K0h g j d e i f];unfold Xr;by_cases h:Ce b c br ss t=0
 ·obtain⟨m,l,a⟩:=u0n h;rw[if_pos h,if_pos h];refine(if_neg (by simp[FG])).trans ((gP ⟨rfl,trivial⟩).trans ?_);show gd ((Y4 (m9 b) v).isSome=true/\True) _=_;rw[Ro a.hb];refine(gP ⟨rfl,trivial⟩).trans ?_;by_cases hi:m0 v 0 ((j6 b:Int)-1)=true
  ·rw[if_pos hi];refine(if_neg (by show ¬(!vl (Y4 (m9 b) v))=true; rw[Ro a.hb,hi]; decide)).trans ?_;have q:=z8.1 hi;obtain⟨k,rfl⟩:∃k:Nat,v=(k:Int):=⟨v.toNat,by omega⟩;have n:((k:Int)).toNat=k:=rfl;rw[n];show gd ((CF (m9 b,C4 (lV b).length br) c ss t (k:Int)).isSome=true/\True) (lt (vl (CF (m9 b,C4 (lV b).length br) c ss t (k:Int))) fun o=>_)=_;rw[I0D g j a.hb d a.hc i (p0G.1 m) k,vS];refine(gP ⟨rfl,trivial⟩).trans ?_;rw[lE];cases O2 b c br ss (Ak t) k with
   | none=>rfl
   | some x =>
     refine(gP ⟨fun _=>by rw[(Gf _).1]; rfl,trivial⟩).trans ?_;rw[(Gf _).1,vS];show(if(true&&!C1 x.1)=true then _ else _)=some (if C1 x.1=true then _ else _);cases C1 x.1 <;> rfl
  ·rw[if_neg hi];refine if_pos ?_;show(!vl (Y4 (m9 b) v))=true;rw[Ro a.hb,vS];simpa using hi
 ·rw[if_neg h,if_neg h];refine(if_pos rfl).trans ((gP ⟨rfl,trivial⟩).trans ?_);exact if_pos (by show(Ce b c br ss t != 0)=true; simp[h])
end
theorem K0f{n:Int}(d:0<=n)(e:n<3)(a b c:Int):[a,b,c].getD n.toNat 0=a∨[a,b,c].getD n.toNat 0=b∨[a,b,c].getD n.toNat 0=c:=by
 have:n=0∨n=1∨n=2:=by omega
 rcases this with rfl | rfl | rfl
 ·exact .inl rfl
 ·exact .inr (.inl rfl)
 ·exact .inr (.inr rfl)
theorem NH{n:ByteArray}{a b c d:Int}(e : -10000<=a/\a<=10000)(f : -10000<=b/\b<=10000)(h : -10000<=c/\c<=10000)(g : -10000<=d/\d<=10000):M0w (n,a,b,c,d):=⟨e,f,h,g⟩
theorem I0p{s:l6}(h:Sd s):∃r,Mm s=some r/\(Sd r.2/\M0w r.1):=by
 obtain⟨V,s0,v,c,x,t,-⟩:=z7 (n:=3) h (by omega);have t:=t (by omega);obtain⟨v1,s1,H,e,a1,u,-⟩:=z7 (n:=20) c (by omega);have u:=u (by omega);obtain⟨Q,s2,E,b,a2,m,-⟩:=z7 (n:=20) e (by omega);have m:=m (by omega);obtain⟨P,s3,F,d,a3,o,-⟩:=z7 (n:=60) b (by omega);have o:=o (by omega);obtain⟨W,s4,w,j,a4,l,-⟩:=z7 (n:=40) d (by omega);have l:=l (by omega);obtain⟨T,Y,y,a,a5,b5,-⟩:=z7 (n:=30) j (by omega);obtain⟨v6,s6,z,i,q,f,-⟩:=z7 (n:=3) a (by omega);have f:=f (by omega);obtain⟨v7,X,G,g,a7,k,-⟩:=z7 (n:=2) a (by omega);have k:=k (by omega);have t6:=K0f q f 99 100 (-1);unfold Mm;simp only[v,H,E,vS,Option.isSome_some];refine l5 ⟨trivial,⟨x,by simp; omega⟩,by simp; omega,trivial,oo,oo,trivial,oo,oo,trivial⟩ (x7 ?_);dsimp only;simp only[F,vS,Option.isSome_some];refine l5 ⟨trivial,oo,oo,trivial⟩ (x7 ?_);dsimp only;simp only[w,vS,Option.isSome_some];refine l5 ⟨trivial,oo,oo,trivial⟩ (x7 ?_);dsimp only;simp only[y,vS,Option.isSome_some];refine l5 ⟨trivial,trivial⟩ (x7 ?_);dsimp only;split
 ·exact l5 ⟨oo,trivial⟩ ⟨_,rfl,a,NH oo oo oo oo⟩
 split
 ·simp only[z,vS,Option.isSome_some];refine l5 ⟨trivial,⟨q,by simp; omega⟩,by simp; omega,trivial⟩ (x7 ?_);dsimp only;exact⟨_,rfl,i,NH oo oo oo oo⟩
 split
 ·simp only[G,vS,Option.isSome_some];refine l5 ⟨trivial,oo,trivial⟩ (x7 ?_);exact⟨_,rfl,g,NH oo oo oo oo⟩
 split
 ·exact⟨_,rfl,a,NH oo oo oo oo⟩
 ·exact⟨_,rfl,a,NH oo oo oo oo⟩
section
variable [Alw]
end
theorem wfR{v:j7×p7×List Int×List m6}(h:Ic (R8 v)):wf k8 v.1/\wf p5 v.2.1/\v.2.2.2.length<=9223372036854775807 :=
 ⟨⟨h.1.1,⟨h.1.2.1,h.1.2.2.1,h.1.2.2.2.1⟩,h.1.2.2.2.2.1⟩,⟨h.2.1.1,h.2.1.2.1,h.2.1.2.2.1,h.2.1.2.2.2.1,h.2.1.2.2.2.2.1⟩,h.2.2.2.1.1⟩
theorem u0W{b:j7}{c:p7}{br:List Int}{ss:List m6}(a:p8 b=true∨(T7 b c br ss).2≠0):GX (T7 b c br ss).1 (T7 b c br ss).1=some true:=by
 have hz:GX ([],[],[]) ([],[],[])=some true:=k0b _ (Nat.zero_le _) (Nat.zero_le _) (Nat.zero_le _);by_cases d:(T7 b c br ss).2=0
 ·have a:=a.resolve_right (fun h=>h d);have e:=Am b a;unfold T7;split
  ·split
   ·rename_i T _;obtain⟨g,f,n3⟩:=FZ (N:=j6 b) (T:=T);exact k0b _ (by simp only; omega) (by simp only; omega) (by simp only; omega)
   ·exact hz
  ·exact hz
 ·rw[D0y d];exact hz
theorem D0x{b:j7}{c:p7}{br:List Int}{ss:List m6}(h:(T7 b c br ss).2=0):∃out T,TG b c br ss out/\By b c br ss out=some T/\T7 b c br ss=(r7 (j6 b) T,0):=by
 by_cases a:R4 b c br ss=0
 ·obtain⟨out,d⟩:=Rs a;have e:=d.pt;cases hr:By b c br ss out with
  | none=>rw[hr] at e; rw[e] at h; cases h
  | some T=>rw[hr] at e; exact⟨out,T,d,hr,e⟩
 ·unfold T7 at h;rw[if_neg a] at h;exact(a h).elim
theorem lw3[Alw](c:List Int)(_:wf (.sl (.int .u8)) c):u3 c=some true:=by
 have q:∀e:Option Bool,(∃r,e=some r/\r=true)->e=some true:=by rintro e ⟨r,rfl,rfl⟩; rfl
 refine q _ ?_;unfold u3;refine l5 ⟨rfl,trivial⟩ ?_;split
 ·exact⟨_,rfl,rfl⟩
 ·refine l5 ⟨trivial,trivial⟩ ⟨true,?_,rfl⟩;refine Alw.alp_of (([],([],[],[]),[]),(ByteArray.empty,0,0,0,0),[],[]) ⟨⟨by decide,by decide,by decide⟩,⟨⟨Ie,Ie,Ie,Ie,Ie,trivial⟩,⟨by show(0:Nat)<=_; decide,⟨by decide,by decide⟩,⟨by decide,by decide⟩,⟨by decide,by decide⟩,⟨by decide,by decide⟩,trivial⟩,Ie,Ie,trivial⟩,trivial⟩ fun v0 P=>?_;obtain⟨⟨t1,t2,t3⟩,hw,-⟩:=P;obtain⟨a,f,Q⟩:=wfR hw;obtain⟨b,k,br,ss⟩:=v0;simp only at t1 t2 t3 a f Q;have z:cnt k8 b<=1048576:=by omega
  have t:br.length<=1048576:=by omega
  refine(gP trivial).trans (q _ ?_);simp only[N0s a z f t Q,K0j a z f t Q,vS,Option.isSome_some];refine l5 ⟨trivial,trivial⟩ (x7 (l5 ⟨trivial,trivial⟩ (x7 ?_)));by_cases Y:(T7 b k br ss).2=0
  ·obtain⟨aB,T,d,W,e⟩:=D0x Y;have j:=d.rows a z f W;have H:=p0G.2 j;have E:wf y44 (r7 (j6 b) T):=by
    have hN:=Am b d.hb;obtain⟨n1,n2,n3⟩:=FZ (N:=j6 b) (T:=T);have F:∀s:s9,C1 s=true->wf y51 s:=fun s h=>by
     have:=NF.1 h;exact⟨⟨by show(-9223372036854775808:Int)<=s.1; omega,by show s.1<=(9223372036854775807:Int); omega⟩,⟨by show(-9223372036854775808:Int)<=s.2; omega,by show s.2<=(9223372036854775807:Int); omega⟩⟩
    have o:∀{l:List s9} {x:s9},x∈l->∃i,i<l.length/\l.getD i (0,0)=x:=fun {l x} u=>by
     obtain⟨i,hi,rfl⟩:=List.mem_iff_getElem.1 u;exact⟨i,hi,by rw[gq,List.getElem?_eq_getElem hi]; rfl⟩
    refine⟨⟨by omega,fun _ _=>trivial⟩,⟨by omega,fun x u=>?_⟩,⟨by omega,fun x u=>?_⟩⟩
    ·obtain⟨i,hi,rfl⟩:=o u;exact F _ (j.vals i (by omega)).1
    ·obtain⟨i,hi,rfl⟩:=o u;have:=(j.vals i (by omega)).2.1;unfold B0 at this;simp only[ba] at this;exact F _ this.1.1
   have n:=u0W (b:=b) (c:=k) (br:=br) (ss:=ss) (.inl d.hb);rw[e] at n ⊢;simp only[n,vS,Option.isSome_some];refine l5 ⟨fun _=>trivial,trivial⟩ ?_;rw[if_neg (by simp),if_neg (by simp)];have V:Md b (r7 (j6 b) T)=some true:=by
    unfold Md;rw[Wn b a z,vS,d.hb,Ws b a d.hb,vS,r38 b d.hb _ E,vS,H];exact gP ⟨rfl,fun _=>rfl,fun _=>rfl,trivial⟩
   simp only[V,vS,Option.isSome_some];refine l5 ⟨trivial,trivial⟩ ?_;rw[if_neg (by simp)];have hN:=Am b d.hb;obtain⟨n1,n2,n3⟩:=FZ (N:=j6 b) (T:=T);refine P2 (fun i=>j6 b+1-i.toNat) (fun i=>0<=i/\i<=(j6 b:Int)) ?_ oo (by omega);rintro g i ⟨i1,i2⟩ ih;obtain⟨v,rfl⟩:∃v:Nat,i=(v:Int):=⟨i.toNat,by omega⟩;have e3:((v:Int)).toNat=v:=rfl;unfold L0w;dsimp only;simp only[n13 b a z d.hb,vS,Option.isSome_some];refine l5 ⟨trivial,trivial⟩ (x7 ?_);by_cases cc:(v:Int) < (j6 b:Int)
   ·rw[if_pos (decide_eq_true cc)];have P:v<j6 b:=by omega
    obtain⟨g1,g2,g3⟩:=E0o (T:=T) P;have y:O2 b k br ss (Ak (r7 (j6 b) T)) v=T v:=by
     rw[Xq d.hb (fun w X=>WU X)];exact(Xo d.ord W v P).1.symm
    have m:=(Xo d.ord W v P).2;have aA:Ju b k br ss (r7 (j6 b) T) (v:Int)=some (Cf v (T v)):=by
     rw[P0b a z f t Q E];unfold Xs;rw[if_pos (d.codeT H),if_pos (z8.2 oo),e3,y]
    simp only[aA,vS,Option.isSome_some,e3];refine l5 ⟨trivial,trivial⟩ (x7 ?_);refine l5 ⟨fun _=>oo,fun _=>by omega,fun _=>oo,fun _=>by omega,fun _=>oo,fun _=>by omega,trivial⟩ (x7 ?_);have G:((Cf v (T v)).2.2 != 0||(!(Cf v (T v)).1==(r7 (j6 b) T).1.getD v false)||(Cf v (T v)).1&&((Cf v (T v)).2.1.1 != (v:Int)||!((Cf v (T v)).2.1.2.1.1==((r7 (j6 b) T).2.1.getD v (b7 y51)).1&&((Cf v (T v)).2.1.2.1.2==((r7 (j6 b) T).2.1.getD v (b7 y51)).2&&true))||!((Cf v (T v)).2.1.2.2.1==((r7 (j6 b) T).2.2.getD v (b7 y51)).1&&((Cf v (T v)).2.1.2.2.2==((r7 (j6 b) T).2.2.getD v (b7 y51)).2&&true))))=false:=by
     rw[g1,show(r7 (j6 b) T).2.1.getD v (b7 y51)=(r7 (j6 b) T).2.1.getD v (0,0) from rfl,show(r7 (j6 b) T).2.2.getD v (b7 y51)=(r7 (j6 b) T).2.2.getD v (0,0) from rfl,g2,g3];cases u:T v with
     | none=>rfl
     | some x =>
       rw[u] at m;have m:C1 x.1=true:=m;unfold Cf;simp[m]
    rw[if_neg (by rw[G]; simp)];exact l5 ⟨oo,trivial⟩ (ih _ oo (by omega))
   ·rw[if_neg (by simpa using cc)];exact⟨_,rfl,rfl⟩
  ·have n:=u0W (b:=b) (c:=k) (br:=br) (ss:=ss) (.inr Y);simp only[n,vS,Option.isSome_some];refine l5 ⟨fun _=>trivial,trivial⟩ ?_;rw[if_neg (by simp),if_pos (by simpa using Y)];exact⟨_,rfl,rfl⟩
theorem K0R{a b ρ:Type}(mk:a->b){F:(b->Option ρ)->b->Option ρ}{G:(a->Option ρ)->a->Option ρ}(h:∀g s,F g (mk s)=G (fun s=>g (mk s)) s)(s:a):lp F (mk s)=lp G s:=by
 have c:∀n s,I9 F n (mk s)=I9 G n s:=by
  intro n
  induction n with
  | zero=>intro s; rfl
  | succ n d =>
    intro s;show F (I9 F n) (mk s)=G (I9 G n) s;rw[h];congr 1;exact funext fun s=>d s
 exact c _ s
section
variable {b:j7}
def DS(b:j7)(fw:Bool):Nat->Nat:=if fw=true then o6 b else p6 b
def DT(b:j7)(fw:Bool):Nat->Nat:=if fw=true then p6 b else o6 b
theorem u0v(e:p8 b=true)(a:Bool){i:Nat}(hi:i < (lV b).length):DS b a i<j6 b/\DT b a i<j6 b:=by
 obtain⟨_,_,c,d⟩:=M8 b e hi;cases a
 ·exact⟨d,c⟩
 ·exact⟨c,d⟩
theorem Xt(f:p8 b=true){lv:List Bool}(E:lv.length=(lV b).length){s:Nat}(u:s<j6 b)(a:Bool):∃L,RB (lV b).length (j6 b) (DS b a) (DT b a) (fun i=>lv.getD i false) s L/\Dw (j6 b:Int) (lV b) lv (s:Int) a=some L:=by
 have V:=R3 f;have w:=Am b f;unfold Dw;have x:((j6 b:Int)).toNat=j6 b:=rfl;have H:((s:Int)).toNat=s:=rfl;rw[x,H,gP ⟨⟨by omega,rfl,by omega,by omega⟩,trivial⟩,gP ⟨by rw[List.length_replicate]; exact oo,by rw[List.length_replicate]; exact u,trivial⟩];obtain⟨L,y,G⟩:=p0L (ρ:=List Bool) (lV b).length (j6 b) (DS b a) (DT b a) (fun i=>lv.getD i false) (fun i hi=>(u0v f a hi).2) w u (F:=fun g q=>A0J lv a (lV b) (fun t=>g (t.2,t.1)) (q.2,q.1)) (J:=fun L=>some L) (fun g q P=>by
  obtain⟨r,c⟩:=q;cases c with
  | false=>rfl
  | true =>
    refine Eq.trans (if_pos (c:=(true:Bool)=true) (t:=lp (US lv a (lV b) fun t=>g (t.2,t.1)) (false,0,r)) (e:=UQ r) rfl) ?_;show _=g (fN (F9 (DS b a) (DT b a) fun i=>lv.getD i false) (lV b).length (r,false));refine lF (n:=(lV b).length) (by omega) (fun(k:Nat) (s:List Bool×Bool)=>(s.2,(k:Int),s.1)) (F9 (DS b a) (DT b a) fun i=>lv.getD i false) (fun _ s=>s.1.length=j6 b) (J:=fun s=>g (s.1,s.2)) (F:=US lv a (lV b) fun t=>g (t.2,t.1)) (fun m k s l d=>?_) (fun k s l d=>?_) (fun m s _=>aE) (r,false) P
    ·obtain⟨v,o,_,_⟩:=M8 b f l;obtain⟨Q,T⟩:=u0v f a l;have d:s.1.length=j6 b:=d;have z:((k:Int)).toNat=k:=rfl;have j:PZ (k:Int) s.1 s.2 lv m ((DS b a k:Int),(DT b a k:Int))=m ((F9 (DS b a) (DT b a) (fun i=>lv.getD i false) k s).2,((k+1:Nat):Int),(F9 (DS b a) (DT b a) (fun i=>lv.getD i false) k s).1):=by
      refine(gP ⟨oo,(fun _=>oo),(fun _=>by omega),(fun _=>oo),(fun _=>by omega),trivial⟩).trans ?_;unfold F9;by_cases h:(lv.getD k false&&s.1.getD (DS b a k) false&&!s.1.getD (DT b a k) false)=true
      ·rw[if_pos h];refine(if_pos h).trans ?_;refine(gP ⟨oo,by omega,trivial⟩).trans ?_;exact gP ⟨oo,trivial⟩
      ·rw[if_neg h];refine(if_neg h).trans ?_;exact gP ⟨oo,trivial⟩
     refine(if_pos (by simpa using l)).trans ?_;refine(gP ⟨oo,oo,trivial⟩).trans ?_;rw[lE,z];cases a with
     | false =>
       refine(if_pos rfl).trans ?_;rw[v,o];exact j
     | true =>
       refine(if_neg (by simp)).trans ?_;rw[v,o];exact j
    ·have d:s.1.length=j6 b:=d;unfold F9;split
     ·show(s.1.set _ true).length=_;rw[List.length_set]; exact d
     ·exact d)
 refine⟨L,y,Eq.trans ?_ G⟩;exact K0R (fun q:List Bool×Bool=>(q.2,q.1)) (fun g s=>rfl) ((List.replicate (j6 b) false).set s true,true)
end
section
variable {b:j7}
end
theorem E0d{l:List Int}{x:Int}:D1 l x=true↔x∈l:=by
 unfold D1;rw[List.any_eq_true];constructor
 ·rintro⟨j,a,b⟩;rw[<- eq_of_beq b];exact H5 (List.mem_range.1 a)
 ·intro h;obtain⟨j,a,rfl⟩:=List.getElem_of_mem h;exact⟨j,List.mem_range.2 a,by rw[gq,List.getElem?_eq_getElem a]; exact beq_self_eq_true _⟩
def CR(p:Nat->Bool)(N:Nat)(S:List Bool):List Bool:=(List.range N).map fun w=>S.getD w false||p w
theorem Rv(p:Nat->Bool)(N:Nat)(S:List Bool):(CR p N S).length=N:=by
 grind[CR,List.length_map,List.length_range]
theorem Xu(p:Nat->Bool)(N:Nat)(S:List Bool){w:Nat}(h:w<N):(CR p N S).getD w false=(S.getD w false||p w):=by
 grind[CR]
def L0(N v:Nat)(S:List Bool):List Bool:=(List.range N).map fun w=>decide (w<v)||S.getD w false
theorem NI(N v:Nat)(S:List Bool):(L0 N v S).length=N:=by
 grind[L0,List.length_map,List.length_range]
theorem NJ(N v:Nat)(S:List Bool){w:Nat}(h:w<N):(L0 N v S).getD w false=(decide (w<v)||S.getD w false):=by
 grind[L0]
theorem q0M{N:Nat}{p:Nat->Bool}(h:((List.range N).filter p).length<2){v w:Nat}(f:v<N)(e:p v=true)(d:w<N)(c:p w=true):w=v:=by
 have a:v∈(List.range N).filter p:=List.mem_filter.2 ⟨List.mem_range.2 f,e⟩;have b:w∈(List.range N).filter p:=List.mem_filter.2 ⟨List.mem_range.2 d,c⟩;generalize (List.range N).filter p=l at h a b
 match l,h with
 | [],_=>cases a
 | [x],_=>grind
 | x :: y :: r,h=>grind
theorem p0T(p:Nat->Bool)(N:Nat)(D:List Bool)(a:D.length=N):∀m,m<=N->(fN (fun w (s:List Bool)=>if p w=true then s.set w true else s) m D).length=N/\∀w,w<N->(fN (fun w (s:List Bool)=>if p w=true then s.set w true else s) m D).getD w false=(D.getD w false||(decide (w<m)&&p w))
 | 0,_=>⟨a,fun w _=>by simp[fN]⟩
 | m+1,h=>by
   obtain⟨b,c⟩:=p0T p N D a m (by omega);show(if p m=true then List.set _ m true else _:List Bool).length=N/\∀w,w<N->(if p m=true then List.set _ m true else _:List Bool).getD w false=_
   grind
theorem u0C(p:Nat->Bool)(N:Nat)(D:List Bool)(c:D.length=N):fN (fun w (s:List Bool)=>if p w=true then s.set w true else s) N D=CR p N D:=by
 obtain⟨b,d⟩:=p0T p N D c N (Nat.le_refl _);refine JX false (by rw[b,Rv]) fun w a=>?_;rw[b] at a;rw[d w a,Xu _ _ _ a,decide_eq_true a,Bool.true_and]
theorem r0q(M:Nat)(q:Nat->Bool):(List.range M).any q=decide (0 < ((H6 q M).length:Int)):=by
 rw[Bool.eq_iff_iff,List.any_eq_true,dq,(Ge q M).2];constructor
 ·rintro⟨x,a,c⟩;have:x∈(List.range M).filter q:=List.mem_filter.2 ⟨a,c⟩;have:=List.length_pos_of_mem this;omega
 ·intro h;obtain⟨x,b⟩:=List.exists_mem_of_length_pos (show 0 < ((List.range M).filter q).length by omega);exact⟨x,List.mem_filter.1 b⟩
section
variable {b:j7}
def DU(b:j7)(lv:List Bool)(v:Nat):List Bool:=vl (Dw (j6 b:Int) (lV b) lv (v:Int) true)
theorem NK(d:p8 b=true){lv:List Bool}(a:lv.length=(lV b).length){v:Nat}(f:v<j6 b):RB (lV b).length (j6 b) (o6 b) (p6 b) (fun i=>lv.getD i false) v (DU b lv v)/\Dw (j6 b:Int) (lV b) lv (v:Int) true=some (DU b lv v):=by
 obtain⟨L,e,c⟩:=Xt d a f true;unfold DU;rw[c];exact⟨e,rfl⟩
def J2(b:j7)(lv:List Bool)(v w:Nat):Bool:=(DU b lv v).getD w false&&(DU b lv w).getD v false
def Ao(b:j7)(lv:List Bool)(v:Nat):List Int:=H6 (J2 b lv v) (j6 b)
def NL(b:j7)(lv:List Bool)(v:Nat):Bool:=decide (0 < ((H6 (fun k=>lv.getD k false&&(o6 b k==v&&p6 b k==v)) (lV b).length).length:Int))
def Ap(b:j7)(lv:List Bool)(v:Nat):Bool:=decide (1 < ((Ao b lv v).length:Int))||NL b lv v
def P4(b:j7)(lv:List Bool)(v:Nat)(s:List Bool×List (List Int)):List Bool×List (List Int):=if s.1.getD v false=true then s else if Ap b lv v=true then(CR (J2 b lv v) (j6 b) s.1,s.2++[Ao b lv v]) else s
def Aq(b:j7)(lv:List Bool):List (List Int):=(fN (P4 b lv) (j6 b) (List.replicate (j6 b) false,[])).2
theorem v0y(b:j7)(lv:List Bool){v:Nat}{s:List Bool×List (List Int)}(h:s.1.length=j6 b/\s.2.length<=v):(P4 b lv v s).1.length=j6 b/\(P4 b lv v s).2.length<=v+1:=by
 grind[P4,Rv,List.length_append,List.length_singleton]
theorem Xw(d:p8 b=true){lv:List Bool}(a:lv.length=(lV b).length){v:Nat}(c:v<j6 b):J2 b lv v v=true:=by
 have h:=((NK d a c).1.2 v c).2 .refl
 grind[J2]
theorem w0o(b:j7)(lv:List Bool)(v:Nat):(Ao b lv v).length<=j6 b:=(Ge _ _).1
theorem y0L(i:p8 b=true){lv:List Bool}(f:lv.length=(lV b).length){v:Nat}(j:v<j6 b){s:List Bool×List (List Int)}(_:s.1.length=j6 b):(s.1.getD v false=true->L0 (j6 b) v s.1=L0 (j6 b) (v+1) s.1)/\(s.1.getD v false=false->CR (J2 b lv v) (j6 b) (L0 (j6 b) v s.1)=L0 (j6 b) (v+1) (P4 b lv v s).1):=by
 have a:=Xw i f j;refine⟨fun h=>JX false (by grind[NI]) fun w c=>?_,fun h=>JX false (by rw[Rv,NI]) fun w c=>?_⟩
 ·grind[NI,NJ]
 ·rw[Rv] at c;rw[Xu _ _ _ c,NJ _ _ _ c,NJ _ _ _ c];unfold P4;rw[if_neg (by rw[h]; simp)];by_cases d:Ap b lv v=true
  ·rw[if_pos d,Xu _ _ _ c];by_cases e:w=v
   ·subst e; rw[a]; simp
   ·have:(w<v+1)↔w<v:=by omega
    simp[this,Bool.or_assoc]
  ·rw[if_neg d];have g:((List.range (j6 b)).filter (J2 b lv v)).length<2:=by
    have:=(Ge (J2 b lv v) (j6 b)).2;unfold Ap at d;rw[Bool.or_eq_true,not_or,dq] at d;unfold Ao at d;omega
   grind[J2,absurd,q0M]
theorem L0J(d:p8 b=true){lv:List Bool}(o:lv.length=(lV b).length)(a:Nat):Mn (lV b) lv (a:Int)=some (NL b lv a):=by
 have q:=R3 d;unfold NL;rw[<- r0q];have c:=H2 (n:=(lV b).length) (by omega) (fun i=>lv.getD i false&&(o6 b i==a&&p6 b i==a)) (some true) (e:=some false) (F:=A0H lv (lV b) (a:Int)) (fun g i hi=>by
  obtain⟨m,f,_⟩:=M8 b d hi;have j:((i:Int)).toNat=i:=rfl;have k:((o6 b i:Int)==(a:Int))=(o6 b i==a):=by
   rw[Bool.eq_iff_iff,beq_iff_eq,beq_iff_eq]; omega
  have l:((p6 b i:Int)==(a:Int))=(p6 b i==a):=by
   rw[Bool.eq_iff_iff,beq_iff_eq,beq_iff_eq]; omega
  refine(if_pos (by simpa using hi)).trans ?_;rw[j,m,f,k,l,Bool.and_assoc];refine(gP ⟨oo,(fun _=>oo),(fun _=>oo),trivial⟩).trans ?_;by_cases h:(lv.getD i false&&(o6 b i==a&&p6 b i==a))=true
  ·simp_all
  ·rw[if_neg h,if_neg h];exact gP ⟨oo,trivial⟩) (fun g=>aE)
 refine c.trans ?_
 grind
theorem N0r(c:p8 b=true){lv:List Bool}(a:lv.length=(lV b).length):Hn (j6 b:Int) (lV b) lv=some (Aq b lv):=by
 have hM:=R3 c;have hN:=Am b c;have Y:((j6 b:Int)).toNat=j6 b:=rfl;unfold Hn;rw[gP ⟨⟨by omega,rfl,by omega,by omega⟩,trivial⟩,Y];have G:List.replicate (j6 b) false=L0 (j6 b) 0 (List.replicate (j6 b) false):=JX false (by rw[NI,List.length_replicate]) fun w i=>by
  grind[List.length_replicate,NJ]
 refine Eq.trans (congrArg (fun x=>lp (UW (lV b) lv (j6 b:Int)) (0,x,[])) G) ?_;refine lF (n:=j6 b) (by omega) (fun(v:Nat) (s:List Bool×List (List Int))=>((v:Int),L0 (j6 b) v s.1,s.2)) (P4 b lv) (fun v s=>s.1.length=j6 b/\s.2.length<=v) (J:=fun s=>some s.2) (F:=UW (lV b) lv (j6 b:Int)) (fun g v s f j=>?_) (fun v s f j=>v0y b lv j) (fun g s _=>aE) (List.replicate (j6 b) false,[]) ⟨List.length_replicate,Nat.le_refl _⟩;obtain⟨r,V⟩:=j;obtain⟨S,o⟩:=s;have r:S.length=j6 b:=r;have V:o.length<=v:=V;have e3:((v:Int)).toNat=v:=rfl;have k:=NI (j6 b) v S;have t:(L0 (j6 b) v S).getD v false=S.getD v false:=by
  rw[NJ _ _ _ f,decide_eq_false (Nat.lt_irrefl v),Bool.false_or]
 obtain⟨H,y⟩:=y0L c a f (s:=(S,o)) r;have H:S.getD v false=true->L0 (j6 b) v S=L0 (j6 b) (v+1) S:=H;have y:S.getD v false=false->CR (J2 b lv v) (j6 b) (L0 (j6 b) v S)=L0 (j6 b) (v+1) (P4 b lv v (S,o)).1:=y;have j2:∀E u,Jo (v:Int) g (E,u)=g (((v+1:Nat):Int),E,u):=fun E u=>gP ⟨oo,trivial⟩;refine(if_pos (decide_eq_true (by omega))).trans ?_;refine(gP ⟨⟨by omega,by grind⟩,by grind,trivial⟩).trans ?_;show(if(L0 (j6 b) v S).getD v false=true then Jo (v:Int) g (L0 (j6 b) v S,o) else _)=g (((v+1:Nat):Int),L0 (j6 b) (v+1) (P4 b lv v (S,o)).1,(P4 b lv v (S,o)).2);rw[t];cases hS:S.getD v false with
 | true =>
   refine(if_pos rfl).trans ?_
   grind[P4]
 | false =>
   refine(if_neg (by simp)).trans ?_;obtain⟨T,t1,t2⟩:=Xt c a f true;obtain⟨B,W,b2⟩:=Xt c a f false;have d:=NK c a f;obtain rfl:T=DU b lv v:=t1.uniq d.1;have z:∀w,w<j6 b->B.getD w false=(DU b lv w).getD v false:=fun w i=>by
    rw[Bool.eq_iff_iff,W.2 w i,(NK c a i).1.2 v f];exact⟨fun h=>Rch.back h,fun h=>Rch.back h⟩
   rw[t2,b2,vS,vS];refine(gP ⟨rfl,rfl,trivial⟩).trans ?_;rw[lE];have aA:=d.1.1;have X:=W.1;rw[<- y hS];have m:lp (UU (DU b lv v) B (v:Int) o (lV b) lv (j6 b:Int) g) (0,[],L0 (j6 b) v S)=Mo (v:Int) o (lV b) lv g (Ao b lv v,CR (J2 b lv v) (j6 b) (L0 (j6 b) v S)):=by
    unfold Ao;rw[<- Gd,<- u0C (J2 b lv v) (j6 b) (L0 (j6 b) v S) k];have e:∀n,fN (fun w (s:List Int×List Bool)=>if J2 b lv v w=true then(s.1++[(w:Int)],s.2.set w true) else s) n ([],L0 (j6 b) v S)=(fN (fun w (s:List Int)=>if J2 b lv v w=true then s++[(w:Int)] else s) n [],fN (fun w (s:List Bool)=>if J2 b lv v w=true then s.set w true else s) n (L0 (j6 b) v S)):=by
     intro n
     induction n with
     | zero=>rfl
     | succ n ih =>
       grind[J2,fN,set]
    rw[<- e];refine lF (n:=j6 b) (by omega) (fun(w:Nat) (s:List Int×List Bool)=>((w:Int),s.1,s.2)) (fun w (s:List Int×List Bool)=>if J2 b lv v w=true then(s.1++[(w:Int)],s.2.set w true) else s) (fun w s=>s.1.length<=w/\s.2.length=j6 b) (J:=fun s=>Mo (v:Int) o (lV b) lv g s) (F:=UU (DU b lv v) B (v:Int) o (lV b) lv (j6 b:Int) g) (fun P w s i j=>?_) (fun w s i j=>?_) (fun P s _=>aE) ([],L0 (j6 b) v S) ⟨Nat.le_refl _,k⟩
    ·obtain⟨Q,i2⟩:=j;obtain⟨l,D⟩:=s;have Q:l.length<=w:=Q;have i2:D.length=j6 b:=i2;have e4:((w:Int)).toNat=w:=rfl;refine(if_pos (decide_eq_true (by omega))).trans ?_;rw[e4,z w i];refine(gP ⟨oo,by omega,(fun _=>oo),(fun _=>by omega),trivial⟩).trans ?_;show(if J2 b lv v w=true then _ else _)=P (((w+1:Nat):Int),(if J2 b lv v w=true then(l++[(w:Int)],D.set w true) else(l,D)).1,(if J2 b lv v w=true then(l++[(w:Int)],D.set w true) else(l,D)).2);by_cases h:J2 b lv v w=true
     ·rw[if_pos h,if_pos h];refine(gP ⟨⟨by grind,by grind⟩,trivial⟩).trans ?_;refine(gP ⟨oo,by omega,trivial⟩).trans ?_;exact gP ⟨oo,trivial⟩
     ·rw[if_neg h,if_neg h];exact gP ⟨oo,trivial⟩
    ·grind
   refine m.trans ?_;have aB:=w0o b lv v;rw[Mo];refine(gP ⟨fun _=>(by grind[L0J]),trivial⟩).trans ?_;rw[L0J c a,vS];have q:P4 b lv v (S,o)=if Ap b lv v=true then(CR (J2 b lv v) (j6 b) S,o++[Ao b lv v]) else(S,o):=if_neg (by grind)
   rw[q];show(if Ap b lv v=true then _ else _)=_;cases hc:Ap b lv v with
   | true =>
     refine(if_pos rfl).trans ?_;rw[j2];exact gP ⟨⟨by grind,by grind⟩,trivial⟩
   | false =>
     grind
end
end Go.Proofs.YtdjgagoledoaaaaGreatDoor
end
section
namespace Go.Proofs.Xd
open Go.Proofs.Xl
section
variable (M N:Nat) (fr to:Nat->Nat) (lv:Nat->Bool)
def Rw:Prop:=∃i,i<M/\lv i=true/\Rch M fr to lv (to i) (fr i)
theorem q0X:∀r:List Bool,C9 r<r.length->∃v,v<r.length/\r.getD v false=false
 | [],h=>by simp at h
 | false :: r,_=>⟨0,by simp,rfl⟩
 | true :: r,h=>by
   have e:C9 (true :: r)=C9 r+1:=by unfold C9; rw[List.countP_cons]; rfl
   obtain⟨v,a,b⟩:=q0X r (by rw[e] at h; simpa using h);exact⟨v+1,by simpa using a,by simpa using b⟩
theorem Xx:∀(a b:List Bool),a.length=b.length->(∀v,a.getD v false=true->b.getD v false=true)->(∃v,a.getD v false=false/\b.getD v false=true)->C9 a<C9 b:=by
 have l:∀(a b:List Bool),a.length=b.length->(∀v,a.getD v false=true->b.getD v false=true)->C9 a<=C9 b:=by
  intro a
  induction a with
  | nil=>grind
  | cons x a c =>
    intro b d h;cases b with
    | nil=>grind
    | cons y b =>
      have g:=h 0;have:=c b (by grind) (fun v f=>by have:=h (v+1); simpa using this (by simpa using f))
      grind[C9,List.getD_cons_zero]
 intro a
 induction a with
 | nil=>grind
 | cons x a c =>
   intro b d h ⟨v,k,j⟩;cases b with
   | nil=>simp at d
   | cons y b =>
     have e:a.length=b.length:=by simpa using d
     have g:=h 0;have i:∀v,a.getD v false=true->b.getD v false=true:=fun v f=>by have:=h (v+1); simpa using this (by simpa using f)
     simp only[List.getD_cons_zero] at g;cases v with
     | zero =>
       grind[List.getD_cons_zero,C9]
     | succ v =>
       have:=c b e i ⟨v,by grind,by grind⟩
       grind[C9]
theorem I0m(l:∀i,i<M->fr i<N)(_:∀i,i<M->to i<N)(q:N<=1000000){U:Nat->Prop}(k:∀u,U u->u<N/\∃i,i<M/\lv i=true/\to i=u/\U (fr i)){u:Nat}(b:U u):Rw M fr to lv:=by
 have j:∀(n u:Nat) (L:List Bool),U u->RB M N to fr lv u L->C9 L<=n->Rw M fr to lv:=by
  intro n
  induction n with
  | zero =>
    intro u L b a y;obtain⟨d,i,hi,m,e,r⟩:=k u b;have hz:L.getD u false=true:=(a.2 u d).2 .refl;have:0<C9 L:=by
     unfold C9;rw[List.countP_pos_iff];refine⟨true,?_,rfl⟩;have f:u<L.length:=by rw[a.1]; exact d
     rw[gq,List.getElem?_eq_getElem f] at hz;have hz:L[u]=true:=hz;rw[<- hz];exact List.getElem_mem f
    omega
  | succ n w =>
    intro u L b a y;obtain⟨d,i,hi,m,e,r⟩:=k u b;by_cases x:Rch M fr to lv u (fr i)
    ·exact⟨i,hi,m,by grind⟩
    ·obtain⟨K,c⟩:=B0G M N to fr lv l q (l i hi);refine w (fr i) K r c ?_;have:C9 K<C9 L:=by
      refine Xx K L (by rw[c.1,a.1]) (fun v o=>?_) ⟨u,?_,(a.2 u d).2 .refl⟩
      ·have g:v<N:=by
        rcases Nat.lt_or_ge v N with h | h
        ·exact h
        ·rw[gq,List.getElem?_eq_none (by rw[c.1]; exact h)] at o; cases o
       refine(a.2 v g).2 ?_;have s:=(c.2 v g).1 o;have t:Rch M to fr lv u (fr i):=by
        have:=Rch.one (M:=M) (fr:=to) (to:=fr) (lv:=lv) hi m
        rwa [e] at this
       exact t.trans s
      ·cases hc:K.getD u false with
       | false=>rfl
       | true=>exact(x ((c.2 u d).1 hc).back).elim
     omega
 obtain⟨L,a⟩:=B0G M N to fr lv l q (k u b).1;exact j _ u L b a (Nat.le_refl _)
structure LI(out:List Nat):Prop where
 cnt:C9 (N9 N out)=out.length
 lt:∀v∈out,v<N
 cls:∀i,i<M->lv i=true->to i∈out->fr i∈out
 acy:∀i,i<M->lv i=true->fr i∈out->¬Rch M fr to lv (to i) (fr i)
theorem LI.nil:LI M N fr to lv []:=by
 refine⟨?_,(fun _ h=>by cases h),(fun _ _ _ h=>by cases h),(fun _ _ _ h=>by cases h)⟩;show C9 (List.replicate N false)=0
 grind[C9,List.countP_eq_zero]
theorem LI.snoc{M N:Nat}{fr to:Nat->Nat}{lv:Nat->Bool}{a:List Nat}(h:LI M N fr to lv a){v:Nat}(t:v<N)(s:v ∉ a)(m:X3 M fr to lv a v=0):LI M N fr to lv (a++[v]):=by
 have l:∀i,i<M->lv i=true->to i=v->fr i∈a:=fun i hi d e=>by
  unfold X3 at m;rw[List.countP_eq_zero] at m;have:=m i (List.mem_range.2 hi);simpa [d,e] using this
 have r:=Nx h.lt v;refine⟨?_,fun w g=>?_,fun i hi d b=>?_,fun i hi d b c=>?_⟩
 ·rw[m0Z,q0W (by rw[r.1]; exact t) (by rw[r.2]; simpa using s),h.cnt,List.length_append];rfl
 ·rcases List.mem_append.1 g with g | g
  ·exact h.lt w g
  grind
 ·rcases List.mem_append.1 b with b | b
  ·exact List.mem_append_left _ (h.cls i hi d b)
  grind
 ·rcases List.mem_append.1 b with b | b
  ·exact h.acy i hi d b c
  ·have e:=List.mem_singleton.1 b;rw[e] at c;generalize hq:to i=q at c;cases c with
   | refl =>
     grind
   | @step j c n f =>
     have k:=l j n f rfl;refine h.acy j n f k ?_;have o:=Rch.one (M:=M) (fr:=fr) (to:=to) (lv:=lv) hi d;rw[e,hq] at o;exact o.trans c
theorem D0C(r:∀i,i<M->fr i<N)(F:∀i,i<M->to i<N)(o:N<=1000000):AN M N fr to lv N []=none↔Rw M fr to lv:=by
 have j:∀(k:Nat) (a:List Nat),LI M N fr to lv a->a.length+k=N->(AN M N fr to lv k a=none->Rw M fr to lv)/\∀l,AN M N fr to lv k a=some l->LI M N fr to lv l/\l.length=N:=by
  intro k
  induction k with
  | zero=>intro a h t; exact⟨(fun e=>by cases e),fun l e=>by cases e; grind⟩
  | succ k y =>
    intro a h t;show((match M4 M N fr to lv a with | none=>none | some v=>AN M N fr to lv k (a++[v]))=none->_)/\∀l,(match M4 M N fr to lv a with | none=>none | some v=>AN M N fr to lv k (a++[v]))=some l->_;cases hn:M4 M N fr to lv a with
    | none =>
      refine⟨fun _=>?_,fun l e=>by cases e⟩;have H:∀v,v<N->v ∉ a->X3 M fr to lv a v≠0:=fun v c f d=>by
       unfold M4 at hn;rw[List.find?_eq_none] at hn;have:=hn v (List.mem_range.2 c);simp[f,d] at this
      have g:=fun v=>Nx h.lt v;obtain⟨v,c,b⟩:=q0X (N9 N a) (by rw[h.cnt,(g 0).1]; omega);rw[(g v).1] at c;rw[(g v).2] at b;refine I0m M N fr to lv r F o (U:=fun v=>v<N/\v ∉ a) (fun u ⟨E,f⟩=>⟨E,?_⟩) (u:=v) ⟨c,by simpa using b⟩
      grind[X3]
    | some v =>
      obtain⟨w,G⟩:=Nw hn;have d:X3 M fr to lv a v=0:=by
       unfold M4 at hn;have:=List.find?_some hn;simp only[ba,beq_iff_eq] at this;exact this.2
      exact y (a++[v]) (h.snoc w G d) (by grind)
 obtain⟨z,q⟩:=j N [] (LI.nil M N fr to lv) (by simp);refine⟨z,fun⟨i,hi,s,x⟩=>?_⟩;cases ho:AN M N fr to lv N [] with
 | none=>rfl
 | some l =>
   obtain⟨m,P⟩:=q l ho;have f:fr i∈l:=by
    have g:=Nx m.lt (fr i);cases d:l.contains (fr i) with
    | true=>grind
    | false =>
      exfalso;have n:C9 (N9 N l)<N:=by
       have:=Xx (N9 N l) (List.replicate N true) (by grind) (fun v c=>?_) ⟨fr i,by grind,?_⟩
       ·grind[C9,List.replicate,WQ,List.length_replicate]
       ·grind
       ·grind
      rw[m.cnt] at n;omega
   exact(m.acy i hi s f x).elim
end
end Go.Proofs.Xd
end
section
namespace Go.Proofs.YtdjgagoledoaaaaGreatDoor
open Go Go.Proofs Go.Proofs.Sv Go.Proofs.Xv Go.Proofs.Xl Go.Proofs.Xd
section
variable {b:j7}
def NM(b:j7)(i:Nat):Int:=((lV b).getD i (b7 y80)).2.2.1
theorem I0b(h:p8 b=true){i:Nat}(hi:i < (lV b).length):NM b i=1∨((u0 b.2.1 (o6 b i / 2)).2.2.2=true/\(u0 b.2.1 (p6 b i / 2)).2.2.2=false):=by
 have l:=H5 (d:=b7 y80) hi;unfold NM o6 p6;rcases Wy l with ⟨m,j,t,_,_,_,e⟩ | ⟨n,k,t,f,hk,ht,e⟩
 ·left;rw[e]; rfl
 ·right;have f:n<b.2.2.length:=f;obtain⟨q,c,_,_,r⟩:=MW (u0 b.2.1) n (p9 b.2.1).length _ (H5 (d:=0) hk);have c:(x8 b.2.1 n).getD k 0=(q:Int):=c;obtain⟨p,o,g,_,a⟩:=w0b (w0c h f);have a:I8 b n=(p:Int):=a;unfold X2 at g;rw[ba] at g;rw[e,c,a];show(u0 b.2.1 ((2*(p:Int)+(t:Int)).toNat / 2)).2.2.2=true/\(u0 b.2.1 ((2*(q:Int)+(t:Int)).toNat / 2)).2.2.2=false
  grind
end
end Go.Proofs.YtdjgagoledoaaaaGreatDoor
namespace Go.Proofs.Xd
open Go.Proofs.Xl
theorem q0f{M:Nat}{fr to:Nat->Nat}{lv:Nat->Bool}{a c:Nat}(h:Rch M fr to lv a c):a=c∨∃i,i<M/\lv i=true/\fr i=a/\Rch M fr to lv (to i) c:=by
 induction h with
 | refl=>omega
 | @step j g b d f =>
   rcases f with e | ⟨i,h1,h2,h3,h4⟩
   ·exact .inr ⟨j,b,d,e.symm,.refl⟩
   ·exact .inr ⟨i,h1,h2,h3,h4.step b d⟩
theorem z0w{N:Nat}{p:Nat->Bool}{v:Nat}(h:1 < ((List.range N).filter p).length):∃w,w<N/\p w=true/\w≠v:=by
 have c:((List.range N).filter p).Nodup:=List.nodup_range.filter _;have a:∀x∈(List.range N).filter p,x<N/\p x=true:=fun x d=>by
  grind
 generalize (List.range N).filter p=l at h c a
 match l,h with
 | x :: y :: r,_ =>
   have b:x≠y:=fun e=>by
    grind
   by_cases e:x=v
   ·exact⟨y,(a y (by simp)).1,(a y (by simp)).2,fun f=>b (by omega)⟩
   ·exact⟨x,(a x (by simp)).1,(a x (by simp)).2,e⟩
end Go.Proofs.Xd
namespace Go.Proofs.YtdjgagoledoaaaaGreatDoor
open Go Go.Proofs Go.Proofs.Sv Go.Proofs.Xv Go.Proofs.Xl Go.Proofs.Xd
section
variable {b:j7}
def Rx(q:Nat->Bool)(m:Nat):Int:=fN (fun k (l:Int)=>if q k=true then(k:Int) else l) m (-1)
theorem Xy(q:Nat->Bool):∀m,(∃k,k<m/\q k=true)->∃k,k<m/\q k=true/\Rx q m=(k:Int)/\0 < (H6 q m).length/\(H6 q m).getD (((H6 q m).length:Int)-1).toNat 0=(k:Int)
 | 0,⟨k,h,_⟩=>by omega
 | m+1,⟨k,h,hk⟩=>by
   have e:Rx q (m+1)=if q m=true then(m:Int) else Rx q m:=rfl
   have d:H6 q (m+1)=if q m=true then H6 q m++[(m:Int)] else H6 q m:=by
    rw[<- Gd,<- Gd]; rfl
   rw[e,d];by_cases a:q m=true
   ·rw[if_pos a,if_pos a];refine⟨m,by omega,a,rfl,by grind,?_⟩
    simp_all
   ·rw[if_neg a,if_neg a];have b:k<m:=by
     rcases Nat.lt_or_ge k m with c | c
     ·exact c
     ·grind
    obtain⟨i,l,f,g,n,j⟩:=Xy q m ⟨k,b,hk⟩
    grind
abbrev Ry(b:j7)(lv:List Bool)(v w:Nat):Prop:=Rch (lV b).length (o6 b) (p6 b) (fun i=>lv.getD i false) v w
theorem NN(e:p8 b=true){lv:List Bool}(a:lv.length=(lV b).length){v w:Nat}(d:v<j6 b)(c:w<j6 b):J2 b lv v w=true↔Ry b lv v w/\Ry b lv w v:=by
 unfold J2;rw[ba,(NK e a d).1.2 w c,(NK e a c).1.2 v d]
theorem Xz(j:p8 b=true){lv:List Bool}(g:lv.length=(lV b).length){v:Nat}(q:v<j6 b):Ap b lv v=true↔∃i,i < (lV b).length/\lv.getD i false=true/\o6 b i=v/\Ry b lv (p6 b i) v:=by
 unfold Ap;rw[Bool.or_eq_true,dq];have k:NL b lv v=true↔∃i,i < (lV b).length/\lv.getD i false=true/\o6 b i=v/\p6 b i=v:=by
  unfold NL;rw[<- r0q,List.any_eq_true];constructor
  ·grind
  ·grind
 have s:(Ao b lv v).length=((List.range (j6 b)).filter (J2 b lv v)).length:=(Ge _ _).2;constructor
 ·rintro(h | h)
  ·obtain⟨w,o,n,r⟩:=z0w (v:=v) (show 1 < ((List.range (j6 b)).filter (J2 b lv v)).length by omega);obtain⟨l,m⟩:=(NN j g q o).1 n;rcases q0f l with e | ⟨i,a,d,c,f⟩
   ·omega
   ·exact⟨i,a,d,c,f.trans m⟩
  ·obtain⟨i,a,d,c,f⟩:=k.1 h;exact⟨i,a,d,c,by rw[f]; exact .refl⟩
 ·rintro⟨i,a,d,c,f⟩;by_cases e:p6 b i=v
  ·grind
  ·left;obtain⟨_,_,_,t⟩:=M8 b j a
   grind[NN,Rch.one,Nat.lt_or_ge,q0M,Xw]
theorem z0L(c:p8 b=true){lv:List Bool}(a:lv.length=(lV b).length){v:Nat}(f:v<j6 b)(h:Ap b lv v=true):∃k,k < (lV b).length/\lv.getD k false=true/\NM b k=1/\J2 b lv v (o6 b k)=true/\J2 b lv v (p6 b k)=true:=by
 obtain⟨i,d,l,m,q⟩:=(Xz c a f).1 h;obtain⟨_,_,_,s⟩:=M8 b c d;have n:Ry b lv v (p6 b i):=by
  have:=Rch.one (M:=(lV b).length) (fr:=o6 b) (to:=p6 b) (lv:=fun i=>lv.getD i false) d l;rw[m] at this; exact this
 rcases I0b c d with g | ⟨_,k2⟩
 ·exact⟨i,d,l,g,by rw[m]; exact Xw c a f,(NN c a f s).2 ⟨n,q⟩⟩
 ·rcases q0f q with e | ⟨j,j1,j2,j3,j4⟩
  ·grind
  ·obtain⟨_,_,t,r⟩:=M8 b c j1;have o:=Rch.one (M:=(lV b).length) (fr:=o6 b) (to:=p6 b) (lv:=fun i=>lv.getD i false) j1 j2;rw[j3] at o;rcases I0b c j1 with g | ⟨k3,_⟩
   ·exact⟨j,j1,j2,g,by grind[NN],(NN c a f r).2 ⟨n.trans o,j4⟩⟩
   grind
theorem Rz(b:j7)(lv:List Bool):∀m,m<=j6 b->((fN (P4 b lv) m (List.replicate (j6 b) false,[]))=(List.replicate (j6 b) false,[])/\∀v,v<m->Ap b lv v=false)∨∃v t,v<m/\Ap b lv v=true/\(fN (P4 b lv) m (List.replicate (j6 b) false,[])).2=Ao b lv v :: t
 | 0,_=>.inl ⟨rfl,fun v h=>by omega⟩
 | m+1,h=>by
   have e:fN (P4 b lv) (m+1) (List.replicate (j6 b) false,[])=P4 b lv m (fN (P4 b lv) m (List.replicate (j6 b) false,[])):=rfl;rw[e];rcases Rz b lv m (by omega) with ⟨c,a⟩ | ⟨v,t,c,a,h3⟩
   ·rw[c];have d:(List.replicate (j6 b) false).getD m false=false:=by
     rw[gq,List.getElem?_replicate];split <;> rfl
    unfold P4;show(if(List.replicate (j6 b) false).getD m false=true then _ else _)=_/\_∨∃v t,_/\_/\(if(List.replicate (j6 b) false).getD m false=true then _ else _:List Bool×List (List Int)).2=_;rw[d];cases hc:Ap b lv m with
    | false =>
      left;refine⟨rfl,fun v f=>?_⟩;by_cases e:v=m
      ·rw[e]; exact hc
      ·exact a v (by omega)
    | true=>exact .inr ⟨m,[],by omega,hc,rfl⟩
   ·right;generalize fN (P4 b lv) m (List.replicate (j6 b) false,[])=s at h3;unfold P4;split
    ·exact⟨v,t,by omega,a,h3⟩
    ·split
     ·exact⟨v,t++[Ao b lv m],by omega,a,by show s.2++[_]=_; rw[h3]; rfl⟩
     ·exact⟨v,t,by omega,a,h3⟩
def Ih(b:j7)(lv:List Bool):Bool:=!(T6 (M9 b lv [] (j6 b))).2
theorem v0z(a:p8 b=true){lv:List Bool}(d:lv.length=(lV b).length):Ih b lv=true↔∃v,v<j6 b/\Ap b lv v=true:=by
 have j:=Am b a;have k:=D0C (lV b).length (j6 b) (o6 b) (p6 b) (fun i=>lv.getD i false) (fun i hi=>(M8 b a hi).2.2.1) (fun i hi=>(M8 b a hi).2.2.2) j;have c:Ih b lv=true↔M9 b lv [] (j6 b)=none:=by
  unfold Ih;cases M9 b lv [] (j6 b) with
  | none=>exact⟨fun _=>rfl,fun _=>rfl⟩
  | some l=>exact⟨fun h=>(by cases h),fun h=>(by cases h)⟩
 rw[c];refine k.trans ⟨?_,?_⟩
 ·rintro⟨i,c,e,f⟩;obtain⟨_,_,g,_⟩:=M8 b a c;exact⟨o6 b i,g,(Xz a d g).2 ⟨i,c,e,rfl,f⟩⟩
 ·rintro⟨v,m,h⟩;obtain⟨i,c,e,f,n⟩:=(Xz a d m).1 h;exact⟨i,c,e,by grind⟩
def Cg(b:j7)(lv:List Bool):List Int:=(Aq b lv).getD 0 []
def qB(b:j7)(lv:List Bool)(k:Nat):Bool:=lv.getD k false&&(NM b k==1&&D1 (Cg b lv) (o6 b k:Int)&&D1 (Cg b lv) (p6 b k:Int))
theorem s0h(d:p8 b=true){lv:List Bool}(c:lv.length=(lV b).length)(h:Ih b lv=false):Aq b lv=[]:=by
 unfold Aq;rcases Rz b lv (j6 b) (Nat.le_refl _) with ⟨a,_⟩ | ⟨v,t,a,h2,_⟩
 ·rw[a]
 grind[v0z]
theorem k0n(c:p8 b=true){lv:List Bool}(a:lv.length=(lV b).length)(h:Ih b lv=true):0 < (Aq b lv).length/\∃k,k < (lV b).length/\qB b lv k=true:=by
 obtain⟨n,g,r⟩:=(v0z c a).1 h;unfold qB Cg;have d:∃v t,v<j6 b/\Ap b lv v=true/\Aq b lv=Ao b lv v :: t:=by
  unfold Aq;rcases Rz b lv (j6 b) (Nat.le_refl _) with ⟨_,f⟩ | ⟨v,t,h1,f,h3⟩
  ·grind
  ·grind
 obtain⟨v,t,m,l,e⟩:=d;rw[e];refine⟨by grind,?_⟩;obtain⟨k,i,u,k3,q,y⟩:=z0L c a m l;obtain⟨_,_,x,z⟩:=M8 b c i;have j:∀w,w<j6 b->J2 b lv v w=true->D1 (Ao b lv v) (w:Int)=true:=fun w s o=>by
  rw[E0d];unfold Ao H6
  grind
 grind
end
section
variable {b:j7}
def Kh(b:j7)(lv:List Bool):Int:=Rx (qB b lv) (lV b).length
theorem z0v(c:p8 b=true){lv:List Bool}(_:lv.length=(lV b).length):(Cg b lv).length<=1000000:=by
 have d:=Am b c;unfold Cg Aq;rcases Rz b lv (j6 b) (Nat.le_refl _) with ⟨a,_⟩ | ⟨v,t,_,_,h3⟩
 ·rw[a]; exact Nat.zero_le _
 ·rw[h3];have:=w0o b lv v;show(Ao b lv v).length<=_;omega
theorem D0r(T:wf k8 b)(a:p8 b=true):∃l:List Int,l.length<=6000/\FD b=some l:=by
 have hM:=R3 a;have hN:=Am b a;have ll:(C4 (lV b).length []).length=(lV b).length:=FO _ _;obtain⟨d,r2,f,e2⟩:=Wz (F:=G0k (lV b) (j6 b:Int)) (J:=fun t=>Mp t) C9 (fun t=>t.length=(lV b).length) (Ih b) (fun t=>t.set (Kh b t).toNat false)
  (fun g t c=>by
    have G:Hn (j6 b:Int) (lV b) t=some (Aq b t):=N0r a c;show gd ((Hn (j6 b:Int) (lV b) t).isSome=true/\True) _=_;rw[G,vS,gP ⟨rfl,trivial⟩,lE];cases f:Ih b t with
    | false =>
      rw[s0h a c f];rfl
    | true =>
      obtain⟨V,r⟩:=k0n a c f;obtain⟨k,k1,m,k3,k4,k5⟩:=Xy (qB b t) _ r;have y:¬(((Aq b t).length:Int)==0)=true:=by rw[beq_iff_eq]; omega
      refine(if_neg y).trans ?_;have X:=z0v a c;refine(lF (n:=(lV b).length) (by omega) (fun i (s:Int)=>(s,(i:Int))) (fun i (s:Int)=>if qB b t i=true then(i:Int) else s) (fun _ _=>True) (J:=fun s=>Mq t g s) (F:=G0j t (lV b) (Aq b t) g) (fun z i s hi _=>?_) (fun _ _ _ _=>trivial) (fun z s _=>aE) (-1) trivial).trans ?_
      ·have e:((i:Int)).toNat=i:=rfl;obtain⟨f1,f2,_⟩:=M8 b a hi;have Y:U6 ((Aq b t).getD (Int.toNat (0:Int)) []) ((lV b).getD ((i:Int)).toNat (b7 y80)).1=some (D1 (Cg b t) (o6 b i:Int)):=by
        rw[e,f1]; exact Xe (Cg b t) _ (by omega)
       have hz:U6 ((Aq b t).getD (Int.toNat (0:Int)) []) ((lV b).getD ((i:Int)).toNat (b7 y80)).2.1=some (D1 (Cg b t) (p6 b i:Int)):=by
        rw[e,f2]; exact Xe (Cg b t) _ (by omega)
       refine(if_pos (decide_eq_true (by omega))).trans ?_;rw[Y,hz,vS,vS];have E:ix (i:Int) (lV b).length:=oo;have u:((i:Int)).toNat < (lV b).length:=hi;have Q:ix (0:Int) (Aq b t).length:=oo;refine(gP ⟨oo,by omega,(fun _=>E),(fun _=>u),(fun _=>Q),(fun _=>V),(fun _=>E),(fun _=>u),(fun _=>rfl),(fun _=>Q),(fun _=>V),(fun _=>E),(fun _=>u),(fun _=>rfl),trivial⟩).trans ?_;have eq:(t.getD ((i:Int)).toNat false&&((lV b).getD ((i:Int)).toNat (b7 y80)).2.2.1==(1:Int)&&D1 (Cg b t) (o6 b i:Int)&&D1 (Cg b t) (p6 b i:Int))=qB b t i:=by
        unfold qB NM;rw[e,Bool.and_assoc,Bool.and_assoc,Bool.and_assoc]
       rw[eq];have P:∀x,Qa (i:Int) z x=z (x,((i+1:Nat):Int)):=fun x=>gP ⟨oo,trivial⟩;rw[P,P];by_cases h:qB b t i=true
       ·rw[if_pos h,if_pos h]
       ·rw[if_neg h,if_neg h]
      ·show Mq t g (Kh b t)=_;have q:Kh b t=(k:Int):=k3;rw[Mq,q];refine(gP ⟨oo,by show k<t.length; omega,trivial⟩).trans ?_;rfl)
  (fun t c f=>by
    have c:t.length=(lV b).length:=c;obtain⟨_,r⟩:=k0n a c f;obtain⟨k,k1,m,k3,_,_⟩:=Xy (qB b t) _ r;have q:Kh b t=(k:Int):=k3;have hk:t.getD k false=true:=by
     unfold qB at m;rw[ba] at m;exact m.1
    have W:∀w,(t.set k false).getD w false=if w=k then false else t.getD w false:=fun w=>JW false (by omega)
    have H:C9 (t.set k false)<C9 t:=by
     refine Xx _ _ (by rw[List.length_set]) (fun v o=>?_) ⟨k,by rw[W,if_pos rfl],hk⟩;rw[W] at o;split at o
     ·cases o
     ·exact o
    show(t.set (Kh b t).toNat false).length=(lV b).length/\C9 (t.set (Kh b t).toNat false)<C9 t;rw[q,Int.toNat_natCast];exact⟨by rw[List.length_set]; exact c,H⟩)
  (C4 (lV b).length []) ll (by
    have:=WQ (C4 (lV b).length []);omega)
 refine⟨H6 (fun k=>!d.getD k false) (lV b).length,by have:=(Ge (fun k=>!d.getD k false) (lV b).length).1; omega,?_⟩
 ·unfold FD;rw[Nj b T a,vS,gP ⟨rfl,trivial⟩,lE,Xf _ _ (by omega) (Nat.zero_le _),vS,gP ⟨rfl,trivial⟩,lE,Rn b T a,vS,gP ⟨rfl,trivial⟩,lE];refine e2.trans ?_;show Mp d=_;rw[Mp,<- Gd];refine lF (n:=(lV b).length) (by omega) (fun(i:Nat) (s:List Int)=>((i:Int),s)) (fun i s=>if(!d.getD i false)=true then s++[(i:Int)] else s) (fun i s=>s.length<=i) (J:=fun s=>some s) (F:=G0i d) (fun g i s hi j=>?_) (fun i s hi j=>?_) (fun g s _=>?_) [] (Nat.le_refl _)
  ·have j:s.length<=i:=j;have e:((i:Int)).toNat=i:=rfl;refine(if_pos (decide_eq_true (by omega))).trans ?_;refine(gP ⟨oo,by omega,trivial⟩).trans ?_;rw[e];by_cases h:(!d.getD i false)=true
   ·rw[if_pos h,if_pos h];refine(gP ⟨⟨by show s.length+1<=_; omega,by show(s.length+1)*8<=_; omega⟩,trivial⟩).trans ?_;exact gP ⟨oo,trivial⟩
   ·rw[if_neg h,if_neg h];exact gP ⟨oo,trivial⟩
  ·have j:s.length<=i:=j;split
   ·rw[List.length_append,List.length_singleton]; omega
   ·omega
  ·exact if_neg (by rw[dq]; omega)
end
def Ki(l:List m6):Prop:=∀x∈l,-1000<=x.2.1.2/\x.2.1.2<=1000
def XA{ρ:Type}(v78 v117:Int)(v118:List m6)(s:l6)(K:List m6×List Int×Int×Int->Option ρ):Option ρ :=
     gd ((c8 s 200).isSome=true/\c9 ((vl (c8 s 200)).1-50)/\(c8 (vl (c8 s 200)).2 30).isSome=true/\True)<|lt ((vl (c8 s 200),vl (c8 (vl (c8 s 200)).2 30))) fun(v137,v138) =>
     gd (c9 (2*v78)/\c9 (2*v78+v117)/\(c8 v138.2 40).isSome=true/\c9 (v137.1-50+(vl (c8 v138.2 40)).1)/\(c8 (vl (c8 v138.2 40)).2 12).isSome=true/\c9 (v138.1+(vl (c8 (vl (c8 v138.2 40)).2 12)).1)/\(v118.length+[(2*v78+v117,(v137.1-50,v137.1-50+(vl (c8 v138.2 40)).1),v138.1,v138.1+(vl (c8 (vl (c8 v138.2 40)).2 12)).1)].length<=9223372036854775807/\(v118.length+[(2*v78+v117,(v137.1-50,v137.1-50+(vl (c8 v138.2 40)).1),v138.1,v138.1+(vl (c8 (vl (c8 v138.2 40)).2 12)).1)].length)*40<=140737488355328)/\True)<|lt ((vl (c8 v138.2 40),vl (c8 (vl (c8 v138.2 40)).2 12),v118++[(2*v78+v117,(v137.1-50,v137.1-50+(vl (c8 v138.2 40)).1),v138.1,v138.1+(vl (c8 (vl (c8 v138.2 40)).2 12)).1)],[(2*v78+v117,(v137.1-50,v137.1-50+(vl (c8 v138.2 40)).1),v138.1,v138.1+(vl (c8 (vl (c8 v138.2 40)).2 12)).1)])) fun(_,v140,v141,_) =>
     K (v141,v140.2.1,v140.2.2.1,v140.2.2.2)
theorem x0J{ρ:Type}{P:ρ->Prop}{b a:Int}{l:List m6}{s:l6}{K:List m6×List Int×Int×Int->Option ρ}(h:Sd s)(F:0<=b)(a1:b<=1000)(b0:0<=a)(b1:a<=2)(E:l.length<=10000)(k:Ki l)(j:∀l' s',Sd s'->l'.length=l.length+1->Ki l'->∃r,K (l',s')=some r/\P r):∃r,XA b a l s K=some r/\P r:=by
 obtain⟨x1,W,w,q,H,d,-⟩:=z7 (n:=200) h (by omega);have d:=d (by omega);obtain⟨G,X,t,v,c2,f,-⟩:=z7 (n:=30) q (by omega);have f:=f (by omega);obtain⟨Q,T,u,i,z,e,-⟩:=z7 (n:=40) v (by omega);have e:=e (by omega);obtain⟨V,o,m,y,Y,g,-⟩:=z7 (n:=12) i (by omega);have g:=g (by omega);unfold XA;simp only[w,t,vS,Option.isSome_some];refine l5 ⟨trivial,oo,trivial,trivial⟩ (x7 ?_);dsimp only;simp only[u,m,vS,Option.isSome_some];refine l5 ⟨oo,oo,trivial,oo,trivial,oo,⟨by rw[List.length_singleton]; omega,by rw[List.length_singleton]; omega⟩,trivial⟩ (x7 ?_);dsimp only;refine j _ o y (by rw[List.length_append,List.length_singleton]) fun x c=>?_;rcases List.mem_append.1 c with c | c
 ·exact k x c
 ·rw[List.mem_singleton.1 c];exact⟨by simp only; omega,by simp only; omega⟩
theorem z0E{l:List m6}{s:l6}(h:Sd s)(E:l.length<=10000)(u:Ki l):∃r,Qp (l,s.1,s.2.1,s.2.2)=some r/\(Sd r.2/\r.1.length<=20000):=by
 have a:∀(j:List m6) (g:l6),Sd g->j.length<=20000->∃r,FH (j,g.1,g.2.1,g.2.2)=some r/\(Sd r.2/\r.1.length<=20000):=fun j g w o=>⟨_,rfl,w,o⟩;unfold Qp;dsimp only;split
 ·rename_i t;have t:=of_decide_eq_true t;obtain⟨k,y,z,v,i,b,-⟩:=z7 (n:=(l.length:Int)) h (by omega);have b:=b (by omega);obtain⟨m,e,x,f,G,F,-⟩:=z7 (n:=30) v (by omega);have q:c8 (s.1,s.2.1,s.2.2) (l.length:Int)=some (k,y):=z;simp only[q,vS,Option.isSome_some];refine l5 ⟨trivial,trivial⟩ (x7 ?_);dsimp only;simp only[x,vS,Option.isSome_some];refine l5 ⟨trivial,trivial⟩ (x7 ?_);dsimp only;have c:k.toNat<l.length:=by omega
  have H:=u _ (H5 (d:=b7 y53) c);split
  ·refine l5 ⟨oo,by show(0:Int).toNat<l.length; simp; omega,⟨i,b⟩,c,trivial⟩ (x7 ?_);exact a _ e f (by rw[List.length_set]; omega)
  ·split
   ·refine l5 ⟨⟨i,b⟩,c,oo,⟨i,b⟩,c,trivial⟩ (x7 ?_);exact a _ e f (by rw[List.length_set]; omega)
   ·split
    ·refine l5 ⟨⟨i,b⟩,c,trivial⟩ (x7 ?_);exact a _ e f (by rw[List.length_set]; omega)
    ·split
     ·refine l5 ⟨⟨i,b⟩,c,trivial⟩ (x7 ?_);exact a _ e f (by rw[List.length_set]; omega)
     ·exact a _ e f (by omega)
 ·exact a _ s h (by omega)
theorem E0p{s:l6}(h:Sd s){b:j7}(Y:wf k8 b)(hm:cnt k8 b<=20000):∃r,u64 s b=some r/\(Sd r.2/\r.1.length<=20000):=by
 unfold u64;simp only[JO b Y (Nat.le_trans hm (by decide)),vS,Option.isSome_some];cases hb:p8 b with
 | false =>
   refine l5 ⟨trivial,trivial⟩ ?_;rw[if_pos (by decide)];exact⟨_,rfl,h,by simp⟩
 | true =>
   refine l5 ⟨trivial,trivial⟩ ?_;rw[if_neg (by decide)];have m:=T4 (V5 hb).1;have hp:(L7 b.2.1.1.length b.2.1.2.2.length (m7 b.2.1) (A6 b.2.1)).length<=78:=m.len;simp only[DI b.2.1 Y.2.1 m.fac.ni14 m.fac.np8 m.pin,vS,Option.isSome_some];refine l5 ⟨trivial,trivial⟩ (x7 ?_);generalize L7 b.2.1.1.length b.2.1.2.2.length (m7 b.2.1) (A6 b.2.1)=M at hp;refine P2 (fun x=>79-x.1.toNat) (fun x=>Sd (x.2.2.1,x.2.2.2.1,x.2.2.2.2)/\0<=x.1/\x.1<=(M.length:Int)/\(x.2.1.length:Int)<=2*x.1/\Ki x.2.1) ?_ ⟨h,by simp only; omega,by simp only; omega,by simp,fun _ h=>by cases h⟩ (by simp only; omega);rintro g ⟨i,l,c,z,H⟩ ⟨G,i2,i3,i4,i5⟩ ih;simp only at G i2 i3 i4 i5;unfold G0h;dsimp only;by_cases q:i < (M.length:Int)
   ·rw[if_pos (decide_eq_true q)];refine l5 ⟨⟨i2,q⟩,by omega,fun _=>⟨i2,q⟩,fun _=>by omega,trivial⟩ ?_;refine P2 (fun x=>3-x.1.toNat) (fun x=>Sd (x.2.2.1,x.2.2.2.1,x.2.2.2.2)/\0<=x.1/\x.1<=2/\(x.2.1.length:Int)<=2*i+x.1/\Ki x.2.1) ?_ ⟨G,by simp only; omega,by simp only; omega,by simp only; omega,i5⟩ (by simp only; omega);rintro T ⟨j,y,c3,aA,aB⟩ ⟨o,V,j3,j4,k⟩ E;simp only at o V j3 j4 k;have u:∀(f:List m6) (a:l6),Sd a->j<2->(f.length:Int)<=2*i+j+1->Ki f->∃r,Bj j T (f,a.1,a.2.1,a.2.2)=some r/\(Sd r.2/\r.1.length<=20000):=fun f a w hj F d=>by
     unfold Bj;dsimp only;exact l5 ⟨oo,trivial⟩ (E _ ⟨w,by simp only; omega,by simp only; omega,by simp only; omega,d⟩ (by simp only; omega))
    have t:∀(a:l6),Sd a->j<2->∃r,XA i j y a (Bj j T)=some r/\(Sd r.2/\r.1.length<=20000):=fun a w hj=>x0J w i2 (by omega) V (by omega) (by omega) k fun f P v F d=>u f P v hj (by omega) d
    unfold G0g;dsimp only;by_cases e:j<2
    ·rw[if_pos (decide_eq_true e)];obtain⟨x1,s1,e1,W,-,-,-⟩:=z7 (n:=8) o (by omega);obtain⟨x2,s2,e2,h2,-,-,-⟩:=z7 (n:=24) W (by omega);obtain⟨x3,X,e3,Q,-,-,-⟩:=z7 (n:=24) o (by omega);refine l5 trivial ?_;split
     ·simp only[e1,vS,Option.isSome_some];refine l5 ⟨trivial,trivial⟩ (l5 trivial ?_);split
      ·refine l5 trivial (l5 trivial ?_);rw[if_pos (show(true||false)=true from rfl)];exact t s1 W e
      ·simp only[e2,vS,Option.isSome_some];refine l5 ⟨trivial,trivial⟩ (l5 trivial ?_);split
       ·exact t s2 h2 e
       ·exact u y s2 h2 e (by omega) k
     ·refine l5 trivial (l5 trivial ?_);rw[if_neg (by decide)];simp only[e3,vS,Option.isSome_some];refine l5 ⟨trivial,trivial⟩ (l5 trivial ?_);split
      ·exact t X Q e
      ·exact u y X Q e (by omega) k
    ·rw[if_neg (by simpa using e)];unfold Vq;dsimp only;exact l5 ⟨oo,trivial⟩ (ih _ ⟨o,by simp only; omega,by simp only; omega,by simp only; omega,k⟩ (by simp only; omega))
   ·rw[if_neg (by simpa using q)];exact z0E (s:=(c,z,H)) G (by omega) i5
section
variable [Alw]
theorem XB{b:j7}(f:wf k8 b)(c:cnt k8 b<=20000){v1:p7×l6}{l:List Int}(i:l.length<=20000){s:l6}(h:Sd s):∃r,Hy b.1 b.2.1.1 b.2.1.2.1 b.2.1.2.2 b.2.2 v1 (l,s.1,s.2.1,s.2.2)=some r/\True:=by
 obtain⟨r,e,d,a⟩:=E0p h f c;have g:u64 (s.1,s.2.1,s.2.2) (b.1,(b.2.1.1,b.2.1.2.1,b.2.1.2.2),b.2.2)=some r:=e;unfold Hy;simp only[g,vS,Option.isSome_some];exact l5 ⟨trivial,trivial⟩ (x7 (l5 ⟨d.1,c,i,a⟩ ⟨_,rfl,trivial⟩))
theorem n0F{b:j7}(a:wf k8 b)(c:cnt k8 b<=20000){v1:p7×l6}{s:l6}(h:Sd s):∃r,MQ v1 (b.1,b.2.1.1,b.2.1.2.1,b.2.1.2.2,b.2.2,s.1,s.2.1,s.2.2)=some r/\True:=by
 obtain⟨r,e,g,t⟩:=I0w h a c;have q:Jn (s.1,s.2.1,s.2.2) (b.1,(b.2.1.1,b.2.1.2.1,b.2.1.2.2),b.2.2)=some r:=e;have k:U7 (b.1,(b.2.1.1,b.2.1.2.1,b.2.1.2.2),b.2.2)=some (p8 b):=JO b a (Nat.le_trans c (by decide));obtain⟨x,j,m,i,-,-,-⟩:=z7 (n:=6) g (by omega);unfold MQ;simp only[q,k,vS,Option.isSome_some];refine l5 ⟨trivial,trivial⟩ (x7 ?_);refine l5 ⟨trivial,trivial⟩ ?_;by_cases d:(p8 b&&(r.1.length:Int)==0)=true
 ·rw[if_pos d];rw[ba] at d;obtain⟨l,u,o⟩:=D0r a d.1;have f:FD (b.1,(b.2.1.1,b.2.1.2.1,b.2.1.2.2),b.2.2)=some l:=o;simp only[m,f,vS,Option.isSome_some];refine l5 ⟨trivial,trivial⟩ (l5 trivial ?_);split
  ·refine l5 ⟨trivial,trivial⟩ (x7 ?_);exact XB (l:=l) (s:=j) a c (by omega) i
  ·exact XB (l:=r.1) (s:=j) a c (by omega) i
 ·rw[if_neg d];refine l5 trivial (l5 trivial ?_);rw[if_neg (by decide)];exact XB (l:=r.1) (s:=r.2) a c (by omega) g
omit [Alw] in
theorem wfB{v:j7×l6}(h:Ic (Hx v)):wf k8 v.1:=⟨h.1,⟨h.2.1,h.2.2.1,h.2.2.2.1⟩,h.2.2.2.2.1⟩
theorem E0E{s:l6}(h:Sd s):QH s=some ():=by
 refine O1 ?_;unfold QH;refine l5 ⟨trivial,h.1⟩ (Al ?_);intro f ⟨⟨q,o⟩,k,hz⟩;refine O1 (l5 trivial ?_);have a:=Cd hz q;obtain⟨u,m,i,r⟩:=I0p (s:=Jy f) a;obtain⟨x,t,j,d,-,-,-⟩:=z7 (n:=3) i (by omega);simp only[m,vS,Option.isSome_some];refine l5 ⟨trivial,trivial⟩ (x7 ?_);simp only[j,vS,Option.isSome_some];refine l5 ⟨trivial,trivial⟩ (x7 ?_);dsimp only;split
 ·refine l5 ⟨trivial,Rl d.1 (by decide) (by decide)⟩ (Al ?_);intro e ⟨⟨l,_,_,_,g⟩,c,b⟩;refine O1 (l5 trivial ?_);exact n0F (s:=P7 e) (wfB c) (Nat.le_trans g (by decide)) (Cd b l)
 ·exact n0F (wf9 k) o d
theorem P0d:VH:=e28 Xb P0c fun _ a b=>E0E (Cd a.1 b)
theorem z0G{c:List Int}(h:wf (.sl (.int .u8)) c):u8 c=some ():=by
 obtain⟨s,e,a⟩:=E0h h;refine O1 ?_;unfold u8;simp only[e,vS,Option.isSome_some];refine l5 ⟨trivial,trivial⟩ (x7 ?_);refine l5 ⟨trivial,a.1⟩ (Al ?_);intro g ⟨⟨_,f,d,b⟩,_,_⟩;exact O1 (l5 trivial (l5 ⟨f,d,b⟩ ⟨_,rfl,trivial⟩))
theorem kw8:K8:=e8 P0d fun _ a _=>z0G a.1
end
end Go.Proofs.YtdjgagoledoaaaaGreatDoor
end
