/- A node's values: both ways say the same. -/
import Derived.Test.YtdjgagoledoaaaaGreatDoorWB
import Derived.Test.YtdjgagoledoaaaaGreatDoorF86c
set_option maxHeartbeats 0
section
namespace Go.Proofs.YtdjgagoledoaaaaGreatDoor
open Go Go.Proofs Go.Proofs.Sv Go.Proofs.Xv Go.Proofs.Xl Go.Proofs.Xd
theorem v0U{a:Type}(q:a->Bool)(d:a)(l:List a):l.find? q=((List.range l.length).find? fun i=>q (l.getD i d)).map fun i=>l.getD i d:=by
 cases h:(List.range l.length).find? fun i=>q (l.getD i d) with
 | none =>
   rw[List.find?_eq_none] at h;refine List.find?_eq_none.2 fun x b=>?_;obtain⟨i,hi,rfl⟩:=List.mem_iff_getElem.1 b
   simp_all
 | some i =>
   grind[List.find?_range_eq_some,hi,List.find?_eq_some_iff_getElem,List.getElem?_eq_getElem]
theorem y0z(l:List m8)(v:Nat)(c:l.length<=9223372036854775807):Qx l (v:Int)=some (match(List.range l.length).find? (fun i=>(l.getD i (b7 y53)).1==(v:Int)) with | some i=>(i:Int) | none => -1):=by
 have a:=FY c (fun i=>(l.getD i (b7 y53)).1==(v:Int)) (fun i=>some (i:Int)) (e:=some (-1)) (F:=j0S l (v:Int)) 0 (Nat.zero_le _) (fun g i _ hi=>by
  have d:((i:Int)).toNat=i:=rfl;refine(if_pos (decide_eq_true (by omega))).trans ?_;rw[d];refine(gP ⟨oo,rfl,trivial⟩).trans ?_;show(if((l.getD i (b7 y53)).1==(v:Int))=true then _ else _)=_;by_cases b:((l.getD i (b7 y53)).1==(v:Int))=true
  ·simp_all
  ·rw[if_neg b,if_neg b];exact gP ⟨oo,trivial⟩) (fun g=>if_neg (by simp))
 rw[Nat.sub_zero,<- List.range_eq_range'] at a;refine Eq.trans a ?_
 grind
def M0j(v:Nat)(o:Option r5):m8×Bool:=match o with
 | some x=>(((v:Int),x.1,x.2),true)
 | none=>((0,(0,0),0,0),false)
theorem r96(l:List m8)(v:Nat)(b:l.length<=9223372036854775807):My l (v:Int)=some (M0j v (H7 l v)):=by
 unfold My;rw[y0z l v b,vS,gP ⟨rfl,trivial⟩,lE];unfold H7;rw[v0U _ (b7 y53)];cases h:(List.range l.length).find? fun i=>(l.getD i (b7 y53)).1==(v:Int) with
 | none=>rfl
 | some i =>
   rw[List.find?_range_eq_some] at h;obtain⟨a,c,-⟩:=h;have hi:=List.mem_range.1 c;have d:((i:Int)).toNat=i:=rfl;have a:(l.getD i (b7 y53)).1=(v:Int):=by simpa using a
   show(if decide ((0:Int)<=(i:Int))=true then _ else _)=_;refine(if_pos (decide_eq_true (by omega))).trans ?_;show gd (ix (i:Int) l.length/\True) _=_;rw[d];refine(gP ⟨oo,trivial⟩).trans ?_;rw[lE];show some (l.getD i (b7 y53),true)=some (((v:Int),(l.getD i (b7 y53)).2.1,(l.getD i (b7 y53)).2.2),true)
   grind
def NP(v:Nat)(o:Option r5):Bool×m8:=match o with
 | some x=>(true,(v:Int),x.1,x.2)
 | none=>(false,0,(0,0),0,0)
section
variable {b:j6}
theorem Gc{t:NH}{v:Nat}:K4 t v=if t.1.getD v false=true then some (t.2.1.getD v (0,0),t.2.2.getD v (0,0)) else none:=rfl
end
def O8(v i:Nat)(o:Option r5):Bool×Int×Int×Int×Int×Int×Int:=match o with
 | some x=>(true,(i:Int),(v:Int),x.1.1,x.1.2,x.2.1,x.2.2)
 | none=>(false,(i:Int),0,0,0,0,0)
section
variable {b:j6}
theorem p0W(e:wf l6 b)(i:cnt l6 b<=1048576)(a:p6 b=true){c:o5}(d:wf o8 c)(h:D3 c=true){k:Nat}(g:k < (lV b).length){sp:Sp}(f:A7 sp=true):Fk b c ((lV b).getD k (b7 y80)) sp=some (C7 b c k sp):=by
 obtain⟨v,j,l⟩:=s0z e a h (RP g) sp f
 grind[RQ]
theorem I0n(hw:wf l6 b)(hm:cnt l6 b<=1048576)(z:p6 b=true){c:o5}(r:wf o8 c)(hc:D3 c=true){br:List Int}{ss:List m8}(hl:ss.length<=9223372036854775807)(hi:BT ss){t:NH}(E:BU (j5 b) t)(v:Nat) :
  Jq b c (lV b) (A0 (lV b).length br) ss t (v:Int)=some (NP v (Ah b c br ss (K4 t) v)):=by
 have hM:=K3 z;have aA:=NN (lV b).length br;have X:∀o,Jp (v:Int) t b c (A0 (lV b).length br) (lV b) ((O8 v 0 o).1,(O8 v 0 o).2.2)=some (NP v (fN (DG (m5 b) (o9 b) (D4 b br) (C7 b c) (K4 t) v) (lV b).length o)):=by
  intro o;rw[Jp];have e0:((O8 v 0 o).1,(0:Int),(O8 v 0 o).2.2.1,(O8 v 0 o).2.2.2.1,(O8 v 0 o).2.2.2.2.1,(O8 v 0 o).2.2.2.2.2.1,(O8 v 0 o).2.2.2.2.2.2)=O8 v 0 o:=by cases o <;> rfl
  rw[e0];refine lF (n:=(lV b).length) (by omega) (fun i o=>O8 v i o) (fun k o=>DG (m5 b) (o9 b) (D4 b br) (C7 b c) (K4 t) v k o) (fun _ _=>True) (J:=fun o=>some (NP v o)) (F:=G0j (v:Int) t b c (A0 (lV b).length br) (lV b)) (fun g k o Y _=>?_) (fun _ _ _ _=>trivial) (fun g o _=>?_) o trivial
  ·have W:Int.toNat ((k:Nat):Int)=k:=rfl;obtain⟨f1,f2,f3,f4⟩:=J8 b z Y;have H:=E.vals _ f3;have n1:=E.l1;have n2:=E.l2;have n3:=E.l3;have e6:Int.toNat ((m5 b k:Nat):Int)=m5 b k:=rfl;have a:∀(q:Bool) (G Q T V P:Int) (y:Option r5),O8 v (k+1) y=(q,(k:Int)+1,G,Q,T,V,P)->Jo (k:Int) g (q,G,Q,T,V,P)=g (O8 v (k+1) y):=fun q G Q T V P y e=>by
    rw[e];exact gP ⟨oo,trivial⟩
   obtain⟨q,u,l,w,s,x,d⟩:∃q u l w s x,O8 v k o=(q,(k:Int),u,l,w,s,x):=by cases o <;> exact⟨_,_,_,_,_,_,rfl⟩
   rw[d];refine(if_pos (decide_eq_true (by omega))).trans ?_;refine(gP ⟨oo,trivial⟩).trans ?_;rw[lE,W];have ne:(((lV b).getD k (b7 y80)).2.1 != (v:Int))=!(o9 b k==v):=by
    rw[f2];by_cases h:o9 b k=v
    ·grind
    ·grind
   rw[ne,f1,e6];refine(gP ⟨oo,(fun _=>oo),trivial⟩).trans ?_;show(if(!D4 b br k||!(o9 b k==v)||!t.1.getD (m5 b k) false)=true then _ else _)=_;unfold DG;by_cases m:(D4 b br k&&o9 b k==v)=true
   ·rw[if_pos m,Gc];rw[ba] at m;rw[m.1,m.2];by_cases j:t.1.getD (m5 b k) false=true
    ·rw[if_pos j,j];rw[if_neg (by simp)];have es:=p0W hw hm z r hc Y H.2.1;have ok:=Kg hw hm z r hc Y H.2.1;have hs:=Ga.1 H.1;rw[show t.2.2.getD (m5 b k) (b7 y51)=t.2.2.getD (m5 b k) (0,0) from rfl,show t.2.1.getD (m5 b k) (b7 y51)=t.2.1.getD (m5 b k) (0,0) from rfl,es,vS];refine(gP ⟨oo,rfl,trivial⟩).trans ?_;rw[lE];refine(gP ⟨oo,oo,oo,oo,trivial⟩).trans ?_;show _=g (O8 v (k+1) (RD o (R5 (t.2.1.getD (m5 b k) (0,0)) (C7 b c k (t.2.2.getD (m5 b k) (0,0))).1,(C7 b c k (t.2.2.getD (m5 b k) (0,0))).2)));generalize t.2.1.getD (m5 b k) (0,0)=A at hs;generalize C7 b c k (t.2.2.getD (m5 b k) (0,0))=D at ok;cases o with
     | none =>
       cases d;rw[if_neg (by simp)];show Jo (k:Int) g (true,(v:Int),_,_,_,_)=_;exact a _ _ _ _ _ _ (RD none (R5 A D.1,D.2)) rfl
     | some y =>
       cases d;refine(if_pos rfl).trans ?_;refine(gP ⟨rfl,trivial⟩).trans ?_;rw[lE];refine(gP ⟨rfl,trivial⟩).trans ?_;rw[lE];show Jo (k:Int) g (true,(v:Int),_,_,_,_)=_;refine a _ _ _ _ _ _ (RD (some y) (R5 A D.1,D.2)) ?_;show(true,_,_,(M3 y.1 (R5 A D.1)).1,(M3 y.1 (R5 A D.1)).2,(M3 y.2 D.2).1,(M3 y.2 D.2).2)=_;rw[k0s y.1,k0s y.2];rfl
    ·rw[if_neg j];have j:t.1.getD (m5 b k) false=false:=by simpa using j
     rw[j];refine(if_pos (by simp)).trans ?_;exact a _ _ _ _ _ _ o (by cases o <;> (cases d; rfl))
   ·rw[if_neg m];refine(if_pos ?_).trans (a _ _ _ _ _ _ o (by cases o <;> (cases d; rfl)))
    grind
  ·cases o <;> exact if_neg (by simp)
 unfold Jq;refine(lF (n:=ss.length) hl (fun i o=>O8 v i o) (fun i o=>DJ ss (b7 y53) v i o) (fun _ _=>True) (J:=fun o=>Jp (v:Int) t b c (A0 (lV b).length br) (lV b) ((O8 v 0 o).1,(O8 v 0 o).2.2)) (F:=G0k ss (v:Int) t b c (A0 (lV b).length br) (lV b)) (fun g i o hi _=>?_) (fun _ _ _ _=>trivial) (fun g o _=>?_) none trivial).trans ?_
 ·have W:Int.toNat ((i:Nat):Int)=i:=rfl;obtain⟨q,u,l,w,s,x,d⟩:∃q u l w s x,O8 v i o=(q,(i:Int),u,l,w,s,x):=by cases o <;> exact⟨_,_,_,_,_,_,rfl⟩
  rw[d];refine(if_pos (decide_eq_true (by omega))).trans ?_;refine(gP ⟨oo,trivial⟩).trans ?_;rw[W];unfold DJ;by_cases f:((ss.getD i (b7 y53)).1==(v:Int))=true
  ·rw[if_pos f,if_pos f];refine(gP ⟨oo,trivial⟩).trans ?_;rw[lE];have f:(ss.getD i (b7 y53)).1=(v:Int):=by simpa using f
   refine(gP ⟨oo,trivial⟩).trans ?_;rw[f];rfl
  ·rw[if_neg f,if_neg f];refine(gP ⟨oo,trivial⟩).trans ?_;cases o <;> (cases d; rfl)
 ·cases o <;> exact if_neg (by simp)
 ·show Jp _ _ _ _ _ _ ((O8 v 0 (fN (DJ ss (b7 y53) v) ss.length none)).1,(O8 v 0 (fN (DJ ss (b7 y53) v) ss.length none)).2.2)=_;rw[x0W hi];exact X _
end
theorem z0I{N:Nat}{T:Nat->Option r5}{v:Nat}{x:Option r5}:(C0 N T).1.set v x.isSome=(C0 N (L0 T v x)).1/\(C0 N T).2.1.set v (x.getD ((0,0),(0,0))).1=(C0 N (L0 T v x)).2.1/\(C0 N T).2.2.set v (x.getD ((0,0),(0,0))).2=(C0 N (L0 T v x)).2.2:=by
 have e:L0 T v x v=x:=if_pos rfl;have b:∀w,w≠v->L0 T v x w=T w:=fun w a=>if_neg a
 grind[C0,E0d,L0]
theorem z0H(N:Nat):C0 N (fun _=>none)=(List.replicate N false,List.replicate N ((0:Int),(0:Int)),List.replicate N ((0:Int),(0:Int))):=by
 grind[C0,List.map_const',List.length_range]
def NQ(b:j6)(o:Option (Nat->Option r5)):u3×Bool:=match o with
 | some T=>(C0 (j5 b) T,true)
 | none=>(([],[],[]),false)
section
variable {b:j6}
theorem v0h(g:wf l6 b)(f:cnt l6 b<=1048576)(e:p6 b=true){c:o5}(a:wf o8 c)(i:D3 c=true){br:List Int}{ss:List M4}(d:∀s∈ss,C2 s.2.1=true/\A7 s.2.2=true){T:Nat->Option r5}(j:∀v x,T v=some x->C2 x.1=true/\A7 x.2=true){v:Nat}{x:r5}(h:Ah b c br ss T v=some x):A7 x.2=true :=
 (y0L g f e a i d j v _ (Nat.le_refl _) x h).2
structure XC(b:j6)(out:List Nat)(i:Nat)(T:Nat->Option r5):Prop where
 ok:∀v x,T v=some x->C2 x.1=true/\A7 x.2=true
 no:∀j,i<=j->j<out.length->T (out.getD j 0)=none
theorem C0y(r:wf l6 b)(o:cnt l6 b<=1048576)(m:p6 b=true){c:o5}(g:wf o8 c)(t:D3 c=true){br:List Int}{ss:List M4}(k:∀s∈ss,C2 s.2.1=true/\A7 s.2.2=true){a:List Nat}(n:a.Nodup){i:Nat}(_:i<a.length){T:Nat->Option r5}(h:XC b a i T)(l:DH CL (Ah b c br ss T (a.getD i 0))=true) :
  XC b a (i+1) (L0 T (a.getD i 0) (Ah b c br ss T (a.getD i 0))):=by
 refine⟨fun v x d=>?_,fun j u f=>?_⟩
 ·unfold L0 at d;split at d
  ·rw[d] at l;exact⟨l,v0h r o m g t k h.ok d⟩
  ·exact h.ok v x d
 ·unfold L0;rw[if_neg (fun e=>y0K n (p:=i) (q:=j) (by omega) f e.symm)];exact h.no j (by omega) f
def NR(b:j6)(c:o5)(br:List Int)(ss:List M4)(out:List Nat)(i:Nat)(T:Nat->Option r5):Option (Nat->Option r5):=if DH CL (Ah b c br ss T (out.getD i 0))=true then some (L0 T (out.getD i 0) (Ah b c br ss T (out.getD i 0))) else none
theorem y0s{c:o5}{br:List Int}{ss:List M4}{a:List Nat}{i:Nat}(hi:i<a.length)(T:Nat->Option r5) :
  some (NQ b (AI (lV b).length (m5 b) (o9 b) (D4 b br) (C7 b c) (H7 ss) CL (a.drop i) T))=match NR b c br ss a i T with
   | some s'=>some (NQ b (AI (lV b).length (m5 b) (o9 b) (D4 b br) (C7 b c) (H7 ss) CL (a.drop (i+1)) s'))
   | none=>some (([],[],[]),false):=by
 have e:a.drop i=a.getD i 0 :: a.drop (i+1):=by
  rw[List.drop_eq_getElem_cons hi,gq,List.getElem?_eq_getElem hi];rfl
 rw[e,u0L];unfold NR;show some (NQ b (if DH CL (Ah b c br ss T (a.getD i 0))=true then _ else none))=_;by_cases h:DH CL (Ah b c br ss T (a.getD i 0))=true
 ·rw[if_pos h,if_pos h];rfl
 ·rw[if_neg h,if_neg h];rfl
theorem H0N(o:wf l6 b)(H:cnt l6 b<=1048576)(f:p6 b=true){c:o5}(j:wf o8 c)(z:D3 c=true){br:List Int}{ss:List m8}(X:ss.length<=9223372036854775807)(k:BT ss)(q:∀s∈ss,C2 s.2.1=true/\A7 s.2.2=true){a:List Nat}(G:OrdOk b br a)(r:a.length<=9223372036854775807) :
  Jr b c (lV b) (A0 (lV b).length br) ss (a.map fun v:Nat=>(v:Int))=some (NQ b (DN b c br ss a)):=by
 have hN:=Ag b f;have W:KZ (j5 b:Int)=some (C0 (j5 b) fun _=>none):=by
  unfold KZ;rw[Int.toNat_natCast];refine(gP ⟨⟨by omega,rfl,by omega,by omega⟩,⟨by omega,rfl,by omega,by omega⟩,⟨by omega,rfl,by omega,by omega⟩,trivial⟩).trans ?_;rw[z0H]
 unfold Jr;rw[Ic b o f,vS,W,vS,gP ⟨rfl,rfl,trivial⟩,lE];refine RN (n:=a.length) r (fun i T=>((i:Int),(C0 (j5 b) T).2.2,(C0 (j5 b) T).2.1,(C0 (j5 b) T).1)) (NR b c br ss a) (fun _ _=>some (([],[],[]),false)) (XC b a) (J:=fun T=>some (C0 (j5 b) T,true)) (F:=G0Y (a.map fun v:Nat=>(v:Int)) b c (lV b) (A0 (lV b).length br) ss) (fun g i T hi l=>?_) (fun i T T' hi l e=>?_) (fun g T _=>if_neg (by simp)) (fun i T=>some (NQ b (AI (lV b).length (m5 b) (o9 b) (D4 b br) (C7 b c) (H7 ss) CL (a.drop i) T))) (fun T _=>?_) (fun i T hi _=>(y0s hi T).trans (by grind)) 0 (Nat.zero_le _) (fun _=>none) ⟨fun _ _ h=>(by cases h),fun _ _ _=>rfl⟩
 ·have e3:((i:Int)).toNat=i:=rfl;have V:=G.lt _ (G6 (d:=0) hi);refine(if_pos (decide_eq_true (by grind))).trans ?_;refine(gP ⟨⟨by omega,by grind⟩,trivial⟩).trans ?_;rw[e3,z0T];have Q:=I0n o H f j z (br:=br) X k (q0V (N:=j5 b) (fun v _ x Y=>l.ok v x Y)) (a.getD i 0);rw[s0k f (fun w u=>E0K u)] at Q;have t:Jq b c (lV b) (A0 (lV b).length br) ss ((C0 (j5 b) T).1,(C0 (j5 b) T).2.1,(C0 (j5 b) T).2.2) ((a.getD i 0:Nat):Int)=some (NP (a.getD i 0) (Ah b c br ss T (a.getD i 0))):=Q;rw[t,vS,gP ⟨rfl,trivial⟩,lE];obtain⟨E,P,y⟩:=z0I (N:=j5 b) (T:=T) (v:=a.getD i 0) (x:=Ah b c br ss T (a.getD i 0));obtain⟨n1,n2,n3⟩:=RE (N:=j5 b) (T:=T);have m:=l.no i (Nat.le_refl _) hi;unfold NR;generalize a.getD i 0=v at V E P y m;have e4:Int.toNat ((v:Nat):Int)=v:=rfl;rw[e4];cases hy:Ah b c br ss T v with
  | none =>
    refine(if_pos rfl).trans ?_;refine(gP ⟨oo,trivial⟩).trans ?_;show g ((i:Int)+1,(C0 (j5 b) T).2.2,(C0 (j5 b) T).2.1,(C0 (j5 b) T).1)=g (((i+1:Nat):Int),(C0 (j5 b) (L0 T v none)).2.2,(C0 (j5 b) (L0 T v none)).2.1,(C0 (j5 b) (L0 T v none)).1)
    grind[z0J]
  | some x =>
    rw[hy] at E P y;refine(if_neg (by simp[NP])).trans ?_;rw[(NO _).2,vS];refine(gP ⟨rfl,trivial⟩).trans ?_;show(if(!C2 x.1)=true then _ else _)=_;rw[show DH CL (some x)=C2 x.1 from rfl];cases hs:C2 x.1 with
    | false=>rfl
    | true =>
      refine(if_neg (by simp)).trans ?_;refine(gP ⟨oo,by omega,trivial⟩).trans ?_;refine(gP ⟨oo,by omega,trivial⟩).trans ?_;refine(gP ⟨oo,by omega,trivial⟩).trans ?_;refine(gP ⟨oo,trivial⟩).trans ?_;show g ((i:Int)+1,(C0 (j5 b) T).2.2.set v x.2,(C0 (j5 b) T).2.1.set v x.1,(C0 (j5 b) T).1.set v true)=g (((i+1:Nat):Int),(C0 (j5 b) (L0 T v (some x))).2.2,(C0 (j5 b) (L0 T v (some x))).2.1,(C0 (j5 b) (L0 T v (some x))).1)
      grind
 ·unfold NR at e;split at e
  ·rename_i hk;cases e;exact C0y o H f j z q G.nd hi l hk
  grind
 ·rw[List.drop_length];rfl
end
def U4(b:j6)(c:o5)(br:List Int)(ss:List m8):Int:=if(p6 b&&D3 c)=true then(if(Bp (lV b).length br&&BV b ss)=true then(if(W8 (N8 b (A0 (lV b).length br) [] (j5 b))).2=true then 0 else 7) else 2) else 1
structure TG(b:j6)(c:o5)(br:List Int)(ss:List m8)(out:List Nat):Prop where
 hb:p6 b=true
 hc:D3 c=true
 hbr:Bp (lV b).length br=true
 hs:BV b ss=true
 ho:N8 b (A0 (lV b).length br) [] (j5 b)=some out
section
variable {b:j6} {c:o5} {br:List Int} {ss:List m8} {out:List Nat}
theorem XD(h:U4 b c br ss=0):∃out,TG b c br ss out:=by
 unfold U4 at h;split at h
 ·rename_i d;split at h
  ·rename_i a;split at h
   ·rename_i e;rw[ba] at d a;cases ho:N8 b (A0 (lV b).length br) [] (j5 b) with
    | none=>rw[ho] at e; cases e
    | some out=>exact⟨out,d.1,d.2,a.1,a.2,ho⟩
   omega
  omega
 omega
theorem TG.code(h:TG b c br ss out):U4 b c br ss=0:=by
 unfold U4;rw[h.hb,h.hc,h.hbr,h.hs,h.ho];rfl
theorem TG.ord(h:TG b c br ss out):OrdOk b br out:=I0f h.hb h.ho
theorem TG.len(h:TG b c br ss out):out.length<=1000000:=Nat.le_trans (RO _ _ h.ord.nd h.ord.lt) (Ag b h.hb)
theorem TG.src(h:TG b c br ss out):BT ss/\∀s∈ss,C2 s.2.1=true/\A7 s.2.2=true:=⟨(u0s h.hs).1,fun s hs=>((u0s h.hs).2 s hs).2⟩
theorem u0F(d:wf l6 b)(f:cnt l6 b<=1048576)(e:wf o8 c)(a:br.length<=1048576)(g:ss.length<=9223372036854775807):GP b c br ss=some (if U4 b c br ss=0 then((W8 (N8 b (A0 (lV b).length br) [] (j5 b))).1,0) else([],U4 b c br ss)):=by
 unfold GP U4;rw[FL b d f,r70 c e,vS,vS];refine(gP ⟨rfl,fun _=>rfl,trivial⟩).trans ?_;cases hb:p6 b with
 | false=>rfl
 | true =>
   cases hc:D3 c with
   | false=>rfl
   | true =>
     refine(if_neg (by simp)).trans ?_;rw[r71 b d f br a,r44 b d hb ss g,vS,vS];refine(gP ⟨rfl,fun _=>rfl,trivial⟩).trans ?_;rw[lE,r72 b d f br a];unfold DM Xx DM;rw[hb];cases hk:Bp (lV b).length br with
     | false=>rfl
     | true =>
       cases hs:BV b ss with
       | false=>rfl
       | true =>
         refine(if_neg (by simp)).trans ?_;rw[vS];refine(gP ⟨rfl,trivial⟩).trans ?_
         grind[lE,W8,N8,A0,lV,j5]
def U5(b:j6)(c:o5)(br:List Int)(ss:List m8):u3×Int:=if U4 b c br ss=0 then(match DN b c br ss ((N8 b (A0 (lV b).length br) [] (j5 b)).getD []) with
 | some T=>(C0 (j5 b) T,0)
 | none=>(([],[],[]),3)) else(([],[],[]),U4 b c br ss)
theorem TG.pt(h:TG b c br ss out):U5 b c br ss=match DN b c br ss out with
 | some T=>(C0 (j5 b) T,0)
 | none=>(([],[],[]),3):=by
 unfold U5;rw[if_pos h.code,h.ho];rfl
theorem TG.res(h:TG b c br ss out):(W8 (N8 b (A0 (lV b).length br) [] (j5 b))).1=out.map fun v:Nat=>(v:Int):=by
 rw[h.ho];rfl
theorem K0J(g:wf l6 b)(j:cnt l6 b<=1048576)(d:wf o8 c)(f:br.length<=1048576)(i:ss.length<=9223372036854775807):MI b c br ss=some (U5 b c br ss):=by
 unfold MI;rw[u0F g j d f i,vS];refine(gP ⟨rfl,trivial⟩).trans ?_;rw[lE];by_cases h:U4 b c br ss=0
 ·obtain⟨e,a⟩:=XD h;rw[if_pos h,a.res,a.pt];refine(if_neg (by simp)).trans ?_;have k:=a.len;have l:=K3 a.hb;rw[HN b g a.hb,vS];refine(gP ⟨rfl,trivial⟩).trans ?_;rw[lE,RM _ _ (by omega) f,vS];show gd (_/\(Jr b c (lV b) (A0 (lV b).length br) ss (e.map fun v:Nat=>(v:Int))).isSome=true/\True) _=_;rw[H0N g j a.hb d a.hc i a.src.1 a.src.2 a.ord (by omega),vS];refine(gP ⟨rfl,rfl,trivial⟩).trans ?_;rw[lE];cases DN b c br ss e <;> rfl
 grind[U5,U4]
theorem TG.rows(e:wf l6 b)(f:cnt l6 b<=1048576)(a:wf o8 c)(h:TG b c br ss out){T:Nat->Option r5}(d:DN b c br ss out=some T):BU (j5 b) (C0 (j5 b) T) :=
 u0K e f h.hb a h.hc h.src.2 h.ord d
theorem D0P(h:(U5 b c br ss).2≠0):(U5 b c br ss).1=([],[],[]):=by
 unfold U5 at h ⊢
 grind
end
def Y9(b:j6)(c:o5)(br:List Int)(ss:List m8)(t:u3):Int:=if(p6 b&&D3 c&&!CM (K5 b) t)=true then 1 else U4 b c br ss
def XE(b:j6)(c:o5)(br:List Int)(ss:List m8)(t:u3):Int ⊕ (I1×List Int×Int):=if Y9 b c br ss t=0 then .inr ((m7 b,A0 (lV b).length br),(W8 (N8 b (A0 (lV b).length br) [] (j5 b))).1,0) else .inl (Y9 b c br ss t)
section
variable {b:j6} {c:o5} {br:List Int} {ss:List m8} {out:List Nat} {t:u3}
theorem RR(h:Y9 b c br ss t=0):CM (K5 b) t=true/\∃out,TG b c br ss out:=by
 unfold Y9 at h;split at h
 ·cases h
 ·rename_i d;obtain⟨out,a⟩:=XD h;refine⟨?_,out,a⟩;rw[a.hb,a.hc] at d
  grind
theorem K0F(f:wf l6 b)(h:cnt l6 b<=1048576)(d:wf o8 c)(a:br.length<=1048576)(g:ss.length<=9223372036854775807)(e:wf y44 t):BI b c br ss t=some (XE b c br ss t):=by
 unfold BI XE Y9 U4;rw[r36 b f h,r54 c d,vS,vS];refine(gP ⟨rfl,fun _=>rfl,trivial⟩).trans ?_;cases hb:p6 b with
 | false=>rfl
 | true =>
   cases hc:D3 c with
   | false=>rfl
   | true =>
     refine(if_neg (by simp)).trans ?_;rw[r37 b f hb,vS];refine(gP ⟨rfl,trivial⟩).trans ?_;rw[lE,r38 b hb t e,vS];refine(gP ⟨fun _=>rfl,trivial⟩).trans ?_;cases htm:CM (K5 b) t with
     | false=>rfl
     | true =>
       refine(if_neg (by simp)).trans ?_;rw[r65 hb br a,r66 b hb ss g,vS,vS];refine(gP ⟨rfl,fun _=>rfl,trivial⟩).trans ?_;cases hk:Bp (lV b).length br with
       | false=>rfl
       | true =>
         cases hs:BV b ss with
         | false=>rfl
         | true =>
           refine(if_neg (by simp)).trans ?_;rw[r67 hb hk a,vS];refine(gP ⟨rfl,trivial⟩).trans ?_;rw[lE,r68 hb (NN _ _),vS];refine(gP ⟨rfl,trivial⟩).trans ?_
           grind[lE,W8,N8,A0,lV,j5]
end
theorem NS(s:Int×Int)(md:Int):Dp s md=some (p7 s md):=by
 grind[Dp,p7]
theorem XF(s:Int×Int)(md:Int):Ay s md=some (p7 s md):=by
 grind[Ay,p7]
theorem E0C(s d:Int×Int)(md:Int):p7 (R5 s d) md=p7 s md+p7 d md:=by
 grind[p7,R5]
theorem I0d{s d:Int×Int}(a:C2 s=true)(b:0<=d.1/\d.1<=d.2/\d.2<=5000000):Jn s d=some (R5 s d):=by
 have a:=Ga.1 a;unfold Jn;exact(gP ⟨oo,oo,trivial⟩).trans rfl
theorem I0B{s:Int×Int}(md:Int)(a:C2 s=true) : -1000000000<=p7 s md/\p7 s md<=1000000000:=by
 grind[Ga,p7]
theorem w0a{d:Int×Int}(md:Int)(a:0<=d.1/\d.1<=d.2/\d.2<=5000000):0<=p7 d md/\p7 d md<=5000000:=by
 grind[p7]
section
variable {b:j6} {c:o5} {br:List Int} {ss:List m8} {t:u3} {md:Int}
def Gd(b:j6)(c:o5)(br:List Int)(ss:List m8)(t:u3)(md:Int)(v:Nat):Option (Option Nat):=DI (lV b).length (m5 b) (o9 b) (D4 b br) (C7 b c) (H7 ss) (K4 t) md v
def XG:Option (Option Nat)->Int×Int
 | none=>(0,5)
 | some none=>(-1,0)
 | some (some k)=>((k:Int),0)
def wF(b:j6)(c:o5)(br:List Int)(ss:List m8)(t:u3)(md:Int)(v:Nat):Int×Int:=if(decide (v<j5 b)&&t.1.getD v false)=true then XG (Gd b c br ss t md v) else(0,4)
theorem v0T{p q:Nat->Bool}{M:Nat}:((List.range M).filter p).find? q=(List.range M).find? fun k=>p k&&q k:=by
 grind
theorem F0H(a:p6 b=true){v:Int}(d:m0 v 0 ((j5 b:Int)-1)=false):Hr (m7 b,A0 (lV b).length br) c ss t v md=some (0,4):=by
 unfold Hr;show gd ((T3 (m7 b) v).isSome=true/\_) (if(!vl (T3 (m7 b) v)||_)=true then _ else _)=_;rw[Xy a,vS,d];exact(gP ⟨rfl,fun h=>(by grind),trivial⟩).trans (if_pos rfl)
theorem N0F(E:wf l6 b)(G:cnt l6 b<=1048576)(h:p6 b=true)(l:wf o8 c)(z:D3 c=true)(Q:ss.length<=9223372036854775807)(o:BU (j5 b) t){v:Nat}(j:v<j5 b) :
  Hr (m7 b,A0 (lV b).length br) c ss t (v:Int) md=some (wF b c br ss t md v):=by
 have hM:=K3 h;have y:=NN (lV b).length br;have n1:=o.l1;have n2:=o.l2;have n3:=o.l3;have u:((v:Int)).toNat=v:=rfl;unfold Hr wF;show gd ((T3 (m7 b) (v:Int)).isSome=true/\_) (if(!vl (T3 (m7 b) (v:Int))||_)=true then _ else _)=_;rw[Xy h,vS,y9.2 (oo:(0:Int)<=(v:Int)/\(v:Int)<=(j5 b:Int)-1),u,decide_eq_true j];refine(gP ⟨rfl,fun _=>oo,trivial⟩).trans ?_;cases f:t.1.getD v false with
 | false=>rfl
 | true =>
   refine(if_neg (by simp)).trans ?_;rw[if_pos (by rfl)];have H:K4 t v=some (t.2.1.getD v (0,0),t.2.2.getD v (0,0)):=by rw[Gc,if_pos f]
   unfold Gd;rw[RF H];refine(gP ⟨oo,by rw[NS]; rfl,trivial⟩).trans ?_;rw[NS,vS,lE,show t.2.1.getD v (b7 y51)=t.2.1.getD v (0,0) from rfl,r96 ss v Q,vS];refine(gP ⟨rfl,trivial⟩).trans ?_;rw[lE];refine(gP ⟨fun _=>by grind[NS],trivial⟩).trans ?_;rw[NS,vS,lE];have w:gd ((Hq (m7 b,A0 (lV b).length br) (v:Int)).isSome=true/\True) (lt (vl (Hq (m7 b,A0 (lV b).length br) (v:Int))) fun Y=>lp (Mz Y (p7 (t.2.1.getD v (0,0)) md) t md (m7 b,A0 (lV b).length br) c) 0)=some (XG (match(List.range (lV b).length).find? (Ae (m5 b) (o9 b) (D4 b br) (C7 b c) (K4 t) md (p7 (t.2.1.getD v (0,0)) md) v) with
    | some k=>some (some k)
    | none=>none)):=by
    rw[r98 h y v,vS];refine(gP ⟨rfl,trivial⟩).trans ?_;rw[lE];obtain⟨q1,X⟩:=DL (fun i=>D4 b br i&&o9 b i==v) (lV b).length;have m:=FY (n:=(F5 (fun i=>D4 b br i&&o9 b i==v) (lV b).length).length) (by omega) (fun i=>(fun k=>match K4 t (m5 b k) with
     | none=>false
     | some x=>p7 x.1 md+p7 (C7 b c k x.2).1 md==p7 (t.2.1.getD v (0,0)) md) (((List.range (lV b).length).filter fun i=>D4 b br i&&o9 b i==v).getD i 0)) (fun i=>some (((((List.range (lV b).length).filter fun i=>D4 b br i&&o9 b i==v).getD i 0:Nat):Int),0)) (e:=some (0,5)) (F:=Mz (F5 (fun i=>D4 b br i&&o9 b i==v) (lV b).length) (p7 (t.2.1.getD v (0,0)) md) t md (m7 b,A0 (lV b).length br) c) 0 (Nat.zero_le _) (fun g i _ hi=>by
     have u:((i:Int)).toNat=i:=rfl;have q:=NM (p:=fun i=>D4 b br i&&o9 b i==v) (M:=(lV b).length) (i:=i) (by omega);unfold Mz;refine(if_pos (decide_eq_true (by omega))).trans ?_;rw[u];refine(gP ⟨oo,by omega,trivial⟩).trans ?_;rw[Xu];generalize ((List.range (lV b).length).filter fun i=>D4 b br i&&o9 b i==v).getD i 0=k at q;have V:Int.toNat ((k:Nat):Int)=k:=rfl;obtain⟨P,f2,f3,f4⟩:=J8 b h q;refine(gP ⟨(⟨by omega,by show((k:Nat):Int) < ((lV b).length:Int); omega⟩:ix ((k:Nat):Int) (m7 b).2.2.1.length),trivial⟩).trans ?_;rw[lE,V];have W:((m7 b).2.2.1.getD k (b7 y80)).1=(m5 b k:Int):=P;have T:Int.toNat ((m5 b k:Nat):Int)=m5 b k:=rfl;have j:=o.vals _ f3;rw[W];refine(gP ⟨oo,trivial⟩).trans ?_;rw[T];simp only[Gc];by_cases f:t.1.getD (m5 b k) false=true
     ·obtain⟨_,_,_,e⟩:=RQ E G h l z q;have es:=(e _ j.2.1).2;have r:=Kg E G h l z q j.2.1;have ep:=I0d j.1 ⟨r.1,r.2.1,r.2.2.1⟩;simp only[f,show t.2.2.getD (m5 b k) (b7 y51)=t.2.2.getD (m5 b k) (0,0) from rfl,show t.2.1.getD (m5 b k) (b7 y51)=t.2.1.getD (m5 b k) (0,0) from rfl,es,vS,Option.isSome_some,if_true];refine(if_neg (by simp)).trans ?_;refine(gP ⟨oo,trivial,trivial⟩).trans ?_;rw[lE];simp only[ep,NS,E0C,vS,Option.isSome_some];refine(gP ⟨oo,trivial,trivial,trivial⟩).trans ?_;rw[lE];by_cases d:(p7 (t.2.1.getD (m5 b k) (0,0)) md+p7 (C7 b c k (t.2.2.getD (m5 b k) (0,0))).1 md==p7 (t.2.1.getD v (0,0)) md)=true
      ·rw[if_pos d,if_pos d]
      ·rw[if_neg d,if_neg d];exact gP ⟨oo,trivial⟩
     ·have f:t.1.getD (m5 b k) false=false:=by simpa using f
      simp only[f];refine(if_pos (by simp)).trans ?_;exact(gP ⟨oo,trivial⟩).trans (by simp)) (fun g=>by
     unfold Mz;exact if_neg (by simp))
    rw[Nat.sub_zero,<- List.range_eq_range',X] at m;refine Eq.trans m ?_;have a:=v0U (fun k=>match K4 t (m5 b k) with
     | none=>false
     | some x=>p7 x.1 md+p7 (C7 b c k x.2).1 md==p7 (t.2.1.getD v (0,0)) md) 0 ((List.range (lV b).length).filter fun i=>D4 b br i&&o9 b i==v)
    rw[v0T] at a;have s:(fun k=>(D4 b br k&&o9 b k==v)&&match K4 t (m5 b k) with
     | none=>false
     | some x=>p7 x.1 md+p7 (C7 b c k x.2).1 md==p7 (t.2.1.getD v (0,0)) md)=Ae (m5 b) (o9 b) (D4 b br) (C7 b c) (K4 t) md (p7 (t.2.1.getD v (0,0)) md) v:=rfl
    rw[s] at a;rw[a];cases(List.range ((List.range (lV b).length).filter fun i=>D4 b br i&&o9 b i==v).length).find? _ <;> rfl
   cases hs:H7 ss v with
   | none=>exact(if_neg (by simp[M0j])).trans w
   | some x =>
     show(if(true&&p7 x.1 md==p7 (t.2.1.getD v (0,0)) md)=true then _ else _)=some (XG (if(p7 x.1 md==p7 (t.2.1.getD v (0,0)) md)=true then _ else _));rw[Bool.true_and];by_cases d:(p7 x.1 md==p7 (t.2.1.getD v (0,0)) md)=true
     ·rw[if_pos d,if_pos d]; rfl
     grind
theorem D0E(hi:BT ss)(v:Nat)(y:r5):((List.range ss.length).any fun i=>(ss.getD i (b7 y53)).1==(v:Int)&&p7 (ss.getD i (b7 y53)).2.1 md==p7 y.1 md)=FT (H7 ss v) md y:=by
 cases hs:H7 ss v with
 | none =>
   refine List.any_eq_false.2 fun i a=>?_;have d:=List.mem_range.1 a;intro h;rw[ba,beq_iff_eq] at h
   grind[Kc,G6]
 | some x =>
   obtain⟨s,g,f,rfl⟩:=RG hs;obtain⟨j,e,c⟩:=List.mem_iff_getElem.1 g;have c:ss.getD j (b7 y53)=s:=by rw[gq,List.getElem?_eq_getElem e]; exact c
   show _=(p7 s.2.1 md==p7 y.1 md);by_cases b:(p7 s.2.1 md==p7 y.1 md)=true
   ·rw[b];exact List.any_eq_true.2 ⟨j,List.mem_range.2 e,by rw[c,f,b]; simp⟩
   ·rw[Bool.not_eq_true] at b;rw[b];refine List.any_eq_false.2 fun i a=>?_;have d:=List.mem_range.1 a;intro h;rw[ba,beq_iff_eq] at h
    grind[Kc,G6,Option.some.inj]
theorem D0B(e:wf l6 b)(a:p6 b=true){v:Int}(d:m0 v 0 ((j5 b:Int)-1)=false):GZ b c (lV b) (A0 (lV b).length br) ss t v md=some (0,4):=by
 have g:=Ag b a;have f:r9 v 0 ((j5 b:Int)-1)=some (m0 v 0 ((j5 b:Int)-1)):=rfl;unfold GZ;simp only[Ic b e a,vS,Option.isSome_some,f,d];exact(gP ⟨trivial,oo,trivial,fun h=>(by grind),trivial⟩).trans (if_pos rfl)
theorem K0I(u:wf l6 b)(G:cnt l6 b<=1048576)(f:p6 b=true)(l:wf o8 c)(E:D3 c=true)(V:ss.length<=9223372036854775807)(hi:BT ss)(o:BU (j5 b) t){v:Nat}(j:v<j5 b) :
  GZ b c (lV b) (A0 (lV b).length br) ss t (v:Int) md=some (wF b c br ss t md v):=by
 have hM:=K3 f;have aA:=NN (lV b).length br;have hN:=Ag b f;have n1:=o.l1;have n2:=o.l2;have n3:=o.l3;have x:((v:Int)).toNat=v:=rfl;have Q:r9 (v:Int) 0 ((j5 b:Int)-1)=some true:=congrArg some (y9.2 (oo:(0:Int)<=(v:Int)/\(v:Int)<=(j5 b:Int)-1));unfold GZ wF;simp only[Ic b u f,vS,Option.isSome_some,Q,x,decide_eq_true j];refine(gP ⟨trivial,oo,trivial,fun _=>oo,trivial⟩).trans ?_;cases hr:t.1.getD v false with
 | false=>rfl
 | true =>
   refine(if_neg (by simp)).trans ?_;rw[if_pos (by rfl)];have H:K4 t v=some (t.2.1.getD v (0,0),t.2.2.getD v (0,0)):=by rw[Gc,if_pos hr]
   unfold Gd;rw[RF H];simp only[XF,vS,Option.isSome_some];refine(gP ⟨oo,trivial,trivial⟩).trans ?_;rw[lE,show t.2.1.getD v (b7 y51)=t.2.1.getD v (0,0) from rfl];have a:=F1 (n:=ss.length) V (fun i=>(ss.getD i (b7 y53)).1==(v:Int)&&p7 (ss.getD i (b7 y53)).2.1 md==p7 (t.2.1.getD v (0,0)) md) (some (-1,0)) (e:=Qh (p7 (t.2.1.getD v (0,0)) md) t md b c (A0 (lV b).length br) (v:Int) (lV b) ()) (F:=Qi ss (v:Int) (p7 (t.2.1.getD v (0,0)) md) md t b c (A0 (lV b).length br) (lV b)) (fun g i hi=>by
    have x:((i:Int)).toNat=i:=rfl;unfold Qi;refine(if_pos (decide_eq_true (by omega))).trans ?_;simp only[x,XF,vS,Option.isSome_some];refine(gP ⟨oo,fun _=>oo,fun _=>trivial,trivial⟩).trans ?_;rw[lE];split
    ·rfl
    ·exact gP ⟨oo,trivial⟩) (fun g=>by
    grind[Qi])
   refine a.trans ?_;have ha:=D0E (md:=md) hi v (t.2.1.getD v (0,0),t.2.2.getD v (0,0));have z:((List.range ss.length).any fun i=>(ss.getD i (b7 y53)).1==(v:Int)&&p7 (ss.getD i (b7 y53)).2.1 md==p7 (t.2.1.getD v (0,0)) md)=FT (H7 ss v) md (t.2.1.getD v (0,0),t.2.2.getD v (0,0)):=ha;rw[z];by_cases m:FT (H7 ss v) md (t.2.1.getD v (0,0),t.2.2.getD v (0,0))=true
   ·rw[if_pos m,if_pos m]; rfl
   ·rw[if_neg m,if_neg m];unfold Qh;have a:=FY (n:=(lV b).length) (by omega) (Ae (m5 b) (o9 b) (D4 b br) (C7 b c) (K4 t) md (p7 (t.2.1.getD v (0,0)) md) v) (fun i=>some ((i:Int),0)) (e:=some (0,5)) (F:=Qg (p7 (t.2.1.getD v (0,0)) md) t md b c (A0 (lV b).length br) (v:Int) (lV b)) 0 (Nat.zero_le _) (fun g k _ y=>by
     have X:Int.toNat ((k:Nat):Int)=k:=rfl;obtain⟨P,T,f3,f4⟩:=J8 b f y;have W:Int.toNat ((m5 b k:Nat):Int)=m5 b k:=rfl;have j:=o.vals _ f3;have ne:(((o9 b k:Nat):Int) != (v:Int))=!(o9 b k==v):=by
      by_cases h:o9 b k=v
      ·rw[h,bne_self_eq_false,beq_self_eq_true];rfl
      ·have q:((o9 b k:Nat):Int)≠(v:Int):=by omega
       rw[bne_iff_ne.2 q,beq_eq_false_iff_ne.2 h];rfl
     unfold Qg;refine(if_pos (decide_eq_true (by omega))).trans ?_;refine(gP ⟨oo,trivial⟩).trans ?_;rw[lE,X];have Y:=fun h=>p0W u G f l E y (sp:=t.2.2.getD (m5 b k) (0,0)) h;simp only[P,T,ne,W];refine(gP ⟨oo,fun _=>oo,trivial⟩).trans ?_;show(if(!D4 b br k||!(o9 b k==v)||!t.1.getD (m5 b k) false)=true then _ else _)=_;have w:Ae (m5 b) (o9 b) (D4 b br) (C7 b c) (K4 t) md (p7 (t.2.1.getD v (0,0)) md) v k=false->Qf (k:Int) g ()=if Ae (m5 b) (o9 b) (D4 b br) (C7 b c) (K4 t) md (p7 (t.2.1.getD v (0,0)) md) v k=true then some ((k:Int),0) else g ((k:Int)+1):=fun e1=>by
      rw[e1,if_neg (by simp)];exact gP ⟨oo,trivial⟩
     cases h1:D4 b br k with
     | false=>grind[trans,Ae]
     | true =>
       cases q:(o9 b k==v) with
       | false=>grind[trans,Ae]
       | true =>
         by_cases d:t.1.getD (m5 b k) false=true
         ·have r:Ae (m5 b) (o9 b) (D4 b br) (C7 b c) (K4 t) md (p7 (t.2.1.getD v (0,0)) md) v k=(p7 (t.2.1.getD (m5 b k) (0,0)) md+p7 (C7 b c k (t.2.2.getD (m5 b k) (0,0))).1 md==p7 (t.2.1.getD v (0,0)) md):=by
           unfold Ae;rw[h1,q,Gc,if_pos d];rfl
          have s:=Kg u G f l E y j.2.1;have l1:=I0B md j.1;have l2:=w0a md ⟨s.1,s.2.1,s.2.2.1⟩;rw[r,d];refine(if_neg (by simp)).trans ?_;simp only[show t.2.2.getD (m5 b k) (b7 y51)=t.2.2.getD (m5 b k) (0,0) from rfl,show t.2.1.getD (m5 b k) (b7 y51)=t.2.1.getD (m5 b k) (0,0) from rfl,Y j.2.1,XF,vS,Option.isSome_some];refine(gP ⟨oo,trivial,trivial⟩).trans ?_;rw[lE];refine(gP ⟨oo,trivial,trivial,oo,trivial⟩).trans ?_;rw[lE];dsimp only;split
          ·rfl
          ·exact gP ⟨oo,trivial⟩
         ·have d:t.1.getD (m5 b k) false=false:=by simpa using d
          rw[d];exact(if_pos (by simp)).trans (w (by unfold Ae; rw[Gc,if_neg (by rw[d]; decide)]; exact Bool.and_false _))) (fun g=>by
     unfold Qg;exact if_neg (by simp))
    rw[Nat.sub_zero,<- List.range_eq_range'] at a;refine Eq.trans a ?_;cases(List.range (lV b).length).find? _ <;> rfl
end
theorem XH{w:Nat->Int×Int}{fr:Nat->Nat}:∀{n v:Nat} {acc p:List Int} {e:Int},P2 w fr n v acc=(p,e)->e≠0->p=[]
 | 0,_,_,_,_,h,h0=>by cases h; rfl
 | n+1,v,acc,p,e,h,h0=>by
   unfold P2 at h;split at h
   ·split at h
    ·grind
    ·exact XH h h0
   grind
section
variable {b:j6} {c:o5} {br:List Int} {ss:List m8} {t:u3} {md:Int} {out:List Nat}
theorem p0u{v:Nat}:(∃k:Nat,wF b c br ss t md v=((k:Int),0)/\Gd b c br ss t md v=some (some k))∨(wF b c br ss t md v=(-1,0)/\Gd b c br ss t md v=some none)∨(wF b c br ss t md v).2≠0:=by
 unfold wF;split
 ·cases Gd b c br ss t md v with
  | none=>exact .inr (.inr (by decide))
  | some o =>
    cases o with
    | none=>exact .inr (.inl ⟨rfl,rfl⟩)
    | some k=>exact .inl ⟨k,rfl,rfl⟩
 omega
theorem RS(a:OrdOk b br out){v:Nat}(j:v<j5 b)(g:(wF b c br ss t md v).2=0)(l:0<=(wF b c br ss t md v).1):(wF b c br ss t md v).1.toNat < (lV b).length/\m5 b (wF b c br ss t md v).1.toNat<j5 b/\out.idxOf (m5 b (wF b c br ss t md v).1.toNat)<out.idxOf v:=by
 rcases p0u (b:=b) (c:=c) (br:=br) (ss:=ss) (t:=t) (md:=md) (v:=v) with ⟨k,e,h⟩ | ⟨e,h⟩ | h
 ·rw[e];obtain⟨d,f,i,-⟩:=p0s h;have:=a.pos d f (by omega)
  grind
 ·grind
 omega
def BX(b:j6)(c:o5)(br:List Int)(ss:List m8)(t:u3)(md:Int)(out:List Nat)(v:Nat):List Int×Int:=P2 (wF b c br ss t md) (m5 b) (out.idxOf v+1) v []
def PI(b:j6)(out:List Nat)(v:Nat)(acc:List Int):Prop:=v<j5 b/\acc.length+out.idxOf v<=out.length
theorem PI.step(e:OrdOk b br out){v:Nat}{acc:List Int}(h:PI b out v acc)(a:(wF b c br ss t md v).2=0)(g:0<=(wF b c br ss t md v).1):PI b out (m5 b (wF b c br ss t md v).1.toNat) ((wF b c br ss t md v).1 :: acc)/\out.idxOf (m5 b (wF b c br ss t md v).1.toNat)<out.idxOf v:=by
 obtain⟨i,f,d⟩:=RS e h.1 a g;have:=h.2;exact⟨⟨f,by grind⟩,d⟩
def CN(r:List Int×Int):Int ⊕ List Int×Int:=if(r.2==0)=true then .inr (r.1,0) else .inl r.2
theorem N0E(z:wf l6 b)(H:cnt l6 b<=1048576)(k:p6 b=true)(n:wf o8 c)(x:D3 c=true)(y:ss.length<=9223372036854775807)(Q:BU (j5 b) t)(q:OrdOk b br out)(P:out.length<=1000000){v:Nat}(j:v<j5 b) :
  T4 (m7 b,A0 (lV b).length br) c ss t (v:Int) md=some (CN (BX b c br ss t md out v)):=by
 have G:=List.idxOf_le_length (a:=v) (l:=out);unfold T4;refine(v0v (w:=wF b c br ss t md) (fr:=m5 b) (fun v=>out.idxOf v) (PI b out) (fun v d h m i=>h.step q m i) (fun v d=>((v:Int),d.reverse)) (fun d=>some (.inr (d,0))) (fun e=>some (.inl e)) (F:=ML (m7 b,A0 (lV b).length br) c ss t md) (fun g v d E=>?_) v [] ⟨j,by grind⟩ (by omega)).trans ?_
 ·obtain⟨j,o⟩:=E;unfold ML;dsimp only;simp only[N0F z H k n x y Q j,vS,Option.isSome_some];refine(gP ⟨trivial,trivial⟩).trans ?_;rw[lE];by_cases m:(wF b c br ss t md v).2=0
  ·rw[if_neg (show ¬((wF b c br ss t md v).2 != 0)=true by grind),if_pos (show((wF b c br ss t md v).2==0)=true by grind)];by_cases i:(wF b c br ss t md v).1<0
   ·rw[if_pos (decide_eq_true i),if_pos (decide_eq_true i)];have r:Js d.reverse=some d:=by
     unfold Js;rw[if_pos (by grind),List.reverse_reverse]
    rw[r,vS];refine(gP ⟨rfl,trivial⟩).trans ?_;rw[lE]
   ·have f:¬decide ((wF b c br ss t md v).1<0)=true:=by simpa using i
    rw[if_neg f,if_neg f];obtain⟨u,X,W⟩:=RS q j m (by omega);obtain⟨s,V,f3,T⟩:=J8 b k u;have Y:=K3 k;refine(gP ⟨⟨by grind,by grind⟩,trivial⟩).trans ?_;refine(gP ⟨(⟨by omega,by show(wF b c br ss t md v).1 < ((lV b).length:Int); omega⟩:ix (wF b c br ss t md v).1 (m7 b).2.2.1.length),trivial⟩).trans ?_;rw[lE];have e5:((m7 b).2.2.1.getD (wF b c br ss t md v).1.toNat (b7 y80)).1=(m5 b (wF b c br ss t md v).1.toNat:Int):=s
    grind
  grind
 grind[CN,BX]
theorem K0H(x:wf l6 b)(E:cnt l6 b<=1048576)(m:p6 b=true)(n:wf o8 c)(s:D3 c=true)(u:ss.length<=9223372036854775807)(hi:BT ss)(H:BU (j5 b) t)(q:OrdOk b br out)(G:out.length<=1000000){v:Nat}(k:v<j5 b) :
  lp (Ha (lV b) b c (A0 (lV b).length br) ss t md) ([],(v:Int))=some (BX b c br ss t md out v):=by
 have z:=List.idxOf_le_length (a:=v) (l:=out);refine(v0v (w:=wF b c br ss t md) (fr:=m5 b) (fun v=>out.idxOf v) (PI b out) (fun v d h f j=>h.step q f j) (fun v d=>(d,(v:Int))) (fun d=>some (d,0)) (fun e=>some ([],e)) (F:=Ha (lV b) b c (A0 (lV b).length br) ss t md) (fun g v d y=>?_) v [] ⟨k,by grind⟩ (by omega)).trans ?_
 ·obtain⟨k,o⟩:=y;unfold Ha;dsimp only;simp only[K0I x E m n s u hi H k,vS,Option.isSome_some];refine(gP ⟨trivial,trivial⟩).trans ?_;rw[lE];by_cases f:(wF b c br ss t md v).2=0
  ·rw[if_neg (show ¬((wF b c br ss t md v).2 != 0)=true by simp[f]),if_pos (show((wF b c br ss t md v).2==0)=true by simp[f])];by_cases j:(wF b c br ss t md v).1<0
   ·rw[if_pos (decide_eq_true j),if_pos (decide_eq_true j)]
   ·have i:¬decide ((wF b c br ss t md v).1<0)=true:=by simpa using j
    rw[if_neg i,if_neg i];obtain⟨r,W,V⟩:=RS q k f (by omega);obtain⟨P,T,Y,Q⟩:=J8 b m r;have X:=K3 m;refine(gP ⟨⟨by grind,by grind⟩,trivial⟩).trans ?_;refine(gP ⟨oo,by omega,trivial⟩).trans ?_
    grind[lE]
  grind
 ·rcases hr:P2 (wF b c br ss t md) (m5 b) (out.idxOf v+1) v [] with ⟨p,e⟩;unfold BX;rw[hr];dsimp only;by_cases f:e=0
  ·grind
  ·rw[if_neg (by grind),XH hr f]
end
section
variable {b:j6} {c:o5} {br:List Int} {ss:List m8} {t:u3} {md v:Int} {out:List Nat}
def Kh(b:j6)(c:o5)(br:List Int)(ss:List m8)(t:u3)(v md:Int)(out:List Nat):List Int×Int:=if(md==0||md==1)=true then(if m0 v 0 ((j5 b:Int)-1)=true then BX b c br ss t md out v.toNat else([],4)) else([],2)
def N9(b:j6)(c:o5)(br:List Int)(ss:List m8)(t:u3)(v md:Int):List Int×Int:=if Y9 b c br ss t=0 then Kh b c br ss t v md ((N8 b (A0 (lV b).length br) [] (j5 b)).getD []) else([],Y9 b c br ss t)
theorem S0j(q:wf l6 b)(o:cnt l6 b<=1048576)(e:wf o8 c)(g:br.length<=1048576)(m:ss.length<=9223372036854775807)(i:wf y44 t):Cz b c br ss t v md=some (CN (N9 b c br ss t v md)):=by
 unfold Cz N9;rw[K0F q o e g m i];unfold XE;by_cases h:Y9 b c br ss t=0
 ·obtain⟨j,a,d⟩:=RR h;have f:=d.len;rw[if_pos h,if_pos h,d.ho];refine(if_neg (by simp[Bc])).trans ((gP ⟨rfl,trivial⟩).trans ?_);show(if((0:Int) != 0)=true then(some (Sum.inl 0):Option (Int ⊕ List Int×Int)) else gd ((Hn md).isSome=true/\True) (if(!vl (Hn md))=true then some (Sum.inl 2) else(if Bc (T4 (m7 b,A0 (lV b).length br) c ss t v md)=true then gd (Bc (T4 (m7 b,A0 (lV b).length br) c ss t v md)=true/\True) (some (Sum.inl (vL (T4 (m7 b,A0 (lV b).length br) c ss t v md)))) else gd (Jt (T4 (m7 b,A0 (lV b).length br) c ss t v md)=true/\True) (lt (vR (T4 (m7 b,A0 (lV b).length br) c ss t v md)) fun s=>some (Sum.inr s)))))=_;rw[if_neg (by decide),gP ⟨rfl,trivial⟩];unfold Kh;show(if(!(md==0||md==1))=true then some (Sum.inl 2) else _)=_;cases hmd:(md==0||md==1) with
  | false=>rfl
  | true =>
    refine(if_neg (by simp)).trans ?_;rw[if_pos rfl];have l:T4 (m7 b,A0 (lV b).length br) c ss t v md=some (CN (if m0 v 0 ((j5 b:Int)-1)=true then BX b c br ss t md a v.toNat else([],4))):=by
     cases hi:m0 v 0 ((j5 b:Int)-1) with
     | true =>
       have u:=y9.1 hi;obtain⟨k,rfl⟩:∃k:Nat,v=(k:Int):=⟨v.toNat,by omega⟩;exact N0E q o d.hb e d.hc m (XB.1 j) d.ord f (by omega)
     | false =>
       unfold T4;refine BS 1 (by omega) fun n=>?_;show ML (m7 b,A0 (lV b).length br) c ss t md _ (v,[])=_;unfold ML;dsimp only;simp only[F0H d.hb hi,vS,Option.isSome_some];rfl
    rw[l];show _=some (CN (if m0 v 0 ((j5 b:Int)-1)=true then BX b c br ss t md a v.toNat else([],4)));generalize (if m0 v 0 ((j5 b:Int)-1)=true then BX b c br ss t md a v.toNat else([],4))=r;unfold CN;split <;> rfl
 ·rw[if_neg h,if_neg h];refine(if_pos rfl).trans ((gP ⟨rfl,trivial⟩).trans ?_);refine(if_pos (by show(Y9 b c br ss t != 0)=true; simp[h])).trans ?_;unfold CN;rw[if_neg (by grind)];rfl
theorem D0C(d:wf l6 b)(i:cnt l6 b<=1048576)(a:wf o8 c)(f:br.length<=1048576)(j:ss.length<=9223372036854775807)(g:wf y44 t):Md b c br ss t=some (Y9 b c br ss t):=by
 unfold Md Y9;rw[FL b d i,r70 c a,vS,vS,O0u _ t g,vS,u0F d i a f j,vS];cases hb:p6 b with
 | false =>
   refine(gP ⟨rfl,fun h=>(by grind),fun h=>(by grind),fun h=>(by grind),trivial⟩).trans ?_
   grind[U4]
 | true =>
   have e:J5 b=some (j5 b:Int):=Ic b d hb;rw[e,vS,<- XA];refine(gP ⟨rfl,fun _=>rfl,fun _=>rfl,fun _=>rfl,trivial⟩).trans ?_;cases hc:D3 c with
   | false =>
     grind[U4]
   | true =>
     cases ht:CM (K5 b) t with
     | false=>rfl
     | true =>
       refine(if_neg (by simp)).trans ((gP ⟨rfl,trivial⟩).trans ?_)
       grind[lE,U4]
theorem K0K(f:wf l6 b)(o:cnt l6 b<=1048576)(d:wf o8 c)(e:br.length<=1048576)(m:ss.length<=9223372036854775807)(j:wf y44 t):Hb b c br ss t v md=some (N9 b c br ss t v md):=by
 unfold Hb N9;rw[D0C f o d e m j,vS];refine(gP ⟨rfl,trivial⟩).trans ?_;rw[lE];by_cases h:Y9 b c br ss t=0
 ·obtain⟨l,i,a⟩:=RR h;have g:=a.len;have q:=K3 a.hb;rw[if_pos h,h,a.ho];refine(if_neg (by decide)).trans ((gP ⟨rfl,trivial⟩).trans ?_);unfold Kh;show(if(!(md==0||md==1))=true then some ([],2) else _)=_;cases hmd:(md==0||md==1) with
  | false=>rfl
  | true =>
    refine(if_neg (by simp)).trans ?_;rw[if_pos rfl,HN b f a.hb,vS];refine(gP ⟨rfl,trivial⟩).trans ?_;rw[lE,RM _ _ (by omega) e,vS];refine(gP ⟨rfl,trivial⟩).trans ?_;rw[lE];show lp (Ha (lV b) b c (A0 (lV b).length br) ss t md) ([],v)=some (if m0 v 0 ((j5 b:Int)-1)=true then BX b c br ss t md i v.toNat else([],4));cases hi:m0 v 0 ((j5 b:Int)-1) with
    | true =>
      have r:=y9.1 hi;obtain⟨k,rfl⟩:∃k:Nat,v=(k:Int):=⟨v.toNat,by omega⟩;exact K0H f o a.hb d a.hc m a.src.1 (XB.1 l) a.ord g (by omega)
    | false =>
      refine BS 1 (by omega) fun n=>?_;show Ha (lV b) b c (A0 (lV b).length br) ss t md _ ([],v)=_;unfold Ha;dsimp only;simp only[D0B f a.hb hi,vS,Option.isSome_some];rfl
 grind
theorem n0J(g:OrdOk b br out):∀(n v:Nat) (acc p:List Int),v<j5 b->out.idxOf v<n->P2 (wF b c br ss t md) (m5 b) n v acc=(p,0)->HZ (lV b).length (m5 b) (o9 b) (D4 b br) (C7 b c) (H7 ss) (K4 t) md n v acc=some p
 | 0,_,_,_,_,hn,_=>by omega
 | n+1,v,acc,p,hv,hn,h=>by
   unfold P2 at h;unfold HZ;rcases p0u (b:=b) (c:=c) (br:=br) (ss:=ss) (t:=t) (md:=md) (v:=v) with ⟨k,e,a⟩ | ⟨e,a⟩ | a
   ·have f:=RS (ss:=ss) (c:=c) (t:=t) (md:=md) g hv (by rw[e]) (by grind);rw[e] at h f;rw[if_pos (by rfl),if_neg (by simp)] at h;show(match Gd b c br ss t md v with | none=>none | some none=>some acc | some (some k)=>HZ (lV b).length (m5 b) (o9 b) (D4 b br) (C7 b c) (H7 ss) (K4 t) md n (m5 b k) ((k:Int) :: acc))=_;rw[a];have d:=f.2.2;rw[Int.toNat_natCast] at h d;exact n0J g n _ _ _ f.2.1 (by omega) h
   ·rw[e] at h;rw[if_pos (by rfl),if_pos (by decide)] at h;cases h;show(match Gd b c br ss t md v with | none=>none | some none=>some acc | some (some k)=>HZ (lV b).length (m5 b) (o9 b) (D4 b br) (C7 b c) (H7 ss) (K4 t) md n (m5 b k) ((k:Int) :: acc))=_;rw[a]
   grind
theorem x0g(h:(N9 b c br ss t v md).2=0):∃out,TG b c br ss out/\BU (j5 b) t/\(md==0||md==1)=true/\m0 v 0 ((j5 b:Int)-1)=true/\∃z s y,H7 ss z=some s/\K4 t v.toNat=some y/\NI (lV b).length (m5 b) (o9 b) (D4 b br) (C7 b c) (K4 t) md (N9 b c br ss t v md).1.reverse v.toNat (p7 y.1 md-p7 s.1 md) z:=by
 unfold N9 at h ⊢;by_cases g:Y9 b c br ss t=0
 ·obtain⟨d,out,f⟩:=RR g;rw[if_pos g,f.ho] at h ⊢;refine⟨out,f,XB.1 d,?_⟩;simp only[Option.getD_some] at h ⊢;unfold Kh at h ⊢;split at h
  ·rename_i a;rw[if_pos a];split at h
   ·rename_i hi;rw[if_pos hi];refine⟨a,hi,?_⟩;have j:=y9.1 hi;unfold BX at h ⊢;rcases hr:P2 (wF b c br ss t md) (m5 b) (out.idxOf v.toNat+1) v.toNat [] with ⟨p,e⟩;rw[hr] at h;have h:e=0:=h;subst h;have i:=n0J f.ord _ _ _ _ (by omega) (Nat.lt_succ_self _) hr
    grind[w0y]
   omega
  omega
 grind
end
theorem K0E{n:Int}(d:0<=n)(e:n<3)(a b c:Int):[a,b,c].getD n.toNat 0=a∨[a,b,c].getD n.toNat 0=b∨[a,b,c].getD n.toNat 0=c:=by
 have:n=0∨n=1∨n=2:=by omega
 rcases this with rfl | rfl | rfl
 ·exact .inl rfl
 ·exact .inr (.inl rfl)
 ·exact .inr (.inr rfl)
theorem NT{n:ByteArray}{a b c d:Int}(h : -10000<=a/\a<=10000)(e : -10000<=b/\b<=10000)(g : -10000<=c/\c<=10000)(f : -10000<=d/\d<=10000):N0t (n,a,b,c,d):=⟨h,e,g,f⟩
theorem I0J{s:l5}(h:Sd s):∃r,Mo s=some r/\(Sd r.2/\N0t r.1):=by
 obtain⟨v0,s0,v,d,z,k,-⟩:=u9 (n:=3) h (by omega);have k:=k (by omega);obtain⟨v1,s1,G,e,a1,t,-⟩:=u9 (n:=20) d (by omega);have t:=t (by omega);obtain⟨v2,s2,F,g,a2,u,-⟩:=u9 (n:=20) e (by omega);have u:=u (by omega);obtain⟨v3,W,x,f,a3,o,-⟩:=u9 (n:=60) g (by omega);have o:=o (by omega);obtain⟨Q,P,y,c,T,l,-⟩:=u9 (n:=40) f (by omega);have l:=l (by omega);obtain⟨Y,s5,E,a,a5,b5,-⟩:=u9 (n:=30) c (by omega);obtain⟨X,s6,w,i,q,j,-⟩:=u9 (n:=3) a (by omega);have j:=j (by omega);obtain⟨v7,s7,H,b,a7,m,-⟩:=u9 (n:=2) a (by omega);have m:=m (by omega);have V:=K0E q j 99 100 (-1);unfold Mo;simp only[v,G,F,vS,Option.isSome_some];refine j9 ⟨trivial,⟨z,by simp; omega⟩,by simp; omega,trivial,oo,oo,trivial,oo,oo,trivial⟩ (q9 ?_);dsimp only;simp only[x,vS,Option.isSome_some];refine j9 ⟨trivial,oo,oo,trivial⟩ (q9 ?_);dsimp only;simp only[y,vS,Option.isSome_some];refine j9 ⟨trivial,oo,oo,trivial⟩ (q9 ?_);dsimp only;simp only[E,vS,Option.isSome_some];refine j9 ⟨trivial,trivial⟩ (q9 ?_);dsimp only;split
 ·exact j9 ⟨oo,trivial⟩ ⟨_,rfl,a,NT oo oo oo oo⟩
 split
 ·simp only[w,vS,Option.isSome_some];refine j9 ⟨trivial,⟨q,by simp; omega⟩,by simp; omega,trivial⟩ (q9 ?_);dsimp only;exact⟨_,rfl,i,NT oo oo oo oo⟩
 split
 ·simp only[H,vS,Option.isSome_some];refine j9 ⟨trivial,oo,trivial⟩ (q9 ?_);exact⟨_,rfl,b,NT oo oo oo oo⟩
 split
 ·exact⟨_,rfl,a,NT oo oo oo oo⟩
 ·exact⟨_,rfl,a,NT oo oo oo oo⟩
theorem D0W{s:l5}(h:Sd s):∃r,Mn s=some r/\Sd r.2:=by
 obtain⟨f,j,e,b,i,m,-⟩:=u9 (n:=24) h (by omega);obtain⟨l,k,c,a,g,d,-⟩:=u9 (n:=2) b (by omega);have d:=d (by omega);unfold Mn;simp only[e,vS,Option.isSome_some];refine j9 ⟨trivial,trivial⟩ (q9 ?_);dsimp only;split
 ·simp only[c,vS,Option.isSome_some];exact j9 ⟨trivial,oo,oo,trivial⟩ (q9 ⟨_,rfl,a⟩)
 ·simp only[c,vS,Option.isSome_some];exact j9 ⟨trivial,trivial⟩ (q9 ⟨_,rfl,a⟩)
section
variable [Alw]
end
theorem n0f(l:List Int)(h:l.length<=9223372036854775807):Hc l l=some true:=by
 unfold Hc;refine(if_neg (by simp)).trans ?_;have a:=F1 (n:=l.length) h (fun _=>false) (some false) (e:=some true) (F:=H0l l l) (fun g i hi=>by
  have b:((i:Int)).toNat=i:=rfl;refine(if_pos (decide_eq_true (by omega))).trans ?_;rw[b];refine(gP ⟨oo,oo,trivial⟩).trans ?_;refine(if_neg (by simp)).trans ?_;rw[if_neg (by simp)];exact gP ⟨oo,trivial⟩) (fun g=>if_neg (by simp))
 grind
theorem r0m{w:Nat->Int×Int}{fr:Nat->Nat}:∀(n v:Nat) (acc:List Int),(P2 w fr n v acc).1.length<=n+acc.length
 | 0,_,_=>by grind[P2]
 | n+1,v,acc=>by
   unfold P2;split
   ·split
    ·grind
    ·have:=r0m (w:=w) (fr:=fr) n (fr (w v).1.toNat) ((w v).1 :: acc);rw[List.length_cons] at this;omega
   grind
section
variable {b:j6} {c:o5} {br:List Int} {ss:List m8} {t:u3} {md v:Int}
theorem C0v:(N9 b c br ss t v md).1.length<=1000001:=by
 by_cases h:Y9 b c br ss t=0
 ·obtain⟨i,d,f⟩:=RR h;have g:=f.len;unfold N9 Kh;rw[if_pos h,f.ho];split
  ·split
   ·have e:=r0m (w:=wF b c br ss t md) (fr:=m5 b) (d.idxOf v.toNat+1) v.toNat [];have j:=List.idxOf_le_length (a:=v.toNat) (l:=d);rw[List.length_nil] at e;refine Nat.le_trans e ?_;omega
   grind
  grind
 grind[N9]
theorem C0w(h:(N9 b c br ss t v md).2≠0):(N9 b c br ss t v md).1=[]:=by
 unfold N9 at h ⊢;by_cases d:Y9 b c br ss t=0
 ·rw[if_pos d] at h ⊢;unfold Kh at h ⊢;split at h
  ·rename_i e;rw[if_pos e];split at h
   ·rename_i a;rw[if_pos a];unfold BX at h ⊢
    grind[XH]
   grind
  grind
 grind
theorem S0h[Alw](T:ss.length<=20000)(hi:BT ss)(m:∀s∈ss,C2 s.2.1=true/\A7 s.2.2=true){z:Nat}{s y:r5}(n:H7 ss z=some s){f:Int}(V:0<=f/\f<=9000000000000)(l:f=p7 y.1 md-p7 s.1 md)(j:0<=v/\v < (t.2.1.length:Int))(H:t.2.1.getD v.toNat (0,0)=y.1) :
  ∃r,lp (Wc (b,c,br,ss,t,v,md) f (z:Int)) 0=some r/\r=true:=by
 refine N6 (fun i:Int=>20001-i.toNat) (fun i=>(0<=i/\i<=(ss.length:Int))/\∀w:Nat,(w:Int)<i->(ss.getD w (b7 y53)).1≠(z:Int)) ?_ ⟨oo,fun w h=>by omega⟩ (by omega);rintro g i ⟨⟨Y,i2⟩,X⟩ E;obtain⟨w,rfl⟩:∃w:Nat,i=(w:Int):=⟨i.toNat,by omega⟩;have G:((w:Int)).toNat=w:=rfl;unfold Wc;by_cases F:(w:Int) < (ss.length:Int)
 ·rw[if_pos (decide_eq_true F)];simp only[G];refine j9 ⟨oo,trivial⟩ ?_;by_cases hz:(ss.getD w (b7 y53)).1=(z:Int)
  ·rw[if_neg (by grind)];have q:=G6 (d:=b7 y53) (by omega:w<ss.length);have e:=Kc hi q hz;rw[n] at e;have e:s=(ss.getD w (b7 y53)).2:=Option.some.inj e;have o:=Ga.1 (m _ q).1;have k:t.2.1.getD v.toNat (b7 y51)=y.1:=H;rw[k,<- e];rw[<- e] at o;unfold p7 at l;by_cases a:(md==0)=true
   ·rw[if_pos a,if_pos a] at l;rw[if_pos a];exact j9 ⟨oo,oo,⟨j.1,j.2⟩,trivial⟩ ⟨_,rfl,by grind⟩
   ·rw[if_neg a,if_neg a] at l;rw[if_neg a];exact j9 ⟨oo,oo,⟨j.1,j.2⟩,trivial⟩ ⟨_,rfl,by grind⟩
  ·rw[if_pos (bne_iff_ne.2 hz)];refine j9 ⟨oo,trivial⟩ (E _ ⟨oo,fun u W=>?_⟩ (by omega))
   grind
 ·obtain⟨x,o,P,Q⟩:=RG n
  grind[List.mem_iff_getElem,List.getElem?_eq_getElem,absurd]
theorem S0i[Alw](T:wf l6 b)(V:cnt l6 b<=1048576)(o:wf o8 c)(aB:br.length<=1048576){W:List Nat}(e:TG b c br ss W)(X:BU (j5 b) t)(hl:ss.length<=20000){z:Nat}{s y:r5}(hs:H7 ss z=some s)(P:m0 v 0 ((j5 b:Int)-1)=true)(hy:t.2.1.getD v.toNat (0,0)=y.1){p:List Int}(hp:p.length<=1000001)(u:NI (lV b).length (m5 b) (o9 b) (D4 b br) (C7 b c) (K4 t) md p.reverse v.toNat (p7 y.1 md-p7 s.1 md) z) :
  ∃r,lp (We (b,c,br,ss,t,v,md) (p,0) (lV b,0)) (v,0,(p.length:Int)-1)=some r/\r=true:=by
 have P:=y9.1 P;have hM:=K3 e.hb;refine N6 (fun j:Int×Int×Int=>(j.2.2+1).toNat) (fun j=>∃(n a:Nat),j.1=(a:Int)/\j.2.2=(n:Int)-1/\n<=p.length/\(0<=j.2.1/\j.2.1<=5000000*((p.length:Int)-n))/\NI (lV b).length (m5 b) (o9 b) (D4 b br) (C7 b c) (K4 t) md (p.take n).reverse a (p7 y.1 md-p7 s.1 md-j.2.1) z) ?_ ⟨p.length,v.toNat,by omega,rfl,Nat.le_refl _,⟨by grind,by grind⟩,by grind⟩ (by grind);rintro g ⟨aC,l,i⟩ ⟨n,a,e1,e2,hn,f,u⟩ ih;simp only at e1 e2 f u;subst e1 e2;unfold We;dsimp only;by_cases cc:0<=(n:Int)-1
 ·rw[if_pos (decide_eq_true cc)];obtain⟨m,rfl⟩:∃m,n=m+1:=⟨n-1,by omega⟩;have e3:(((m+1:Nat):Int)-1).toNat=m:=by omega
  have G:m<p.length:=by omega
  rw[List.take_succ_eq_append_getElem G,List.reverse_append,List.reverse_singleton] at u;obtain⟨k,x,hk,E,k2,k3,H,k5⟩:=u;have ek:p.getD m 0=(k:Int):=by rw[gq,List.getElem?_eq_getElem G]; exact hk
  have e4:Int.toNat ((k:Nat):Int)=k:=rfl;obtain⟨f1,f2,f3,f4⟩:=J8 b e.hb E;have e5:Int.toNat ((m5 b k:Nat):Int)=m5 b k:=rfl;have n3:=X.l3;have q:=X.vals _ f3;obtain⟨_,_,_,he⟩:=RQ T V e.hb o e.hc E;have es:=(he _ q.2.1).2;have Q:=Kg T V e.hb o e.hc E q.2.1;have Y:Ji b c (k:Int) (t.2.2.getD (m5 b k) (b7 y51))=some ((C7 b c k (t.2.2.getD (m5 b k) (0,0))).1,(C7 b c k (t.2.2.getD (m5 b k) (0,0))).2,0):=by
   refine(q25 b T V c o (k:Int) _ _ fun _ _ _ _=>es).trans ?_;unfold Xi;rw[e.hb,e.hc,RP E,q.2.1];rfl
  have hx:x=(t.2.1.getD (m5 b k) (0,0),t.2.2.getD (m5 b k) (0,0)):=by
   rw[Gc] at H;split at H
   ·exact(Option.some.inj H).symm
   ·cases H
  have F:Mj br (k:Int)=some false:=by
   rw[r26 br _ (by omega)];have h2:(A0 (lV b).length br).getD k false=true:=k2;rw[y0V br E,Bool.not_eq_true'] at h2;rw[h2]
  simp only[e3,ek,e4,F,vS,Option.isSome_some];refine j9 ⟨oo,by omega,oo,by omega,trivial⟩ (q9 ?_);simp only[f1,e5,f2,Y,vS,Option.isSome_some];refine j9 ⟨oo,by omega,oo,trivial,trivial⟩ (q9 ?_);refine j9 ⟨fun _=>oo,fun _=>by omega,fun _=>trivial,trivial⟩ ?_;rw[if_neg (by grind)];rw[hx] at k5;have h:∀d:Int,d=p7 (C7 b c k (t.2.2.getD (m5 b k) (0,0))).1 md->∃r,Na ((lV b).getD k (b7 y80)) (((m+1:Nat):Int)-1) g (l+d)=some r/\r=true:=fun d hd=>by
   have aA:=w0a md (d:=(C7 b c k (t.2.2.getD (m5 b k) (0,0))).1) ⟨Q.1,Q.2.1,Q.2.2.1⟩;unfold Na;rw[f1];refine j9 ⟨oo,trivial⟩ (ih _ ⟨m,m5 b k,rfl,by grind,by omega,⟨by grind,by grind⟩,?_⟩ (by grind));simp only;rw[show p7 y.1 md-p7 s.1 md-(l+d)=p7 y.1 md-p7 s.1 md-l-p7 (C7 b c k (t.2.2.getD (m5 b k) (0,0))).1 md by omega];exact k5
  dsimp only;by_cases w:(md==0)=true
  ·rw[if_pos w];refine j9 ⟨oo,trivial⟩ (h _ ?_)
   grind[p7]
  ·rw[if_neg w];refine j9 ⟨oo,trivial⟩ (h _ ?_)
   grind[p7]
 ·rw[if_neg (by grind)];obtain rfl:n=0:=by omega
  rw[List.take_zero,List.reverse_nil] at u;obtain⟨rfl,h0⟩:=u;unfold Wd;have n2:=X.l2;exact S0h hl e.src.1 e.src.2 hs ⟨f.1,by omega⟩ (by omega) ⟨P.1,by omega⟩ hy
end
theorem wfP{v:j6×o5×List Int×List m8×u3×Int×Int}(h:FZ (QY v)):wf l6 v.1/\wf o8 v.2.1/\wf y44 v.2.2.2.2.1 :=
 ⟨⟨h.1.1,⟨h.1.2.1,h.1.2.2.1,h.1.2.2.2.1⟩,h.1.2.2.2.2.1⟩,⟨h.2.1.1,h.2.1.2.1,h.2.1.2.2.1,h.2.1.2.2.2.1,h.2.1.2.2.2.2.1⟩,⟨h.2.2.2.2.1.1,h.2.2.2.2.1.2.1,h.2.2.2.2.1.2.2.1⟩⟩
theorem lw6[Alw](c:List Int)(_:wf (.sl (.int .u8)) c):u6 c=some true:=by
 have g:∀e:Option Bool,(∃r,e=some r/\r=true)->e=some true:=by rintro e ⟨r,rfl,rfl⟩; rfl
 refine g _ ?_;unfold u6;refine j9 ⟨rfl,trivial⟩ ?_;split
 ·grind
 ·refine j9 ⟨trivial,trivial⟩ ⟨true,?_,rfl⟩;refine Alw.alp_of (([],([],[],[]),[]),(ByteArray.empty,0,0,0,0),[],[],([],[],[]),0,0) ⟨⟨by decide,by decide,by decide⟩,⟨⟨CK,CK,CK,CK,CK,trivial⟩,⟨by show(0:Nat)<=_; decide,⟨by decide,by decide⟩,⟨by decide,by decide⟩,⟨by decide,by decide⟩,⟨by decide,by decide⟩,trivial⟩,CK,CK,⟨CK,CK,CK,trivial⟩,⟨by decide,by decide⟩,⟨by decide,by decide⟩,trivial⟩,trivial⟩ fun P w=>?_;obtain⟨⟨Y,F,E⟩,G,-⟩:=w;obtain⟨d,i,h⟩:=wfP G;obtain⟨b,k,f,a,t,v,md⟩:=P;simp only at Y F E d i h;have n:cnt l6 b<=1048576:=by omega
  have l:f.length<=1048576:=by omega
  have q:a.length<=9223372036854775807:=by omega
  have X:=S0j (v:=v) (md:=md) d n i l q h;have V:=K0K (v:=v) (md:=md) d n i l q h;refine(gP trivial).trans (g _ ?_);simp only[X,V,vS,Option.isSome_some];by_cases m:(N9 b k f a t v md).2=0
  ·obtain⟨T,hT,u,x,hi,z,s,y,hs,hy,hB⟩:=x0g m;have W:(N9 b k f a t v md).1.length<=1000001:=C0v;have j:N9 b k f a t v md=((N9 b k f a t v md).1,0):=by grind
   generalize (N9 b k f a t v md).1=p at W hB j;have o:CN (p,0)=.inr (p,0):=rfl;have Q:vR (some (Sum.inr (p,(0:Int))):Option (Int ⊕ List Int×Int))=(p,0):=rfl;have aA:=y9.1 hi;have n1:=u.l1;have n2:=u.l2;rw[j,o];rw[if_neg (by simp[Bc])];refine j9 ⟨rfl,trivial⟩ (q9 (j9 ⟨trivial,trivial⟩ (q9 ?_)));rw[Q];simp only[n0f p (by omega),vS,Option.isSome_some];refine j9 ⟨fun _=>trivial,trivial⟩ ?_;rw[if_neg (by simp),if_neg (by simp)];simp only[n24 b d n hT.hb,vS,Option.isSome_some];refine j9 ⟨trivial,trivial⟩ (q9 (j9 ⟨oo,trivial⟩ ?_))
   grind[S0i,Gc,Option.some.inj]
  ·have hn:=C0w m;have j:N9 b k f a t v md=([],(N9 b k f a t v md).2):=by grind
   generalize (N9 b k f a t v md).2=e at m j;have o:CN ([],e)=.inl e:=by
    unfold CN;rw[if_neg (by grind)]
   have H:vL (some (Sum.inl e):Option (Int ⊕ List Int×Int))=e:=rfl;rw[j,o];rw[if_pos (by rfl)];refine j9 ⟨rfl,trivial⟩ (q9 (j9 ⟨trivial,trivial⟩ (q9 ?_)));rw[H];simp only[n0f [] (Nat.zero_le _),vS,Option.isSome_some];refine j9 ⟨fun _=>trivial,trivial⟩ ?_
   simp_all
theorem L0B{a c ρ:Type}(mk:a->c){F:(c->Option ρ)->c->Option ρ}{G:(a->Option ρ)->a->Option ρ}(h:∀g s,F g (mk s)=G (fun s=>g (mk s)) s)(s:a):lp F (mk s)=lp G s:=by
 have b:∀n s,H3 F n (mk s)=H3 G n s:=by
  intro n
  induction n with
  | zero=>intro s; rfl
  | succ n d =>
    intro s;show F (H3 F n) (mk s)=G (H3 G n) s
    simp_all
 exact b _ s
section
variable {b:j6}
def DO(b:j6)(fw:Bool):Nat->Nat:=if fw=true then m5 b else o9 b
def DP(b:j6)(fw:Bool):Nat->Nat:=if fw=true then o9 b else m5 b
theorem u0t(e:p6 b=true)(a:Bool){i:Nat}(hi:i < (lV b).length):DO b a i<j5 b/\DP b a i<j5 b:=by
 obtain⟨_,_,d,c⟩:=J8 b e hi;cases a
 ·exact⟨c,d⟩
 ·exact⟨d,c⟩
theorem XI(d:p6 b=true){lv:List Bool}(P:lv.length=(lV b).length){s:Nat}(z:s<j5 b)(a:Bool):∃L,RB (lV b).length (j5 b) (DO b a) (DP b a) (fun i=>lv.getD i false) s L/\Dn (j5 b:Int) (lV b) lv (s:Int) a=some L:=by
 have T:=K3 d;have w:=Ag b d;unfold Dn;have x:((j5 b:Int)).toNat=j5 b:=rfl;have H:((s:Int)).toNat=s:=rfl;rw[x,H,gP ⟨⟨by omega,rfl,by omega,by omega⟩,trivial⟩,gP ⟨by rw[List.length_replicate]; exact oo,by grind,trivial⟩];obtain⟨L,E,v⟩:=p0S (ρ:=List Bool) (lV b).length (j5 b) (DO b a) (DP b a) (fun i=>lv.getD i false) (fun i hi=>(u0t d a hi).2) w z (F:=fun g q=>A0Q lv a (lV b) (fun t=>g (t.2,t.1)) (q.2,q.1)) (J:=fun L=>some L) (fun g q G=>by
  obtain⟨r,c⟩:=q;cases c with
  | false=>rfl
  | true =>
    refine Eq.trans (if_pos (c:=(true:Bool)=true) (t:=lp (Vg lv a (lV b) fun t=>g (t.2,t.1)) (false,0,r)) (e:=Ve r) rfl) ?_;show _=g (fN (F4 (DO b a) (DP b a) fun i=>lv.getD i false) (lV b).length (r,false));refine lF (n:=(lV b).length) (by omega) (fun(k:Nat) (s:List Bool×Bool)=>(s.2,(k:Int),s.1)) (F4 (DO b a) (DP b a) fun i=>lv.getD i false) (fun _ s=>s.1.length=j5 b) (J:=fun s=>g (s.1,s.2)) (F:=Vg lv a (lV b) fun t=>g (t.2,t.1)) (fun l k s m j=>?_) (fun k s m j=>?_) (fun l s _=>aE) (r,false) G
    ·obtain⟨u,o,_,_⟩:=J8 b d m;obtain⟨V,Q⟩:=u0t d a m;have j:s.1.length=j5 b:=j;have y:((k:Int)).toNat=k:=rfl;have f:Qp (k:Int) s.1 s.2 lv l ((DO b a k:Int),(DP b a k:Int))=l ((F4 (DO b a) (DP b a) (fun i=>lv.getD i false) k s).2,((k+1:Nat):Int),(F4 (DO b a) (DP b a) (fun i=>lv.getD i false) k s).1):=by
      refine(gP ⟨oo,(fun _=>oo),(fun _=>by omega),(fun _=>oo),(fun _=>by omega),trivial⟩).trans ?_;unfold F4;by_cases h:(lv.getD k false&&s.1.getD (DO b a k) false&&!s.1.getD (DP b a k) false)=true
      ·rw[if_pos h];refine(if_pos h).trans ?_;refine(gP ⟨oo,by omega,trivial⟩).trans ?_;exact gP ⟨oo,trivial⟩
      ·rw[if_neg h];refine(if_neg h).trans ?_;exact gP ⟨oo,trivial⟩
     refine(if_pos (by grind)).trans ?_;refine(gP ⟨oo,oo,trivial⟩).trans ?_;rw[lE,y];cases a with
     | false =>
       refine(if_pos rfl).trans ?_;rw[u,o];exact f
     | true =>
       refine(if_neg (by simp)).trans ?_;rw[u,o];exact f
    grind[j5,F4,set,List.length_set])
 refine⟨L,E,Eq.trans ?_ v⟩;exact L0B (fun q:List Bool×Bool=>(q.2,q.1)) (fun g s=>rfl) ((List.replicate (j5 b) false).set s true,true)
end
theorem O0v(L:List Bool)(h:L.length<=1048576):Qm L=some (F5 (fun i=>L.getD i false) L.length):=by
 rw[<- DK];refine lF (n:=L.length) (by omega) (fun(k:Nat) (s:List Int)=>((k:Int),s)) (fun i s=>if L.getD i false=true then s++[(i:Int)] else s) (fun k s=>s.length<=k) (J:=fun s=>some s) (F:=B0J L) (fun g k s b a=>?_) (fun k s b a=>?_) (fun g s _=>aE) [] (Nat.le_refl _)
 ·have a:s.length<=k:=a;have c:((k:Int)).toNat=k:=rfl;refine(if_pos (by grind)).trans ?_;refine(gP ⟨oo,trivial⟩).trans ?_;rw[c];cases hl:L.getD k false with
  | false =>
    refine(if_neg (by simp)).trans ?_;exact gP ⟨oo,trivial⟩
  | true =>
    refine(if_pos rfl).trans ?_;refine(gP ⟨⟨by grind,by grind⟩,trivial⟩).trans ?_;exact gP ⟨oo,trivial⟩
 grind
section
variable {b:j6}
end
theorem E0t{l:List Int}{x:Int}:B9 l x=true↔x∈l:=by
 unfold B9;rw[List.any_eq_true];constructor
 ·rintro⟨j,a,b⟩;rw[<- eq_of_beq b];exact G6 (List.mem_range.1 a)
 ·intro h;obtain⟨j,a,rfl⟩:=List.getElem_of_mem h;exact⟨j,List.mem_range.2 a,by rw[gq,List.getElem?_eq_getElem a]; exact beq_self_eq_true _⟩
def CO(p:Nat->Bool)(N:Nat)(S:List Bool):List Bool:=(List.range N).map fun w=>S.getD w false||p w
theorem RU(p:Nat->Bool)(N:Nat)(S:List Bool):(CO p N S).length=N:=by
 grind[CO,List.length_map,List.length_range]
theorem XJ(p:Nat->Bool)(N:Nat)(S:List Bool){w:Nat}(h:w<N):(CO p N S).getD w false=(S.getD w false||p w):=by
 grind[CO]
def L3(N v:Nat)(S:List Bool):List Bool:=(List.range N).map fun w=>decide (w<v)||S.getD w false
theorem NU(N v:Nat)(S:List Bool):(L3 N v S).length=N:=by
 grind[L3,List.length_map,List.length_range]
theorem NV(N v:Nat)(S:List Bool){w:Nat}(h:w<N):(L3 N v S).getD w false=(decide (w<v)||S.getD w false):=by
 grind[L3]
theorem q0U{N:Nat}{p:Nat->Bool}(h:((List.range N).filter p).length<2){v w:Nat}(c:v<N)(b:p v=true)(d:w<N)(f:p w=true):w=v:=by
 have a:v∈(List.range N).filter p:=List.mem_filter.2 ⟨List.mem_range.2 c,b⟩;have e:w∈(List.range N).filter p:=List.mem_filter.2 ⟨List.mem_range.2 d,f⟩;generalize (List.range N).filter p=l at h a e
 match l,h with
 | [],_=>cases a
 | [x],_=>grind
 | x :: y :: r,h=>grind
theorem q0a(p:Nat->Bool)(N:Nat)(D:List Bool)(a:D.length=N):∀m,m<=N->(fN (fun w (s:List Bool)=>if p w=true then s.set w true else s) m D).length=N/\∀w,w<N->(fN (fun w (s:List Bool)=>if p w=true then s.set w true else s) m D).getD w false=(D.getD w false||(decide (w<m)&&p w))
 | 0,_=>⟨a,fun w _=>by simp[fN]⟩
 | m+1,h=>by
   obtain⟨c,b⟩:=q0a p N D a m (by omega);show(if p m=true then List.set _ m true else _:List Bool).length=N/\∀w,w<N->(if p m=true then List.set _ m true else _:List Bool).getD w false=_
   grind
theorem u0z(p:Nat->Bool)(N:Nat)(D:List Bool)(c:D.length=N):fN (fun w (s:List Bool)=>if p w=true then s.set w true else s) N D=CO p N D:=by
 obtain⟨b,d⟩:=q0a p N D c N (Nat.le_refl _);refine JX false (by rw[b,RU]) fun w a=>?_;rw[b] at a;rw[d w a,XJ _ _ _ a,decide_eq_true a,Bool.true_and]
theorem r0t(M:Nat)(q:Nat->Bool):(List.range M).any q=decide (0 < ((F5 q M).length:Int)):=by
 rw[Bool.eq_iff_iff,List.any_eq_true,dq,(DL q M).2];constructor
 ·rintro⟨x,c,a⟩;have:x∈(List.range M).filter q:=List.mem_filter.2 ⟨c,a⟩;have:=List.length_pos_of_mem this;omega
 ·intro h;obtain⟨x,b⟩:=List.exists_mem_of_length_pos (show 0 < ((List.range M).filter q).length by omega);exact⟨x,List.mem_filter.1 b⟩
section
variable {b:j6}
def DQ(b:j6)(lv:List Bool)(v:Nat):List Bool:=vl (Dn (j5 b:Int) (lV b) lv (v:Int) true)
theorem NW(d:p6 b=true){lv:List Bool}(a:lv.length=(lV b).length){v:Nat}(e:v<j5 b):RB (lV b).length (j5 b) (m5 b) (o9 b) (fun i=>lv.getD i false) v (DQ b lv v)/\Dn (j5 b:Int) (lV b) lv (v:Int) true=some (DQ b lv v):=by
 obtain⟨L,f,c⟩:=XI d a e true;unfold DQ;rw[c];exact⟨f,rfl⟩
def J1(b:j6)(lv:List Bool)(v w:Nat):Bool:=(DQ b lv v).getD w false&&(DQ b lv w).getD v false
def Ai(b:j6)(lv:List Bool)(v:Nat):List Int:=F5 (J1 b lv v) (j5 b)
def NX(b:j6)(lv:List Bool)(v:Nat):Bool:=decide (0 < ((F5 (fun k=>lv.getD k false&&(m5 b k==v&&o9 b k==v)) (lV b).length).length:Int))
def Aj(b:j6)(lv:List Bool)(v:Nat):Bool:=decide (1 < ((Ai b lv v).length:Int))||NX b lv v
def O9(b:j6)(lv:List Bool)(v:Nat)(s:List Bool×List (List Int)):List Bool×List (List Int):=if s.1.getD v false=true then s else if Aj b lv v=true then(CO (J1 b lv v) (j5 b) s.1,s.2++[Ai b lv v]) else s
def Ak(b:j6)(lv:List Bool):List (List Int):=(fN (O9 b lv) (j5 b) (List.replicate (j5 b) false,[])).2
theorem v0w(b:j6)(lv:List Bool){v:Nat}{s:List Bool×List (List Int)}(h:s.1.length=j5 b/\s.2.length<=v):(O9 b lv v s).1.length=j5 b/\(O9 b lv v s).2.length<=v+1:=by
 grind[O9,RU,List.length_append,List.length_singleton]
theorem XK(d:p6 b=true){lv:List Bool}(a:lv.length=(lV b).length){v:Nat}(c:v<j5 b):J1 b lv v v=true:=by
 have h:=((NW d a c).1.2 v c).2 .refl
 grind[J1]
theorem w0o(b:j6)(lv:List Bool)(v:Nat):(Ai b lv v).length<=j5 b:=(DL _ _).1
theorem y0P(i:p6 b=true){lv:List Bool}(f:lv.length=(lV b).length){v:Nat}(j:v<j5 b){s:List Bool×List (List Int)}(_:s.1.length=j5 b):(s.1.getD v false=true->L3 (j5 b) v s.1=L3 (j5 b) (v+1) s.1)/\(s.1.getD v false=false->CO (J1 b lv v) (j5 b) (L3 (j5 b) v s.1)=L3 (j5 b) (v+1) (O9 b lv v s).1):=by
 have a:=XK i f j;refine⟨fun h=>JX false (by grind[NU]) fun w c=>?_,fun h=>JX false (by rw[RU,NU]) fun w c=>?_⟩
 ·grind[NU,NV]
 ·rw[RU] at c;rw[XJ _ _ _ c,NV _ _ _ c,NV _ _ _ c];unfold O9;rw[if_neg (by rw[h]; simp)];by_cases d:Aj b lv v=true
  ·rw[if_pos d,XJ _ _ _ c];by_cases e:w=v
   ·subst e; rw[a]; simp
   ·have:(w<v+1)↔w<v:=by omega
    simp[this,Bool.or_assoc]
  ·rw[if_neg d];have g:((List.range (j5 b)).filter (J1 b lv v)).length<2:=by
    have:=(DL (J1 b lv v) (j5 b)).2;unfold Aj at d;rw[Bool.or_eq_true,not_or,dq] at d;unfold Ai at d;omega
   grind[J1,absurd,q0U]
theorem M0s(d:p6 b=true){lv:List Bool}(l:lv.length=(lV b).length)(a:Nat):Mp (lV b) lv (a:Int)=some (NX b lv a):=by
 have q:=K3 d;unfold NX;rw[<- r0t];have c:=F1 (n:=(lV b).length) (by omega) (fun i=>lv.getD i false&&(m5 b i==a&&o9 b i==a)) (some true) (e:=some false) (F:=A0O lv (lV b) (a:Int)) (fun g i hi=>by
  obtain⟨f,o,_⟩:=J8 b d hi;have k:((i:Int)).toNat=i:=rfl;have m:((m5 b i:Int)==(a:Int))=(m5 b i==a):=by
   rw[Bool.eq_iff_iff,beq_iff_eq,beq_iff_eq]; omega
  have j:((o9 b i:Int)==(a:Int))=(o9 b i==a):=by
   rw[Bool.eq_iff_iff,beq_iff_eq,beq_iff_eq]; omega
  refine(if_pos (by simpa using hi)).trans ?_;rw[k,f,o,m,j,Bool.and_assoc];refine(gP ⟨oo,(fun _=>oo),(fun _=>oo),trivial⟩).trans ?_;by_cases h:(lv.getD i false&&(m5 b i==a&&o9 b i==a))=true
  ·simp_all
  ·rw[if_neg h,if_neg h];exact gP ⟨oo,trivial⟩) (fun g=>aE)
 refine c.trans ?_
 grind
theorem O0t(d:p6 b=true){lv:List Bool}(a:lv.length=(lV b).length):Ho (j5 b:Int) (lV b) lv=some (Ak b lv):=by
 have hM:=K3 d;have hN:=Ag b d;have e0:((j5 b:Int)).toNat=j5 b:=rfl;unfold Ho;rw[gP ⟨⟨by omega,rfl,by omega,by omega⟩,trivial⟩,e0];have G:List.replicate (j5 b) false=L3 (j5 b) 0 (List.replicate (j5 b) false):=JX false (by rw[NU,List.length_replicate]) fun w i=>by
  grind[List.length_replicate,NV]
 refine Eq.trans (congrArg (fun x=>lp (Vj (lV b) lv (j5 b:Int)) (0,x,[])) G) ?_;refine lF (n:=j5 b) (by omega) (fun(v:Nat) (s:List Bool×List (List Int))=>((v:Int),L3 (j5 b) v s.1,s.2)) (O9 b lv) (fun v s=>s.1.length=j5 b/\s.2.length<=v) (J:=fun s=>some s.2) (F:=Vj (lV b) lv (j5 b:Int)) (fun g v s e j=>?_) (fun v s e j=>v0w b lv j) (fun g s _=>aE) (List.replicate (j5 b) false,[]) ⟨List.length_replicate,Nat.le_refl _⟩;obtain⟨r,H⟩:=j;obtain⟨S,o⟩:=s;have r:S.length=j5 b:=r;have H:o.length<=v:=H;have e3:((v:Int)).toNat=v:=rfl;have k:=NU (j5 b) v S;have z:(L3 (j5 b) v S).getD v false=S.getD v false:=by
  rw[NV _ _ _ e,decide_eq_false (Nat.lt_irrefl v),Bool.false_or]
 obtain⟨P,y⟩:=y0P d a e (s:=(S,o)) r;have P:S.getD v false=true->L3 (j5 b) v S=L3 (j5 b) (v+1) S:=P;have y:S.getD v false=false->CO (J1 b lv v) (j5 b) (L3 (j5 b) v S)=L3 (j5 b) (v+1) (O9 b lv v (S,o)).1:=y;have j2:∀t u,Jl (v:Int) g (t,u)=g (((v+1:Nat):Int),t,u):=fun t u=>gP ⟨oo,trivial⟩;refine(if_pos (decide_eq_true (by omega))).trans ?_;refine(gP ⟨⟨by omega,by grind⟩,by grind,trivial⟩).trans ?_;show(if(L3 (j5 b) v S).getD v false=true then Jl (v:Int) g (L3 (j5 b) v S,o) else _)=g (((v+1:Nat):Int),L3 (j5 b) (v+1) (O9 b lv v (S,o)).1,(O9 b lv v (S,o)).2);rw[z];cases hS:S.getD v false with
 | true =>
   refine(if_pos rfl).trans ?_
   grind[O9]
 | false =>
   refine(if_neg (by simp)).trans ?_;obtain⟨T,t1,t2⟩:=XI d a e true;obtain⟨B,V,b2⟩:=XI d a e false;have c:=NW d a e;obtain rfl:T=DQ b lv v:=t1.uniq c.1;have q:∀w,w<j5 b->B.getD w false=(DQ b lv w).getD v false:=fun w i=>by
    rw[Bool.eq_iff_iff,V.2 w i,(NW d a i).1.2 v e];exact⟨fun h=>Rch.back h,fun h=>Rch.back h⟩
   rw[t2,b2,vS,vS];refine(gP ⟨rfl,rfl,trivial⟩).trans ?_;rw[lE];have aA:=c.1.1;have X:=V.1;rw[<- y hS];have m:lp (Vi (DQ b lv v) B (v:Int) o (lV b) lv (j5 b:Int) g) (0,[],L3 (j5 b) v S)=Mq (v:Int) o (lV b) lv g (Ai b lv v,CO (J1 b lv v) (j5 b) (L3 (j5 b) v S)):=by
    unfold Ai;rw[<- DK,<- u0z (J1 b lv v) (j5 b) (L3 (j5 b) v S) k];have f:∀n,fN (fun w (s:List Int×List Bool)=>if J1 b lv v w=true then(s.1++[(w:Int)],s.2.set w true) else s) n ([],L3 (j5 b) v S)=(fN (fun w (s:List Int)=>if J1 b lv v w=true then s++[(w:Int)] else s) n [],fN (fun w (s:List Bool)=>if J1 b lv v w=true then s.set w true else s) n (L3 (j5 b) v S)):=by
     intro n
     induction n with
     | zero=>rfl
     | succ n ih =>
       grind[J1,fN,set]
    rw[<- f];refine lF (n:=j5 b) (by omega) (fun(w:Nat) (s:List Int×List Bool)=>((w:Int),s.1,s.2)) (fun w (s:List Int×List Bool)=>if J1 b lv v w=true then(s.1++[(w:Int)],s.2.set w true) else s) (fun w s=>s.1.length<=w/\s.2.length=j5 b) (J:=fun s=>Mq (v:Int) o (lV b) lv g s) (F:=Vi (DQ b lv v) B (v:Int) o (lV b) lv (j5 b:Int) g) (fun Q w s i j=>?_) (fun w s i j=>?_) (fun Q s _=>aE) ([],L3 (j5 b) v S) ⟨Nat.le_refl _,k⟩
    ·obtain⟨W,i2⟩:=j;obtain⟨l,D⟩:=s;have W:l.length<=w:=W;have i2:D.length=j5 b:=i2;have e4:((w:Int)).toNat=w:=rfl;refine(if_pos (decide_eq_true (by omega))).trans ?_;rw[e4,q w i];refine(gP ⟨oo,by omega,(fun _=>oo),(fun _=>by omega),trivial⟩).trans ?_;show(if J1 b lv v w=true then _ else _)=Q (((w+1:Nat):Int),(if J1 b lv v w=true then(l++[(w:Int)],D.set w true) else(l,D)).1,(if J1 b lv v w=true then(l++[(w:Int)],D.set w true) else(l,D)).2);by_cases h:J1 b lv v w=true
     ·rw[if_pos h,if_pos h];refine(gP ⟨⟨by grind,by grind⟩,trivial⟩).trans ?_;refine(gP ⟨oo,by omega,trivial⟩).trans ?_;exact gP ⟨oo,trivial⟩
     ·rw[if_neg h,if_neg h];exact gP ⟨oo,trivial⟩
    ·grind
   refine m.trans ?_;have Y:=w0o b lv v;rw[Mq];refine(gP ⟨fun _=>(by grind[M0s]),trivial⟩).trans ?_;rw[M0s d a,vS];have E:O9 b lv v (S,o)=if Aj b lv v=true then(CO (J1 b lv v) (j5 b) S,o++[Ai b lv v]) else(S,o):=if_neg (by grind)
   rw[E];show(if Aj b lv v=true then _ else _)=_;cases hc:Aj b lv v with
   | true =>
     refine(if_pos rfl).trans ?_;rw[j2];exact gP ⟨⟨by grind,by grind⟩,trivial⟩
   | false =>
     grind
end
end Go.Proofs.YtdjgagoledoaaaaGreatDoor
end
section
namespace Go.Proofs.Xd
open Go.Proofs.Xl
section
variable (M N:Nat) (fr to:Nat->Nat) (lv:Nat->Bool)
def RV:Prop:=∃i,i<M/\lv i=true/\Rch M fr to lv (to i) (fr i)
theorem r0b:∀r:List Bool,C6 r<r.length->∃v,v<r.length/\r.getD v false=false
 | [],h=>by simp at h
 | false :: r,_=>⟨0,by simp,rfl⟩
 | true :: r,h=>by
   have e:C6 (true :: r)=C6 r+1:=by unfold C6; rw[List.countP_cons]; rfl
   obtain⟨v,b,a⟩:=r0b r (by rw[e] at h; simpa using h);exact⟨v+1,by simpa using b,by simpa using a⟩
theorem XL:∀(a b:List Bool),a.length=b.length->(∀v,a.getD v false=true->b.getD v false=true)->(∃v,a.getD v false=false/\b.getD v false=true)->C6 a<C6 b:=by
 have k:∀(a b:List Bool),a.length=b.length->(∀v,a.getD v false=true->b.getD v false=true)->C6 a<=C6 b:=by
  intro a
  induction a with
  | nil=>grind
  | cons x a d =>
    intro b c h;cases b with
    | nil=>grind
    | cons y b =>
      have g:=h 0;have:=d b (by grind) (fun v e=>by have:=h (v+1); simpa using this (by simpa using e))
      grind[C6,List.getD_cons_zero]
 intro a
 induction a with
 | nil=>grind
 | cons x a d =>
   intro b c h ⟨v,l,j⟩;cases b with
   | nil=>simp at c
   | cons y b =>
     have f:a.length=b.length:=by simpa using c
     have g:=h 0;have i:∀v,a.getD v false=true->b.getD v false=true:=fun v e=>by have:=h (v+1); simpa using this (by simpa using e)
     simp only[List.getD_cons_zero] at g;cases v with
     | zero =>
       grind[List.getD_cons_zero,C6]
     | succ v =>
       have:=d b f i ⟨v,by grind,by grind⟩
       grind[C6]
theorem I0G(m:∀i,i<M->fr i<N)(_:∀i,i<M->to i<N)(q:N<=1000000){U:Nat->Prop}(o:∀u,U u->u<N/\∃i,i<M/\lv i=true/\to i=u/\U (fr i)){u:Nat}(b:U u):RV M fr to lv:=by
 have l:∀(n u:Nat) (L:List Bool),U u->RB M N to fr lv u L->C6 L<=n->RV M fr to lv:=by
  intro n
  induction n with
  | zero =>
    intro u L b a w;obtain⟨c,i,hi,j,e,r⟩:=o u b;have hz:L.getD u false=true:=(a.2 u c).2 .refl;have:0<C6 L:=by
     unfold C6;rw[List.countP_pos_iff];refine⟨true,?_,rfl⟩;have g:u<L.length:=by rw[a.1]; exact c
     rw[gq,List.getElem?_eq_getElem g] at hz;have hz:L[u]=true:=hz;rw[<- hz];exact List.getElem_mem g
    omega
  | succ n t =>
    intro u L b a w;obtain⟨c,i,hi,j,e,r⟩:=o u b;by_cases x:Rch M fr to lv u (fr i)
    ·exact⟨i,hi,j,by grind⟩
    ·obtain⟨K,f⟩:=B0S M N to fr lv m q (m i hi);refine t (fr i) K r f ?_;have:C6 K<C6 L:=by
      refine XL K L (by rw[f.1,a.1]) (fun v k=>?_) ⟨u,?_,(a.2 u c).2 .refl⟩
      ·have d:v<N:=by
        rcases Nat.lt_or_ge v N with h | h
        ·exact h
        ·rw[gq,List.getElem?_eq_none (by rw[f.1]; exact h)] at k; cases k
       refine(a.2 v d).2 ?_;have s:=(f.2 v d).1 k;have y:Rch M to fr lv u (fr i):=by
        have:=Rch.one (M:=M) (fr:=to) (to:=fr) (lv:=lv) hi j
        rwa [e] at this
       exact y.trans s
      ·cases hc:K.getD u false with
       | false=>rfl
       | true=>exact(x ((f.2 u c).1 hc).back).elim
     omega
 obtain⟨L,a⟩:=B0S M N to fr lv m q (o u b).1;exact l _ u L b a (Nat.le_refl _)
structure LI(out:List Nat):Prop where
 cnt:C6 (N5 N out)=out.length
 lt:∀v∈out,v<N
 cls:∀i,i<M->lv i=true->to i∈out->fr i∈out
 acy:∀i,i<M->lv i=true->fr i∈out->¬Rch M fr to lv (to i) (fr i)
theorem LI.nil:LI M N fr to lv []:=by
 refine⟨?_,(fun _ h=>by cases h),(fun _ _ _ h=>by cases h),(fun _ _ _ h=>by cases h)⟩;show C6 (List.replicate N false)=0
 grind[C6,List.countP_eq_zero]
theorem LI.snoc{M N:Nat}{fr to:Nat->Nat}{lv:Nat->Bool}{a:List Nat}(h:LI M N fr to lv a){v:Nat}(t:v<N)(s:v ∉ a)(m:W5 M fr to lv a v=0):LI M N fr to lv (a++[v]):=by
 have k:∀i,i<M->lv i=true->to i=v->fr i∈a:=fun i hi c e=>by
  unfold W5 at m;rw[List.countP_eq_zero] at m;have:=m i (List.mem_range.2 hi);simpa [c,e] using this
 have o:=NF h.lt v;refine⟨?_,fun w g=>?_,fun i hi c b=>?_,fun i hi c b d=>?_⟩
 ·rw[n0e,r0a (by rw[o.1]; exact t) (by rw[o.2]; simpa using s),h.cnt,List.length_append];rfl
 ·rcases List.mem_append.1 g with g | g
  ·exact h.lt w g
  grind
 ·rcases List.mem_append.1 b with b | b
  ·exact List.mem_append_left _ (h.cls i hi c b)
  grind
 ·rcases List.mem_append.1 b with b | b
  ·exact h.acy i hi c b d
  ·have e:=List.mem_singleton.1 b;rw[e] at d;generalize hq:to i=q at d;cases d with
   | refl =>
     grind
   | @step j d n f =>
     have l:=k j n f rfl;refine h.acy j n f l ?_;have r:=Rch.one (M:=M) (fr:=fr) (to:=to) (lv:=lv) hi c;rw[e,hq] at r;exact r.trans d
theorem D0T(H:∀i,i<M->fr i<N)(E:∀i,i<M->to i<N)(q:N<=1000000):AG M N fr to lv N []=none↔RV M fr to lv:=by
 have m:∀(k:Nat) (a:List Nat),LI M N fr to lv a->a.length+k=N->(AG M N fr to lv k a=none->RV M fr to lv)/\∀l,AG M N fr to lv k a=some l->LI M N fr to lv l/\l.length=N:=by
  intro k
  induction k with
  | zero=>intro a h F; exact⟨(fun e=>by cases e),fun l e=>by cases e; grind⟩
  | succ k o =>
    intro a h F;show((match M1 M N fr to lv a with | none=>none | some v=>AG M N fr to lv k (a++[v]))=none->_)/\∀l,(match M1 M N fr to lv a with | none=>none | some v=>AG M N fr to lv k (a++[v]))=some l->_;cases hn:M1 M N fr to lv a with
    | none =>
      refine⟨fun _=>?_,fun l e=>by cases e⟩;have s:∀v,v<N->v ∉ a->W5 M fr to lv a v≠0:=fun v b g d=>by
       unfold M1 at hn;rw[List.find?_eq_none] at hn;have:=hn v (List.mem_range.2 b);simp[g,d] at this
      have f:=fun v=>NF h.lt v;obtain⟨v,b,c⟩:=r0b (N5 N a) (by rw[h.cnt,(f 0).1]; omega);rw[(f v).1] at b;rw[(f v).2] at c;refine I0G M N fr to lv H E q (U:=fun v=>v<N/\v ∉ a) (fun u ⟨y,g⟩=>⟨y,?_⟩) (u:=v) ⟨b,by simpa using c⟩
      grind[W5]
    | some v =>
      obtain⟨G,t⟩:=NE hn;have d:W5 M fr to lv a v=0:=by
       unfold M1 at hn;have:=List.find?_some hn;simp only[ba,beq_iff_eq] at this;exact this.2
      exact o (a++[v]) (h.snoc G t d) (by grind)
 obtain⟨w,z⟩:=m N [] (LI.nil M N fr to lv) (by simp);refine⟨w,fun⟨i,hi,x,r⟩=>?_⟩;cases ho:AG M N fr to lv N [] with
 | none=>rfl
 | some l =>
   obtain⟨j,P⟩:=z l ho;have g:fr i∈l:=by
    have f:=NF j.lt (fr i);cases d:l.contains (fr i) with
    | true=>grind
    | false =>
      exfalso;have n:C6 (N5 N l)<N:=by
       have:=XL (N5 N l) (List.replicate N true) (by grind) (fun v b=>?_) ⟨fr i,by grind,?_⟩
       ·grind[C6,List.replicate,Xj,List.length_replicate]
       ·grind
       ·grind
      rw[j.cnt] at n;omega
   exact(j.acy i hi x g r).elim
end
end Go.Proofs.Xd
end
section
namespace Go.Proofs.YtdjgagoledoaaaaGreatDoor
open Go Go.Proofs Go.Proofs.Sv Go.Proofs.Xv Go.Proofs.Xl Go.Proofs.Xd
section
variable {b:j6}
def NY(b:j6)(i:Nat):Int:=((lV b).getD i (b7 y80)).2.2.1
theorem I0v(h:p6 b=true){i:Nat}(hi:i < (lV b).length):NY b i=1∨((u4 b.2.1 (m5 b i / 2)).2.2.2=true/\(u4 b.2.1 (o9 b i / 2)).2.2.2=false):=by
 have l:=G6 (d:=b7 y80) hi;unfold NY m5 o9;rcases WS l with ⟨m,j,t,_,_,_,e⟩ | ⟨n,k,t,a,hk,ht,e⟩
 ·left;rw[e]; rfl
 ·right;have a:n<b.2.2.length:=a;obtain⟨q,f,_,_,r⟩:=Nh (u4 b.2.1) n (r4 b.2.1).length _ (G6 (d:=0) hk);have f:(x8 b.2.1 n).getD k 0=(q:Int):=f;obtain⟨p,o,g,_,c⟩:=w0b (w0c h a);have c:I8 b n=(p:Int):=c;unfold W3 at g;rw[ba] at g;rw[e,f,c];show(u4 b.2.1 ((2*(p:Int)+(t:Int)).toNat / 2)).2.2.2=true/\(u4 b.2.1 ((2*(q:Int)+(t:Int)).toNat / 2)).2.2.2=false
  grind
end
end Go.Proofs.YtdjgagoledoaaaaGreatDoor
namespace Go.Proofs.Xd
open Go.Proofs.Xl
theorem q0k{M:Nat}{fr to:Nat->Nat}{lv:Nat->Bool}{a c:Nat}(h:Rch M fr to lv a c):a=c∨∃i,i<M/\lv i=true/\fr i=a/\Rch M fr to lv (to i) c:=by
 induction h with
 | refl=>omega
 | @step j g d b f =>
   rcases f with e | ⟨i,h1,h2,h3,h4⟩
   ·exact .inr ⟨j,d,b,e.symm,.refl⟩
   ·exact .inr ⟨i,h1,h2,h3,h4.step d b⟩
theorem z0B{N:Nat}{p:Nat->Bool}{v:Nat}(h:1 < ((List.range N).filter p).length):∃w,w<N/\p w=true/\w≠v:=by
 have c:((List.range N).filter p).Nodup:=List.nodup_range.filter _;have a:∀x∈(List.range N).filter p,x<N/\p x=true:=fun x d=>by
  grind
 generalize (List.range N).filter p=l at h c a
 match l,h with
 | x :: y :: r,_ =>
   have b:x≠y:=fun e=>by
    grind
   by_cases e:x=v
   ·exact⟨y,(a y (by simp)).1,(a y (by simp)).2,fun f=>b (by omega)⟩
   ·exact⟨x,(a x (by simp)).1,(a x (by simp)).2,e⟩
end Go.Proofs.Xd
namespace Go.Proofs.YtdjgagoledoaaaaGreatDoor
open Go Go.Proofs Go.Proofs.Sv Go.Proofs.Xv Go.Proofs.Xl Go.Proofs.Xd
section
variable {b:j6}
def RW(q:Nat->Bool)(m:Nat):Int:=fN (fun k (l:Int)=>if q k=true then(k:Int) else l) m (-1)
theorem XM(q:Nat->Bool):∀m,(∃k,k<m/\q k=true)->∃k,k<m/\q k=true/\RW q m=(k:Int)/\0 < (F5 q m).length/\(F5 q m).getD (((F5 q m).length:Int)-1).toNat 0=(k:Int)
 | 0,⟨k,h,_⟩=>by omega
 | m+1,⟨k,h,hk⟩=>by
   have d:RW q (m+1)=if q m=true then(m:Int) else RW q m:=rfl
   have e:F5 q (m+1)=if q m=true then F5 q m++[(m:Int)] else F5 q m:=by
    rw[<- DK,<- DK]; rfl
   rw[d,e];by_cases a:q m=true
   ·rw[if_pos a,if_pos a];refine⟨m,by omega,a,rfl,by grind,?_⟩
    simp_all
   ·rw[if_neg a,if_neg a];have b:k<m:=by
     rcases Nat.lt_or_ge k m with c | c
     ·exact c
     ·grind
    obtain⟨g,f,l,j,i,n⟩:=XM q m ⟨k,b,hk⟩
    grind
abbrev RX(b:j6)(lv:List Bool)(v w:Nat):Prop:=Rch (lV b).length (m5 b) (o9 b) (fun i=>lv.getD i false) v w
theorem NZ(c:p6 b=true){lv:List Bool}(a:lv.length=(lV b).length){v w:Nat}(e:v<j5 b)(d:w<j5 b):J1 b lv v w=true↔RX b lv v w/\RX b lv w v:=by
 unfold J1;rw[ba,(NW c a e).1.2 w d,(NW c a d).1.2 v e]
theorem XN(j:p6 b=true){lv:List Bool}(g:lv.length=(lV b).length){v:Nat}(l:v<j5 b):Aj b lv v=true↔∃i,i < (lV b).length/\lv.getD i false=true/\m5 b i=v/\RX b lv (o9 b i) v:=by
 unfold Aj;rw[Bool.or_eq_true,dq];have n:NX b lv v=true↔∃i,i < (lV b).length/\lv.getD i false=true/\m5 b i=v/\o9 b i=v:=by
  unfold NX;rw[<- r0t,List.any_eq_true];constructor
  ·grind
  ·grind
 have s:(Ai b lv v).length=((List.range (j5 b)).filter (J1 b lv v)).length:=(DL _ _).2;constructor
 ·rintro(h | h)
  ·obtain⟨w,m,q,o⟩:=z0B (v:=v) (show 1 < ((List.range (j5 b)).filter (J1 b lv v)).length by omega);obtain⟨r,k⟩:=(NZ j g l m).1 q;rcases q0k r with e | ⟨i,a,c,f,d⟩
   ·omega
   ·exact⟨i,a,c,f,d.trans k⟩
  ·obtain⟨i,a,c,f,d⟩:=n.1 h;exact⟨i,a,c,f,by rw[d]; exact .refl⟩
 ·rintro⟨i,a,c,f,d⟩;by_cases e:o9 b i=v
  ·grind
  ·left;obtain⟨_,_,_,t⟩:=J8 b j a
   grind[NZ,Rch.one,Nat.lt_or_ge,q0U,XK]
theorem z0S(c:p6 b=true){lv:List Bool}(a:lv.length=(lV b).length){v:Nat}(d:v<j5 b)(h:Aj b lv v=true):∃k,k < (lV b).length/\lv.getD k false=true/\NY b k=1/\J1 b lv v (m5 b k)=true/\J1 b lv v (o9 b k)=true:=by
 obtain⟨i,f,l,q,m⟩:=(XN c a d).1 h;obtain⟨_,_,_,s⟩:=J8 b c f;have n:RX b lv v (o9 b i):=by
  have:=Rch.one (M:=(lV b).length) (fr:=m5 b) (to:=o9 b) (lv:=fun i=>lv.getD i false) f l;rw[q] at this; exact this
 rcases I0v c f with g | ⟨_,k2⟩
 ·exact⟨i,f,l,g,by rw[q]; exact XK c a d,(NZ c a d s).2 ⟨n,m⟩⟩
 ·rcases q0k m with e | ⟨j,j1,j2,j3,j4⟩
  ·grind
  ·obtain⟨_,_,t,r⟩:=J8 b c j1;have o:=Rch.one (M:=(lV b).length) (fr:=m5 b) (to:=o9 b) (lv:=fun i=>lv.getD i false) j1 j2;rw[j3] at o;rcases I0v c j1 with g | ⟨k3,_⟩
   ·exact⟨j,j1,j2,g,by grind[NZ],(NZ c a d r).2 ⟨n.trans o,j4⟩⟩
   grind
theorem RY(b:j6)(lv:List Bool):∀m,m<=j5 b->((fN (O9 b lv) m (List.replicate (j5 b) false,[]))=(List.replicate (j5 b) false,[])/\∀v,v<m->Aj b lv v=false)∨∃v t,v<m/\Aj b lv v=true/\(fN (O9 b lv) m (List.replicate (j5 b) false,[])).2=Ai b lv v :: t
 | 0,_=>.inl ⟨rfl,fun v h=>by omega⟩
 | m+1,h=>by
   have e:fN (O9 b lv) (m+1) (List.replicate (j5 b) false,[])=O9 b lv m (fN (O9 b lv) m (List.replicate (j5 b) false,[])):=rfl;rw[e];rcases RY b lv m (by omega) with ⟨c,a⟩ | ⟨v,t,c,a,h3⟩
   ·rw[c];have d:(List.replicate (j5 b) false).getD m false=false:=by
     rw[gq,List.getElem?_replicate];split <;> rfl
    unfold O9;show(if(List.replicate (j5 b) false).getD m false=true then _ else _)=_/\_∨∃v t,_/\_/\(if(List.replicate (j5 b) false).getD m false=true then _ else _:List Bool×List (List Int)).2=_;rw[d];cases hc:Aj b lv m with
    | false =>
      left;refine⟨rfl,fun v f=>?_⟩;by_cases e:v=m
      ·rw[e]; exact hc
      ·exact a v (by omega)
    | true=>exact .inr ⟨m,[],by omega,hc,rfl⟩
   ·right;generalize fN (O9 b lv) m (List.replicate (j5 b) false,[])=s at h3;unfold O9;split
    ·exact⟨v,t,by omega,a,h3⟩
    ·split
     ·exact⟨v,t++[Ai b lv m],by omega,a,by show s.2++[_]=_; rw[h3]; rfl⟩
     ·exact⟨v,t,by omega,a,h3⟩
def Ig(b:j6)(lv:List Bool):Bool:=!(W8 (N8 b lv [] (j5 b))).2
theorem v0x(a:p6 b=true){lv:List Bool}(d:lv.length=(lV b).length):Ig b lv=true↔∃v,v<j5 b/\Aj b lv v=true:=by
 have j:=Ag b a;have m:=D0T (lV b).length (j5 b) (m5 b) (o9 b) (fun i=>lv.getD i false) (fun i hi=>(J8 b a hi).2.2.1) (fun i hi=>(J8 b a hi).2.2.2) j;have c:Ig b lv=true↔N8 b lv [] (j5 b)=none:=by
  unfold Ig;cases N8 b lv [] (j5 b) with
  | none=>exact⟨fun _=>rfl,fun _=>rfl⟩
  | some l=>exact⟨fun h=>(by cases h),fun h=>(by cases h)⟩
 rw[c];refine m.trans ⟨?_,?_⟩
 ·rintro⟨i,c,e,g⟩;obtain⟨_,_,f,_⟩:=J8 b a c;exact⟨m5 b i,f,(XN a d f).2 ⟨i,c,e,rfl,g⟩⟩
 ·rintro⟨v,k,h⟩;obtain⟨i,c,e,g,n⟩:=(XN a d k).1 h;exact⟨i,c,e,by grind⟩
def BY(b:j6)(lv:List Bool):List Int:=(Ak b lv).getD 0 []
def qB(b:j6)(lv:List Bool)(k:Nat):Bool:=lv.getD k false&&(NY b k==1&&B9 (BY b lv) (m5 b k:Int)&&B9 (BY b lv) (o9 b k:Int))
theorem s0n(d:p6 b=true){lv:List Bool}(c:lv.length=(lV b).length)(h:Ig b lv=false):Ak b lv=[]:=by
 unfold Ak;rcases RY b lv (j5 b) (Nat.le_refl _) with ⟨a,_⟩ | ⟨v,t,a,h2,_⟩
 ·rw[a]
 grind[v0x]
theorem k0o(c:p6 b=true){lv:List Bool}(a:lv.length=(lV b).length)(h:Ig b lv=true):0 < (Ak b lv).length/\∃k,k < (lV b).length/\qB b lv k=true:=by
 obtain⟨y,m,n⟩:=(v0x c a).1 h;unfold qB BY;have d:∃v t,v<j5 b/\Aj b lv v=true/\Ak b lv=Ai b lv v :: t:=by
  unfold Ak;rcases RY b lv (j5 b) (Nat.le_refl _) with ⟨_,g⟩ | ⟨v,t,h1,g,h3⟩
  ·grind
  ·grind
 obtain⟨v,t,i,l,e⟩:=d;rw[e];refine⟨by grind,?_⟩;obtain⟨k,j,x,q,s,u⟩:=z0S c a i l;obtain⟨_,_,E,o⟩:=J8 b c j;have f:∀w,w<j5 b->J1 b lv v w=true->B9 (Ai b lv v) (w:Int)=true:=fun w r z=>by
  rw[E0t];unfold Ai F5
  grind
 grind
end
section
variable {b:j6}
def Ki(b:j6)(lv:List Bool):Int:=RW (qB b lv) (lV b).length
theorem z0A(a:p6 b=true){lv:List Bool}(_:lv.length=(lV b).length):(BY b lv).length<=1000000:=by
 have d:=Ag b a;unfold BY Ak;rcases RY b lv (j5 b) (Nat.le_refl _) with ⟨c,_⟩ | ⟨v,t,_,_,h3⟩
 ·rw[c]; exact Nat.zero_le _
 ·rw[h3];have:=w0o b lv v;show(Ai b lv v).length<=_;omega
theorem D0J(V:wf l6 b)(a:p6 b=true):∃l:List Int,l.length<=6000/\FA b=some l:=by
 have hM:=K3 a;have hN:=Ag b a;have ll:(A0 (lV b).length []).length=(lV b).length:=FK _ _;obtain⟨d,r2,e,e2⟩:=WU (F:=G0E (lV b) (j5 b:Int)) (J:=fun t=>Mr t) C6 (fun t=>t.length=(lV b).length) (Ig b) (fun t=>t.set (Ki b t).toNat false)
  (fun g t c=>by
    have P:Ho (j5 b:Int) (lV b) t=some (Ak b t):=O0t a c;show gd ((Ho (j5 b:Int) (lV b) t).isSome=true/\True) _=_;rw[P,vS,gP ⟨rfl,trivial⟩,lE];cases e:Ig b t with
    | false =>
      rw[s0n a c e];rfl
    | true =>
      obtain⟨X,G⟩:=k0o a c e;obtain⟨k,k1,o,r,k4,k5⟩:=XM (qB b t) _ G;have E:¬(((Ak b t).length:Int)==0)=true:=by rw[beq_iff_eq]; omega
      refine(if_neg E).trans ?_;have aA:=z0A a c;refine(lF (n:=(lV b).length) (by omega) (fun i (s:Int)=>(s,(i:Int))) (fun i (s:Int)=>if qB b t i=true then(i:Int) else s) (fun _ _=>True) (J:=fun s=>Ms t g s) (F:=G0D t (lV b) (Ak b t) g) (fun y i s hi _=>?_) (fun _ _ _ _=>trivial) (fun y s _=>aE) (-1) trivial).trans ?_
      ·have f:((i:Int)).toNat=i:=rfl;obtain⟨Y,f2,_⟩:=J8 b a hi;have ha:S8 ((Ak b t).getD (Int.toNat (0:Int)) []) ((lV b).getD ((i:Int)).toNat (b7 y80)).1=some (B9 (BY b t) (m5 b i:Int)):=by
        rw[f,Y]; exact Xt (BY b t) _ (by omega)
       have hz:S8 ((Ak b t).getD (Int.toNat (0:Int)) []) ((lV b).getD ((i:Int)).toNat (b7 y80)).2.1=some (B9 (BY b t) (o9 b i:Int)):=by
        rw[f,f2]; exact Xt (BY b t) _ (by omega)
       refine(if_pos (decide_eq_true (by omega))).trans ?_;rw[ha,hz,vS,vS];have q:ix (i:Int) (lV b).length:=oo;have u:((i:Int)).toNat < (lV b).length:=hi;have W:ix (0:Int) (Ak b t).length:=oo;refine(gP ⟨oo,by omega,(fun _=>q),(fun _=>u),(fun _=>W),(fun _=>X),(fun _=>q),(fun _=>u),(fun _=>rfl),(fun _=>W),(fun _=>X),(fun _=>q),(fun _=>u),(fun _=>rfl),trivial⟩).trans ?_;have eq:(t.getD ((i:Int)).toNat false&&((lV b).getD ((i:Int)).toNat (b7 y80)).2.2.1==(1:Int)&&B9 (BY b t) (m5 b i:Int)&&B9 (BY b t) (o9 b i:Int))=qB b t i:=by
        unfold qB NY;rw[f,Bool.and_assoc,Bool.and_assoc,Bool.and_assoc]
       rw[eq];have Q:∀x,Qq (i:Int) y x=y (x,((i+1:Nat):Int)):=fun x=>gP ⟨oo,trivial⟩;rw[Q,Q];by_cases h:qB b t i=true
       ·rw[if_pos h,if_pos h]
       ·rw[if_neg h,if_neg h]
      ·show Ms t g (Ki b t)=_;have z:Ki b t=(k:Int):=r;rw[Ms,z];refine(gP ⟨oo,by show k<t.length; omega,trivial⟩).trans ?_;rfl)
  (fun t c e=>by
    have c:t.length=(lV b).length:=c;obtain⟨_,G⟩:=k0o a c e;obtain⟨k,k1,o,r,_,_⟩:=XM (qB b t) _ G;have z:Ki b t=(k:Int):=r;have hk:t.getD k false=true:=by
     unfold qB at o;rw[ba] at o;exact o.1
    have T:∀w,(t.set k false).getD w false=if w=k then false else t.getD w false:=fun w=>JW false (by omega)
    have H:C6 (t.set k false)<C6 t:=by
     refine XL _ _ (by rw[List.length_set]) (fun v m=>?_) ⟨k,by rw[T,if_pos rfl],hk⟩;rw[T] at m;split at m
     ·cases m
     ·exact m
    show(t.set (Ki b t).toNat false).length=(lV b).length/\C6 (t.set (Ki b t).toNat false)<C6 t;rw[z,Int.toNat_natCast];exact⟨by rw[List.length_set]; exact c,H⟩)
  (A0 (lV b).length []) ll (by
    have:=Xj (A0 (lV b).length []);omega)
 refine⟨F5 (fun k=>!d.getD k false) (lV b).length,by have:=(DL (fun k=>!d.getD k false) (lV b).length).1; omega,?_⟩
 ·unfold FA;rw[HN b V a,vS,gP ⟨rfl,trivial⟩,lE,RM _ _ (by omega) (Nat.zero_le _),vS,gP ⟨rfl,trivial⟩,lE,Ic b V a,vS,gP ⟨rfl,trivial⟩,lE];refine e2.trans ?_;show Mr d=_;rw[Mr,<- DK];refine lF (n:=(lV b).length) (by omega) (fun(i:Nat) (s:List Int)=>((i:Int),s)) (fun i s=>if(!d.getD i false)=true then s++[(i:Int)] else s) (fun i s=>s.length<=i) (J:=fun s=>some s) (F:=G0C d) (fun g i s hi j=>?_) (fun i s hi j=>?_) (fun g s _=>?_) [] (Nat.le_refl _)
  ·have j:s.length<=i:=j;have f:((i:Int)).toNat=i:=rfl;refine(if_pos (decide_eq_true (by omega))).trans ?_;refine(gP ⟨oo,by omega,trivial⟩).trans ?_;rw[f];by_cases h:(!d.getD i false)=true
   ·rw[if_pos h,if_pos h];refine(gP ⟨⟨by show s.length+1<=_; omega,by show(s.length+1)*8<=_; omega⟩,trivial⟩).trans ?_;exact gP ⟨oo,trivial⟩
   ·rw[if_neg h,if_neg h];exact gP ⟨oo,trivial⟩
  ·have j:s.length<=i:=j;split
   ·rw[List.length_append,List.length_singleton]; omega
   ·omega
  ·exact if_neg (by rw[dq]; omega)
end
def Kj(l:List m8):Prop:=∀x∈l,-1000<=x.2.1.2/\x.2.1.2<=1000
def XO{ρ:Type}(v78 v117:Int)(v118:List m8)(s:l5)(K:List m8×List Int×Int×Int->Option ρ):Option ρ :=
     gd ((b9 s 200).isSome=true/\c9 ((vl (b9 s 200)).1-50)/\(b9 (vl (b9 s 200)).2 30).isSome=true/\True)<|lt ((vl (b9 s 200),vl (b9 (vl (b9 s 200)).2 30))) fun(v137,v138) =>
     gd (c9 (2*v78)/\c9 (2*v78+v117)/\(b9 v138.2 40).isSome=true/\c9 (v137.1-50+(vl (b9 v138.2 40)).1)/\(b9 (vl (b9 v138.2 40)).2 12).isSome=true/\c9 (v138.1+(vl (b9 (vl (b9 v138.2 40)).2 12)).1)/\(v118.length+[(2*v78+v117,(v137.1-50,v137.1-50+(vl (b9 v138.2 40)).1),v138.1,v138.1+(vl (b9 (vl (b9 v138.2 40)).2 12)).1)].length<=9223372036854775807/\(v118.length+[(2*v78+v117,(v137.1-50,v137.1-50+(vl (b9 v138.2 40)).1),v138.1,v138.1+(vl (b9 (vl (b9 v138.2 40)).2 12)).1)].length)*40<=140737488355328)/\True)<|lt ((vl (b9 v138.2 40),vl (b9 (vl (b9 v138.2 40)).2 12),v118++[(2*v78+v117,(v137.1-50,v137.1-50+(vl (b9 v138.2 40)).1),v138.1,v138.1+(vl (b9 (vl (b9 v138.2 40)).2 12)).1)],[(2*v78+v117,(v137.1-50,v137.1-50+(vl (b9 v138.2 40)).1),v138.1,v138.1+(vl (b9 (vl (b9 v138.2 40)).2 12)).1)])) fun(_,v140,v141,_) =>
     K (v141,v140.2.1,v140.2.2.1,v140.2.2.2)
theorem x0S{ρ:Type}{P:ρ->Prop}{b a:Int}{l:List m8}{s:l5}{K:List m8×List Int×Int×Int->Option ρ}(h:Sd s)(Y:0<=b)(a1:b<=1000)(G:0<=a)(b1:a<=2)(H:l.length<=10000)(w:Kj l)(y:∀l' s',Sd s'->l'.length=l.length+1->Kj l'->∃r,K (l',s')=some r/\P r):∃r,XO b a l s K=some r/\P r:=by
 obtain⟨z,V,v,o,E,d,-⟩:=u9 (n:=200) h (by omega);have d:=d (by omega);obtain⟨T,s2,u,i,c2,f,-⟩:=u9 (n:=30) o (by omega);have f:=f (by omega);obtain⟨W,F,m,k,c3,e,-⟩:=u9 (n:=40) i (by omega);have e:=e (by omega);obtain⟨X,j,q,t,Q,g,-⟩:=u9 (n:=12) k (by omega);have g:=g (by omega);unfold XO;simp only[v,u,vS,Option.isSome_some];refine j9 ⟨trivial,oo,trivial,trivial⟩ (q9 ?_);dsimp only;simp only[m,q,vS,Option.isSome_some];refine j9 ⟨oo,oo,trivial,oo,trivial,oo,⟨by grind,by grind⟩,trivial⟩ (q9 ?_);dsimp only;refine y _ j t (by grind) fun x c=>?_;rcases List.mem_append.1 c with c | c
 ·exact w x c
 grind
theorem z0L{l:List m8}{s:l5}(h:Sd s)(E:l.length<=10000)(y:Kj l):∃r,QD (l,s.1,s.2.1,s.2.2)=some r/\(Sd r.2/\r.1.length<=20000):=by
 have a:∀(j:List m8) (e:l5),Sd e->j.length<=20000->∃r,FC (j,e.1,e.2.1,e.2.2)=some r/\(Sd r.2/\r.1.length<=20000):=fun j e z q=>⟨_,rfl,z,q⟩;unfold QD;dsimp only;split
 ·rename_i t;have t:=of_decide_eq_true t;obtain⟨k,u,x,v,f,b,-⟩:=u9 (n:=(l.length:Int)) h (by omega);have b:=b (by omega);obtain⟨m,i,w,g,G,H,-⟩:=u9 (n:=30) v (by omega);have o:b9 (s.1,s.2.1,s.2.2) (l.length:Int)=some (k,u):=x;simp only[o,vS,Option.isSome_some];refine j9 ⟨trivial,trivial⟩ (q9 ?_);dsimp only;simp only[w,vS,Option.isSome_some];refine j9 ⟨trivial,trivial⟩ (q9 ?_);dsimp only;have c:k.toNat<l.length:=by omega
  have F:=y _ (G6 (d:=b7 y53) c);split
  ·refine j9 ⟨oo,by omega,⟨f,b⟩,c,trivial⟩ (q9 ?_);exact a _ i g (by grind)
  ·split
   ·refine j9 ⟨⟨f,b⟩,c,oo,⟨f,b⟩,c,trivial⟩ (q9 ?_);exact a _ i g (by grind)
   ·split
    ·refine j9 ⟨⟨f,b⟩,c,trivial⟩ (q9 ?_);exact a _ i g (by grind)
    ·split
     ·refine j9 ⟨⟨f,b⟩,c,trivial⟩ (q9 ?_);exact a _ i g (by grind)
     grind
 grind
theorem E0E{s:l5}(h:Sd s){b:j6}(F:wf l6 b)(hm:cnt l6 b<=20000):∃r,u64 s b=some r/\(Sd r.2/\r.1.length<=20000):=by
 unfold u64;simp only[FL b F (Nat.le_trans hm (by decide)),vS,Option.isSome_some];cases hb:p6 b with
 | false =>
   refine j9 ⟨trivial,trivial⟩ ?_
   simp_all
 | true =>
   refine j9 ⟨trivial,trivial⟩ ?_;rw[if_neg (by decide)];have k:=R3 (U0 hb).1;have hp:(L7 b.2.1.1.length b.2.1.2.2.length (m9 b.2.1) (A5 b.2.1)).length<=78:=k.len;simp only[Dy b.2.1 F.2.1 k.fac.ni14 k.fac.np8 k.pin,vS,Option.isSome_some];refine j9 ⟨trivial,trivial⟩ (q9 ?_);generalize L7 b.2.1.1.length b.2.1.2.2.length (m9 b.2.1) (A5 b.2.1)=M at hp;refine N6 (fun x=>79-x.1.toNat) (fun x=>Sd (x.2.2.1,x.2.2.2.1,x.2.2.2.2)/\0<=x.1/\x.1<=(M.length:Int)/\(x.2.1.length:Int)<=2*x.1/\Kj x.2.1) ?_ ⟨h,by omega,by omega,by simp,fun _ h=>by cases h⟩ (by omega);rintro g ⟨i,l,c,aC,T⟩ ⟨P,i2,i3,i4,i5⟩ W;simp only at P i2 i3 i4 i5;unfold G0B;dsimp only;by_cases t:i < (M.length:Int)
   ·rw[if_pos (decide_eq_true t)];refine j9 ⟨⟨i2,t⟩,by omega,fun _=>⟨i2,t⟩,fun _=>by omega,trivial⟩ ?_;refine N6 (fun x=>3-x.1.toNat) (fun x=>Sd (x.2.2.1,x.2.2.2.1,x.2.2.2.2)/\0<=x.1/\x.1<=2/\(x.2.1.length:Int)<=2*i+x.1/\Kj x.2.1) ?_ ⟨P,by omega,by omega,by grind,i5⟩ (by omega);rintro E ⟨j,l3,c3,aB,aA⟩ ⟨m,H,j3,Y,o⟩ w;simp only at m H j3 Y o;have J4:∀(e:List m8) (a:l5),Sd a->j<2->(e.length:Int)<=2*i+j+1->Kj e->∃r,Bd j E (e,a.1,a.2.1,a.2.2)=some r/\(Sd r.2/\r.1.length<=20000):=fun e a v Q y d=>by
     unfold Bd;dsimp only;exact j9 ⟨oo,trivial⟩ (w _ ⟨v,by omega,by omega,by grind,d⟩ (by omega))
    have q:∀(a:l5),Sd a->j<2->∃r,XO i j l3 a (Bd j E)=some r/\(Sd r.2/\r.1.length<=20000):=fun a v Q=>x0S v i2 (by omega) H (by omega) (by omega) o fun e z u y d=>J4 e z u Q (by omega) d
    unfold G0A;dsimp only;by_cases f:j<2
    ·rw[if_pos (decide_eq_true f)];obtain⟨x1,s1,e1,G,-,-,-⟩:=u9 (n:=8) m (by omega);obtain⟨x2,s2,e2,V,-,-,-⟩:=u9 (n:=24) G (by omega);obtain⟨x3,X,e3,h3,-,-,-⟩:=u9 (n:=24) m (by omega);refine j9 trivial ?_;split
     ·simp only[e1,vS,Option.isSome_some];refine j9 ⟨trivial,trivial⟩ (j9 trivial ?_);split
      ·refine j9 trivial (j9 trivial ?_);rw[if_pos (show(true||false)=true from rfl)];exact q s1 G f
      ·simp only[e2,vS,Option.isSome_some];refine j9 ⟨trivial,trivial⟩ (j9 trivial ?_);split
       ·exact q s2 V f
       grind
     ·refine j9 trivial (j9 trivial ?_);rw[if_neg (by decide)];simp only[e3,vS,Option.isSome_some];refine j9 ⟨trivial,trivial⟩ (j9 trivial ?_);split
      ·exact q X h3 f
      grind
    ·rw[if_neg (by grind)];unfold VH;dsimp only;exact j9 ⟨oo,trivial⟩ (W _ ⟨m,by omega,by omega,by grind,o⟩ (by omega))
   ·rw[if_neg (by grind)]
    grind[z0L]
section
variable [Alw]
theorem XP{b:j6}(g:wf l6 b)(c:cnt l6 b<=20000){v1:o5×l5}{l:List Int}(d:l.length<=20000){s:l5}(h:Sd s):∃r,Hx b.1 b.2.1.1 b.2.1.2.1 b.2.1.2.2 b.2.2 v1 (l,s.1,s.2.1,s.2.2)=some r/\True:=by
 obtain⟨r,e,f,a⟩:=E0E h g c;have i:u64 (s.1,s.2.1,s.2.2) (b.1,(b.2.1.1,b.2.1.2.1,b.2.1.2.2),b.2.2)=some r:=e;unfold Hx;simp only[i,vS,Option.isSome_some];exact j9 ⟨trivial,trivial⟩ (q9 (j9 ⟨f.1,c,d,a⟩ ⟨_,rfl,trivial⟩))
theorem n0F{b:j6}(a:wf l6 b)(c:cnt l6 b<=20000){v1:o5×l5}{s:l5}(h:Sd s):∃r,MZ v1 (b.1,b.2.1.1,b.2.1.2.1,b.2.1.2.2,b.2.2,s.1,s.2.1,s.2.2)=some r/\True:=by
 obtain⟨r,e,g,o⟩:=I0Q h a c;have t:Jk (s.1,s.2.1,s.2.2) (b.1,(b.2.1.1,b.2.1.2.1,b.2.1.2.2),b.2.2)=some r:=e;have k:K6 (b.1,(b.2.1.1,b.2.1.2.1,b.2.1.2.2),b.2.2)=some (p6 b):=FL b a (Nat.le_trans c (by decide));obtain⟨x,i,q,j,-,-,-⟩:=u9 (n:=6) g (by omega);unfold MZ;simp only[t,k,vS,Option.isSome_some];refine j9 ⟨trivial,trivial⟩ (q9 ?_);refine j9 ⟨trivial,trivial⟩ ?_;by_cases d:(p6 b&&(r.1.length:Int)==0)=true
 ·rw[if_pos d];rw[ba] at d;obtain⟨l,u,m⟩:=D0J a d.1;have f:FA (b.1,(b.2.1.1,b.2.1.2.1,b.2.1.2.2),b.2.2)=some l:=m;simp only[q,f,vS,Option.isSome_some];refine j9 ⟨trivial,trivial⟩ (j9 trivial ?_);split
  ·refine j9 ⟨trivial,trivial⟩ (q9 ?_);exact XP (l:=l) (s:=i) a c (by omega) j
  ·exact XP (l:=r.1) (s:=i) a c (by omega) j
 ·rw[if_neg d];refine j9 trivial (j9 trivial ?_);rw[if_neg (by decide)];exact XP (l:=r.1) (s:=r.2) a c (by omega) g
omit [Alw] in
theorem wfB{v:j6×l5}(h:FZ (Hv v)):wf l6 v.1:=⟨h.1,⟨h.2.1,h.2.2.1,h.2.2.2.1⟩,h.2.2.2.2.1⟩
theorem E0V{s:l5}(h:Sd s):QW s=some ():=by
 refine N7 ?_;unfold QW;refine j9 ⟨trivial,h.1⟩ (Af ?_);intro e ⟨⟨j,k⟩,i,hz⟩;refine N7 (j9 trivial ?_);have c:=Bn hz j;obtain⟨r,g,q,u⟩:=I0J (s:=Jy e) c;obtain⟨x,t,m,d,-,-,-⟩:=u9 (n:=3) q (by omega);simp only[g,vS,Option.isSome_some];refine j9 ⟨trivial,trivial⟩ (q9 ?_);simp only[m,vS,Option.isSome_some];refine j9 ⟨trivial,trivial⟩ (q9 ?_);dsimp only;split
 ·refine j9 ⟨trivial,RJ d.1 (by decide) (by decide)⟩ (Af ?_);intro f ⟨⟨o,_,_,_,l⟩,a,b⟩;refine N7 (j9 trivial ?_);exact n0F (s:=P0 f) (wfB a) (Nat.le_trans l (by decide)) (Bn b o)
 ·exact n0F (wf9 i) k d
theorem P0F:QV:=e28 Xs P0E fun _ a b=>E0V (Bn a.1 b)
end
theorem D0O{b:j6}{c:o5}{br:List Int}{ss:List m8}(h:(U5 b c br ss).2=0):∃out T,TG b c br ss out/\DN b c br ss out=some T/\U5 b c br ss=(C0 (j5 b) T,0):=by
 by_cases a:U4 b c br ss=0
 ·obtain⟨out,d⟩:=XD a;have e:=d.pt
  grind
 grind[U5]
section
variable {b:j6} {k:o5} {br:List Int} {ss:List m8}
theorem y0C(i:wf l6 b)(g:cnt l6 b<=1048576)(a:wf o8 k):∃n,n<=1000000/\(U5 b k br ss).1.1.length=n/\(U5 b k br ss).1.2.1.length=n/\(U5 b k br ss).1.2.2.length=n/\∀v,v<n->C2 ((U5 b k br ss).1.2.1.getD v (0,0))=true/\C2 ((U5 b k br ss).1.2.2.getD v (0,0))=true:=by
 by_cases c:(U5 b k br ss).2=0
 ·obtain⟨l,T,f,j,e⟩:=D0O c;have h:=f.rows i g a j;rw[e];refine⟨j5 b,Ag b f.hb,h.l1,h.l2,h.l3,fun v d=>?_⟩;have m:=h.vals v d
  grind[A7]
 ·rw[D0P c];exact⟨0,by omega,rfl,rfl,rfl,fun v d=>by omega⟩
theorem E0D{s:l5}(h:Sd s)(u:wf l6 b)(E:cnt l6 b<=1048576)(d:wf o8 k)(i:br.length<=1048576)(P:ss.length<=9223372036854775807):∃r,MN s b k br ss=some r/\(Sd r.2/\r.1.1.length<=1048576):=by
 obtain⟨n,Y,g,H,n3,q⟩:=y0C (br:=br) (ss:=ss) u E d;unfold MN;simp only[K0J u E d i P,vS,Option.isSome_some];refine j9 ⟨trivial,trivial⟩ (q9 ?_);generalize (U5 b k br ss).1=tm at g H n3 q;refine j9 trivial ?_;by_cases f:((tm.1.length:Int)==0)=true
 ·rw[if_pos f];refine j9 trivial ?_
  grind
 ·rw[if_neg f];have f:n≠0:=fun e=>f (by grind);obtain⟨V,s8,e8,t,-,-,-⟩:=u9 (n:=8) h (by omega);simp only[e8,vS,Option.isSome_some];refine j9 ⟨⟨trivial,trivial⟩,trivial⟩ ?_;split
  ·exact q9 ⟨_,rfl,t,by grind⟩
  ·obtain⟨x,X,T,Q,W,F,-⟩:=u9 (n:=(tm.1.length:Int)) t (by omega);have F:=F (by omega);simp only[T,vS,Option.isSome_some];refine j9 ⟨trivial,trivial⟩ (q9 ?_);dsimp only;obtain⟨y,c,j,m,-,-,-⟩:=u9 (n:=4) Q (by omega);simp only[j,vS,Option.isSome_some];refine j9 ⟨trivial,trivial⟩ (q9 ?_);dsimp only;have a:∀(o:List Bool) (G v:List w7),o.length=n->∃r,Jw (o,c.1,c.2.1,c.2.2,G,v)=some r/\(Sd r.2/\r.1.1.length<=1048576):=fun o G v hp=>⟨_,rfl,m,by grind⟩;have l:x.toNat<n:=by omega
   obtain⟨z,w⟩:=q _ l;have z:=Ga.1 (show C2 (tm.2.1.getD x.toNat (b7 y51))=true from z);have w:=Ga.1 (show C2 (tm.2.2.getD x.toNat (b7 y51))=true from w);split
   ·exact j9 ⟨oo,by omega,oo,by omega,trivial⟩ (q9 (a _ _ _ (by grind)))
   ·split
    ·exact j9 ⟨oo,by omega,oo,oo,by omega,trivial⟩ (q9 (a _ _ _ g))
    ·split
     ·exact j9 ⟨oo,by omega,oo,oo,by omega,trivial⟩ (q9 (a _ _ _ g))
     ·exact j9 ⟨⟨by omega,by omega,by omega⟩,trivial⟩ (a _ _ _ g)
theorem y0x{s:l5}(h:Sd s)(d:wf l6 b)(c:cnt l6 b<=20000){t:u3}(o:t.1.length<=1048576):∃r,Hm s b t=some r/\Sd r.2:=by
 obtain⟨m,-⟩:=DL (fun i=>t.1.getD i false) t.1.length;unfold Hm;simp only[O0v t.1 o,vS,Option.isSome_some];generalize F5 (fun i=>t.1.getD i false) t.1.length=l at m;refine j9 ⟨trivial,trivial⟩ (q9 ?_);refine j9 trivial ?_;split
 ·rename_i j;have j:=of_decide_eq_true j;obtain⟨w,u,e8,g,-,-,-⟩:=u9 (n:=8) h (by omega);simp only[e8,vS,Option.isSome_some];refine j9 ⟨⟨trivial,trivial⟩,trivial⟩ ?_;split
  ·obtain⟨x,y,q,k,v,f,-⟩:=u9 (n:=(l.length:Int)) g (by omega);have f:=f (by omega);simp only[q,vS,Option.isSome_some];exact j9 ⟨trivial,oo,by omega,trivial⟩ (q9 ⟨_,rfl,k⟩)
  ·obtain⟨r,e,a⟩:=v0f g d c;simp only[e,vS,Option.isSome_some];exact j9 ⟨trivial,trivial⟩ (q9 ⟨_,rfl,a⟩)
 ·refine j9 trivial ?_;rw[if_neg (by decide)];obtain⟨r,e,a⟩:=v0f h d c;simp only[e,vS,Option.isSome_some];exact j9 ⟨trivial,trivial⟩ (q9 ⟨_,rfl,a⟩)
end
theorem wfC{v:j6×o5×List Int×List m8×l5}(h:FZ (MY v)):wf l6 v.1/\wf o8 v.2.1 :=
 ⟨⟨h.1.1,⟨h.1.2.1,h.1.2.2.1,h.1.2.2.2.1⟩,h.1.2.2.2.2.1⟩,⟨h.2.1.1,h.2.1.2.1,h.2.1.2.2.1,h.2.1.2.2.2.1,h.2.1.2.2.2.2.1⟩⟩
section
variable [Alw]
theorem I0D{c:List Int}(h:wf (.sl (.int .u8)) c):QZ c=some ():=by
 obtain⟨s,e,o⟩:=E0x h;refine N7 ?_;unfold QZ;simp only[e,vS,Option.isSome_some];refine j9 ⟨trivial,trivial⟩ (q9 ?_);refine j9 ⟨trivial,o.1⟩ (Af ?_);intro f ⟨⟨t,b,k,u⟩,m,hz⟩;obtain⟨a,g⟩:=wfC m;have d:=Bn hz t;obtain⟨w,r,i,l⟩:=E0D (s:=Hw f) (br:=f.2.2.1) (ss:=f.2.2.2.1) d a (Nat.le_trans b (by decide)) g (by omega) (by omega);obtain⟨v,n,j⟩:=y0x i a b l;obtain⟨x,q,y⟩:=D0W j;refine N7 (j9 trivial ?_);simp only[r,vS,Option.isSome_some];refine j9 ⟨trivial,trivial⟩ (q9 ?_);simp only[n,q,vS,Option.isSome_some];refine j9 ⟨trivial,trivial,trivial⟩ (q9 ?_);exact j9 ⟨b,k,u⟩ ⟨_,rfl,trivial⟩
theorem P0G:Wa:=e20 P0F fun _ a _=>I0D a.1
end
end Go.Proofs.YtdjgagoledoaaaaGreatDoor
end
