/- The loops of a graph: both ways find the same. -/
import Derived.Test.YtphnknndgfgepaaGreatDoorWG
import Derived.Test.YtphnknndgfgepaaGreatDoorF77d
section
namespace Go.Proofs.YtphnknndgfgepaaGreatDoor
open Go Go.Proofs Go.Proofs.Sv Go.Proofs.Xv Go.Proofs.Xl Go.Proofs.Xd
def orB(p:Nat->Bool)(N:Nat)(S:List Bool):List Bool:=(List.range N).map fun w=>S.getD w false||p w
theorem o0s(f:Nat->Bool)(N w:Nat):((List.range N).map f).getD w false=if w<N then f w else false:=by
 rw[gq,List.getElem?_map];by_cases h:w<N
 ·rw[if_pos h,List.getElem?_range h]; rfl
 ·rw[if_neg h,List.getElem?_eq_none (by rw[List.length_range]; omega)]; rfl
theorem h0g(p:Nat->Bool)(N:Nat)(S:List Bool):(orB p N S).length=N:=by
 unfold orB;rw[List.length_map,List.length_range]
theorem j0C(p:Nat->Bool)(N:Nat)(S:List Bool){w:Nat}(h:w<N):(orB p N S).getD w false=(S.getD w false||p w):=by
 unfold orB;rw[o0s,if_pos h]
def mkD(N v:Nat)(S:List Bool):List Bool:=(List.range N).map fun w=>decide (w<v)||S.getD w false
theorem f0M(N v:Nat)(S:List Bool):(mkD N v S).length=N:=by
 unfold mkD;rw[List.length_map,List.length_range]
theorem f0N(N v:Nat)(S:List Bool){w:Nat}(h:w<N):(mkD N v S).getD w false=(decide (w<v)||S.getD w false):=by
 unfold mkD;rw[o0s,if_pos h]
theorem o0H{N:Nat}{p:Nat->Bool}(h:((List.range N).filter p).length<2){v w:Nat}(hv:v<N)(pv:p v=true)(hw:w<N)(pw:p w=true):w=v:=by
 have m1:v∈(List.range N).filter p:=List.mem_filter.2 ⟨List.mem_range.2 hv,pv⟩;have m2:w∈(List.range N).filter p:=List.mem_filter.2 ⟨List.mem_range.2 hw,pw⟩;generalize (List.range N).filter p=l at h m1 m2
 match l,h with
 | [],_=>cases m1
 | [x],_=>rw[List.mem_singleton.1 m1,List.mem_singleton.1 m2]
 | x :: y :: r,h=>simp at h; omega
theorem n0R(p:Nat->Bool)(N:Nat)(D:List Bool)(hD:D.length=N):∀m,m<=N->(fN (fun w (s:List Bool)=>if p w=true then s.set w true else s) m D).length=N/\∀w,w<N->(fN (fun w (s:List Bool)=>if p w=true then s.set w true else s) m D).getD w false=(D.getD w false||(decide (w<m)&&p w))
 | 0,_=>⟨hD,fun w _=>by simp[fN]⟩
 | m+1,h=>by
   obtain⟨h1,h2⟩:=n0R p N D hD m (by omega);show(if p m=true then List.set _ m true else _:List Bool).length=N/\∀w,w<N->(if p m=true then List.set _ m true else _:List Bool).getD w false=_;by_cases hp:p m=true
   ·rw[if_pos hp];refine⟨by rw[List.length_set,h1],fun w hw=>?_⟩;rw[b0z true (by omega)];by_cases e:w=m
    ·subst e; rw[if_pos rfl,decide_eq_true (by omega),hp]; simp
    ·rw[if_neg e,h2 w hw,Bool.eq_iff_iff];have:(w<m+1)↔w<m:=by omega
     simp[this]
   ·rw[if_neg hp];refine⟨h1,fun w hw=>?_⟩;rw[h2 w hw];by_cases e:w=m
    ·subst e;have hp:p w=false:=by simpa using hp
     simp[hp]
    ·have:(w<m+1)↔w<m:=by omega
     simp[this]
theorem r0v(p:Nat->Bool)(N:Nat)(D:List Bool)(hD:D.length=N):fN (fun w (s:List Bool)=>if p w=true then s.set w true else s) N D=orB p N D:=by
 obtain⟨h1,h2⟩:=n0R p N D hD N (Nat.le_refl _);refine d0H false (by rw[h1,h0g]) fun w hw=>?_;rw[h1] at hw;rw[h2 w hw,j0C _ _ _ hw,decide_eq_true hw,Bool.true_and]
theorem r0w(p:Nat->Bool)(N:Nat)(D:List Bool)(hD:D.length=N):fN (fun k (s:List Bool)=>s.set (((List.range N).filter p).getD k 0) true) ((List.range N).filter p).length D=orB p N D:=by
 rw[e0w (fun(s:List Bool) v=>s.set v true)];have hm:∀v∈(List.range N).filter p,v<D.length:=fun v hv=>by rw[hD]; exact List.mem_range.1 (List.mem_filter.1 hv).1
 refine d0H false (by rw[(f0a _ D hm 0).1,h0g,hD]) fun w hw=>?_;rw[(f0a _ D hm 0).1,hD] at hw;rw[(f0a _ D hm w).2,j0C _ _ _ hw,Bool.or_comm];congr 1;rw[Bool.eq_iff_iff,List.contains_iff_mem,List.mem_filter,List.mem_range];exact⟨fun h=>h.2,fun h=>⟨hw,h⟩⟩
theorem o0Z(M:Nat)(q:Nat->Bool):(List.range M).any q=decide (0 < ((c0O q M).length:Int)):=by
 rw[Bool.eq_iff_iff,List.any_eq_true,dq,(c0j q M).2];constructor
 ·rintro⟨x,h1,h2⟩;have:x∈(List.range M).filter q:=List.mem_filter.2 ⟨h1,h2⟩;have:=List.length_pos_of_mem this;omega
 ·intro h;obtain⟨x,hx⟩:=List.exists_mem_of_length_pos (show 0 < ((List.range M).filter q).length by omega);exact⟨x,List.mem_filter.1 hx⟩
section
variable {b:Y34}
def m0x(b:Y34)(lv:List Bool)(v:Nat):List Bool:=vl (e0j (a0o b,lv) [(v:Int)])
theorem g0W(hb:a0e b=true){lv:List Bool}(hlv:lv.length=(lV b).length){v:Nat}(hv:v<a0k b):RB (lV b).length (a0k b) (frN b) (toN b) (fun i=>lv.getD i false) v (m0x b lv v)/\e0j (a0o b,lv) [(v:Int)]=some (m0x b lv v):=by
 obtain⟨L,h1,h2⟩:=C0b hb hlv hv;unfold m0x;rw[h2];exact⟨h1,rfl⟩
def clP(b:Y34)(lv:List Bool)(v w:Nat):Bool:=(m0x b lv v).getD w false&&(m0x b lv w).getD v false
def clV(b:Y34)(lv:List Bool)(v:Nat):List Int:=c0O (clP b lv v) (a0k b)
def m0v(b:Y34)(lv:List Bool)(v:Nat):Bool:=decide (0 < ((c0O (fun k=>lv.getD k false&&(frN b k==v&&toN b k==v)) (lV b).length).length:Int))
def k0d(b:Y34)(lv:List Bool)(v:Nat):Bool:=decide (1 < ((clV b lv v).length:Int))||m0v b lv v
def b0p(b:Y34)(lv:List Bool)(v:Nat)(s:List Bool×List (List Int)):List Bool×List (List Int):=if s.1.getD v false=true then s else if k0d b lv v=true then(orB (clP b lv v) (a0k b) s.1,s.2++[clV b lv v]) else s
def b0Y(b:Y34)(lv:List Bool):List (List Int):=(fN (b0p b lv) (a0k b) (List.replicate (a0k b) false,[])).2
theorem l0o(b:Y34)(lv:List Bool){v:Nat}{s:List Bool×List (List Int)}(h:s.1.length=a0k b/\s.2.length<=v):(b0p b lv v s).1.length=a0k b/\(b0p b lv v s).2.length<=v+1:=by
 unfold b0p;split
 ·exact⟨h.1,by omega⟩
 ·split
  ·exact⟨h0g _ _ _,by rw[List.length_append,List.length_singleton]; omega⟩
  ·exact⟨h.1,by omega⟩
theorem g0N(hb:a0e b=true){lv:List Bool}(hlv:lv.length=(lV b).length){v:Nat}(hv:v<a0k b):clP b lv v v=true:=by
 have h:=((g0W hb hlv hv).1.2 v hv).2 .refl;unfold clP;rw[h]; rfl
theorem m0Z(b:Y34)(lv:List Bool)(v:Nat):(clV b lv v).length<=a0k b:=(c0j _ _).1
theorem u0V(hb:a0e b=true){lv:List Bool}(hlv:lv.length=(lV b).length){v:Nat}(hv:v<a0k b){s:List Bool×List (List Int)}(hs:s.1.length=a0k b):(s.1.getD v false=true->mkD (a0k b) v s.1=mkD (a0k b) (v+1) s.1)/\(s.1.getD v false=false->orB (clP b lv v) (a0k b) (mkD (a0k b) v s.1)=mkD (a0k b) (v+1) (b0p b lv v s).1):=by
 have hself:=g0N hb hlv hv;refine⟨fun h=>d0H false (by rw[f0M,f0M]) fun w hw=>?_,fun h=>d0H false (by rw[h0g,f0M]) fun w hw=>?_⟩
 ·rw[f0M] at hw;rw[f0N _ _ _ hw,f0N _ _ _ hw];by_cases e:w=v
  ·subst e; rw[h]; simp
  ·have:(w<v+1)↔w<v:=by omega
   simp[this]
 ·rw[h0g] at hw;rw[j0C _ _ _ hw,f0N _ _ _ hw,f0N _ _ _ hw];unfold b0p;rw[if_neg (by rw[h]; simp)];by_cases hc:k0d b lv v=true
  ·rw[if_pos hc,j0C _ _ _ hw];by_cases e:w=v
   ·subst e; rw[hself]; simp
   ·have:(w<v+1)↔w<v:=by omega
    simp[this,Bool.or_assoc]
  ·rw[if_neg hc];have hlen:((List.range (a0k b)).filter (clP b lv v)).length<2:=by
    have:=(c0j (clP b lv v) (a0k b)).2;unfold k0d at hc;rw[Bool.or_eq_true,not_or,dq] at hc;unfold clV at hc;omega
   by_cases e:w=v
   ·subst e; rw[hself]; simp
   ·have hp:clP b lv v w=false:=by
     cases hp:clP b lv v w with
     | false=>rfl
     | true=>exact absurd (o0H hlen hv hself hw hp) e
    have:(w<v+1)↔w<v:=by omega
    simp[this,hp]
theorem u0A(hb:a0e b=true){lv:List Bool}(hlv:lv.length=(lV b).length)(a:Nat):g0B (a0o b,lv) (a:Int)=some (c0O (fun i=>lv.getD i false&&(frN b i==a&&toN b i==a)) (lV b).length):=by
 have hM:=a0Q hb;refine(lF (n:=(lV b).length) (by omega) (fun i (s:List Int)=>(s,(i:Int))) (fun i s=>if(lv.getD i false&&(frN b i==a&&toN b i==a))=true then s++[(i:Int)] else s) (fun i s=>s.length<=i) (J:=fun s=>some s) (F:=i0B (a0o b,lv) (a:Int)) (fun g i s hi hs=>?_) (fun i s hi hs=>?_) (fun g s _=>aE) [] (Nat.le_refl _)).trans ?_
 ·have hs:s.length<=i:=hs;have hx:ix (i:Int) (a0o b).2.2.1.length:=⟨by omega,by show(i:Int) < ((lV b).length:Int); omega⟩;refine(if_pos (decide_eq_true hx.2)).trans ((gP ⟨hx,trivial⟩).trans ?_);rw[lE];refine(gP ⟨⟨by omega,by show(i:Int) < (lv.length:Int); omega⟩,(fun _=>rfl),trivial⟩).trans ?_;obtain⟨f1,f2,_⟩:=h0C b hb hi;have ef:(((lV b).getD i (a0a y48)).1==(a:Int))=(frN b i==a):=by
   rw[f1,Bool.eq_iff_iff,beq_iff_eq,beq_iff_eq]; omega
  have eg:(((lV b).getD i (a0a y48)).2.1==(a:Int))=(toN b i==a):=by
   rw[f2,Bool.eq_iff_iff,beq_iff_eq,beq_iff_eq]; omega
  show(if(lv.getD i false&&(((lV b).getD i (a0a y48)).1==(a:Int)&&((lV b).getD i (a0a y48)).2.1==(a:Int)))=true then _ else _)=_;rw[ef,eg];by_cases h:(lv.getD i false&&(frN b i==a&&toN b i==a))=true
  ·rw[if_pos h,if_pos h];refine(gP ⟨⟨by simp only[List.length_singleton]; omega,by simp only[List.length_singleton]; omega⟩,trivial⟩).trans ?_;exact gP ⟨oo,trivial⟩
  ·rw[if_neg h,if_neg h];exact gP ⟨oo,trivial⟩
 ·have hs:s.length<=i:=hs;show(if(lv.getD i false&&(frN b i==a&&toN b i==a))=true then s++[(i:Int)] else s).length<=i+1;split
  ·rw[List.length_append,List.length_singleton]; omega
  ·omega
 ·show some (fN _ _ [])=_;rw[b0v]
theorem F0w(hb:a0e b=true){lv:List Bool}(hlv:lv.length=(lV b).length)(a:Nat):A0p (a0o b,lv) (a:Int)=some (m0v b lv a):=by
 unfold A0p;rw[u0A hb hlv,vS,gP ⟨rfl,trivial⟩,lE];rfl
theorem F0v(hb:a0e b=true){lv:List Bool}(hlv:lv.length=(lV b).length)(a:Nat):A0o (lV b) lv (a:Int)=some (m0v b lv a):=by
 have hM:=a0Q hb;unfold m0v;rw[<- o0Z];have key:=b0f (n:=(lV b).length) (by omega) (fun i=>lv.getD i false&&(frN b i==a&&toN b i==a)) (some true) (e:=some false) (F:=w0Y lv (lV b) (a:Int)) (fun g i hi=>by
  obtain⟨f1,f2,_⟩:=h0C b hb hi;have e3:((i:Int)).toNat=i:=rfl;have ef:((frN b i:Int)==(a:Int))=(frN b i==a):=by
   rw[Bool.eq_iff_iff,beq_iff_eq,beq_iff_eq]; omega
  have eg:((toN b i:Int)==(a:Int))=(toN b i==a):=by
   rw[Bool.eq_iff_iff,beq_iff_eq,beq_iff_eq]; omega
  refine(if_pos (by simpa using hi)).trans ?_;rw[e3,f1,f2,ef,eg,Bool.and_assoc];refine(gP ⟨oo,(fun _=>oo),(fun _=>oo),trivial⟩).trans ?_;by_cases h:(lv.getD i false&&(frN b i==a&&toN b i==a))=true
  ·rw[if_pos h,if_pos h]
  ·rw[if_neg h,if_neg h];exact gP ⟨oo,trivial⟩) (fun g=>aE)
 refine key.trans ?_;cases(List.range (lV b).length).any fun i=>lv.getD i false&&(frN b i==a&&toN b i==a) <;> rfl
theorem r81(hb:a0e b=true){lv:List Bool}(hlv:lv.length=(lV b).length):u81 (a0o b,lv)=some (b0Y b lv):=by
 have hM:=a0Q hb;have hN:=g0j b hb;have e0:((a0k b:Int)).toNat=a0k b:=rfl;have en:c0M ((a0o b,lv):c0B×List Bool).1=some (a0k b:Int):=E0s b hb;unfold u81;rw[en,vS,gP ⟨rfl,trivial⟩,lE];refine(lF (n:=a0k b) (by omega) (fun(k:Nat) (s:List (List Bool))=>(s,(k:Int))) (j0f fun v=>m0x b lv v) (fun k s=>s.length=k) (J:=fun s=>q0y (a0o b,lv) (a0k b:Int) s) (F:=A0V (a0o b,lv) (a0k b:Int)) (fun g k s hk hI=>?_) (fun k s hk hI=>by show(s++[_]).length=_; rw[List.length_append,hI]; rfl) (fun g s _=>aE) [] rfl).trans ?_
 ·have hI:s.length=k:=hI;refine(if_pos (decide_eq_true (by omega))).trans ?_;rw[(g0W hb hlv hk).2,vS];refine(gP ⟨rfl,⟨by show s.length+1<=_; omega,by show(s.length+1)*24<=_; omega⟩,trivial⟩).trans ?_;rw[lE];exact gP ⟨oo,trivial⟩
 have hgl:(fN (j0f fun v=>m0x b lv v) (a0k b) []).length=a0k b:=e0e _ _;have hgg:∀v,v<a0k b->(fN (j0f fun v=>m0x b lv v) (a0k b) []).getD v []=m0x b lv v:=fun v hv=>f0s _ _ _ v hv;have hrl:∀v,v<a0k b->(m0x b lv v).length=a0k b:=fun v hv=>(g0W hb hlv hv).1.1;generalize fN (j0f fun v=>m0x b lv v) (a0k b) []=gr at hgl hgg;show q0y (a0o b,lv) (a0k b:Int) gr=_;rw[q0y,gP ⟨⟨by omega,rfl,by rw[e0]; omega,by omega⟩,trivial⟩,e0];refine lF (n:=a0k b) (by omega) (fun(v:Nat) (s:List Bool×List (List Int))=>(s.2,(v:Int),s.1)) (b0p b lv) (fun v s=>s.1.length=a0k b/\s.2.length<=v) (J:=fun s=>some s.2) (F:=A0U gr (a0o b,lv) (a0k b:Int)) (fun g v s hv hI=>?_) (fun v s hv hI=>l0o b lv hI) (fun g s _=>aE) (List.replicate (a0k b) false,[]) ⟨List.length_replicate,Nat.le_refl _⟩;obtain⟨h1,h2⟩:=hI;obtain⟨S,o⟩:=s;have h1:S.length=a0k b:=h1;have h2:o.length<=v:=h2;have e3:((v:Int)).toNat=v:=rfl;have j4:∀S' o',m0m (v:Int) g (S',o')=g (o',((v+1:Nat):Int),S'):=fun S' o'=>gP ⟨oo,trivial⟩;refine(if_pos (decide_eq_true (by omega))).trans ?_;refine(gP ⟨⟨by omega,by show(v:Int) < (S.length:Int); omega⟩,by show v<S.length; omega,trivial⟩).trans ?_;unfold b0p;show(if S.getD v false=true then m0m (v:Int) g (S,o) else lp (t0E gr (v:Int) S o (a0o b,lv) (a0k b:Int) g) ([],0))=g ((if S.getD v false=true then(S,o) else if k0d b lv v=true then(orB (clP b lv v) (a0k b) S,o++[clV b lv v]) else(S,o)).2,((v+1:Nat):Int),(if S.getD v false=true then(S,o) else if k0d b lv v=true then(orB (clP b lv v) (a0k b) S,o++[clV b lv v]) else(S,o)).1);by_cases hS:S.getD v false=true
 ·rw[if_pos hS,if_pos hS,j4]
 rw[if_neg hS,if_neg hS];have hcl:lp (t0E gr (v:Int) S o (a0o b,lv) (a0k b:Int) g) ([],0)=q0x (v:Int) S o (a0o b,lv) g (clV b lv v):=by
  unfold clV;rw[<- b0v];refine lF (n:=a0k b) (by omega) (fun(w:Nat) (s:List Int)=>(s,(w:Int))) (fun w s=>if clP b lv v w=true then s++[(w:Int)] else s) (fun w s=>s.length<=w) (J:=fun s=>q0x (v:Int) S o (a0o b,lv) g s) (F:=t0E gr (v:Int) S o (a0o b,lv) (a0k b:Int) g) (fun g' w s hw hI=>?_) (fun w s hw hI=>?_) (fun g' s _=>aE) [] (Nat.le_refl _)
  ·have hI:s.length<=w:=hI;have e4:((w:Int)).toNat=w:=rfl;have l1:=hrl v hv;have l2:=hrl w hw;refine(if_pos (decide_eq_true (by omega))).trans ?_;rw[e3,e4,hgg v hv,hgg w hw];refine(gP ⟨oo,by omega,oo,(fun _=>oo),(fun _=>by omega),(fun _=>oo),trivial⟩).trans ?_;show(if clP b lv v w=true then _ else _)=_;by_cases h:clP b lv v w=true
   ·rw[if_pos h,if_pos h];refine(gP ⟨⟨by show s.length+1<=_; omega,by show(s.length+1)*8<=_; omega⟩,trivial⟩).trans ?_;exact gP ⟨oo,trivial⟩
   ·rw[if_neg h,if_neg h];exact gP ⟨oo,trivial⟩
  ·have hI:s.length<=w:=hI;split
   ·rw[List.length_append,List.length_singleton]; omega
   ·omega
 rw[hcl,q0x];have hc2:=m0Z b lv v;refine(gP ⟨fun _=>(by rw[F0w hb hlv]; rfl),trivial⟩).trans ?_;rw[F0w hb hlv,vS];have ecnd:(decide (((clV b lv v).length:Int)<2)&&!m0v b lv v)=!k0d b lv v:=by
  unfold k0d;rw[Bool.not_or];congr 1;rw[Bool.eq_iff_iff,dq,Bool.not_eq_true',decide_eq_false_iff_not];omega
 rw[ecnd];cases hc:k0d b lv v with
 | false =>
   refine(if_pos rfl).trans ?_;rw[j4];rfl
 | true =>
   refine(if_neg (by simp)).trans ?_;obtain⟨il1,il2⟩:=c0j (clP b lv v) (a0k b);have il3:(clV b lv v).length=((List.range (a0k b)).filter (clP b lv v)).length:=il2;rw[<- r0w (clP b lv v) (a0k b) S h1];refine lF (n:=((List.range (a0k b)).filter (clP b lv v)).length) (by omega) (fun(k:Nat) (s:List Bool)=>((k:Int),s)) (fun k (s:List Bool)=>s.set (((List.range (a0k b)).filter (clP b lv v)).getD k 0) true) (fun _ s=>s.length=a0k b) (J:=fun s=>g (o++[clV b lv v],((v+1:Nat):Int),s)) (F:=A0T (clV b lv v) (v:Int) o g) (fun g' k s hk hI=>?_) (fun k s hk hI=>by rw[List.length_set]; exact hI) (fun g' s _=>?_) S h1
   ·have hI:s.length=a0k b:=hI;have e4:((k:Int)).toNat=k:=rfl;have hlt:=h0E hk;have eg:(clV b lv v).getD k 0=((((List.range (a0k b)).filter (clP b lv v)).getD k 0:Nat):Int):=j0U _ _ _;generalize ((List.range (a0k b)).filter (clP b lv v)).getD k 0=i at hlt eg ⊢;have e5:((i:Int)).toNat=i:=rfl;refine(if_pos (decide_eq_true (by omega))).trans ?_;rw[e4,eg,e5];refine(gP ⟨oo,by omega,trivial⟩).trans ?_;refine(gP ⟨oo,by omega,trivial⟩).trans ?_;exact gP ⟨oo,trivial⟩
   ·refine(if_neg (by rw[dq]; omega)).trans ?_;show gd _ (m0m (v:Int) g (s,o++[clV b lv v]))=_;rw[j4];exact gP ⟨⟨by show o.length+1<=_; omega,by show(o.length+1)*24<=_; omega⟩,trivial⟩
theorem r82(hb:a0e b=true){lv:List Bool}(hlv:lv.length=(lV b).length):u82 (a0k b:Int) (lV b) lv=some (b0Y b lv):=by
 have hM:=a0Q hb;have hN:=g0j b hb;have e0:((a0k b:Int)).toNat=a0k b:=rfl;unfold u82;rw[gP ⟨⟨by omega,rfl,by rw[e0]; omega,by omega⟩,trivial⟩,e0];have hm0:List.replicate (a0k b) false=mkD (a0k b) 0 (List.replicate (a0k b) false):=d0H false (by rw[f0M,List.length_replicate]) fun w hw=>by
  rw[List.length_replicate] at hw;rw[f0N _ _ _ hw];rfl
 refine Eq.trans (congrArg (fun x=>lp (y0u (lV b) lv (a0k b:Int)) (0,x,[])) hm0) ?_;refine lF (n:=a0k b) (by omega) (fun(v:Nat) (s:List Bool×List (List Int))=>((v:Int),mkD (a0k b) v s.1,s.2)) (b0p b lv) (fun v s=>s.1.length=a0k b/\s.2.length<=v) (J:=fun s=>some s.2) (F:=y0u (lV b) lv (a0k b:Int)) (fun g v s hv hI=>?_) (fun v s hv hI=>l0o b lv hI) (fun g s _=>aE) (List.replicate (a0k b) false,[]) ⟨List.length_replicate,Nat.le_refl _⟩;obtain⟨h1,h2⟩:=hI;obtain⟨S,o⟩:=s;have h1:S.length=a0k b:=h1;have h2:o.length<=v:=h2;have e3:((v:Int)).toNat=v:=rfl;have hml:=f0M (a0k b) v S;have hmg:(mkD (a0k b) v S).getD v false=S.getD v false:=by
  rw[f0N _ _ _ hv,decide_eq_false (Nat.lt_irrefl v),Bool.false_or]
 obtain⟨m1,m2⟩:=u0V hb hlv hv (s:=(S,o)) h1;have m1:S.getD v false=true->mkD (a0k b) v S=mkD (a0k b) (v+1) S:=m1;have m2:S.getD v false=false->orB (clP b lv v) (a0k b) (mkD (a0k b) v S)=mkD (a0k b) (v+1) (b0p b lv v (S,o)).1:=m2;have j2:∀S' o',p0f (v:Int) g (S',o')=g (((v+1:Nat):Int),S',o'):=fun S' o'=>gP ⟨oo,trivial⟩;refine(if_pos (decide_eq_true (by omega))).trans ?_;refine(gP ⟨⟨by omega,by show(v:Int) < ((mkD (a0k b) v S).length:Int); omega⟩,by show v < (mkD (a0k b) v S).length; omega,trivial⟩).trans ?_;show(if(mkD (a0k b) v S).getD v false=true then p0f (v:Int) g (mkD (a0k b) v S,o) else _)=g (((v+1:Nat):Int),mkD (a0k b) (v+1) (b0p b lv v (S,o)).1,(b0p b lv v (S,o)).2);rw[hmg];cases hS:S.getD v false with
 | true =>
   refine(if_pos rfl).trans ?_;rw[j2,m1 hS];unfold b0p;rw[if_pos hS]
 | false =>
   refine(if_neg (by simp)).trans ?_;obtain⟨T,t1,t2⟩:=F0x hb hlv hv true;obtain⟨B,b1,b2⟩:=F0x hb hlv hv false;have hrow:=g0W hb hlv hv;obtain rfl:T=m0x b lv v:=t1.uniq hrow.1;have hBg:∀w,w<a0k b->B.getD w false=(m0x b lv w).getD v false:=fun w hw=>by
    rw[Bool.eq_iff_iff,b1.2 w hw,(g0W hb hlv hw).1.2 v hv];exact⟨fun h=>Rch.back h,fun h=>Rch.back h⟩
   rw[t2,b2,vS,vS];refine(gP ⟨rfl,rfl,trivial⟩).trans ?_;rw[lE];have hrl:=hrow.1.1;have hbl:=b1.1;rw[<- m2 hS];have hcl:lp (y0t (m0x b lv v) B (v:Int) o (lV b) lv (a0k b:Int) g) (0,[],mkD (a0k b) v S)=q0w (v:Int) o (lV b) lv g (clV b lv v,orB (clP b lv v) (a0k b) (mkD (a0k b) v S)):=by
    unfold clV;rw[<- b0v,<- r0v (clP b lv v) (a0k b) (mkD (a0k b) v S) hml];have hpair:∀n,fN (fun w (s:List Int×List Bool)=>if clP b lv v w=true then(s.1++[(w:Int)],s.2.set w true) else s) n ([],mkD (a0k b) v S)=(fN (fun w (s:List Int)=>if clP b lv v w=true then s++[(w:Int)] else s) n [],fN (fun w (s:List Bool)=>if clP b lv v w=true then s.set w true else s) n (mkD (a0k b) v S)):=by
     intro n
     induction n with
     | zero=>rfl
     | succ n ih =>
       show(if clP b lv v n=true then((fN _ n _:List Int×List Bool).1++[(n:Int)],(fN _ n _:List Int×List Bool).2.set n true) else fN _ n _)=((if clP b lv v n=true then _ else _:List Int),(if clP b lv v n=true then _ else _:List Bool));rw[ih];by_cases h:clP b lv v n=true
       ·rw[if_pos h,if_pos h,if_pos h]
       ·rw[if_neg h,if_neg h,if_neg h]
    rw[<- hpair];refine lF (n:=a0k b) (by omega) (fun(w:Nat) (s:List Int×List Bool)=>((w:Int),s.1,s.2)) (fun w (s:List Int×List Bool)=>if clP b lv v w=true then(s.1++[(w:Int)],s.2.set w true) else s) (fun w s=>s.1.length<=w/\s.2.length=a0k b) (J:=fun s=>q0w (v:Int) o (lV b) lv g s) (F:=y0t (m0x b lv v) B (v:Int) o (lV b) lv (a0k b:Int) g) (fun g' w s hw hI=>?_) (fun w s hw hI=>?_) (fun g' s _=>aE) ([],mkD (a0k b) v S) ⟨Nat.le_refl _,hml⟩
    ·obtain⟨i1,i2⟩:=hI;obtain⟨l,D⟩:=s;have i1:l.length<=w:=i1;have i2:D.length=a0k b:=i2;have e4:((w:Int)).toNat=w:=rfl;refine(if_pos (decide_eq_true (by omega))).trans ?_;rw[e4,hBg w hw];refine(gP ⟨oo,by omega,(fun _=>oo),(fun _=>by omega),trivial⟩).trans ?_;show(if clP b lv v w=true then _ else _)=g' (((w+1:Nat):Int),(if clP b lv v w=true then(l++[(w:Int)],D.set w true) else(l,D)).1,(if clP b lv v w=true then(l++[(w:Int)],D.set w true) else(l,D)).2);by_cases h:clP b lv v w=true
     ·rw[if_pos h,if_pos h];refine(gP ⟨⟨by show l.length+1<=_; omega,by show(l.length+1)*8<=_; omega⟩,trivial⟩).trans ?_;refine(gP ⟨⟨by omega,by show(w:Int) < (D.length:Int); omega⟩,by show w<D.length; omega,trivial⟩).trans ?_;exact gP ⟨oo,trivial⟩
     ·rw[if_neg h,if_neg h];exact gP ⟨oo,trivial⟩
    ·obtain⟨i1,i2⟩:=hI;split
     ·exact⟨by show(s.1++[(w:Int)]).length<=_; rw[List.length_append,List.length_singleton]; omega,by show(s.2.set w true).length=_; rw[List.length_set]; exact i2⟩
     ·exact⟨by omega,i2⟩
   refine hcl.trans ?_;have hc2:=m0Z b lv v;rw[q0w];refine(gP ⟨fun _=>(by rw[F0v hb hlv]; rfl),trivial⟩).trans ?_;rw[F0v hb hlv,vS];have els:b0p b lv v (S,o)=if k0d b lv v=true then(orB (clP b lv v) (a0k b) S,o++[clV b lv v]) else(S,o):=if_neg (by show ¬S.getD v false=true; rw[hS]; simp)
   rw[els];show(if k0d b lv v=true then _ else _)=_;cases hc:k0d b lv v with
   | true =>
     refine(if_pos rfl).trans ?_;rw[j2];exact gP ⟨⟨by show o.length+1<=_; omega,by show(o.length+1)*24<=_; omega⟩,trivial⟩
   | false =>
     refine(if_neg (by simp)).trans ?_;rw[j2];rfl
end
end Go.Proofs.YtphnknndgfgepaaGreatDoor
end
section
namespace Go.Proofs.Xd
open Go.Proofs.Xl
section
variable (M N:Nat) (fr to:Nat->Nat) (lv:Nat->Bool)
def Cyc:Prop:=∃i,i<M/\lv i=true/\Rch M fr to lv (to i) (fr i)
theorem o0L:∀r:List Bool,c0k r<r.length->∃v,v<r.length/\r.getD v false=false
 | [],h=>by simp at h
 | false :: r,_=>⟨0,by simp,rfl⟩
 | true :: r,h=>by
   have e:c0k (true :: r)=c0k r+1:=by unfold c0k; rw[List.countP_cons]; rfl
   obtain⟨v,h1,h2⟩:=o0L r (by rw[e] at h; simpa using h);exact⟨v+1,by simpa using h1,by simpa using h2⟩
theorem m0W:∀(a b:List Bool),a.length=b.length->(∀v,a.getD v false=true->b.getD v false=true)->(∃v,a.getD v false=false/\b.getD v false=true)->c0k a<c0k b:=by
 have le:∀(a b:List Bool),a.length=b.length->(∀v,a.getD v false=true->b.getD v false=true)->c0k a<=c0k b:=by
  intro a
  induction a with
  | nil=>intro b _ _; exact Nat.zero_le _
  | cons x a ih =>
    intro b hl h;cases b with
    | nil=>simp at hl
    | cons y b =>
      have h0:=h 0;have:=ih b (by simpa using hl) (fun v hv=>by have:=h (v+1); simpa using this (by simpa using hv));unfold c0k at this ⊢;rw[List.countP_cons,List.countP_cons];simp only[List.getD_cons_zero] at h0;cases x <;> cases y <;> simp_all <;> omega
 intro a
 induction a with
 | nil=>intro b hl _ ⟨v,_,h2⟩; cases b with
   | nil=>simp at h2
   | cons _ _=>simp at hl
 | cons x a ih =>
   intro b hl h ⟨v,h1,h2⟩;cases b with
   | nil=>simp at hl
   | cons y b =>
     have hl':a.length=b.length:=by simpa using hl
     have h0:=h 0;have ht:∀v,a.getD v false=true->b.getD v false=true:=fun v hv=>by have:=h (v+1); simpa using this (by simpa using hv)
     simp only[List.getD_cons_zero] at h0;cases v with
     | zero =>
       simp only[List.getD_cons_zero] at h1 h2;subst h1; subst h2;have:=le a b hl' ht;unfold c0k at this ⊢;rw[List.countP_cons,List.countP_cons];simp;omega
     | succ v =>
       have:=ih b hl' ht ⟨v,by simpa using h1,by simpa using h2⟩;unfold c0k at this ⊢;rw[List.countP_cons,List.countP_cons];cases x <;> cases y <;> simp_all <;> omega
theorem C0D(hf:∀i,i<M->fr i<N)(ht:∀i,i<M->to i<N)(hN:N<=1000000){U:Nat->Prop}(hU:∀u,U u->u<N/\∃i,i<M/\lv i=true/\to i=u/\U (fr i)){u:Nat}(hu:U u):Cyc M fr to lv:=by
 have key:∀(n u:Nat) (L:List Bool),U u->RB M N to fr lv u L->c0k L<=n->Cyc M fr to lv:=by
  intro n
  induction n with
  | zero =>
    intro u L hu hL hn;obtain⟨h1,i,hi,hl,e,hp⟩:=hU u hu;have hz:L.getD u false=true:=(hL.2 u h1).2 .refl;have:0<c0k L:=by
     unfold c0k;rw[List.countP_pos_iff];refine⟨true,?_,rfl⟩;have hu':u<L.length:=by rw[hL.1]; exact h1
     rw[gq,List.getElem?_eq_getElem hu'] at hz;have hz:L[u]=true:=hz;rw[<- hz];exact List.getElem_mem hu'
    omega
  | succ n ih =>
    intro u L hu hL hn;obtain⟨h1,i,hi,hl,e,hp⟩:=hU u hu;by_cases hr:Rch M fr to lv u (fr i)
    ·exact⟨i,hi,hl,by rw[e]; exact hr⟩
    ·obtain⟨K,hK⟩:=x0Q M N to fr lv hf hN (hf i hi);refine ih (fr i) K hp hK ?_;have:c0k K<c0k L:=by
      refine m0W K L (by rw[hK.1,hL.1]) (fun v hv=>?_) ⟨u,?_,(hL.2 u h1).2 .refl⟩
      ·have hvN:v<N:=by
        rcases Nat.lt_or_ge v N with h | h
        ·exact h
        ·rw[gq,List.getElem?_eq_none (by rw[hK.1]; exact h)] at hv; cases hv
       refine(hL.2 v hvN).2 ?_;have h2:=(hK.2 v hvN).1 hv;have h3:Rch M to fr lv u (fr i):=by
        have:=Rch.one (M:=M) (fr:=to) (to:=fr) (lv:=lv) hi hl
        rwa [e] at this
       exact h3.trans h2
      ·cases hc:K.getD u false with
       | false=>rfl
       | true=>exact(hr ((hK.2 u h1).1 hc).back).elim
     omega
 obtain⟨L,hL⟩:=x0Q M N to fr lv hf hN (hU u hu).1;exact key _ u L hu hL (Nat.le_refl _)
structure LI(out:List Nat):Prop where
 cnt:c0k (i0h N out)=out.length
 lt:∀v∈out,v<N
 cls:∀i,i<M->lv i=true->to i∈out->fr i∈out
 acy:∀i,i<M->lv i=true->fr i∈out->¬Rch M fr to lv (to i) (fr i)
theorem LI.nil:LI M N fr to lv []:=by
 refine⟨?_,(fun _ h=>by cases h),(fun _ _ _ h=>by cases h),(fun _ _ _ h=>by cases h)⟩;show c0k (List.replicate N false)=0;unfold c0k;rw[List.countP_eq_zero];intro a ha;rw[(List.mem_replicate.1 ha).2];simp
theorem LI.snoc{M N:Nat}{fr to:Nat->Nat}{lv:Nat->Bool}{out:List Nat}(h:LI M N fr to lv out){v:Nat}(hv:v<N)(hn:v ∉ out)(hc:m0X M fr to lv out v=0):LI M N fr to lv (out++[v]):=by
 have hin:∀i,i<M->lv i=true->to i=v->fr i∈out:=fun i hi hl e=>by
  unfold m0X at hc;rw[List.countP_eq_zero] at hc;have:=hc i (List.mem_range.2 hi);simpa [hl,e] using this
 have hg:=h0n h.lt v;refine⟨?_,fun w hw=>?_,fun i hi hl hm=>?_,fun i hi hl hm hr=>?_⟩
 ·rw[s0g,o0K (by rw[hg.1]; exact hv) (by rw[hg.2]; simpa using hn),h.cnt,List.length_append];rfl
 ·rcases List.mem_append.1 hw with hw | hw
  ·exact h.lt w hw
  ·rw[List.mem_singleton.1 hw]; exact hv
 ·rcases List.mem_append.1 hm with hm | hm
  ·exact List.mem_append_left _ (h.cls i hi hl hm)
  ·exact List.mem_append_left _ (hin i hi hl (List.mem_singleton.1 hm))
 ·rcases List.mem_append.1 hm with hm | hm
  ·exact h.acy i hi hl hm hr
  ·have e:=List.mem_singleton.1 hm;rw[e] at hr;generalize hq:to i=q at hr;cases hr with
   | refl =>
     have:=hin i hi hl hq;rw[e] at this;exact hn this
   | @step j hr hj hlj =>
     have hm2:=hin j hj hlj rfl;refine h.acy j hj hlj hm2 ?_;have h1:=Rch.one (M:=M) (fr:=fr) (to:=to) (lv:=lv) hi hl;rw[e,hq] at h1;exact h1.trans hr
theorem y0Z(hf:∀i,i<M->fr i<N)(ht:∀i,i<M->to i<N)(hN:N<=1000000):h0f M N fr to lv N []=none↔Cyc M fr to lv:=by
 have key:∀(k:Nat) (out:List Nat),LI M N fr to lv out->out.length+k=N->(h0f M N fr to lv k out=none->Cyc M fr to lv)/\∀l,h0f M N fr to lv k out=some l->LI M N fr to lv l/\l.length=N:=by
  intro k
  induction k with
  | zero=>intro out h hk; exact⟨(fun e=>by cases e),fun l e=>by cases e; exact⟨h,by omega⟩⟩
  | succ k ih =>
    intro out h hk;show((match e0t M N fr to lv out with | none=>none | some v=>h0f M N fr to lv k (out++[v]))=none->_)/\∀l,(match e0t M N fr to lv out with | none=>none | some v=>h0f M N fr to lv k (out++[v]))=some l->_;cases hn:e0t M N fr to lv out with
    | none =>
      refine⟨fun _=>?_,fun l e=>by cases e⟩;have hno:∀v,v<N->v ∉ out->m0X M fr to lv out v≠0:=fun v hv hm hc=>by
       unfold e0t at hn;rw[List.find?_eq_none] at hn;have:=hn v (List.mem_range.2 hv);simp[hm,hc] at this
      have hg:=fun v=>h0n h.lt v;obtain⟨v,hv,hf2⟩:=o0L (i0h N out) (by rw[h.cnt,(hg 0).1]; omega);rw[(hg v).1] at hv;rw[(hg v).2] at hf2;refine C0D M N fr to lv hf ht hN (U:=fun v=>v<N/\v ∉ out) (fun u ⟨hu,hm⟩=>⟨hu,?_⟩) (u:=v) ⟨hv,by simpa using hf2⟩;have:=hno u hu hm;unfold m0X at this;have:=Nat.pos_of_ne_zero this;rw[List.countP_pos_iff] at this;obtain⟨i,hi,hp⟩:=this;rw[List.mem_range] at hi;simp only[ba,beq_iff_eq,Bool.not_eq_true'] at hp;exact⟨i,hi,hp.1.1,hp.1.2,hf i hi,by simpa using hp.2⟩
    | some v =>
      obtain⟨n1,n2⟩:=m0E hn;have hc:m0X M fr to lv out v=0:=by
       unfold e0t at hn;have:=List.find?_some hn;simp only[ba,beq_iff_eq] at this;exact this.2
      exact ih (out++[v]) (h.snoc n1 n2 hc) (by rw[List.length_append,List.length_singleton]; omega)
 obtain⟨k1,k2⟩:=key N [] (LI.nil M N fr to lv) (by simp);refine⟨k1,fun⟨i,hi,hl,hr⟩=>?_⟩;cases ho:h0f M N fr to lv N [] with
 | none=>rfl
 | some l =>
   obtain⟨h1,h2⟩:=k2 l ho;have hm:fr i∈l:=by
    have hg:=h0n h1.lt (fr i);cases hc:l.contains (fr i) with
    | true=>simpa using hc
    | false =>
      exfalso;have hlt:c0k (i0h N l)<N:=by
       have:=m0W (i0h N l) (List.replicate N true) (by rw[hg.1,List.length_replicate]) (fun v hv=>?_) ⟨fr i,by rw[hg.2]; exact hc,?_⟩
       ·have e:c0k (List.replicate N true)<=N:=by
         have:=k0b (List.replicate N true)
         rwa [List.length_replicate] at this
        omega
       ·have hvN:v<N:=by
         rcases Nat.lt_or_ge v N with h | h
         ·exact h
         ·rw[gq,List.getElem?_eq_none (by rw[hg.1]; exact h)] at hv; cases hv
        simp[gq,List.getElem?_replicate,hvN]
       ·simp[gq,List.getElem?_replicate,hf i hi]
      rw[h1.cnt] at hlt;omega
   exact(h1.acy i hi hl hm hr).elim
end
end Go.Proofs.Xd
end
section
namespace Go.Proofs.YtphnknndgfgepaaGreatDoor
open Go Go.Proofs Go.Proofs.Sv Go.Proofs.Xv Go.Proofs.Xl Go.Proofs.Xd
section
variable {b:Y34}
def kdN(b:Y34)(i:Nat):Int:=((lV b).getD i (a0a y48)).2.2.1
theorem z0s(hb:a0e b=true){i:Nat}(hi:i < (lV b).length):kdN b i=1∨((a0z b.2.1 (frN b i / 2)).2.2.2=true/\(a0z b.2.1 (toN b i / 2)).2.2.2=false):=by
 have hm:=b0d (d:=a0a y48) hi;unfold kdN frN toN;rcases s0h hm with ⟨i',j,t,_,_,_,e⟩ | ⟨n,k,t,hn,hk,ht,e⟩
 ·left;rw[e]; rfl
 ·right;have hn:n<b.2.2.length:=hn;obtain⟨q,h1,_,_,h4⟩:=g0E (a0z b.2.1) n (a0Z b.2.1).length _ (b0d (d:=0) hk);have h1:(a0t b.2.1 n).getD k 0=(q:Int):=h1;obtain⟨p,p1,p2,_,p4⟩:=s0F (s0G hb hn);have p4:g0m b n=(p:Int):=p4;unfold m0e at p2;rw[ba] at p2;rw[e,h1,p4];show(a0z b.2.1 ((2*(p:Int)+(t:Int)).toNat / 2)).2.2.2=true/\(a0z b.2.1 ((2*(q:Int)+(t:Int)).toNat / 2)).2.2.2=false;rw[show(2*(p:Int)+(t:Int)).toNat / 2=p by omega,show(2*(q:Int)+(t:Int)).toNat / 2=q by omega];exact⟨p2.2,h4⟩
end
end Go.Proofs.YtphnknndgfgepaaGreatDoor
namespace Go.Proofs.Xd
open Go.Proofs.Xl
theorem n0Z{M:Nat}{fr to:Nat->Nat}{lv:Nat->Bool}{a c:Nat}(h:Rch M fr to lv a c):a=c∨∃i,i<M/\lv i=true/\fr i=a/\Rch M fr to lv (to i) c:=by
 induction h with
 | refl=>exact .inl rfl
 | @step j hr hj hl ih =>
   rcases ih with e | ⟨i,h1,h2,h3,h4⟩
   ·exact .inr ⟨j,hj,hl,e.symm,.refl⟩
   ·exact .inr ⟨i,h1,h2,h3,h4.step hj hl⟩
theorem v0C{N:Nat}{p:Nat->Bool}{v:Nat}(h:1 < ((List.range N).filter p).length):∃w,w<N/\p w=true/\w≠v:=by
 have hn:((List.range N).filter p).Nodup:=List.nodup_range.filter _;have hmem:∀x∈(List.range N).filter p,x<N/\p x=true:=fun x hx=>by
  rw[List.mem_filter,List.mem_range] at hx; exact hx
 generalize (List.range N).filter p=l at h hn hmem
 match l,h with
 | x :: y :: r,_ =>
   have hxy:x≠y:=fun e=>by
    rw[e,List.nodup_cons] at hn;exact hn.1 (by simp)
   by_cases e:x=v
   ·exact⟨y,(hmem y (by simp)).1,(hmem y (by simp)).2,fun e'=>hxy (by rw[e,e'])⟩
   ·exact⟨x,(hmem x (by simp)).1,(hmem x (by simp)).2,e⟩
end Go.Proofs.Xd
namespace Go.Proofs.YtphnknndgfgepaaGreatDoor
open Go Go.Proofs Go.Proofs.Sv Go.Proofs.Xv Go.Proofs.Xl Go.Proofs.Xd
section
variable {b:Y34}
def v0b(q:Nat->Bool)(m:Nat):Int:=fN (fun k (l:Int)=>if q k=true then(k:Int) else l) m (-1)
theorem j0P(q:Nat->Bool):∀m,(∃k,k<m/\q k=true)->∃k,k<m/\q k=true/\v0b q m=(k:Int)/\0 < (c0O q m).length/\(c0O q m).getD (((c0O q m).length:Int)-1).toNat 0=(k:Int)
 | 0,⟨k,h,_⟩=>by omega
 | m+1,⟨k,h,hk⟩=>by
   have e1:v0b q (m+1)=if q m=true then(m:Int) else v0b q m:=rfl
   have e2:c0O q (m+1)=if q m=true then c0O q m++[(m:Int)] else c0O q m:=by
    rw[<- b0v,<- b0v]; rfl
   rw[e1,e2];by_cases hq:q m=true
   ·rw[if_pos hq,if_pos hq];refine⟨m,by omega,hq,rfl,by rw[List.length_append,List.length_singleton]; omega,?_⟩;rw[List.length_append,List.length_singleton,show(((c0O q m).length+1:Nat):Int)-1=((c0O q m).length:Int) by omega,Int.toNat_natCast,gq,List.getElem?_append_right (Nat.le_refl _)];simp
   ·rw[if_neg hq,if_neg hq];have hkm:k<m:=by
     rcases Nat.lt_or_ge k m with h' | h'
     ·exact h'
     ·have:k=m:=by omega
      rw[this] at hk; exact absurd hk hq
    obtain⟨k',a1,a2,a3,a4,a5⟩:=j0P q m ⟨k,hkm,hk⟩;exact⟨k',by omega,a2,a3,a4,a5⟩
abbrev D0K(b:Y34)(lv:List Bool)(v w:Nat):Prop:=Rch (lV b).length (frN b) (toN b) (fun i=>lv.getD i false) v w
theorem f0Y(hb:a0e b=true){lv:List Bool}(hlv:lv.length=(lV b).length){v w:Nat}(hv:v<a0k b)(hw:w<a0k b):clP b lv v w=true↔D0K b lv v w/\D0K b lv w v:=by
 unfold clP;rw[ba,(g0W hb hlv hv).1.2 w hw,(g0W hb hlv hw).1.2 v hv]
theorem m0Y(hb:a0e b=true){lv:List Bool}(hlv:lv.length=(lV b).length){v:Nat}(hv:v<a0k b):k0d b lv v=true↔∃i,i < (lV b).length/\lv.getD i false=true/\frN b i=v/\D0K b lv (toN b i) v:=by
 unfold k0d;rw[Bool.or_eq_true,dq];have hs:m0v b lv v=true↔∃i,i < (lV b).length/\lv.getD i false=true/\frN b i=v/\toN b i=v:=by
  unfold m0v;rw[<- o0Z,List.any_eq_true];constructor
  ·rintro⟨i,h1,h2⟩;simp only[ba,beq_iff_eq] at h2;exact⟨i,List.mem_range.1 h1,h2.1,h2.2.1,h2.2.2⟩
  ·rintro⟨i,h1,h2,h3,h4⟩;exact⟨i,List.mem_range.2 h1,by simp only[ba,beq_iff_eq]; exact⟨h2,h3,h4⟩⟩
 have hl:(clV b lv v).length=((List.range (a0k b)).filter (clP b lv v)).length:=(c0j _ _).2;constructor
 ·rintro(h | h)
  ·obtain⟨w,hw,pw,hne⟩:=v0C (v:=v) (show 1 < ((List.range (a0k b)).filter (clP b lv v)).length by omega);obtain⟨r1,r2⟩:=(f0Y hb hlv hv hw).1 pw;rcases n0Z r1 with e | ⟨i,h1,h2,h3,h4⟩
   ·exact absurd e.symm hne
   ·exact⟨i,h1,h2,h3,h4.trans r2⟩
  ·obtain⟨i,h1,h2,h3,h4⟩:=hs.1 h;exact⟨i,h1,h2,h3,by rw[h4]; exact .refl⟩
 ·rintro⟨i,h1,h2,h3,h4⟩;by_cases e:toN b i=v
  ·exact .inr (hs.2 ⟨i,h1,h2,h3,e⟩)
  ·left;obtain⟨_,_,_,f4⟩:=h0C b hb h1;have pt:clP b lv v (toN b i)=true:=(f0Y hb hlv hv f4).2 ⟨by have:=Rch.one (M:=(lV b).length) (fr:=frN b) (to:=toN b) (lv:=fun i=>lv.getD i false) h1 h2; rw[h3] at this; exact this,h4⟩;rcases Nat.lt_or_ge ((List.range (a0k b)).filter (clP b lv v)).length 2 with h | h
   ·exact absurd (o0H h hv (g0N hb hlv hv) f4 pt) e
   ·omega
theorem v0N(hb:a0e b=true){lv:List Bool}(hlv:lv.length=(lV b).length){v:Nat}(hv:v<a0k b)(h:k0d b lv v=true):∃k,k < (lV b).length/\lv.getD k false=true/\kdN b k=1/\clP b lv v (frN b k)=true/\clP b lv v (toN b k)=true:=by
 obtain⟨i,h1,h2,h3,h4⟩:=(m0Y hb hlv hv).1 h;obtain⟨_,_,_,f4⟩:=h0C b hb h1;have o1:D0K b lv v (toN b i):=by
  have:=Rch.one (M:=(lV b).length) (fr:=frN b) (to:=toN b) (lv:=fun i=>lv.getD i false) h1 h2;rw[h3] at this; exact this
 rcases z0s hb h1 with k1 | ⟨_,k2⟩
 ·exact⟨i,h1,h2,k1,by rw[h3]; exact g0N hb hlv hv,(f0Y hb hlv hv f4).2 ⟨o1,h4⟩⟩
 ·rcases n0Z h4 with e | ⟨j,j1,j2,j3,j4⟩
  ·rcases z0s hb h1 with k1 | ⟨k3,_⟩
   ·exact⟨i,h1,h2,k1,by rw[h3]; exact g0N hb hlv hv,(f0Y hb hlv hv f4).2 ⟨o1,h4⟩⟩
   ·rw[e,<- h3,k3] at k2; cases k2
  ·obtain⟨_,_,g3,g4⟩:=h0C b hb j1;have o2:=Rch.one (M:=(lV b).length) (fr:=frN b) (to:=toN b) (lv:=fun i=>lv.getD i false) j1 j2;rw[j3] at o2;rcases z0s hb j1 with k1 | ⟨k3,_⟩
   ·exact⟨j,j1,j2,k1,by rw[j3]; exact(f0Y hb hlv hv f4).2 ⟨o1,h4⟩,(f0Y hb hlv hv g4).2 ⟨o1.trans o2,j4⟩⟩
   ·rw[j3,k2] at k3; cases k3
theorem f0i(b:Y34)(lv:List Bool):∀m,m<=a0k b->((fN (b0p b lv) m (List.replicate (a0k b) false,[]))=(List.replicate (a0k b) false,[])/\∀v,v<m->k0d b lv v=false)∨∃v t,v<m/\k0d b lv v=true/\(fN (b0p b lv) m (List.replicate (a0k b) false,[])).2=clV b lv v :: t
 | 0,_=>.inl ⟨rfl,fun v h=>by omega⟩
 | m+1,h=>by
   have e:fN (b0p b lv) (m+1) (List.replicate (a0k b) false,[])=b0p b lv m (fN (b0p b lv) m (List.replicate (a0k b) false,[])):=rfl;rw[e];rcases f0i b lv m (by omega) with ⟨h1,h2⟩ | ⟨v,t,h1,h2,h3⟩
   ·rw[h1];have hf:(List.replicate (a0k b) false).getD m false=false:=by
     rw[gq,List.getElem?_replicate];split <;> rfl
    unfold b0p;show(if(List.replicate (a0k b) false).getD m false=true then _ else _)=_/\_∨∃v t,_/\_/\(if(List.replicate (a0k b) false).getD m false=true then _ else _:List Bool×List (List Int)).2=_;rw[hf];cases hc:k0d b lv m with
    | false =>
      left;refine⟨rfl,fun v hv=>?_⟩;by_cases e:v=m
      ·rw[e]; exact hc
      ·exact h2 v (by omega)
    | true=>exact .inr ⟨m,[],by omega,hc,rfl⟩
   ·right;generalize fN (b0p b lv) m (List.replicate (a0k b) false,[])=s at h3;unfold b0p;split
    ·exact⟨v,t,by omega,h2,h3⟩
    ·split
     ·exact⟨v,t++[clV b lv m],by omega,h2,by show s.2++[_]=_; rw[h3]; rfl⟩
     ·exact⟨v,t,by omega,h2,h3⟩
def lpB(b:Y34)(lv:List Bool):Bool:=!(k0Z (A0w b lv [] (a0k b))).2
theorem s0c(hb:a0e b=true){lv:List Bool}(hlv:lv.length=(lV b).length):lpB b lv=true↔∃v,v<a0k b/\k0d b lv v=true:=by
 have hN:=g0j b hb;have hc:=y0Z (lV b).length (a0k b) (frN b) (toN b) (fun i=>lv.getD i false) (fun i hi=>(h0C b hb hi).2.2.1) (fun i hi=>(h0C b hb hi).2.2.2) hN;have h1:lpB b lv=true↔A0w b lv [] (a0k b)=none:=by
  unfold lpB;cases A0w b lv [] (a0k b) with
  | none=>exact⟨fun _=>rfl,fun _=>rfl⟩
  | some l=>exact⟨fun h=>(by cases h),fun h=>(by cases h)⟩
 rw[h1];refine hc.trans ⟨?_,?_⟩
 ·rintro⟨i,h1,h2,h3⟩;obtain⟨_,_,f3,_⟩:=h0C b hb h1;exact⟨frN b i,f3,(m0Y hb hlv f3).2 ⟨i,h1,h2,rfl,h3⟩⟩
 ·rintro⟨v,hv,h⟩;obtain⟨i,h1,h2,h3,h4⟩:=(m0Y hb hlv hv).1 h;exact⟨i,h1,h2,by rw[h3]; exact h4⟩
def q0k(b:Y34)(lv:List Bool):List Int:=(b0Y b lv).getD 0 []
def qB(b:Y34)(lv:List Bool)(k:Nat):Bool:=lv.getD k false&&(kdN b k==1&&b0s (q0k b lv) (frN b k:Int)&&b0s (q0k b lv) (toN b k:Int))
theorem p0L(hb:a0e b=true){lv:List Bool}(hlv:lv.length=(lV b).length)(h:lpB b lv=false):b0Y b lv=[]:=by
 unfold b0Y;rcases f0i b lv (a0k b) (Nat.le_refl _) with ⟨h1,_⟩ | ⟨v,t,h1,h2,_⟩
 ·rw[h1]
 ·have:=(s0c hb hlv).2 ⟨v,h1,h2⟩;rw[h] at this; cases this
theorem f0O(hb:a0e b=true){lv:List Bool}(hlv:lv.length=(lV b).length)(h:lpB b lv=true):0 < (b0Y b lv).length/\∃k,k < (lV b).length/\qB b lv k=true:=by
 obtain⟨v0,hv0,c0⟩:=(s0c hb hlv).1 h;unfold qB q0k;have key:∃v t,v<a0k b/\k0d b lv v=true/\b0Y b lv=clV b lv v :: t:=by
  unfold b0Y;rcases f0i b lv (a0k b) (Nat.le_refl _) with ⟨_,h2⟩ | ⟨v,t,h1,h2,h3⟩
  ·rw[h2 v0 hv0] at c0; cases c0
  ·exact⟨v,t,h1,h2,h3⟩
 obtain⟨v,t,hv,hc,e⟩:=key;rw[e];refine⟨by rw[List.length_cons]; omega,?_⟩;obtain⟨k,k1,k2,k3,k4,k5⟩:=v0N hb hlv hv hc;obtain⟨_,_,f3,f4⟩:=h0C b hb k1;have hin:∀w,w<a0k b->clP b lv v w=true->b0s (clV b lv v) (w:Int)=true:=fun w hw hp=>by
  rw[m0N];unfold clV c0O;exact List.mem_map.2 ⟨w,List.mem_filter.2 ⟨List.mem_range.2 hw,hp⟩,rfl⟩
 refine⟨k,k1,?_⟩;show(lv.getD k false&&(kdN b k==1&&b0s (clV b lv v) _&&b0s (clV b lv v) _))=true;rw[k2,k3,hin _ f3 k4,hin _ f4 k5];rfl
end
end Go.Proofs.YtphnknndgfgepaaGreatDoor
end
