/- The links that are broken: both ways find the same. -/
import Derived.Test.YtphnknndgfgepaaGreatDoorWH
import Derived.Test.YtphnknndgfgepaaGreatDoorWG
import Derived.Test.YtphnknndgfgepaaGreatDoorF77d
import Derived.Test.YtphnknndgfgepaaGreatDoorWF
section
namespace Go.Proofs.YtphnknndgfgepaaGreatDoor
open Go Go.Proofs Go.Proofs.Sv Go.Proofs.Xv Go.Proofs.Xl Go.Proofs.Xd
theorem C0o{σ τ ρ π:Type}{F:(σ->Option ρ)->σ->Option ρ}{J:σ->Option ρ}{G:(τ->Option π)->τ->Option π}{K:τ->Option π}(μ:τ->Nat)(R:σ->τ->Prop)(c:τ->Bool)(nx:σ->σ)(ny:τ->τ)
  (hF:∀g s t,R s t->F g s=if c t=true then g (nx s) else J s) (hG:∀g s t,R s t->G g t=if c t=true then g (ny t) else K t) (hI:∀s t,R s t->c t=true->R (nx s) (ny t)/\μ (ny t)<μ t) (s:σ) (t:τ) (hs:R s t) (hm:μ t<=9223372036854775806):∃s' t',R s' t'/\c t'=false/\lp F s=J s'/\lp G t=K t':=by
 have key:∀(n:Nat) (s:σ) (t:τ),μ t<=n->R s t->∃s' t',R s' t'/\c t'=false/\(∀k,itF F (k+(n+1)) s=J s')/\∀k,itF G (k+(n+1)) t=K t':=by
  intro n
  induction n with
  | zero =>
    intro s t hn hs;cases hc:c t with
    | true=>have:=(hI s t hs hc).2; omega
    | false=>exact⟨s,t,hs,hc,fun k=>by show F (itF F k) s=_; rw[hF _ _ _ hs,hc]; rfl,fun k=>by show G (itF G k) t=_; rw[hG _ _ _ hs,hc]; rfl⟩
  | succ n ih =>
    intro s t hn hs;cases hc:c t with
    | true =>
      obtain⟨h1,h2⟩:=hI s t hs hc;obtain⟨s',t',h3,h4,h5,h6⟩:=ih (nx s) (ny t) (by omega) h1;refine⟨s',t',h3,h4,fun k=>?_,fun k=>?_⟩
      ·show F (itF F (k+(n+1))) s=_;rw[hF _ _ _ hs,hc,if_pos rfl];exact h5 k
      ·show G (itF G (k+(n+1))) t=_;rw[hG _ _ _ hs,hc,if_pos rfl];exact h6 k
    | false=>exact⟨s,t,hs,hc,fun k=>by show F (itF F (k+(n+1))) s=_; rw[hF _ _ _ hs,hc]; rfl,fun k=>by show G (itF G (k+(n+1))) t=_; rw[hG _ _ _ hs,hc]; rfl⟩
 obtain⟨s',t',h1,h2,h3,h4⟩:=key (μ t) s t (Nat.le_refl _) hs;exact⟨s',t',h1,h2,z0m (μ t+1) (by omega) h3,z0m (μ t+1) (by omega) h4⟩
theorem o0C(p:Nat->Bool)(M:Nat):(c0O p M).Pairwise fun x y=>x<y:=by
 unfold c0O;rw[List.pairwise_map];refine(List.pairwise_lt_range.filter p).imp ?_;intro a c h;omega
theorem g0L{p:Nat->Bool}{M:Nat}{x:Int}:x∈c0O p M↔∃k,k<M/\p k=true/\x=(k:Int):=by
 unfold c0O;rw[List.mem_map];constructor
 ·rintro⟨k,h,e⟩;rw[List.mem_filter,List.mem_range] at h;exact⟨k,h.1,h.2,e.symm⟩
 ·rintro⟨k,h1,h2,e⟩;exact⟨k,List.mem_filter.2 ⟨List.mem_range.2 h1,h2⟩,e.symm⟩
theorem u0f{l:List Int}{p:Nat->Bool}{M:Nat}(hn:l.Nodup)(hm:∀x,x∈l↔∃k,k<M/\p k=true/\x=(k:Int)):(l.mergeSort fun x y=>decide (x<=y))=c0O p M:=by
 have hs:=o0C p M;have hn2:(c0O p M).Nodup:=hs.imp fun h=>by omega
 have hp:List.Perm l (c0O p M):=(List.perm_ext_iff_of_nodup hn hn2).2 fun x=>by rw[hm,g0L]
 refine List.Perm.eq_of_pairwise (le:=fun x y=>x<=y) (fun a c _ _ h1 h2=>by omega) ?_ (hs.imp fun h=>by omega) ((List.mergeSort_perm l _).trans hp);have:=List.pairwise_mergeSort (le:=fun x y:Int=>decide (x<=y)) (fun a b c h1 h2=>by rw[dq] at *; omega) (fun a b=>by rw[Bool.or_eq_true,dq,dq]; omega) l;exact this.imp fun h=>of_decide_eq_true h
section
variable {b:Y34}
theorem F0u(l:List Int)(x:Int)(hl:l.length<=9223372036854775807):t0r l x=some (b0s l x):=by
 have key:=l0n hl (fun v=>x==l.getD v 0) (fun v=>some (v:Int)) (e:=some (-1)) (F:=w0y x l) 0 (Nat.zero_le _) (fun g i _ hi=>by
  have e3:((i:Int)).toNat=i:=rfl;refine(if_pos (decide_eq_true (by omega))).trans ((gP ⟨oo,trivial⟩).trans ?_);rw[e3];by_cases hc:(x==l.getD i 0)=true
  ·rw[if_pos hc,if_pos hc]
  ·rw[if_neg hc,if_neg hc];exact gP ⟨oo,trivial⟩) (fun g=>if_neg (by simp))
 rw[Nat.sub_zero,<- List.range_eq_range'] at key;have key:D0v l x=_:=key;have hh:b0s l x=((List.range l.length).find? fun v=>x==l.getD v 0).isSome:=by
  unfold b0s;rw[Bool.eq_iff_iff,List.any_eq_true,List.find?_isSome];constructor
  ·rintro⟨j,h1,h2⟩;exact⟨j,h1,by rw[beq_iff_eq] at *; exact h2.symm⟩
  ·rintro⟨j,h1,h2⟩;exact⟨j,h1,by rw[beq_iff_eq] at *; exact h2.symm⟩
 unfold t0r;rw[key,hh];cases(List.range l.length).find? fun v=>x==l.getD v 0 with
 | none=>rfl
 | some v =>
   refine(gP ⟨rfl,trivial⟩).trans ?_;rw[lE];show some (decide (0<=(v:Int)))=_;rw[decide_eq_true (by omega)];rfl
theorem H0j{L:List Int}(hL:L.length<=9223372036854775807)(l:Y48):w0X l L=some (l.2.2.1==1&&b0s L l.1&&b0s L l.2.1):=by
 unfold w0X;rw[F0u L _ hL,F0u L _ hL,vS,vS];exact gP ⟨(fun _=>rfl),(fun _=>rfl),trivial⟩
theorem u0B(hb:a0e b=true){lv:List Bool}(hlv:lv.length=(lV b).length){L:List Int}(hL:L.length<=9223372036854775807):d0Q (a0o b,lv) L=some (c0O (fun k=>lv.getD k false&&(kdN b k==1&&b0s L (frN b k:Int)&&b0s L (toN b k:Int))) (lV b).length):=by
 have hM:=a0Q hb;refine(lF (n:=(lV b).length) (by omega) (fun i (s:List Int)=>(s,(i:Int))) (fun i s=>if(lv.getD i false&&(kdN b i==1&&b0s L (frN b i:Int)&&b0s L (toN b i:Int)))=true then s++[(i:Int)] else s) (fun i s=>s.length<=i) (J:=fun s=>some s) (F:=i0D (a0o b,lv) L) (fun g i s hi hs=>?_) (fun i s hi hs=>?_) (fun g s _=>aE) [] (Nat.le_refl _)).trans ?_
 ·have hs:s.length<=i:=hs;have hx:ix (i:Int) (a0o b).2.2.1.length:=⟨by omega,by show(i:Int) < ((lV b).length:Int); omega⟩;refine(if_pos (decide_eq_true hx.2)).trans ((gP ⟨hx,trivial⟩).trans ?_);rw[lE];obtain⟨f1,f2,_⟩:=h0C b hb hi;have hq:w0X ((lV b).getD i (a0a y48)) L=some (kdN b i==1&&b0s L (frN b i:Int)&&b0s L (toN b i:Int)):=by
   rw[H0j hL,f1,f2]; rfl
  have hq:w0X ((a0o b).2.2.1.getD ((i:Int)).toNat (a0a y48)) L=some (kdN b i==1&&b0s L (frN b i:Int)&&b0s L (toN b i:Int)):=hq;refine(gP ⟨⟨by omega,by show(i:Int) < (lv.length:Int); omega⟩,(fun _=>by rw[hq]; rfl),trivial⟩).trans ?_;rw[hq,vS];show(if(lv.getD i false&&(kdN b i==1&&b0s L (frN b i:Int)&&b0s L (toN b i:Int)))=true then _ else _)=_;by_cases h:(lv.getD i false&&(kdN b i==1&&b0s L (frN b i:Int)&&b0s L (toN b i:Int)))=true
  ·rw[if_pos h,if_pos h];refine(gP ⟨⟨by simp only[List.length_singleton]; omega,by simp only[List.length_singleton]; omega⟩,trivial⟩).trans ?_;exact gP ⟨oo,trivial⟩
  ·rw[if_neg h,if_neg h];exact gP ⟨oo,trivial⟩
 ·have hs:s.length<=i:=hs;show(if(lv.getD i false&&(kdN b i==1&&b0s L (frN b i:Int)&&b0s L (toN b i:Int)))=true then s++[(i:Int)] else s).length<=i+1;split
  ·rw[List.length_append,List.length_singleton]; omega
  ·omega
 ·show some (fN _ _ [])=_;rw[b0v]
def nxL(b:Y34)(lv:List Bool):Int:=v0b (qB b lv) (lV b).length
theorem o0G(hb:a0e b=true){lv:List Bool}(hlv:lv.length=(lV b).length):(q0k b lv).length<=1000000:=by
 have hN:=g0j b hb;unfold q0k b0Y;rcases f0i b lv (a0k b) (Nat.le_refl _) with ⟨h1,_⟩ | ⟨v,t,_,_,h3⟩
 ·rw[h1]; exact Nat.zero_le _
 ·rw[h3];have:=m0Z b lv v;show(clV b lv v).length<=_;omega
def brR(b:Y34)(s:List Int×List Bool)(t:List Bool):Prop:=s.2=t/\t.length=(lV b).length/\s.1.Nodup/\(∀x,x∈s.1↔∃k,k < (lV b).length/\(!t.getD k false)=true/\x=(k:Int))/\s.1.length+c0k t<=(lV b).length/\∀k,k < (lV b).length->t.getD k false=false->kdN b k=1
theorem t0a(hw:wf y34 b)(hb:a0e b=true):∃(l:List Int) (t:List Bool),l.length<=6000/\u84 (a0o b)=some l/\u86 b=some l/\l=c0O (fun k=>!t.getD k false) (lV b).length/\t.length=(lV b).length/\lpB b t=false/\∀k,k < (lV b).length->t.getD k false=false->kdN b k=1:=by
 have hM:=a0Q hb;have hN:=g0j b hb;have hnil:s0Z (lV b).length []=true:=rfl;have ll:(e0h (lV b).length []).length=(lV b).length:=e0e _ _;have hm0:∀x:Int,x∈([]:List Int)↔∃k,k < (lV b).length/\(!(e0h (lV b).length []).getD k false)=true/\x=(k:Int):=fun x=>by
  constructor
  ·intro h; cases h
  ·rintro⟨k,h1,h2,_⟩;rw[o0u [] h1] at h2;cases h2
 obtain⟨s',t',⟨r1,r2,r3,r4,r5,r6⟩,hc,e1,e2⟩:=C0o (F:=A0R (a0o b,e0h (lV b).length [])) (J:=fun s=>q0v s.1) (G:=A0P (lV b) (a0k b:Int)) (K:=fun t=>q0u t) c0k (brR b) (lpB b) (fun s=>(s.1++[nxL b s.2],s.2.set (nxL b s.2).toNat false)) (fun t=>t.set (nxL b t).toNat false)
  (fun g s t hR=>by
    obtain⟨o,lv⟩:=s;obtain⟨h1,h2,h3,h4,h5,h6⟩:=hR;have h1:lv=t:=h1;subst h1;have h5:o.length+c0k lv<=(lV b).length:=h5;have hl:u63 (a0o b,lv)=some (lpB b lv):=by
     unfold u63;rw[r57 hb h2,vS,gP ⟨rfl,trivial⟩,lE];rfl
    show gd ((u63 (a0o b,lv)).isSome=true/\True) (if vl (u63 (a0o b,lv))=true then _ else _)=_;rw[hl,vS,gP ⟨rfl,trivial⟩];cases hc:lpB b lv with
    | false=>rfl
    | true =>
      obtain⟨q1,q2⟩:=f0O hb h2 hc;obtain⟨k,k1,k2,k3,k4,k5⟩:=j0P (qB b lv) _ q2;have hlp:u81 (a0o b,lv)=some (b0Y b lv):=r81 hb h2;refine(if_pos rfl).trans ?_;show gd ((u81 (a0o b,lv)).isSome=true/\_) _=_;rw[hlp,vS];refine(gP ⟨rfl,oo,q1,trivial⟩).trans ?_;rw[lE];have hch:d0Q (a0o b,lv) (q0k b lv)=some (c0O (qB b lv) (lV b).length):=u0B hb h2 (by have:=o0G hb h2; omega);have hch:d0Q (a0o b,lv) ((b0Y b lv).getD (Int.toNat (0:Int)) [])=some (c0O (qB b lv) (lV b).length):=hch;rw[hch,vS,gP ⟨rfl,trivial⟩,lE];have il:=(c0j (qB b lv) (lV b).length).1;refine(gP ⟨oo,oo,by omega,trivial⟩).trans ?_;rw[k5];have e3:Int.toNat (k:Int)=k:=rfl;refine(gP ⟨⟨by omega,by show(k:Int) < (lv.length:Int); omega⟩,by show k<lv.length; omega,trivial⟩).trans ?_;rw[lE];refine(gP ⟨⟨by show o.length+1<=_; omega,by show(o.length+1)*8<=_; omega⟩,trivial⟩).trans ?_;refine Eq.trans ?_ (if_pos rfl).symm;show g (o++[(k:Int)],lv.set (Int.toNat (k:Int)) false)=g (o++[nxL b lv],lv.set (nxL b lv).toNat false);unfold nxL;rw[k3])
  (fun g s t hR=>by
    obtain⟨_,h2,_⟩:=hR;have hlp:u82 (a0k b:Int) (lV b) t=some (b0Y b t):=r82 hb h2;show gd ((u82 (a0k b:Int) (lV b) t).isSome=true/\True) _=_;rw[hlp,vS,gP ⟨rfl,trivial⟩,lE];cases hc:lpB b t with
    | false =>
      rw[p0L hb h2 hc];rfl
    | true =>
      obtain⟨q1,q2⟩:=f0O hb h2 hc;obtain⟨k,k1,k2,k3,k4,k5⟩:=j0P (qB b t) _ q2;have hne:¬(((b0Y b t).length:Int)==0)=true:=by rw[beq_iff_eq]; omega
      refine(if_neg hne).trans ?_;have hfl:=o0G hb h2;refine(lF (n:=(lV b).length) (by omega) (fun i (s:Int)=>(s,(i:Int))) (fun i (s:Int)=>if qB b t i=true then(i:Int) else s) (fun _ _=>True) (J:=fun s=>q0t t g s) (F:=A0O t (lV b) (b0Y b t) g) (fun g' i s hi _=>?_) (fun _ _ _ _=>trivial) (fun g' s _=>aE) (-1) trivial).trans ?_
      ·have e3:((i:Int)).toNat=i:=rfl;obtain⟨f1,f2,_⟩:=h0C b hb hi;have ha:g0R ((b0Y b t).getD (Int.toNat (0:Int)) []) ((lV b).getD ((i:Int)).toNat (a0a y48)).1=some (b0s (q0k b t) (frN b i:Int)):=by
        rw[e3,f1]; exact E0o (q0k b t) _ (by omega)
       have hz:g0R ((b0Y b t).getD (Int.toNat (0:Int)) []) ((lV b).getD ((i:Int)).toNat (a0a y48)).2.1=some (b0s (q0k b t) (toN b i:Int)):=by
        rw[e3,f2]; exact E0o (q0k b t) _ (by omega)
       refine(if_pos (decide_eq_true (by omega))).trans ?_;rw[ha,hz,vS,vS];have x1:ix (i:Int) (lV b).length:=oo;have x2:((i:Int)).toNat < (lV b).length:=hi;have x3:ix (0:Int) (b0Y b t).length:=oo;refine(gP ⟨oo,by omega,(fun _=>x1),(fun _=>x2),(fun _=>x3),(fun _=>q1),(fun _=>x1),(fun _=>x2),(fun _=>rfl),(fun _=>x3),(fun _=>q1),(fun _=>x1),(fun _=>x2),(fun _=>rfl),trivial⟩).trans ?_;have eq:(t.getD ((i:Int)).toNat false&&((lV b).getD ((i:Int)).toNat (a0a y48)).2.2.1==(1:Int)&&b0s (q0k b t) (frN b i:Int)&&b0s (q0k b t) (toN b i:Int))=qB b t i:=by
        unfold qB kdN;rw[e3,Bool.and_assoc,Bool.and_assoc,Bool.and_assoc]
       rw[eq];have j4:∀x,t0D (i:Int) g' x=g' (x,((i+1:Nat):Int)):=fun x=>gP ⟨oo,trivial⟩;rw[j4,j4];by_cases h:qB b t i=true
       ·rw[if_pos h,if_pos h]
       ·rw[if_neg h,if_neg h]
      ·show q0t t g (nxL b t)=_;have e4:nxL b t=(k:Int):=k3;rw[q0t,e4];refine(gP ⟨oo,by show k<t.length; omega,trivial⟩).trans ?_;rfl)
  (fun s t hR hc=>by
    obtain⟨o,lv⟩:=s;obtain⟨h1,h2,h3,h4,h5,h6⟩:=hR;have h1:lv=t:=h1;subst h1;have h5:o.length+c0k lv<=(lV b).length:=h5;have h3:o.Nodup:=h3;have h4:∀x,x∈o↔∃k,k < (lV b).length/\(!lv.getD k false)=true/\x=(k:Int):=h4;obtain⟨_,q2⟩:=f0O hb h2 hc;obtain⟨k,k1,k2,k3,_,_⟩:=j0P (qB b lv) _ q2;have e4:nxL b lv=(k:Int):=k3;have hk:lv.getD k false=true:=by
     unfold qB at k2;rw[ba] at k2;exact k2.1
    have hg:∀w,(lv.set k false).getD w false=if w=k then false else lv.getD w false:=fun w=>b0z false (by omega)
    have hlt:c0k (lv.set k false)<c0k lv:=by
     refine m0W _ _ (by rw[List.length_set]) (fun v hv=>?_) ⟨k,by rw[hg,if_pos rfl],hk⟩;rw[hg] at hv;split at hv
     ·cases hv
     ·exact hv
    show brR b (o++[nxL b lv],lv.set (nxL b lv).toNat false) (lv.set (nxL b lv).toNat false)/\c0k (lv.set (nxL b lv).toNat false)<c0k lv;rw[e4,Int.toNat_natCast];refine⟨⟨rfl,by rw[List.length_set]; exact h2,?_,fun x=>?_,?_,fun w hw' hz=>?_⟩,hlt⟩
    ·show(o++[(k:Int)]).Nodup;rw[List.nodup_append];refine⟨h3,by simp,fun a ha c hc' e=>?_⟩;rw[List.mem_singleton] at hc';obtain⟨k',_,z2,z3⟩:=(h4 a).1 ha;have:k'=k:=by omega
     rw[this,hk] at z2;cases z2
    ·show x∈o++[(k:Int)]↔_;rw[List.mem_append,List.mem_singleton,h4];constructor
     ·rintro(⟨k',z1,z2,z3⟩ | e)
      ·refine⟨k',z1,?_,z3⟩;rw[hg];split
       ·rfl
       ·exact z2
      ·exact⟨k,k1,by rw[hg,if_pos rfl]; rfl,e⟩
     ·rintro⟨k',z1,z2,z3⟩;by_cases e:k'=k
      ·right; rw[z3,e]
      ·left;rw[hg,if_neg e] at z2;exact⟨k',z1,z2,z3⟩
    ·show(o++[(k:Int)]).length+c0k (lv.set k false)<=_;rw[List.length_append,List.length_singleton];omega
    ·rw[hg] at hz;split at hz
     ·rename_i e;rw[e];unfold qB at k2;simp only[ba,beq_iff_eq] at k2;exact k2.2.1.1
     ·exact h6 w hw' hz)
  ([],e0h (lV b).length []) (e0h (lV b).length []) ⟨rfl,ll,List.nodup_nil,hm0,by
    have:=k0b (e0h (lV b).length []);show 0+_<=_;omega,fun k hk hz=>by rw[o0u [] hk] at hz; cases hz⟩ (by
    have:=k0b (e0h (lV b).length []);omega)
 have hsort:=u0f r3 r4;refine⟨c0O (fun k=>!t'.getD k false) (lV b).length,t',by have:=(c0j (fun k=>!t'.getD k false) (lV b).length).1; omega,?_,?_,rfl,r2,hc,r6⟩
 ·unfold u84;rw[H0u hb hnil (Nat.zero_le _),vS,gP ⟨rfl,trivial⟩,lE];refine e1.trans ?_;show q0v s'.1=_;have hsl:A0u s'.1=some (c0O (fun k=>!t'.getD k false) (lV b).length):=by
   unfold A0u;rw[if_pos (by omega),hsort]
  rw[q0v,hsl,vS,gP ⟨rfl,trivial⟩,lE]
 ·unfold u86;rw[r59 b hw hb,vS,gP ⟨rfl,trivial⟩,lE,r62 _ _ (by omega) (Nat.zero_le _),vS,gP ⟨rfl,trivial⟩,lE,r61 b hw hb,vS,gP ⟨rfl,trivial⟩,lE];refine e2.trans ?_;show q0u t'=_;rw[q0u,<- b0v];refine lF (n:=(lV b).length) (by omega) (fun(i:Nat) (s:List Int)=>((i:Int),s)) (fun i s=>if(!t'.getD i false)=true then s++[(i:Int)] else s) (fun i s=>s.length<=i) (J:=fun s=>some s) (F:=A0N t') (fun g i s hi hs=>?_) (fun i s hi hs=>?_) (fun g s _=>?_) [] (Nat.le_refl _)
  ·have hs:s.length<=i:=hs;have e3:((i:Int)).toNat=i:=rfl;refine(if_pos (decide_eq_true (by omega))).trans ?_;refine(gP ⟨oo,by omega,trivial⟩).trans ?_;rw[e3];by_cases h:(!t'.getD i false)=true
   ·rw[if_pos h,if_pos h];refine(gP ⟨⟨by show s.length+1<=_; omega,by show(s.length+1)*8<=_; omega⟩,trivial⟩).trans ?_;exact gP ⟨oo,trivial⟩
   ·rw[if_neg h,if_neg h];exact gP ⟨oo,trivial⟩
  ·have hs:s.length<=i:=hs;split
   ·rw[List.length_append,List.length_singleton]; omega
   ·omega
  ·exact if_neg (by rw[dq]; omega)
theorem C0M(hw:wf y34 b)(hb:a0e b=true):∃l:List Int,l.length<=6000/\(∀x∈l,0<=x/\x < ((lV b).length:Int))/\u84 (a0o b)=some l/\u86 b=some l:=by
 obtain⟨l,t,h1,h2,h3,h4,_⟩:=t0a hw hb;refine⟨l,h1,fun x hx=>?_,h2,h3⟩;rw[h4] at hx;obtain⟨k,h1,_,rfl⟩:=g0L.1 hx;omega
end
theorem s0v{l:List Int}{j:Nat}(hj:j<l.length):l.getD j 0=l[j]:=by rw[gq,List.getElem?_eq_getElem hj]; rfl
theorem C0e{l:List Int}(h:l.Pairwise (·<·)):v0w l=true:=by
 unfold v0w;rw[Bool.not_eq_true',<- Bool.not_eq_true,List.any_eq_true];rintro⟨i,hi,hc⟩;rw[List.mem_range] at hi;rw[ba] at hc;have h0:=of_decide_eq_true hc.1;have h1:=of_decide_eq_true hc.2;have:=List.pairwise_iff_getElem.1 h (i-1) i (by omega) hi (by omega);rw[s0v hi,s0v (show i-1<l.length by omega)] at h1;omega
section
variable {b:Y34}
end
theorem C0N(b:Y34)(hw:wf y34 b)(hm:cnt y34 b<=1048576):(a0e b=false/\u39 b=some ([],1)/\u38 b=some ([],1))∨(a0e b=true/\∃l:List Int,l.length<=6000/\u39 b=some (l,0)/\u38 b=some (l,0)/\s0Z (lV b).length l=true/\E0L b l=false/\∀x∈l,0<=x/\x.toNat < (lV b).length/\kdN b x.toNat=1):=by
 unfold u39 u38;rw[r65 b hw hm,r23 b hw hm,vS];cases hb:a0e b with
 | false=>exact .inl ⟨rfl,(gP ⟨rfl,trivial⟩).trans rfl,(gP ⟨rfl,trivial⟩).trans rfl⟩
 | true =>
   obtain⟨l,t,h1,h2,h3,h4,h5,h6,h7⟩:=t0a hw hb;have hmem:∀x∈l,∃k,k < (lV b).length/\(!t.getD k false)=true/\x=(k:Int):=fun x hx=>by
    rw[h4] at hx;exact g0L.1 hx
   have hlv:e0h (lV b).length l=t:=d0H false (by rw[o0t,h5]) fun k hk=>by
    rw[o0t] at hk;rw[z0p _ hk];cases hc:b0s l (k:Int) with
    | true =>
      obtain⟨k',_,g2,g3⟩:=hmem _ (m0N.1 hc);have:k'=k:=by omega
      subst this;simpa using g2.symm
    | false =>
      cases ht:t.getD k false with
      | true=>rfl
      | false =>
        have:(k:Int)∈l:=by
         rw[h4];exact g0L.2 ⟨k,hk,by rw[ht]; rfl,rfl⟩
        rw[m0N.2 this] at hc;cases hc
   refine .inr ⟨rfl,l,h1,?_,?_,?_,?_,fun x hx=>?_⟩
   ·refine(gP ⟨rfl,trivial⟩).trans ((if_neg (by simp)).trans ?_);rw[h3,vS,gP ⟨rfl,trivial⟩,lE]
   ·refine(gP ⟨rfl,trivial⟩).trans ((if_neg (by simp)).trans ?_);rw[r66 b hw hb,vS,h2,vS,gP ⟨rfl,rfl,trivial⟩,lE]
   ·unfold s0Z;rw[ba,List.all_eq_true];refine⟨fun x hx=>?_,C0e ?_⟩
    ·obtain⟨k,g1,_,rfl⟩:=hmem x hx;exact a0s.2 oo
    ·rw[h4]; exact o0C _ _
   ·show lpB b (e0h (lV b).length l)=false;rw[hlv]; exact h6
   ·obtain⟨k,g1,g2,rfl⟩:=hmem x hx;exact⟨by omega,g1,h7 k g1 (by simpa using g2)⟩
def m0F(l:List a0y)(d:Y31)(p:a0p):ByteArray:=if p.1<0 then(a0I d p.2.1.toNat).1 else(a0c d p.1.toNat).1++ByteArray.mk #[47]++((l.getD (a0c d p.1.toNat).2.1.toNat (a0a y163)).2.2.1.getD p.2.1.toNat (a0a y217)).1
theorem m0D{s:ByteArray}(h:nmB s=true):s.size<=8:=by
 unfold nmB at h;simp only[ba,dq] at h;omega
theorem u0E{l:List a0y}(hl:h0o l=true){i j:Nat}(hi:i<l.length)(hj:j < (c0A l i).2.2.1.length):(a0l (c0A l i) j).1.size<=8:=by
 have h:c0z a0J _ _ _ _ _ _ _ _ _=true:=f0j hl hi;unfold c0z c0t at h;simp only[ba] at h;exact m0D (c0p.1 h.1.1.1.1.2.1.2 j hj).1
theorem s0I{l:List a0y}{d:Y31}(h:b0D l d=true):(∀i,i<d.1.length->(a0c d i).1.size<=8)/\∀i,i<d.2.2.length->(a0I d i).1.size<=8:=by
 have h:b0E _ _ _ _ _ _ _ _ _=true:=h;unfold b0E at h;simp only[ba] at h;obtain⟨⟨⟨⟨⟨⟨_,c1⟩,_⟩,c2⟩,_⟩,_⟩,_⟩:=h;exact⟨fun i hi=>m0D (c0p.1 c1 i hi).1,fun i hi=>m0D (c0p.1 c2 i hi).1⟩
theorem F0t(l:List a0y)(d:Y31)(h:b0D l d=true){p:a0p}(hp:p∈a0Z d):w0W d l p=some (m0F l d p)/\(m0F l d p).size<=20:=by
 have df:=f0r h;obtain⟨n1,n2⟩:=s0I h;have e47:(ByteArray.mk #[47]).size=1:=rfl;unfold w0W m0F;rcases j0y df hp with ⟨h1,h2,h3⟩ | ⟨h1,h2,h3,h4,h5,h6⟩
 ·have hs:=n2 _ h3;have hn:p.1<0:=by omega
  rw[if_pos (decide_eq_true hn),if_pos hn,gP ⟨⟨h2,by omega⟩,trivial⟩];exact⟨rfl,by omega⟩
 ·have hs:=n1 _ h2;have hq:=u0E df.lib h4 h6;have hn:¬p.1<0:=by omega
  have hn':¬decide (p.1<0)=true:=by simpa using hn
  have hq:((l.getD (a0c d p.1.toNat).2.1.toNat (a0a y163)).2.2.1.getD p.2.1.toNat (a0a y217)).1.size<=8:=hq;rw[if_neg hn',if_neg hn,gP ⟨⟨h1,by omega⟩,trivial⟩,lE];show gd ((a0c d p.1.toNat).1.size+_<=_/\ix (a0c d p.1.toNat).2.1 _/\ix p.2.1 (l.getD (a0c d p.1.toNat).2.1.toNat (a0a y163)).2.2.1.length/\_) _=_/\_;have ha:((a0c d p.1.toNat).1++ByteArray.mk #[47]).size=(a0c d p.1.toNat).1.size+1:=by rw[ByteArray.size_append]; rfl
  have g:(a0c d p.1.toNat).1.size+(ByteArray.mk #[47]).size<=9223372036854775807/\ix (a0c d p.1.toNat).2.1 l.length/\ix p.2.1 (l.getD (a0c d p.1.toNat).2.1.toNat (a0a y163)).2.2.1.length/\((a0c d p.1.toNat).1++ByteArray.mk #[47]).size+((l.getD (a0c d p.1.toNat).2.1.toNat (a0a y163)).2.2.1.getD p.2.1.toNat (a0a y217)).1.size<=9223372036854775807/\True :=
   ⟨by omega,⟨h3,by omega⟩,⟨h5,by omega⟩,by omega,trivial⟩
  refine⟨gP g,?_⟩;rw[ByteArray.size_append];omega
abbrev rfS:List ByteArray:=[ByteArray.mk #[58,114],ByteArray.mk #[58,102]]
def r0j(b:Y34)(a:Int):ByteArray:=m0F b.1 b.2.1 (a0z b.2.1 (a.tdiv 2).toNat)++rfS.getD (a.tmod 2).toNat (a0a .str)
theorem E0V{a:Int}{n:Nat}(h:inB a 0 (2*(n:Int)-1)=true):0<=a.tdiv 2/\a.tdiv 2 < (n:Int)/\0<=a.tmod 2/\a.tmod 2<2:=by
 rw[a0s] at h;rw[Int.tdiv_eq_ediv_of_nonneg h.1,Int.tmod_eq_emod_of_nonneg h.1];omega
theorem r0C(r:Int):(rfS.getD r.toNat (a0a .str)).size<=2:=by
 cases r.toNat with
 | zero=>decide
 | succ k=>cases k with
   | zero=>decide
   | succ k=>show(a0a Ty.str).size<=2; decide
theorem r85(b:Y34)(hb:a0e b=true)(a:Int)(h:inB a 0 (2*((a0Z b.2.1).length:Int)-1)=true):u85 (a0o b) a=some (r0j b a):=by
 obtain⟨h1,h2,h3,h4⟩:=E0V h;have hd:=(a0C hb).1;have hp:a0z b.2.1 (a.tdiv 2).toNat∈a0Z b.2.1:=f0I (by omega);obtain⟨e1,e3⟩:=F0t b.1 b.2.1 hd hp;have e1':w0W (a0o b).1.2.1 (a0o b).1.1 ((a0o b).2.1.getD (a.tdiv 2).toNat (a0a y105))=some (m0F b.1 b.2.1 (a0z b.2.1 (a.tdiv 2).toNat)):=e1;have hz:=r0C (a.tmod 2);unfold u85;rw[e1',vS,gP ⟨by decide,⟨h1,h2⟩,rfl,by decide,⟨h3,h4⟩,by show(a.tmod 2).toNat<2; omega,by show _+(rfS.getD (a.tmod 2).toNat (a0a .str)).size<=_; omega,trivial⟩,lE];rfl
abbrev brS:ByteArray:=ByteArray.mk #[98,114,101,97,107,32]
abbrev spS:ByteArray:=ByteArray.mk #[32]
abbrev nlS:ByteArray:=ByteArray.mk #[10]
def l0r(b:Y34)(k:Nat):ByteArray:=brS++r0j b (frN b k:Int)++spS++r0j b (toN b k:Int)++nlS
def u0y(b:Y34)(l:List Int)(i:Nat)(s:ByteArray):ByteArray:=s++l0r b (l.getD i 0).toNat
theorem e0V{b:Y34}(hb:a0e b=true){a:Nat}(h:a<a0k b):(r0j b (a:Int)).size<=22/\inB (a:Int) 0 (2*((a0Z b.2.1).length:Int)-1)=true:=by
 have hi:inB (a:Int) 0 (2*((a0Z b.2.1).length:Int)-1)=true:=by
  rw[a0s];unfold a0k at h;omega
 obtain⟨h1,h2,_,_⟩:=E0V hi;have e3:=(F0t b.1 b.2.1 (a0C hb).1 (f0I (d:=b.2.1) (i:=((a:Int).tdiv 2).toNat) (by omega))).2;have hz:=r0C ((a:Int).tmod 2);refine⟨?_,hi⟩;unfold r0j;rw[ByteArray.size_append];omega
theorem l0q{b:Y34}(hb:a0e b=true){k:Nat}(h:k < (lV b).length):(l0r b k).size<=60:=by
 obtain⟨_,_,f3,f4⟩:=h0C b hb h;have h1:=(e0V hb f3).1;have h2:=(e0V hb f4).1;have e1:brS.size=6:=rfl;have e2:spS.size=1:=rfl;have e3:nlS.size=1:=rfl;unfold l0r;rw[ByteArray.size_append,ByteArray.size_append,ByteArray.size_append,ByteArray.size_append];omega
theorem u0x(b:Y34)(hw:wf y34 b)(hm:cnt y34 b<=1048576):(a0e b=false/\u37 b=some (ByteArray.mk #[],1))∨(a0e b=true/\∃l:List Int,l.length<=6000/\(∀x∈l,0<=x/\x < ((lV b).length:Int))/\u84 (a0o b)=some l/\u37 b=some (fN (u0y b l) l.length (ByteArray.mk #[]),0)):=by
 have e1:brS.size=6:=rfl;have e2:spS.size=1:=rfl;have e3:nlS.size=1:=rfl;unfold u37;rw[r65 b hw hm,vS];cases hb:a0e b with
 | false =>
   exact .inl ⟨rfl,(gP ⟨rfl,trivial⟩).trans rfl⟩
 | true =>
   have hM:=a0Q hb;obtain⟨l,h1,hin,h2,h3⟩:=C0M hw hb;have hk:∀i,i<l.length->∃k:Nat,l.getD i 0=(k:Int)/\k < (lV b).length:=fun i hi=>by
    have:=hin _ (b0d (d:=0) hi);exact⟨(l.getD i 0).toNat,by omega,by omega⟩
   have step:∀i s,i<l.length->s.size<=60*i->(u0y b l i s).size<=60*(i+1):=fun i s hi hs=>by
    obtain⟨k,ek,hkM⟩:=hk i hi;have:=l0q hb hkM;unfold u0y;rw[ek,Int.toNat_natCast,ByteArray.size_append];omega
   refine .inr ⟨rfl,l,h1,hin,h2,(gP ⟨rfl,trivial⟩).trans ?_⟩
   ·refine(if_neg (by simp)).trans ?_;rw[r66 b hw hb,vS,gP ⟨rfl,trivial⟩,lE,h2,vS,gP ⟨rfl,trivial⟩,lE];refine lF (n:=l.length) (by omega) (fun(i:Nat) (s:ByteArray)=>(s,(i:Int))) (u0y b l) (fun i s=>s.size<=60*i) (J:=fun s=>some (s,(0:Int))) (F:=B0A (a0o b) l) (fun g i s hi hs=>?_) (fun i s hi hs=>step i s hi hs) (fun g s _=>aE) (ByteArray.mk #[]) (Nat.le_refl _);have hs:s.size<=60*i:=hs;obtain⟨k,ek,hkM⟩:=hk i hi;obtain⟨f1,f2,f3,f4⟩:=h0C b hb hkM;obtain⟨a1,a2⟩:=e0V hb f3;obtain⟨c1,c2⟩:=e0V hb f4;have t1:u85 (a0o b) (frN b k:Int)=some (r0j b (frN b k:Int)):=r85 b hb _ a2;have t2:u85 (a0o b) (toN b k:Int)=some (r0j b (toN b k:Int)):=r85 b hb _ c2;have ei:((i:Int)).toNat=i:=rfl;have e4:Int.toNat (k:Int)=k:=rfl;have ix1:ix (k:Int) (lV b).length:=oo;have f1:((a0o b).2.2.1.getD k (a0a y48)).1=(frN b k:Int):=f1;have f2:((a0o b).2.2.1.getD k (a0a y48)).2.1=(toN b k:Int):=f2;refine(if_pos (decide_eq_true (by omega))).trans ?_;refine(gP ⟨oo,by omega,trivial⟩).trans ?_;rw[ei,ek,e4,f1,f2,t1,t2,vS,vS];generalize hA:r0j b (frN b k:Int)=A at a1;generalize hC:r0j b (toN b k:Int)=C at c1;have sz2:(brS++A).size=6+A.size:=by rw[ByteArray.size_append,e1]
    have sz3:(brS++A++spS).size=6+A.size+1:=by rw[ByteArray.size_append,sz2,e2]
    have sz4:(brS++A++spS++C).size=6+A.size+1+C.size:=by rw[ByteArray.size_append,sz3]
    have sz5:(brS++A++spS++C++nlS).size=6+A.size+1+C.size+1:=by rw[ByteArray.size_append,sz4,e3]
    refine(gP ⟨ix1,rfl,by show brS.size+A.size<=_; omega,by show(brS++A).size+spS.size<=_; omega,ix1,rfl,by show(brS++A++spS).size+C.size<=_; omega,by show(brS++A++spS++C).size+nlS.size<=_; omega,by show s.size+(brS++A++spS++C++nlS).size<=_; omega,trivial⟩).trans ?_;rw[lE];refine(gP ⟨oo,trivial⟩).trans ?_;unfold u0y l0r;rw[ek,e4,hA,hC];rfl
def nlC(s:ByteArray):Nat:=s.data.toList.countP (·==10)
theorem d0G(a c:ByteArray):nlC (a++c)=nlC a+nlC c:=by
 unfold nlC;rw[ByteArray.data_append,Array.toList_append,List.countP_append]
theorem u0S{s:ByteArray}(h:∀k,k<s.size->a0r s k≠10):nlC s=0:=by
 unfold nlC;rw[List.countP_eq_zero];intro x hx;obtain⟨k,hk,e⟩:=List.getElem_of_mem hx;have h1:=h k hk;unfold a0r at h1;rw[gq,List.getElem?_eq_getElem hk,e] at h1;intro e2;rw[eq_of_beq e2] at h1;exact h1 rfl
theorem j0J{s:ByteArray}(h:nmB s=true):nlC s=0:=by
 refine u0S fun k hk e=>?_;have hf:chB (a0r s k) k=false:=by rw[e]; simp[chB,p0K,z0F]
 rw[r0U s k hk hf] at h;cases h
def nlF(s:ByteArray)(i:Nat)(n:Int):Int:=if(a0r s i==10)=true then n+1 else n
theorem o0q(s:ByteArray):∀m,m<=s.size->fN (nlF s) m 0=((s.data.toList.take m).countP (·==10):Nat)
 | 0,_=>rfl
 | m+1,h=>by
   have ih:=o0q s m (by omega);have hm:m<s.data.toList.length:=h;show nlF s m (fN (nlF s) m 0)=_;rw[ih,List.take_add_one,List.getElem?_eq_getElem hm,Option.toList_some,List.countP_append];unfold nlF a0r;rw[gq,List.getElem?_eq_getElem hm];show(if(((s.data.toList[m].toNat:Int))==10)=true then _ else _)=_;rw[List.countP_cons,List.countP_nil];by_cases c:s.data.toList[m]=10
   ·rw[c];simp
   ·have c2:¬((s.data.toList[m].toNat:Int)==10)=true:=fun e=>c (by
     have e:=eq_of_beq e;apply UInt8.toNat_inj.1;show _=10;omega)
    have c3:(s.data.toList[m]==10)=false:=by simpa using c
    rw[if_neg c2,c3];simp
theorem z0e(s:ByteArray):fN (nlF s) s.size 0=(nlC s:Nat):=by
 rw[o0q s s.size (Nat.le_refl _)];unfold nlC;rw[List.take_of_length_le (show s.data.toList.length<=s.size from Nat.le_refl _)]
section
variable {b:Y34}
theorem C0f{l:List a0y}(hl:h0o l=true){i j:Nat}(hi:i<l.length)(hj:j < (c0A l i).2.2.1.length):nlC (a0l (c0A l i) j).1=0:=by
 have h:c0z a0J _ _ _ _ _ _ _ _ _=true:=f0j hl hi;unfold c0z c0t at h;simp only[ba] at h;exact j0J (c0p.1 h.1.1.1.1.2.1.2 j hj).1
theorem C0C{l:List a0y}{d:Y31}(h:b0D l d=true):(∀i,i<d.1.length->nlC (a0c d i).1=0)/\∀i,i<d.2.2.length->nlC (a0I d i).1=0:=by
 have h:b0E _ _ _ _ _ _ _ _ _=true:=h;unfold b0E at h;simp only[ba] at h;obtain⟨⟨⟨⟨⟨⟨_,c1⟩,_⟩,c2⟩,_⟩,_⟩,_⟩:=h;exact⟨fun i hi=>j0J (c0p.1 c1 i hi).1,fun i hi=>j0J (c0p.1 c2 i hi).1⟩
theorem z0g{l:List a0y}{d:Y31}(h:b0D l d=true){p:a0p}(hp:p∈a0Z d):nlC (m0F l d p)=0:=by
 have df:=f0r h;obtain⟨n1,n2⟩:=C0C h;unfold m0F;rcases j0y df hp with ⟨h1,h2,h3⟩ | ⟨h1,h2,h3,h4,h5,h6⟩
 ·rw[if_pos (by omega)];exact n2 _ h3
 ·have hq:=C0f df.lib h4 h6;have hq:nlC ((l.getD (a0c d p.1.toNat).2.1.toNat (a0a y163)).2.2.1.getD p.2.1.toNat (a0a y217)).1=0:=hq;rw[if_neg (by omega),d0G,d0G,n1 _ h2,hq];rfl
theorem x0K(hb:a0e b=true){a:Nat}(h:a<a0k b):nlC (r0j b (a:Int))=0:=by
 obtain⟨_,hi⟩:=e0V hb h;obtain⟨h1,h2,_,h4⟩:=E0V hi;have e3:=z0g (a0C hb).1 (f0I (d:=b.2.1) (i:=((a:Int).tdiv 2).toNat) (by omega));have hz:nlC (rfS.getD ((a:Int).tmod 2).toNat (a0a .str))=0:=by
  generalize ((a:Int).tmod 2).toNat=r
  match r with
  | 0=>rfl
  | 1=>rfl
  | r+2=>rfl
 unfold r0j;rw[d0G,e3,hz]
theorem z0q(hb:a0e b=true){k:Nat}(h:k < (lV b).length):nlC (l0r b k)=1:=by
 obtain⟨_,_,f3,f4⟩:=h0C b hb h;have h1:=x0K hb f3;have h2:=x0K hb f4;unfold l0r;rw[d0G,d0G,d0G,d0G,h1,h2];rfl
theorem x0P(hb:a0e b=true){l:List Int}(hl:∀x∈l,0<=x/\x < ((lV b).length:Int)):∀m,m<=l.length->nlC (fN (u0y b l) m (ByteArray.mk #[]))=m/\(fN (u0y b l) m (ByteArray.mk #[])).size<=60*m
 | 0,_=>⟨rfl,Nat.le_refl _⟩
 | m+1,h=>by
   obtain⟨i1,i2⟩:=x0P hb hl m (by omega);have hx:=hl _ (b0d (d:=0) (show m<l.length by omega));have hk:(l.getD m 0).toNat < (lV b).length:=by omega
   show nlC (fN (u0y b l) m (ByteArray.mk #[])++l0r b (l.getD m 0).toNat)=m+1/\(fN (u0y b l) m (ByteArray.mk #[])++l0r b (l.getD m 0).toNat).size<=_;have:=l0q hb hk;rw[d0G,i1,z0q hb hk,ByteArray.size_append];omega
end
theorem C0w(b:Y34)(hw:wf y34 b)(hm:cnt y34 b<=1048576)(hb:a0e b=true){l:List Int}(h:u84 (a0o b)=some l):u38 b=some (l,0):=by
 unfold u38;rw[r65 b hw hm,vS,hb];refine(gP ⟨rfl,trivial⟩).trans ((if_neg (by simp)).trans ?_);rw[r66 b hw hb,vS,h,vS,gP ⟨rfl,rfl,trivial⟩,lE]
theorem n0Y[Alw]{b:Y34}{s:ByteArray}{l:List Int}{c d:Int}(hs:s.size<=360000)(h1:u39 b=some (l,d))(h2:nlC s=l.length):lp (E0g (s,c) (l,d) b) (0,0)=some true:=by
 refine(lF (n:=s.size) (by omega) (fun i (n:Int)=>(n,(i:Int))) (nlF s) (fun i n=>0<=n/\n<=(i:Int)) (J:=fun n=>D0q (l,d) b n) (F:=E0g (s,c) (l,d) b) (fun g i n hi hn=>?_) (fun i n hi hn=>?_) (fun g n _=>?_) 0 oo).trans ?_
 ·obtain⟨n0,n1⟩:=hn;have e3:((i:Int)).toNat=i:=rfl;refine(if_pos (decide_eq_true (by show(i:Int) < (s.size:Int); omega))).trans ?_;refine(gP ⟨⟨by omega,by show(i:Int) < (s.size:Int); omega⟩,trivial⟩).trans ?_;rw[e3];unfold nlF D0p;by_cases h:(a0r s i==10)=true
  ·rw[if_pos h,if_pos h];refine(gP ⟨oo,trivial⟩).trans ?_;exact gP ⟨oo,trivial⟩
  ·rw[if_neg h,if_neg h];exact gP ⟨oo,trivial⟩
 ·obtain⟨n0,n1⟩:=hn;unfold nlF;split <;> omega
 ·exact if_neg (by rw[dq]; show ¬(s.size:Int) < (s.size:Int); omega)
 ·rw[z0e,h2];unfold D0q;rw[h1,vS];refine(gP ⟨rfl,trivial⟩).trans ?_;simp[lE]
theorem lw7[Alw](c:List Int)(hw0:wf (.sl (.int .u8)) c):u7 c=some true:=by
 have key2:∀e:Option Bool,(∃r,e=some r/\r=true)->e=some true:=by rintro e ⟨r,rfl,rfl⟩; rfl
 refine key2 _ ?_;unfold u7;refine a0b ⟨rfl,trivial⟩ ?_;split
 ·exact⟨_,rfl,rfl⟩
 ·refine a0b ⟨trivial,trivial⟩ ⟨true,?_,rfl⟩;refine Alw.alp_of ([],([],[],[]),[]) ⟨by decide,⟨k0l,k0l,k0l,k0l,k0l,trivial⟩,trivial⟩ fun b hv=>?_;obtain⟨t1,hw,-⟩:=hv;have hwb:wf y34 b:=⟨hw.1,⟨hw.2.1,hw.2.2.1,hw.2.2.2.1⟩,hw.2.2.2.2.1⟩;have hm:cnt y34 b<=1048576:=by
   have:cnt y34 b<=20000:=t1;omega
  refine(gP trivial).trans (key2 _ ?_);rcases u0x b hwb hm with ⟨hb,e0⟩ | ⟨hb,l,hl,hin,hbk,e0⟩
  ·rcases C0N b hwb hm with ⟨_,e1,e2⟩ | ⟨hb',_⟩
   ·simp only[e0,e1,e2,vS,Option.isSome_some];refine a0b ⟨trivial,trivial⟩ (b0c (a0b ⟨trivial,trivial⟩ (b0c (a0b ⟨trivial,trivial⟩ (b0c ?_)))));rw[if_neg (by simp)];exact⟨true,n0Y (by decide) e1 rfl,rfl⟩
   ·rw[hb] at hb'; cases hb'
  ·rcases C0N b hwb hm with ⟨hb',_⟩ | ⟨_,l',hl',e1,e2,_⟩
   ·rw[hb] at hb'; cases hb'
   ·have e3:=C0w b hwb hm hb hbk;rw[e2] at e3;cases e3;obtain⟨n1,n2⟩:=x0P hb hin l.length (Nat.le_refl _);simp only[e0,e1,e2,vS,Option.isSome_some];refine a0b ⟨trivial,trivial⟩ (b0c (a0b ⟨trivial,trivial⟩ (b0c (a0b ⟨trivial,trivial⟩ (b0c ?_)))));rw[if_neg (by simp)];exact⟨true,n0Y (by omega) e1 n1,rfl⟩
end Go.Proofs.YtphnknndgfgepaaGreatDoor
end
