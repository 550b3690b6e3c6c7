/- The links that are broken: both ways find the same. -/
import Derived.Test.YtphnknndgfgepaaGreatDoorWH
import Derived.Test.YtphnknndgfgepaaGreatDoorWG
import Derived.Test.YtphnknndgfgepaaGreatDoorF78d
section
namespace Go.Proofs.YtphnknndgfgepaaGreatDoor
open Go Go.Proofs Go.Proofs.Sv Go.Proofs.Xv Go.Proofs.Xl Go.Proofs.Xd
theorem C0u{σ τ ρ π:Type}{F:(σ->Option ρ)->σ->Option ρ}{J:σ->Option ρ}{G:(τ->Option π)->τ->Option π}{K:τ->Option π}(μ:τ->Nat)(R:σ->τ->Prop)(c:τ->Bool)(nx:σ->σ)(ny:τ->τ)
  (hF:∀g s t,R s t->F g s=if c t=true then g (nx s) else J s) (hG:∀g s t,R s t->G g t=if c t=true then g (ny t) else K t) (hI:∀s t,R s t->c t=true->R (nx s) (ny t)/\μ (ny t)<μ t) (s:σ) (t:τ) (hs:R s t) (hm:μ t<=9223372036854775806):∃s' t',R s' t'/\c t'=false/\lp F s=J s'/\lp G t=K t':=by
 have key:∀(n:Nat) (s:σ) (t:τ),μ t<=n->R s t->∃s' t',R s' t'/\c t'=false/\(∀k,itF F (k+(n+1)) s=J s')/\∀k,itF G (k+(n+1)) t=K t':=by
  intro n
  induction n with
  | zero =>
    intro s t hn hs;cases hc:c t with
    | true=>have:=(hI s t hs hc).2; omega
    | false=>exact⟨s,t,hs,hc,fun k=>by show F (itF F k) s=_; rw[hF _ _ _ hs,hc]; rfl,fun k=>by show G (itF G k) t=_; rw[hG _ _ _ hs,hc]; rfl⟩
  | succ n ih =>
    intro s t hn hs;cases hc:c t with
    | true =>
      obtain⟨h1,h2⟩:=hI s t hs hc;obtain⟨s',t',h3,h4,h5,h6⟩:=ih (nx s) (ny t) (by omega) h1;refine⟨s',t',h3,h4,fun k=>?_,fun k=>?_⟩
      ·show F (itF F (k+(n+1))) s=_;rw[hF _ _ _ hs,hc,if_pos rfl];exact h5 k
      ·show G (itF G (k+(n+1))) t=_;rw[hG _ _ _ hs,hc,if_pos rfl];exact h6 k
    | false=>exact⟨s,t,hs,hc,fun k=>by show F (itF F (k+(n+1))) s=_; rw[hF _ _ _ hs,hc]; rfl,fun k=>by show G (itF G (k+(n+1))) t=_; rw[hG _ _ _ hs,hc]; rfl⟩
 obtain⟨s',t',h1,h2,h3,h4⟩:=key (μ t) s t (Nat.le_refl _) hs;exact⟨s',t',h1,h2,z0r (μ t+1) (by omega) h3,z0r (μ t+1) (by omega) h4⟩
theorem o0C(p:Nat->Bool)(M:Nat):(c0O p M).Pairwise fun x y=>x<y:=by
 unfold c0O;rw[List.pairwise_map];refine(List.pairwise_lt_range.filter p).imp ?_;intro a c h;omega
theorem j0V{p:Nat->Bool}{M:Nat}{x:Int}:x∈c0O p M↔∃k,k<M/\p k=true/\x=(k:Int):=by
 unfold c0O;rw[List.mem_map];constructor
 ·rintro⟨k,h,e⟩;rw[List.mem_filter,List.mem_range] at h;exact⟨k,h.1,h.2,e.symm⟩
 ·rintro⟨k,h1,h2,e⟩;exact⟨k,List.mem_filter.2 ⟨List.mem_range.2 h1,h2⟩,e.symm⟩
theorem u0g{l:List Int}{p:Nat->Bool}{M:Nat}(hn:l.Nodup)(hm:∀x,x∈l↔∃k,k<M/\p k=true/\x=(k:Int)):(l.mergeSort fun x y=>decide (x<=y))=c0O p M:=by
 have hs:=o0C p M;have hn2:(c0O p M).Nodup:=hs.imp fun h=>by omega
 have hp:List.Perm l (c0O p M):=(List.perm_ext_iff_of_nodup hn hn2).2 fun x=>by rw[hm,j0V]
 refine List.Perm.eq_of_pairwise (le:=fun x y=>x<=y) (fun a c _ _ h1 h2=>by omega) ?_ (hs.imp fun h=>by omega) ((List.mergeSort_perm l _).trans hp);have:=List.pairwise_mergeSort (le:=fun x y:Int=>decide (x<=y)) (fun a b c h1 h2=>by rw[dq] at *; omega) (fun a b=>by rw[Bool.or_eq_true,dq,dq]; omega) l;exact this.imp fun h=>of_decide_eq_true h
section
variable {b:Y34}
theorem F0E(l:List Int)(x:Int)(hl:l.length<=9223372036854775807):t0s l x=some (b0j l x):=by
 have key:=l0p hl (fun v=>x==l.getD v 0) (fun v=>some (v:Int)) (e:=some (-1)) (F:=w0z x l) 0 (Nat.zero_le _) (fun g i _ hi=>by
  have e3:((i:Int)).toNat=i:=rfl;refine(if_pos (decide_eq_true (by omega))).trans ((gP ⟨oo,trivial⟩).trans ?_);rw[e3];by_cases hc:(x==l.getD i 0)=true
  ·rw[if_pos hc,if_pos hc]
  ·rw[if_neg hc,if_neg hc];exact gP ⟨oo,trivial⟩) (fun g=>if_neg (by simp))
 rw[Nat.sub_zero,<- List.range_eq_range'] at key;have key:D0x l x=_:=key;have hh:b0j l x=((List.range l.length).find? fun v=>x==l.getD v 0).isSome:=by
  unfold b0j;rw[Bool.eq_iff_iff,List.any_eq_true,List.find?_isSome];constructor
  ·rintro⟨j,h1,h2⟩;exact⟨j,h1,by rw[beq_iff_eq] at *; exact h2.symm⟩
  ·rintro⟨j,h1,h2⟩;exact⟨j,h1,by rw[beq_iff_eq] at *; exact h2.symm⟩
 unfold t0s;rw[key,hh];cases(List.range l.length).find? fun v=>x==l.getD v 0 with
 | none=>rfl
 | some v =>
   refine(gP ⟨rfl,trivial⟩).trans ?_;rw[lE];show some (decide (0<=(v:Int)))=_;rw[decide_eq_true (by omega)];rfl
theorem H0w{L:List Int}(hL:L.length<=9223372036854775807)(l:Y48):w0Y l L=some (l.2.2.1==1&&b0j L l.1&&b0j L l.2.1):=by
 unfold w0Y;rw[F0E L _ hL,F0E L _ hL,vS,vS];exact gP ⟨(fun _=>rfl),(fun _=>rfl),trivial⟩
theorem u0C(hb:a0f b=true){lv:List Bool}(hlv:lv.length=(lV b).length){L:List Int}(hL:L.length<=9223372036854775807):d0W (a0n b,lv) L=some (c0O (fun k=>lv.getD k false&&(kdN b k==1&&b0j L (frN b k:Int)&&b0j L (toN b k:Int))) (lV b).length):=by
 have hM:=a0O hb;refine(lF (n:=(lV b).length) (by omega) (fun i (s:List Int)=>(s,(i:Int))) (fun i s=>if(lv.getD i false&&(kdN b i==1&&b0j L (frN b i:Int)&&b0j L (toN b i:Int)))=true then s++[(i:Int)] else s) (fun i s=>s.length<=i) (J:=fun s=>some s) (F:=i0D (a0n b,lv) L) (fun g i s hi hs=>?_) (fun i s hi hs=>?_) (fun g s _=>aE) [] (Nat.le_refl _)).trans ?_
 ·have hs:s.length<=i:=hs;have hx:ix (i:Int) (a0n b).2.2.1.length:=⟨by omega,by show(i:Int) < ((lV b).length:Int); omega⟩;refine(if_pos (decide_eq_true hx.2)).trans ((gP ⟨hx,trivial⟩).trans ?_);rw[lE];obtain⟨f1,f2,_⟩:=h0X b hb hi;have hq:w0Y ((lV b).getD i (a0a y48)) L=some (kdN b i==1&&b0j L (frN b i:Int)&&b0j L (toN b i:Int)):=by
   rw[H0w hL,f1,f2]; rfl
  have hq:w0Y ((a0n b).2.2.1.getD ((i:Int)).toNat (a0a y48)) L=some (kdN b i==1&&b0j L (frN b i:Int)&&b0j L (toN b i:Int)):=hq;refine(gP ⟨⟨by omega,by show(i:Int) < (lv.length:Int); omega⟩,(fun _=>by rw[hq]; rfl),trivial⟩).trans ?_;rw[hq,vS];show(if(lv.getD i false&&(kdN b i==1&&b0j L (frN b i:Int)&&b0j L (toN b i:Int)))=true then _ else _)=_;by_cases h:(lv.getD i false&&(kdN b i==1&&b0j L (frN b i:Int)&&b0j L (toN b i:Int)))=true
  ·rw[if_pos h,if_pos h];refine(gP ⟨⟨by simp only[List.length_singleton]; omega,by simp only[List.length_singleton]; omega⟩,trivial⟩).trans ?_;exact gP ⟨oo,trivial⟩
  ·rw[if_neg h,if_neg h];exact gP ⟨oo,trivial⟩
 ·have hs:s.length<=i:=hs;show(if(lv.getD i false&&(kdN b i==1&&b0j L (frN b i:Int)&&b0j L (toN b i:Int)))=true then s++[(i:Int)] else s).length<=i+1;split
  ·rw[List.length_append,List.length_singleton]; omega
  ·omega
 ·show some (fN _ _ [])=_;rw[b0x]
def nxL(b:Y34)(lv:List Bool):Int:=v0a (qB b lv) (lV b).length
theorem o0G(hb:a0f b=true){lv:List Bool}(hlv:lv.length=(lV b).length):(q0l b lv).length<=1000000:=by
 have hN:=f0g b hb;unfold q0l b0Y;rcases f0l b lv (a0k b) (Nat.le_refl _) with ⟨h1,_⟩ | ⟨v,t,_,_,h3⟩
 ·rw[h1]; exact Nat.zero_le _
 ·rw[h3];have:=m0Y b lv v;show(clV b lv v).length<=_;omega
def brR(b:Y34)(s:List Int×List Bool)(t:List Bool):Prop:=s.2=t/\t.length=(lV b).length/\s.1.Nodup/\(∀x,x∈s.1↔∃k,k < (lV b).length/\(!t.getD k false)=true/\x=(k:Int))/\s.1.length+c0k t<=(lV b).length/\∀k,k < (lV b).length->t.getD k false=false->kdN b k=1
theorem z0T(hw:wf y34 b)(hb:a0f b=true):∃(l:List Int) (t:List Bool),l.length<=6000/\u84 (a0n b)=some l/\u86 b=some l/\l=c0O (fun k=>!t.getD k false) (lV b).length/\t.length=(lV b).length/\lpB b t=false/\∀k,k < (lV b).length->t.getD k false=false->kdN b k=1:=by
 have hM:=a0O hb;have hN:=f0g b hb;have hnil:d0S (lV b).length []=true:=rfl;have ll:(a0Y (lV b).length []).length=(lV b).length:=e0k _ _;have hm0:∀x:Int,x∈([]:List Int)↔∃k,k < (lV b).length/\(!(a0Y (lV b).length []).getD k false)=true/\x=(k:Int):=fun x=>by
  constructor
  ·intro h; cases h
  ·rintro⟨k,h1,h2,_⟩;rw[o0t [] h1] at h2;cases h2
 obtain⟨s',t',⟨r1,r2,r3,r4,r5,r6⟩,hc,e1,e2⟩:=C0u (F:=A0W (a0n b,a0Y (lV b).length [])) (J:=fun s=>q0w s.1) (G:=A0U (lV b) (a0k b:Int)) (K:=fun t=>q0v t) c0k (brR b) (lpB b) (fun s=>(s.1++[nxL b s.2],s.2.set (nxL b s.2).toNat false)) (fun t=>t.set (nxL b t).toNat false)
  (fun g s t hR=>by
    obtain⟨o,lv⟩:=s;obtain⟨h1,h2,h3,h4,h5,h6⟩:=hR;have h1:lv=t:=h1;subst h1;have h5:o.length+c0k lv<=(lV b).length:=h5;have hl:u63 (a0n b,lv)=some (lpB b lv):=by
     unfold u63;rw[r57 hb h2,vS,gP ⟨rfl,trivial⟩,lE];rfl
    show gd ((u63 (a0n b,lv)).isSome=true/\True) (if vl (u63 (a0n b,lv))=true then _ else _)=_;rw[hl,vS,gP ⟨rfl,trivial⟩];cases hc:lpB b lv with
    | false=>rfl
    | true =>
      obtain⟨q1,q2⟩:=f0O hb h2 hc;obtain⟨k,k1,k2,k3,k4,k5⟩:=j0Q (qB b lv) _ q2;have hlp:u81 (a0n b,lv)=some (b0Y b lv):=r81 hb h2;refine(if_pos rfl).trans ?_;show gd ((u81 (a0n b,lv)).isSome=true/\_) _=_;rw[hlp,vS];refine(gP ⟨rfl,oo,q1,trivial⟩).trans ?_;rw[lE];have hch:d0W (a0n b,lv) (q0l b lv)=some (c0O (qB b lv) (lV b).length):=u0C hb h2 (by have:=o0G hb h2; omega);have hch:d0W (a0n b,lv) ((b0Y b lv).getD (Int.toNat (0:Int)) [])=some (c0O (qB b lv) (lV b).length):=hch;rw[hch,vS,gP ⟨rfl,trivial⟩,lE];have il:=(c0j (qB b lv) (lV b).length).1;refine(gP ⟨oo,oo,by omega,trivial⟩).trans ?_;rw[k5];have e3:Int.toNat (k:Int)=k:=rfl;refine(gP ⟨⟨by omega,by show(k:Int) < (lv.length:Int); omega⟩,by show k<lv.length; omega,trivial⟩).trans ?_;rw[lE];refine(gP ⟨⟨by show o.length+1<=_; omega,by show(o.length+1)*8<=_; omega⟩,trivial⟩).trans ?_;refine Eq.trans ?_ (if_pos rfl).symm;show g (o++[(k:Int)],lv.set (Int.toNat (k:Int)) false)=g (o++[nxL b lv],lv.set (nxL b lv).toNat false);unfold nxL;rw[k3])
  (fun g s t hR=>by
    obtain⟨_,h2,_⟩:=hR;have hlp:u82 (a0k b:Int) (lV b) t=some (b0Y b t):=r82 hb h2;show gd ((u82 (a0k b:Int) (lV b) t).isSome=true/\True) _=_;rw[hlp,vS,gP ⟨rfl,trivial⟩,lE];cases hc:lpB b t with
    | false =>
      rw[p0J hb h2 hc];rfl
    | true =>
      obtain⟨q1,q2⟩:=f0O hb h2 hc;obtain⟨k,k1,k2,k3,k4,k5⟩:=j0Q (qB b t) _ q2;have hne:¬(((b0Y b t).length:Int)==0)=true:=by rw[beq_iff_eq]; omega
      refine(if_neg hne).trans ?_;have hfl:=o0G hb h2;refine(lF (n:=(lV b).length) (by omega) (fun i (s:Int)=>(s,(i:Int))) (fun i (s:Int)=>if qB b t i=true then(i:Int) else s) (fun _ _=>True) (J:=fun s=>q0u t g s) (F:=A0T t (lV b) (b0Y b t) g) (fun g' i s hi _=>?_) (fun _ _ _ _=>trivial) (fun g' s _=>aE) (-1) trivial).trans ?_
      ·have e3:((i:Int)).toNat=i:=rfl;obtain⟨f1,f2,_⟩:=h0X b hb hi;have ha:g0R ((b0Y b t).getD (Int.toNat (0:Int)) []) ((lV b).getD ((i:Int)).toNat (a0a y48)).1=some (b0j (q0l b t) (frN b i:Int)):=by
        rw[e3,f1]; exact E0u (q0l b t) _ (by omega)
       have hz:g0R ((b0Y b t).getD (Int.toNat (0:Int)) []) ((lV b).getD ((i:Int)).toNat (a0a y48)).2.1=some (b0j (q0l b t) (toN b i:Int)):=by
        rw[e3,f2]; exact E0u (q0l b t) _ (by omega)
       refine(if_pos (decide_eq_true (by omega))).trans ?_;rw[ha,hz,vS,vS];have x1:ix (i:Int) (lV b).length:=oo;have x2:((i:Int)).toNat < (lV b).length:=hi;have x3:ix (0:Int) (b0Y b t).length:=oo;refine(gP ⟨oo,by omega,(fun _=>x1),(fun _=>x2),(fun _=>x3),(fun _=>q1),(fun _=>x1),(fun _=>x2),(fun _=>rfl),(fun _=>x3),(fun _=>q1),(fun _=>x1),(fun _=>x2),(fun _=>rfl),trivial⟩).trans ?_;have eq:(t.getD ((i:Int)).toNat false&&((lV b).getD ((i:Int)).toNat (a0a y48)).2.2.1==(1:Int)&&b0j (q0l b t) (frN b i:Int)&&b0j (q0l b t) (toN b i:Int))=qB b t i:=by
        unfold qB kdN;rw[e3,Bool.and_assoc,Bool.and_assoc,Bool.and_assoc]
       rw[eq];have j4:∀x,t0E (i:Int) g' x=g' (x,((i+1:Nat):Int)):=fun x=>gP ⟨oo,trivial⟩;rw[j4,j4];by_cases h:qB b t i=true
       ·rw[if_pos h,if_pos h]
       ·rw[if_neg h,if_neg h]
      ·show q0u t g (nxL b t)=_;have e4:nxL b t=(k:Int):=k3;rw[q0u,e4];refine(gP ⟨oo,by show k<t.length; omega,trivial⟩).trans ?_;rfl)
  (fun s t hR hc=>by
    obtain⟨o,lv⟩:=s;obtain⟨h1,h2,h3,h4,h5,h6⟩:=hR;have h1:lv=t:=h1;subst h1;have h5:o.length+c0k lv<=(lV b).length:=h5;have h3:o.Nodup:=h3;have h4:∀x,x∈o↔∃k,k < (lV b).length/\(!lv.getD k false)=true/\x=(k:Int):=h4;obtain⟨_,q2⟩:=f0O hb h2 hc;obtain⟨k,k1,k2,k3,_,_⟩:=j0Q (qB b lv) _ q2;have e4:nxL b lv=(k:Int):=k3;have hk:lv.getD k false=true:=by
     unfold qB at k2;rw[ba] at k2;exact k2.1
    have hg:∀w,(lv.set k false).getD w false=if w=k then false else lv.getD w false:=fun w=>b0q false (by omega)
    have hlt:c0k (lv.set k false)<c0k lv:=by
     refine m0V _ _ (by rw[List.length_set]) (fun v hv=>?_) ⟨k,by rw[hg,if_pos rfl],hk⟩;rw[hg] at hv;split at hv
     ·cases hv
     ·exact hv
    show brR b (o++[nxL b lv],lv.set (nxL b lv).toNat false) (lv.set (nxL b lv).toNat false)/\c0k (lv.set (nxL b lv).toNat false)<c0k lv;rw[e4,Int.toNat_natCast];refine⟨⟨rfl,by rw[List.length_set]; exact h2,?_,fun x=>?_,?_,fun w hw' hz=>?_⟩,hlt⟩
    ·show(o++[(k:Int)]).Nodup;rw[List.nodup_append];refine⟨h3,by simp,fun a ha c hc' e=>?_⟩;rw[List.mem_singleton] at hc';obtain⟨k',_,z2,z3⟩:=(h4 a).1 ha;have:k'=k:=by omega
     rw[this,hk] at z2;cases z2
    ·show x∈o++[(k:Int)]↔_;rw[List.mem_append,List.mem_singleton,h4];constructor
     ·rintro(⟨k',z1,z2,z3⟩ | e)
      ·refine⟨k',z1,?_,z3⟩;rw[hg];split
       ·rfl
       ·exact z2
      ·exact⟨k,k1,by rw[hg,if_pos rfl]; rfl,e⟩
     ·rintro⟨k',z1,z2,z3⟩;by_cases e:k'=k
      ·right; rw[z3,e]
      ·left;rw[hg,if_neg e] at z2;exact⟨k',z1,z2,z3⟩
    ·show(o++[(k:Int)]).length+c0k (lv.set k false)<=_;rw[List.length_append,List.length_singleton];omega
    ·rw[hg] at hz;split at hz
     ·rename_i e;rw[e];unfold qB at k2;simp only[ba,beq_iff_eq] at k2;exact k2.2.1.1
     ·exact h6 w hw' hz)
  ([],a0Y (lV b).length []) (a0Y (lV b).length []) ⟨rfl,ll,List.nodup_nil,hm0,by
    have:=k0e (a0Y (lV b).length []);show 0+_<=_;omega,fun k hk hz=>by rw[o0t [] hk] at hz; cases hz⟩ (by
    have:=k0e (a0Y (lV b).length []);omega)
 have hsort:=u0g r3 r4;refine⟨c0O (fun k=>!t'.getD k false) (lV b).length,t',by have:=(c0j (fun k=>!t'.getD k false) (lV b).length).1; omega,?_,?_,rfl,r2,hc,r6⟩
 ·unfold u84;rw[F0K hb hnil (Nat.zero_le _),vS,gP ⟨rfl,trivial⟩,lE];refine e1.trans ?_;show q0w s'.1=_;have hsl:A0z s'.1=some (c0O (fun k=>!t'.getD k false) (lV b).length):=by
   unfold A0z;rw[if_pos (by omega),hsort]
  rw[q0w,hsl,vS,gP ⟨rfl,trivial⟩,lE]
 ·unfold u86;rw[r59 b hw hb,vS,gP ⟨rfl,trivial⟩,lE,r62 _ _ (by omega) (Nat.zero_le _),vS,gP ⟨rfl,trivial⟩,lE,r61 b hw hb,vS,gP ⟨rfl,trivial⟩,lE];refine e2.trans ?_;show q0v t'=_;rw[q0v,<- b0x];refine lF (n:=(lV b).length) (by omega) (fun(i:Nat) (s:List Int)=>((i:Int),s)) (fun i s=>if(!t'.getD i false)=true then s++[(i:Int)] else s) (fun i s=>s.length<=i) (J:=fun s=>some s) (F:=A0S t') (fun g i s hi hs=>?_) (fun i s hi hs=>?_) (fun g s _=>?_) [] (Nat.le_refl _)
  ·have hs:s.length<=i:=hs;have e3:((i:Int)).toNat=i:=rfl;refine(if_pos (decide_eq_true (by omega))).trans ?_;refine(gP ⟨oo,by omega,trivial⟩).trans ?_;rw[e3];by_cases h:(!t'.getD i false)=true
   ·rw[if_pos h,if_pos h];refine(gP ⟨⟨by show s.length+1<=_; omega,by show(s.length+1)*8<=_; omega⟩,trivial⟩).trans ?_;exact gP ⟨oo,trivial⟩
   ·rw[if_neg h,if_neg h];exact gP ⟨oo,trivial⟩
  ·have hs:s.length<=i:=hs;split
   ·rw[List.length_append,List.length_singleton]; omega
   ·omega
  ·exact if_neg (by rw[dq]; omega)
end
theorem h0y{l:List Int}{j:Nat}(hj:j<l.length):l.getD j 0=l[j]:=by rw[gq,List.getElem?_eq_getElem hj]; rfl
theorem C0B{l:List Int}(h:o0B l=true):l.Pairwise (·<·):=List.pairwise_iff_getElem.2 fun i j hi hj hij=>by
 have:=s0s h j i hij hj;rw[h0y hi,h0y hj] at this;exact this
theorem x0Q{l:List Int}(h:l.Pairwise (·<·)):o0B l=true:=by
 unfold o0B;rw[Bool.not_eq_true',<- Bool.not_eq_true,List.any_eq_true];rintro⟨i,hi,hc⟩;rw[List.mem_range] at hi;rw[ba] at hc;have h0:=of_decide_eq_true hc.1;have h1:=of_decide_eq_true hc.2;have:=List.pairwise_iff_getElem.1 h (i-1) i (by omega) hi (by omega);rw[h0y hi,h0y (show i-1<l.length by omega)] at h1;omega
theorem v0M{M:Nat}{l k:List Int}(h:d0S M l=true)(hs:k.Sublist l):d0S M k=true:=by
 unfold d0S at h ⊢;rw[ba] at h ⊢;refine⟨?_,x0Q ((C0B h.2).sublist hs)⟩;rw[List.all_eq_true] at h ⊢;exact fun x hx=>h.1 x (hs.subset hx)
def u0v(b:Y34)(br:List Int)(j:Nat)(k:List Int):List Int:=if b0J b (k++br.drop (j+1))=true then k++[br.getD j 0] else k
theorem h0H{br:List Int}{j:Nat}(hj:j<br.length)(k:List Int):k++br.drop j=k++br.getD j 0 :: br.drop (j+1):=by
 rw[List.drop_eq_getElem_cons hj,h0y hj]
theorem C0L{br:List Int}{j:Nat}(hj:j<br.length)(k:List Int):(k++br.drop j).getD k.length 0=br.getD j 0:=by
 rw[h0H hj,gq,List.getElem?_append_right (Nat.le_refl _),Nat.sub_self];rfl
theorem y0i{br:List Int}{j:Nat}(hj:j<br.length)(k:List Int):woV (k++br.drop j) k.length=k++br.drop (j+1):=by
 unfold woV;rw[h0H hj,List.take_left,List.drop_append,List.drop_eq_nil_of_le (by omega),List.nil_append,Nat.add_sub_cancel_left];rfl
def C0f(b:Y34)(br:List Int)(j:Nat)(k:List Int):Prop:=d0S (lV b).length (k++br.drop j)=true/\(k++br.drop j).length<=br.length
theorem n0U{b:Y34}{br:List Int}{j:Nat}{k:List Int}(hj:j<br.length)(h:C0f b br j k):C0f b br (j+1) (u0v b br j k):=by
 unfold u0v;split
 ·have e:k++[br.getD j 0]++br.drop (j+1)=k++br.drop j:=by rw[h0H hj,List.append_assoc]; rfl
  unfold C0f;rw[e];exact h
 ·have hs:(k++br.drop (j+1)).Sublist (k++br.drop j):=by
   rw[h0H hj];exact List.Sublist.append_left (List.sublist_cons_self _ _) _
  exact⟨v0M h.1 hs,Nat.le_trans hs.length_le h.2⟩
def j0w(b:Y34)(br:List Int):List Int:=fN (u0v b br) br.length []
def rlF(b:Y34)(br:List Int):List Int×Int:=if c0J b br=0 then(if b0J b br=true then([],7) else(j0w b br,0)) else([],c0J b br)
theorem r41(b:Y34)(hw:wf y34 b)(hm:cnt y34 b<=1048576)(br:List Int)(hl:br.length<=1048576):u41 b br=some (rlF b br):=by
 have hn:=r56 b hw hm br hl;by_cases h:c0J b br=0
 ·obtain⟨hb,hr⟩:=k0b h;rw[if_pos h] at hn;have hv:vR (u56 b br)=((a0n b,a0Y (lV b).length br),0):=by rw[hn]; rfl
  unfold u41 rlF;rw[if_pos h];refine(if_neg (by rw[hn]; simp[isL])).trans ?_;refine(gP ⟨by rw[hn]; rfl,trivial⟩).trans ?_;rw[hv];refine(if_neg (by show ¬((0:Int) != 0)=true; decide)).trans ?_;show gd ((u63 (a0n b,a0Y (lV b).length br)).isSome=true/\True) (if vl (u63 (a0n b,a0Y (lV b).length br))=true then some ([],7) else lp (y0K br b) ([],0,a0Y (lV b).length br))=_;rw[r63 hb br,vS,gP ⟨rfl,trivial⟩];cases hlp:b0J b br with
  | true=>rfl
  | false =>
    refine(if_neg (by simp)).trans ?_;rw[if_neg (by simp)];refine(lF (n:=br.length) (by omega) (fun(j:Nat) (k:List Int)=>(k,(j:Int),a0Y (lV b).length (k++br.drop j))) (u0v b br) (fun j k=>C0f b br j k/\k.length<=j) (J:=fun k=>some (k,0)) (F:=y0K br b) (fun g j k hj hI=>?_) (fun j k hj hI=>⟨n0U hj hI.1,?_⟩) (fun g k _=>aE) [] ⟨⟨by simpa using hr,by simp⟩,Nat.le_refl _⟩)
    ·obtain⟨⟨h1,h2⟩,h3⟩:=hI;have hlen:(k++br.drop j).length=k.length+(br.length-j):=by rw[List.length_append,List.length_drop]
     have hk:k.length < (k++br.drop j).length:=by omega
     have e3:((j:Int)).toNat=j:=rfl;obtain⟨s1,s2,s3,s4⟩:=o0s h1 hk;rw[C0L hj] at s1 s2 s3 s4;rw[y0i hj] at s3 s4;have hll:=c0B (lV b).length (k++br.drop j);have hll2:=c0B (lV b).length (k++br.drop (j+1));refine(if_pos (by simpa using hj)).trans ?_;refine(gP ⟨oo,trivial⟩).trans ?_;rw[e3,hv];refine(gP ⟨⟨s1,by omega⟩,by omega,trivial⟩).trans ?_;rw[s3];have eh:u63 (((a0n b,a0Y (lV b).length br),(0:Int)).1.1,a0Y (lV b).length (k++br.drop (j+1)))=some (b0J b (k++br.drop (j+1))):=r63 hb _;rw[eh,vS,gP ⟨rfl,trivial⟩];unfold u0v;cases hlq:b0J b (k++br.drop (j+1)) with
     | true =>
       refine(if_pos rfl).trans ?_;refine(gP ⟨⟨s1,by omega⟩,by omega,trivial⟩).trans ?_;rw[lE,s4];refine(gP ⟨⟨by show k.length+1<=_; omega,by show(k.length+1)*8<=_; omega⟩,trivial⟩).trans ?_;refine(gP ⟨oo,trivial⟩).trans ?_;rw[if_pos rfl,h0H hj,List.append_assoc];rfl
     | false =>
       refine(if_neg (by simp)).trans ?_;refine(gP ⟨oo,trivial⟩).trans ?_;rw[if_neg (by simp)];rfl
    ·have h3:k.length<=j:=hI.2;unfold u0v;split
     ·rw[List.length_append,List.length_singleton]; omega
     ·omega
 ·rw[if_neg h] at hn;unfold u41 rlF;rw[if_neg h,hn];refine(if_pos rfl).trans ((gP ⟨rfl,trivial⟩).trans ?_);exact if_pos (by show(c0J b br != 0)=true; simp[h])
theorem v0P(n:Nat)(p:Nat->Bool){i:Nat}(hi:i<n):((List.range n).any fun j=>decide (i<=j)&&p j)=(p i||(List.range n).any fun j=>decide (i+1<=j)&&p j):=by
 rw[Bool.eq_iff_iff,Bool.or_eq_true,List.any_eq_true,List.any_eq_true];constructor
 ·rintro⟨j,hj,hp⟩;rw[ba] at hp;have h1:=of_decide_eq_true hp.1;by_cases e:j=i
  ·subst e; exact .inl hp.2
  ·exact .inr ⟨j,hj,by rw[ba]; exact⟨decide_eq_true (by omega),hp.2⟩⟩
 ·rintro(hp | ⟨j,hj,hp⟩)
  ·exact⟨i,List.mem_range.2 hi,by rw[ba]; exact⟨decide_eq_true (Nat.le_refl _),hp⟩⟩
  ·rw[ba] at hp;have h1:=of_decide_eq_true hp.1;exact⟨j,hj,by rw[ba]; exact⟨decide_eq_true (by omega),hp.2⟩⟩
theorem z0X(n:Nat)(p:Nat->Bool):((List.range n).any fun j=>decide (n<=j)&&p j)=false:=by
 rw[<- Bool.not_eq_true,List.any_eq_true];rintro⟨j,hj,hp⟩;rw[ba] at hp;have h1:=of_decide_eq_true hp.1;have h2:=List.mem_range.1 hj;omega
def E0S(b:Y34)(br:List Int):Bool:=!b0J b br&&!((List.range br.length).any fun j=>decide (0<=j)&&!b0J b (woV br j))
def mbF(b:Y34)(br:List Int):Bool×Int:=if c0J b br=0 then(E0S b br,0) else(false,c0J b br)
theorem r42(b:Y34)(hw:wf y34 b)(hm:cnt y34 b<=1048576)(br:List Int)(hl:br.length<=1048576):u42 b br=some (mbF b br):=by
 unfold u42 mbF;by_cases h:c0J b br=0
 ·obtain⟨hb,hr⟩:=k0b h;have hM:=c0B (lV b).length;have hn:=r56 b hw hm br hl;rw[if_pos h] at hn ⊢;have key:=s0d (n:=br.length) (by omega) (fun i (_:Unit)=>((i:Int),a0Y (lV b).length br)) (fun i _=>if(!b0J b (woV br i))=true then none else some ()) (fun _ _=>some (false,(0:Int))) (fun _ _=>True) (J:=fun _=>some (true,(0:Int))) (F:=y0J b br)
   (fun g i s hi _=>by
     have e3:((i:Int)).toNat=i:=rfl;obtain⟨s1,s2,s3,s4⟩:=o0s hr hi;refine(if_pos (decide_eq_true (by omega))).trans ?_;refine(gP ⟨oo,trivial⟩).trans ?_;rw[e3];refine(gP ⟨⟨s1,by rw[hM]; omega⟩,by rw[hM]; exact s2,trivial⟩).trans ?_;rw[hn,s3];have hh:=r63 hb (woV br i);refine(gP ⟨(by show(u63 (a0n b,a0Y (lV b).length (woV br i))).isSome=true; rw[hh]; rfl),trivial⟩).trans ((gP ⟨⟨s1,by rw[hM]; omega⟩,by rw[hM]; exact s2,trivial⟩).trans ?_);rw[lE,s4];show(if(!vl (u63 (a0n b,a0Y (lV b).length (woV br i))))=true then _ else _)=_;rw[hh,vS];by_cases hc:(!b0J b (woV br i))=true
     ·rw[if_pos hc,if_pos hc]
     ·rw[if_neg hc,if_neg hc];exact gP ⟨oo,trivial⟩)
   (fun _ _ _ _ _ _=>trivial) (fun g s _=>if_neg (by simp))
   (fun i _=>if((List.range br.length).any fun j=>decide (i<=j)&&!b0J b (woV br j))=true then some (false,(0:Int)) else some (true,(0:Int)))
   (fun s _=>by
     rw[z0X];rfl)
   (fun i s hi _=>by
     rw[v0P br.length (fun j=>!b0J b (woV br j)) hi];cases b0J b (woV br i) <;> rfl)
   0 (Nat.zero_le _) () trivial
  rw[hn];refine(if_neg (by simp[isL])).trans ((gP ⟨rfl,trivial⟩).trans ?_);refine(if_neg (by simp[vR])).trans ?_;have hh:=r63 hb br;refine(gP ⟨(by show(u63 (a0n b,a0Y (lV b).length br)).isSome=true; rw[hh]; rfl),trivial⟩).trans ?_;show(if vl (u63 (a0n b,a0Y (lV b).length br))=true then some (false,(0:Int)) else lp (y0J b br) (((0:Nat):Int),a0Y (lV b).length br))=_;rw[hh,vS,key];unfold E0S;cases b0J b br <;> cases(List.range br.length).any fun j=>decide (0<=j)&&!b0J b (woV br j) <;> rfl
 ·have hn:=r56 b hw hm br hl;rw[if_neg h] at hn ⊢;rw[hn];refine(if_pos rfl).trans ((gP ⟨rfl,trivial⟩).trans ?_);exact if_pos (by show(c0J b br != 0)=true; simp[h])
theorem u0z{M:Nat}{fr to:Nat->Nat}{lv lw:Nat->Bool}(h:∀i,i<M->lv i=true->lw i=true){a c:Nat}(k:Rch M fr to lv a c):Rch M fr to lw a c:=by
 induction k with
 | refl=>exact .refl
 | step _ hi hl ih=>exact ih.step hi (h _ hi hl)
section
variable {b:Y34}
theorem o0r(hb:a0f b=true)(br:List Int):b0J b br=true↔Cyc (lV b).length (frN b) (toN b) (fun i=>(a0Y (lV b).length br).getD i false):=by
 refine Iff.trans ?_ (r0J (lV b).length (a0k b) (frN b) (toN b) (fun i=>(a0Y (lV b).length br).getD i false) (fun i hi=>(h0X b hb hi).2.2.1) (fun i hi=>(h0X b hb hi).2.2.2) (f0g b hb));unfold b0J;show _↔x0U b (a0Y (lV b).length br) [] (a0k b)=none;cases x0U b (a0Y (lV b).length br) [] (a0k b) with
 | none=>exact⟨fun _=>rfl,fun _=>rfl⟩
 | some l=>exact⟨fun h=>(by cases h),fun h=>(by cases h)⟩
theorem s0j(hb:a0f b=true){l k:List Int}(h:∀x∈k,x∈l)(hl:b0J b l=true):b0J b k=true:=by
 obtain⟨i,h1,h2,h3⟩:=(o0r hb l).1 hl;have hm:∀i,i < (lV b).length->(a0Y (lV b).length l).getD i false=true->(a0Y (lV b).length k).getD i false=true:=fun i hi hz=>by
  rw[f0P _ hi] at hz ⊢;cases hc:b0j k (i:Int) with
  | false=>rfl
  | true =>
    rw[d0m.2 (h _ (d0m.1 hc))] at hz;cases hz
 exact(o0r hb k).2 ⟨i,h1,hm i h1 h2,u0z hm h3⟩
def D0M(b:Y34)(br:List Int)(j:Nat)(k:List Int):Prop:=C0f b br j k/\k.length<=j/\(∀x∈k,x∈br)/\b0J b (k++br.drop j)=false/\∀i,i<k.length->b0J b (woV (k++br.drop j) i)=true
theorem A0L{k l:List Int}{i:Nat}(h:i<k.length):woV (k++l) i=woV k i++l:=by
 unfold woV;rw[List.take_append_of_le_length (by omega),List.drop_append_of_le_length (by omega),List.append_assoc]
theorem r0C(hb:a0f b=true){br:List Int}{j:Nat}{k:List Int}(hj:j<br.length)(h:D0M b br j k):D0M b br (j+1) (u0v b br j k):=by
 obtain⟨h1,h2,h3,h4,h5⟩:=h;refine⟨n0U hj h1,?_⟩;unfold u0v;split
 ·rename_i hc;have e:k++[br.getD j 0]++br.drop (j+1)=k++br.drop j:=by rw[h0H hj,List.append_assoc]; rfl
  rw[e];refine⟨by rw[List.length_append,List.length_singleton]; omega,fun x hx=>?_,h4,fun i hi=>?_⟩
  ·rcases List.mem_append.1 hx with hx | hx
   ·exact h3 x hx
   ·rw[List.mem_singleton.1 hx]; exact a0V hj
  ·rw[List.length_append,List.length_singleton] at hi;by_cases c:i<k.length
   ·exact h5 i c
   ·have:i=k.length:=by omega
    rw[this,y0i hj];exact hc
 ·rename_i hc;refine⟨by omega,h3,by simpa using hc,fun i hi=>?_⟩;refine s0j hb (fun x hx=>?_) (h5 i hi);rw[A0L hi] at hx ⊢;rw[h0H hj];rcases List.mem_append.1 hx with hx | hx
  ·exact List.mem_append_left _ hx
  ·exact List.mem_append_right _ (List.mem_cons_of_mem _ hx)
theorem y0Z(hb:a0f b=true){br:List Int}(hr:d0S (lV b).length br=true)(hl:b0J b br=false):mbF b (j0w b br)=(true,0)/\(∀x∈j0w b br,x∈br)/\(j0w b br).length<=br.length:=by
 have key:∀n,n<=br.length->D0M b br n (fN (u0v b br) n []):=by
  intro n
  induction n with
  | zero=>intro _; show D0M b br 0 []; exact⟨⟨by simpa using hr,by simp⟩,Nat.le_refl _,fun x hx=>(by cases hx),by simpa using hl,fun i hi=>(Nat.not_lt_zero _ hi).elim⟩
  | succ n ih=>intro h; exact r0C hb (by omega) (ih (by omega))
 obtain⟨⟨h1,_⟩,h2,h3,h4,h5⟩:=key br.length (Nat.le_refl _);have h1:d0S (lV b).length (j0w b br++br.drop br.length)=true:=h1;have h3:∀x∈j0w b br,x∈br:=h3;have h4:b0J b (j0w b br++br.drop br.length)=false:=h4;have h5:∀i,i < (j0w b br).length->b0J b (woV (j0w b br++br.drop br.length) i)=true:=h5;rw[List.drop_length,List.append_nil] at h1 h4 h5;refine⟨?_,h3,h2⟩;unfold mbF E0S;have hc:c0J b (j0w b br)=0:=by
  unfold c0J;rw[if_pos hb,if_pos h1]
 rw[if_pos hc,h4];have:((List.range (j0w b br).length).any fun j=>decide (0<=j)&&!b0J b (woV (j0w b br) j))=false:=by
  rw[<- Bool.not_eq_true,List.any_eq_true];rintro⟨j,hj,hp⟩;rw[h5 j (List.mem_range.1 hj)] at hp;simp at hp
 rw[this];rfl
end
theorem F0j(b:Y34)(hw:wf y34 b)(hm:cnt y34 b<=1048576):(a0f b=false/\u39 b=some ([],1)/\u38 b=some ([],1))∨(a0f b=true/\∃l:List Int,l.length<=6000/\u39 b=some (l,0)/\u38 b=some (l,0)/\d0S (lV b).length l=true/\b0J b l=false/\∀x∈l,0<=x/\x.toNat < (lV b).length/\kdN b x.toNat=1):=by
 unfold u39 u38;rw[r65 b hw hm,r23 b hw hm,vS];cases hb:a0f b with
 | false=>exact .inl ⟨rfl,(gP ⟨rfl,trivial⟩).trans rfl,(gP ⟨rfl,trivial⟩).trans rfl⟩
 | true =>
   obtain⟨l,t,h1,h2,h3,h4,h5,h6,h7⟩:=z0T hw hb;have hmem:∀x∈l,∃k,k < (lV b).length/\(!t.getD k false)=true/\x=(k:Int):=fun x hx=>by
    rw[h4] at hx;exact j0V.1 hx
   have hlv:a0Y (lV b).length l=t:=c0H false (by rw[c0B,h5]) fun k hk=>by
    rw[c0B] at hk;rw[f0P _ hk];cases hc:b0j l (k:Int) with
    | true =>
      obtain⟨k',_,g2,g3⟩:=hmem _ (d0m.1 hc);have:k'=k:=by omega
      subst this;simpa using g2.symm
    | false =>
      cases ht:t.getD k false with
      | true=>rfl
      | false =>
        have:(k:Int)∈l:=by
         rw[h4];exact j0V.2 ⟨k,hk,by rw[ht]; rfl,rfl⟩
        rw[d0m.2 this] at hc;cases hc
   refine .inr ⟨rfl,l,h1,?_,?_,?_,?_,fun x hx=>?_⟩
   ·refine(gP ⟨rfl,trivial⟩).trans ((if_neg (by simp)).trans ?_);rw[h3,vS,gP ⟨rfl,trivial⟩,lE]
   ·refine(gP ⟨rfl,trivial⟩).trans ((if_neg (by simp)).trans ?_);rw[r66 b hw hb,vS,h2,vS,gP ⟨rfl,rfl,trivial⟩,lE]
   ·unfold d0S;rw[ba,List.all_eq_true];refine⟨fun x hx=>?_,x0Q ?_⟩
    ·obtain⟨k,g1,_,rfl⟩:=hmem x hx;exact a0u.2 oo
    ·rw[h4]; exact o0C _ _
   ·show lpB b (a0Y (lV b).length l)=false;rw[hlv]; exact h6
   ·obtain⟨k,g1,g2,rfl⟩:=hmem x hx;exact⟨by omega,g1,h7 k g1 (by simpa using g2)⟩
theorem lw8[Alw](c:List Int)(hw0:wf (.sl (.int .u8)) c):u8 c=some true:=by
 have key2:∀e:Option Bool,(∃r,e=some r/\r=true)->e=some true:=by rintro e ⟨r,rfl,rfl⟩; rfl
 refine key2 _ ?_;unfold u8;refine a0b ⟨rfl,trivial⟩ ?_;split
 ·exact⟨_,rfl,rfl⟩
 ·refine a0b ⟨trivial,trivial⟩ ⟨true,?_,rfl⟩;refine Alw.alp_of ([],([],[],[]),[]) ⟨by decide,⟨k0o,k0o,k0o,k0o,k0o,trivial⟩,trivial⟩ fun b hv=>?_;obtain⟨t1,hw,-⟩:=hv;have hwb:wf y34 b:=⟨hw.1,⟨hw.2.1,hw.2.2.1,hw.2.2.2.1⟩,hw.2.2.2.2.1⟩;have hm:cnt y34 b<=1048576:=by
   have:cnt y34 b<=20000:=t1;omega
  refine(gP trivial).trans (key2 _ ?_);rcases F0j b hwb hm with ⟨hb,e1,e2⟩ | ⟨hb,l,hl,e1,e2,hr,hlp,hk⟩
  ·simp only[e1,e2,vS,Option.isSome_some];refine a0b ⟨trivial,trivial⟩ (b0a (a0b ⟨trivial,trivial⟩ (b0a ?_)));exact⟨_,rfl,rfl⟩
  ·have hl2:l.length<=1048576:=by omega
   have hc:c0J b l=0:=by
    unfold c0J;rw[if_pos hb,if_pos hr]
   obtain⟨m1,m2,m3⟩:=y0Z hb hr hlp;simp only[e1,e2,vS,Option.isSome_some];refine a0b ⟨trivial,trivial⟩ (b0a (a0b ⟨trivial,trivial⟩ (b0a ?_)));rw[if_neg (by simp),if_neg (by simp)];simp only[n19 b hwb hm hb,vS,Option.isSome_some];refine a0b ⟨trivial,trivial⟩ (b0a ?_);have hM:=a0O hb;refine d0A (fun i=>l.length+1-i.toNat) (fun i=>0<=i/\i<=(l.length:Int)) ?_ oo (by omega);rintro g i ⟨i1,i2⟩ ih;obtain⟨k,rfl⟩:∃k:Nat,i=(k:Int):=⟨i.toNat,by omega⟩;have e3:((k:Int)).toNat=k:=rfl;unfold F0v;dsimp only;by_cases cc:(k:Int) < (l.length:Int)
   ·rw[if_pos (decide_eq_true cc)];have hkl:k<l.length:=by omega
    obtain⟨x0,x1,x2⟩:=hk _ (a0V (d:=0) hkl);have d1:decide (l.getD k 0<0)=false:=decide_eq_false (by omega);have d2:decide (((lV b).length:Int)<=l.getD k 0)=false:=decide_eq_false (by omega);have d3:(((lV b).getD (l.getD k 0).toNat (a0a y48)).2.2.1 != 1)=false:=by
     have x2:((lV b).getD (l.getD k 0).toNat (a0a y48)).2.2.1=1:=x2;rw[x2]; rfl
    simp only[e3,d1,d2,d3];refine a0b ⟨oo,hkl,fun _=>oo,fun _=>hkl,fun _=>oo,fun _=>hkl,fun _=>oo,fun _=>x1,trivial⟩ ?_;rw[if_neg (by decide)];exact a0b ⟨oo,trivial⟩ (ih _ oo (by omega))
   ·rw[if_neg (by simpa using cc)];unfold E0k;have er:rlF b l=(j0w b l,0):=by
     unfold rlF;rw[if_pos hc,hlp];rfl
    simp only[r16 b hwb hm l hl2,r41 b hwb hm l hl2,hc,er,hlp,if_true,vS,Option.isSome_some];refine a0b ⟨trivial,trivial⟩ (b0a (a0b ⟨trivial,trivial⟩ (b0a ?_)));rw[if_neg (by simp)];have m3':(j0w b l).length<=6000:=by omega
    refine d0A (fun i=>(j0w b l).length+1-i.toNat) (fun i=>0<=i/\i<=((j0w b l).length:Int)) ?_ oo (by omega);rintro g3 j ⟨j1,j2⟩ ih3;obtain⟨v,rfl⟩:∃v:Nat,j=(v:Int):=⟨j.toNat,by omega⟩;have e4:((v:Int)).toNat=v:=rfl;unfold F0u;dsimp only;by_cases c3:(v:Int) < ((j0w b l).length:Int)
    ·rw[if_pos (decide_eq_true c3)];have hvl:v < (j0w b l).length:=by omega
     have hin:=m2 _ (a0V (d:=0) hvl);simp only[e4,r18 l _ (show l.length<=9223372036854775807 by omega),d0m.2 hin,vS,Option.isSome_some];refine a0b ⟨oo,hvl,trivial,trivial⟩ ?_;rw[if_neg (by decide)];exact a0b ⟨oo,trivial⟩ (ih3 _ oo (by omega))
    ·rw[if_neg (by simpa using c3)];unfold E0j;simp only[r42 b hwb hm (j0w b l) (by omega),m1,vS,Option.isSome_some];exact a0b ⟨trivial,trivial⟩ (b0a ⟨_,rfl,rfl⟩)
end Go.Proofs.YtphnknndgfgepaaGreatDoor
end
