/- The links that are broken: both ways find the same. -/
import Derived.Test.YthobjlocnkienaaGreatDoorWH
import Derived.Test.YthobjlocnkienaaGreatDoorXK
import Derived.Test.YthobjlocnkienaaGreatDoorXF
import Derived.Test.YthobjlocnkienaaGreatDoorGn24
import Derived.Test.YthobjlocnkienaaGreatDoorWB
section
namespace Go.Proofs.YthobjlocnkienaaGreatDoor
open Go Go.Proofs Go.Proofs.Sv Go.Proofs.Xv Go.Proofs.Xl Go.Proofs.Xd
theorem lp_two{σ τ ρ π:Type}{F:(σ->Option ρ)->σ->Option ρ}{J:σ->Option ρ}{G:(τ->Option π)->τ->Option π}{K:τ->Option π}(μ:τ->Nat)(R:σ->τ->Prop)(c:τ->Bool)(nx:σ->σ)(ny:τ->τ)
  (hF:∀g s t,R s t->F g s=if c t=true then g (nx s) else J s) (hG:∀g s t,R s t->G g t=if c t=true then g (ny t) else K t) (hI:∀s t,R s t->c t=true->R (nx s) (ny t)/\μ (ny t)<μ t) (s:σ) (t:τ) (hs:R s t) (hm:μ t<=9223372036854775806):∃s' t',R s' t'/\c t'=false/\lp F s=J s'/\lp G t=K t':=by
 have key:∀(n:Nat) (s:σ) (t:τ),μ t<=n->R s t->∃s' t',R s' t'/\c t'=false/\(∀k,itF F (k+(n+1)) s=J s')/\∀k,itF G (k+(n+1)) t=K t':=by
  intro n
  induction n with
  | zero =>
    intro s t hn hs;cases hc:c t with
    | true=>have:=(hI s t hs hc).2; omega
    | false=>exact⟨s,t,hs,hc,fun k=>by show F (itF F k) s=_; rw[hF _ _ _ hs,hc]; rfl,fun k=>by show G (itF G k) t=_; rw[hG _ _ _ hs,hc]; rfl⟩
  | succ n ih =>
    intro s t hn hs;cases hc:c t with
    | true =>
      obtain⟨h1,h2⟩:=hI s t hs hc;obtain⟨s',t',h3,h4,h5,h6⟩:=ih (nx s) (ny t) (by omega) h1;refine⟨s',t',h3,h4,fun k=>?_,fun k=>?_⟩
      ·show F (itF F (k+(n+1))) s=_;rw[hF _ _ _ hs,hc,if_pos rfl];exact h5 k
      ·show G (itF G (k+(n+1))) t=_;rw[hG _ _ _ hs,hc,if_pos rfl];exact h6 k
    | false=>exact⟨s,t,hs,hc,fun k=>by show F (itF F (k+(n+1))) s=_; rw[hF _ _ _ hs,hc]; rfl,fun k=>by show G (itF G (k+(n+1))) t=_; rw[hG _ _ _ hs,hc]; rfl⟩
 obtain⟨s',t',h1,h2,h3,h4⟩:=key (μ t) s t (Nat.le_refl _) hs;exact⟨s',t',h1,h2,lp_of (μ t+1) (by omega) h3,lp_of (μ t+1) (by omega) h4⟩
theorem idxV_srt(p:Nat->Bool)(M:Nat):(idxV p M).Pairwise fun x y=>x<y:=by
 unfold idxV;rw[List.pairwise_map];refine(List.pairwise_lt_range.filter p).imp ?_;intro a c h;omega
theorem idxV_mem{p:Nat->Bool}{M:Nat}{x:Int}:x∈idxV p M↔∃k,k<M/\p k=true/\x=(k:Int):=by
 unfold idxV;rw[List.mem_map];constructor
 ·rintro⟨k,h,e⟩;rw[List.mem_filter,List.mem_range] at h;exact⟨k,h.1,h.2,e.symm⟩
 ·rintro⟨k,h1,h2,e⟩;exact⟨k,List.mem_filter.2 ⟨List.mem_range.2 h1,h2⟩,e.symm⟩
theorem sort_idx{l:List Int}{p:Nat->Bool}{M:Nat}(hn:l.Nodup)(hm:∀x,x∈l↔∃k,k<M/\p k=true/\x=(k:Int)):(l.mergeSort fun x y=>decide (x<=y))=idxV p M:=by
 have hs:=idxV_srt p M;have hn2:(idxV p M).Nodup:=hs.imp fun h=>by omega
 have hp:List.Perm l (idxV p M):=(List.perm_ext_iff_of_nodup hn hn2).2 fun x=>by rw[hm,idxV_mem]
 refine List.Perm.eq_of_pairwise (le:=fun x y=>x<=y) (fun a c _ _ h1 h2=>by omega) ?_ (hs.imp fun h=>by omega) ((List.mergeSort_perm l _).trans hp);have:=List.pairwise_mergeSort (le:=fun x y:Int=>decide (x<=y)) (fun a b c h1 h2=>by rw[dq] at *; omega) (fun a b=>by rw[Bool.or_eq_true,dq,dq]; omega) l;exact this.imp fun h=>of_decide_eq_true h
section
variable {b:Y46}
theorem r128(l:List Int)(x:Int)(hl:l.length<=9223372036854775807):u128 l x=some (hasB l x):=by
 have key:=lp_any hl (fun v=>x==l.getD v 0) (fun v=>some (v:Int)) (e:=some (-1)) (F:=u170L1 x l) 0 (Nat.zero_le _) (fun g i _ hi=>by
  have e3:((i:Int)).toNat=i:=rfl;refine(if_pos (decide_eq_true (by omega))).trans ((gP ⟨oo,trivial⟩).trans ?_);rw[e3];by_cases hc:(x==l.getD i 0)=true
  ·rw[if_pos hc,if_pos hc]
  ·rw[if_neg hc,if_neg hc];exact gP ⟨oo,trivial⟩) (fun g=>if_neg (by simp))
 rw[Nat.sub_zero,<- List.range_eq_range'] at key;have key:u170 l x=_:=key;have hh:hasB l x=((List.range l.length).find? fun v=>x==l.getD v 0).isSome:=by
  unfold hasB;rw[Bool.eq_iff_iff,List.any_eq_true,List.find?_isSome];constructor
  ·rintro⟨j,h1,h2⟩;exact⟨j,h1,by rw[beq_iff_eq] at *; exact h2.symm⟩
  ·rintro⟨j,h1,h2⟩;exact⟨j,h1,by rw[beq_iff_eq] at *; exact h2.symm⟩
 unfold u128;rw[key,hh];cases(List.range l.length).find? fun v=>x==l.getD v 0 with
 | none=>rfl
 | some v =>
   refine(gP ⟨rfl,trivial⟩).trans ?_;rw[lE];show some (decide (0<=(v:Int)))=_;rw[decide_eq_true (by omega)];rfl
theorem r127{L:List Int}(hL:L.length<=9223372036854775807)(l:Y107):u127 l L=some (l.2.2.1==1&&hasB L l.1&&hasB L l.2.1):=by
 unfold u127;rw[r128 L _ hL,r128 L _ hL,vS,vS];exact gP ⟨(fun _=>rfl),(fun _=>rfl),trivial⟩
theorem r126c127(hb:blockOk b=true){lv:List Bool}(hlv:lv.length=(lV b).length){L:List Int}(hL:L.length<=9223372036854775807):u126c127 (viewV b,lv) L=some (idxV (fun k=>lv.getD k false&&(kdN b k==1&&hasB L (frN b k:Int)&&hasB L (toN b k:Int))) (lV b).length):=by
 have hM:=links_len hb;refine(lF (n:=(lV b).length) (by omega) (fun i (s:List Int)=>(s,(i:Int))) (fun i s=>if(lv.getD i false&&(kdN b i==1&&hasB L (frN b i:Int)&&hasB L (toN b i:Int)))=true then s++[(i:Int)] else s) (fun i s=>s.length<=i) (J:=fun s=>some s) (F:=u126c127L1 (viewV b,lv) L) (fun g i s hi hs=>?_) (fun i s hi hs=>?_) (fun g s _=>aE) [] (Nat.le_refl _)).trans ?_
 ·have hs:s.length<=i:=hs;have hx:ix (i:Int) (viewV b).2.2.1.length:=⟨by omega,by show(i:Int) < ((lV b).length:Int); omega⟩;refine(if_pos (decide_eq_true hx.2)).trans ((gP ⟨hx,trivial⟩).trans ?_);rw[lE];obtain⟨f1,f2,_⟩:=frto b hb hi;have hq:u127 ((lV b).getD i (dflt y107)) L=some (kdN b i==1&&hasB L (frN b i:Int)&&hasB L (toN b i:Int)):=by
   rw[r127 hL,f1,f2]; rfl
  have hq:u127 ((viewV b).2.2.1.getD ((i:Int)).toNat (dflt y107)) L=some (kdN b i==1&&hasB L (frN b i:Int)&&hasB L (toN b i:Int)):=hq;refine(gP ⟨⟨by omega,by show(i:Int) < (lv.length:Int); omega⟩,(fun _=>by rw[hq]; rfl),trivial⟩).trans ?_;rw[hq,vS];show(if(lv.getD i false&&(kdN b i==1&&hasB L (frN b i:Int)&&hasB L (toN b i:Int)))=true then _ else _)=_;by_cases h:(lv.getD i false&&(kdN b i==1&&hasB L (frN b i:Int)&&hasB L (toN b i:Int)))=true
  ·rw[if_pos h,if_pos h];refine(gP ⟨⟨by simp only[List.length_singleton]; omega,by simp only[List.length_singleton]; omega⟩,trivial⟩).trans ?_;exact gP ⟨oo,trivial⟩
  ·rw[if_neg h,if_neg h];exact gP ⟨oo,trivial⟩
 ·have hs:s.length<=i:=hs;show(if(lv.getD i false&&(kdN b i==1&&hasB L (frN b i:Int)&&hasB L (toN b i:Int)))=true then s++[(i:Int)] else s).length<=i+1;split
  ·rw[List.length_append,List.length_singleton]; omega
  ·omega
 ·show some (fN _ _ [])=_;rw[idxV_fold]
def nxL(b:Y46)(lv:List Bool):Int:=lastI (qB b lv) (lV b).length
theorem fstL_len(hb:blockOk b=true){lv:List Bool}(hlv:lv.length=(lV b).length):(fstL b lv).length<=1000000:=by
 have hN:=nod_le b hb;unfold fstL loopsV;rcases loops_inv b lv (nodN b) (Nat.le_refl _) with ⟨h1,_⟩ | ⟨v,t,_,_,h3⟩
 ·rw[h1]; exact Nat.zero_le _
 ·rw[h3];have:=clV_len b lv v;show(clV b lv v).length<=_;omega
def brR(b:Y46)(s:List Int×List Bool)(t:List Bool):Prop:=s.2=t/\t.length=(lV b).length/\s.1.Nodup/\(∀x,x∈s.1↔∃k,k < (lV b).length/\(!t.getD k false)=true/\x=(k:Int))/\s.1.length+cntT t<=(lV b).length
theorem brk_eq(hw:wf y46 b)(hb:blockOk b=true):∃l:List Int,l.length<=6000/\(∀x∈l,0<=x/\x < ((lV b).length:Int))/\u71 (viewV b)=some l/\u67 b=some l:=by
 have hM:=links_len hb;have hN:=nod_le b hb;have hnil:brokB (lV b).length []=true:=rfl;have ll:(liveV (lV b).length []).length=(lV b).length:=appF_len _ _;have hm0:∀x:Int,x∈([]:List Int)↔∃k,k < (lV b).length/\(!(liveV (lV b).length []).getD k false)=true/\x=(k:Int):=fun x=>by
  constructor
  ·intro h; cases h
  ·rintro⟨k,h1,h2,_⟩;rw[live_get [] h1] at h2;cases h2
 obtain⟨s',t',⟨r1,r2,r3,r4,r5⟩,hc,e1,e2⟩:=lp_two (F:=u71L1 (viewV b,liveV (lV b).length [])) (J:=fun s=>u71J0 s.1) (G:=u67L1 (lV b) (nodN b:Int)) (K:=fun t=>u67J0 t) cntT (brR b) (lpB b) (fun s=>(s.1++[nxL b s.2],s.2.set (nxL b s.2).toNat false)) (fun t=>t.set (nxL b t).toNat false)
  (fun g s t hR=>by
    obtain⟨o,lv⟩:=s;obtain⟨h1,h2,h3,h4,h5⟩:=hR;have h1:lv=t:=h1;subst h1;have h5:o.length+cntT lv<=(lV b).length:=h5;have hl:u57 (viewV b,lv)=some (lpB b lv):=by
     unfold u57;rw[r101 hb h2,vS,gP ⟨rfl,trivial⟩,lE];rfl
    show gd ((u57 (viewV b,lv)).isSome=true/\True) (if vl (u57 (viewV b,lv))=true then _ else _)=_;rw[hl,vS,gP ⟨rfl,trivial⟩];cases hc:lpB b lv with
    | false=>rfl
    | true =>
      obtain⟨q1,q2⟩:=loops_some hb h2 hc;obtain⟨k,k1,k2,k3,k4,k5⟩:=last_eq (qB b lv) _ q2;have hlp:u65 (viewV b,lv)=some (loopsV b lv):=r65 hb h2;refine(if_pos rfl).trans ?_;show gd ((u65 (viewV b,lv)).isSome=true/\_) _=_;rw[hlp,vS];refine(gP ⟨rfl,oo,q1,trivial⟩).trans ?_;rw[lE];have hch:u126c127 (viewV b,lv) (fstL b lv)=some (idxV (qB b lv) (lV b).length):=r126c127 hb h2 (by have:=fstL_len hb h2; omega);have hch:u126c127 (viewV b,lv) ((loopsV b lv).getD (Int.toNat (0:Int)) [])=some (idxV (qB b lv) (lV b).length):=hch;rw[hch,vS,gP ⟨rfl,trivial⟩,lE];have il:=(idxV_len (qB b lv) (lV b).length).1;refine(gP ⟨oo,oo,by omega,trivial⟩).trans ?_;rw[k5];have e3:Int.toNat (k:Int)=k:=rfl;refine(gP ⟨⟨by omega,by show(k:Int) < (lv.length:Int); omega⟩,by show k<lv.length; omega,trivial⟩).trans ?_;rw[lE];refine(gP ⟨⟨by show o.length+1<=_; omega,by show(o.length+1)*8<=_; omega⟩,trivial⟩).trans ?_;refine Eq.trans ?_ (if_pos rfl).symm;show g (o++[(k:Int)],lv.set (Int.toNat (k:Int)) false)=g (o++[nxL b lv],lv.set (nxL b lv).toNat false);unfold nxL;rw[k3])
  (fun g s t hR=>by
    obtain⟨_,h2,_⟩:=hR;have hlp:u64 (nodN b:Int) (lV b) t=some (loopsV b t):=r64 hb h2;show gd ((u64 (nodN b:Int) (lV b) t).isSome=true/\True) _=_;rw[hlp,vS,gP ⟨rfl,trivial⟩,lE];cases hc:lpB b t with
    | false =>
      rw[loops_none hb h2 hc];rfl
    | true =>
      obtain⟨q1,q2⟩:=loops_some hb h2 hc;obtain⟨k,k1,k2,k3,k4,k5⟩:=last_eq (qB b t) _ q2;have hne:¬(((loopsV b t).length:Int)==0)=true:=by rw[beq_iff_eq]; omega
      refine(if_neg hne).trans ?_;have hfl:=fstL_len hb h2;refine(lF (n:=(lV b).length) (by omega) (fun i (s:Int)=>(s,(i:Int))) (fun i (s:Int)=>if qB b t i=true then(i:Int) else s) (fun _ _=>True) (J:=fun s=>u67J2 t g s) (F:=u67L3 t (lV b) (loopsV b t) g) (fun g' i s hi _=>?_) (fun _ _ _ _=>trivial) (fun g' s _=>aE) (-1) trivial).trans ?_
      ·have e3:((i:Int)).toNat=i:=rfl;obtain⟨f1,f2,_⟩:=frto b hb hi;have ha:u110 ((loopsV b t).getD (Int.toNat (0:Int)) []) ((lV b).getD ((i:Int)).toNat (dflt y107)).1=some (hasB (fstL b t) (frN b i:Int)):=by
        rw[e3,f1]; exact r110 (fstL b t) _ (by omega)
       have hz:u110 ((loopsV b t).getD (Int.toNat (0:Int)) []) ((lV b).getD ((i:Int)).toNat (dflt y107)).2.1=some (hasB (fstL b t) (toN b i:Int)):=by
        rw[e3,f2]; exact r110 (fstL b t) _ (by omega)
       refine(if_pos (decide_eq_true (by omega))).trans ?_;rw[ha,hz,vS,vS];have x1:ix (i:Int) (lV b).length:=oo;have x2:((i:Int)).toNat < (lV b).length:=hi;have x3:ix (0:Int) (loopsV b t).length:=oo;refine(gP ⟨oo,by omega,(fun _=>x1),(fun _=>x2),(fun _=>x3),(fun _=>q1),(fun _=>x1),(fun _=>x2),(fun _=>rfl),(fun _=>x3),(fun _=>q1),(fun _=>x1),(fun _=>x2),(fun _=>rfl),trivial⟩).trans ?_;have eq:(t.getD ((i:Int)).toNat false&&((lV b).getD ((i:Int)).toNat (dflt y107)).2.2.1==(1:Int)&&hasB (fstL b t) (frN b i:Int)&&hasB (fstL b t) (toN b i:Int))=qB b t i:=by
        unfold qB kdN;rw[e3,Bool.and_assoc,Bool.and_assoc,Bool.and_assoc]
       rw[eq];have j4:∀x,u67J4 (i:Int) g' x=g' (x,((i+1:Nat):Int)):=fun x=>gP ⟨oo,trivial⟩;rw[j4,j4];by_cases h:qB b t i=true
       ·rw[if_pos h,if_pos h]
       ·rw[if_neg h,if_neg h]
      ·show u67J2 t g (nxL b t)=_;have e4:nxL b t=(k:Int):=k3;rw[u67J2,e4];refine(gP ⟨oo,by show k<t.length; omega,trivial⟩).trans ?_;rfl)
  (fun s t hR hc=>by
    obtain⟨o,lv⟩:=s;obtain⟨h1,h2,h3,h4,h5⟩:=hR;have h1:lv=t:=h1;subst h1;have h5:o.length+cntT lv<=(lV b).length:=h5;have h3:o.Nodup:=h3;have h4:∀x,x∈o↔∃k,k < (lV b).length/\(!lv.getD k false)=true/\x=(k:Int):=h4;obtain⟨_,q2⟩:=loops_some hb h2 hc;obtain⟨k,k1,k2,k3,_,_⟩:=last_eq (qB b lv) _ q2;have e4:nxL b lv=(k:Int):=k3;have hk:lv.getD k false=true:=by
     unfold qB at k2;rw[ba] at k2;exact k2.1
    have hg:∀w,(lv.set k false).getD w false=if w=k then false else lv.getD w false:=fun w=>setB_get false (by omega)
    have hlt:cntT (lv.set k false)<cntT lv:=by
     refine cntT_lt _ _ (by rw[List.length_set]) (fun v hv=>?_) ⟨k,by rw[hg,if_pos rfl],hk⟩;rw[hg] at hv;split at hv
     ·cases hv
     ·exact hv
    show brR b (o++[nxL b lv],lv.set (nxL b lv).toNat false) (lv.set (nxL b lv).toNat false)/\cntT (lv.set (nxL b lv).toNat false)<cntT lv;rw[e4,Int.toNat_natCast];refine⟨⟨rfl,by rw[List.length_set]; exact h2,?_,fun x=>?_,?_⟩,hlt⟩
    ·show(o++[(k:Int)]).Nodup;rw[List.nodup_append];refine⟨h3,by simp,fun a ha c hc' e=>?_⟩;rw[List.mem_singleton] at hc';obtain⟨k',_,z2,z3⟩:=(h4 a).1 ha;have:k'=k:=by omega
     rw[this,hk] at z2;cases z2
    ·show x∈o++[(k:Int)]↔_;rw[List.mem_append,List.mem_singleton,h4];constructor
     ·rintro(⟨k',z1,z2,z3⟩ | e)
      ·refine⟨k',z1,?_,z3⟩;rw[hg];split
       ·rfl
       ·exact z2
      ·exact⟨k,k1,by rw[hg,if_pos rfl]; rfl,e⟩
     ·rintro⟨k',z1,z2,z3⟩;by_cases e:k'=k
      ·right; rw[z3,e]
      ·left;rw[hg,if_neg e] at z2;exact⟨k',z1,z2,z3⟩
    ·show(o++[(k:Int)]).length+cntT (lv.set k false)<=_;rw[List.length_append,List.length_singleton];omega)
  ([],liveV (lV b).length []) (liveV (lV b).length []) ⟨rfl,ll,List.nodup_nil,hm0,by
    have:=cntT_le (liveV (lV b).length []);show 0+_<=_;omega⟩ (by
    have:=cntT_le (liveV (lV b).length []);omega)
 have hsort:=sort_idx r3 r4;refine⟨idxV (fun k=>!t'.getD k false) (lV b).length,by have:=(idxV_len (fun k=>!t'.getD k false) (lV b).length).1; omega,fun x hx=>?_,?_,?_⟩
 ·obtain⟨k,h1,_,rfl⟩:=idxV_mem.1 hx;omega
 ·unfold u71;rw[r100 hb hnil (Nat.zero_le _),vS,gP ⟨rfl,trivial⟩,lE];refine e1.trans ?_;show u71J0 s'.1=_;have hsl:s129 s'.1=some (idxV (fun k=>!t'.getD k false) (lV b).length):=by
   unfold s129;rw[if_pos (by omega),hsort]
  rw[u71J0,hsl,vS,gP ⟨rfl,trivial⟩,lE]
 ·unfold u67;rw[r59 b hw hb,vS,gP ⟨rfl,trivial⟩,lE,r62 _ _ (by omega) (Nat.zero_le _),vS,gP ⟨rfl,trivial⟩,lE,r61 b hw hb,vS,gP ⟨rfl,trivial⟩,lE];refine e2.trans ?_;show u67J0 t'=_;rw[u67J0,<- idxV_fold];refine lF (n:=(lV b).length) (by omega) (fun(i:Nat) (s:List Int)=>((i:Int),s)) (fun i s=>if(!t'.getD i false)=true then s++[(i:Int)] else s) (fun i s=>s.length<=i) (J:=fun s=>some s) (F:=u67L6 t') (fun g i s hi hs=>?_) (fun i s hi hs=>?_) (fun g s _=>?_) [] (Nat.le_refl _)
  ·have hs:s.length<=i:=hs;have e3:((i:Int)).toNat=i:=rfl;refine(if_pos (decide_eq_true (by omega))).trans ?_;refine(gP ⟨oo,by omega,trivial⟩).trans ?_;rw[e3];by_cases h:(!t'.getD i false)=true
   ·rw[if_pos h,if_pos h];refine(gP ⟨⟨by show s.length+1<=_; omega,by show(s.length+1)*8<=_; omega⟩,trivial⟩).trans ?_;exact gP ⟨oo,trivial⟩
   ·rw[if_neg h,if_neg h];exact gP ⟨oo,trivial⟩
  ·have hs:s.length<=i:=hs;split
   ·rw[List.length_append,List.length_singleton]; omega
   ·omega
  ·exact if_neg (by rw[dq]; omega)
end
end Go.Proofs.YthobjlocnkienaaGreatDoor
end
section
namespace Go.Proofs.Xd
open Go Go.Proofs.Xl Go.Proofs.Xv
def wd:Ty->Nat
 | .pr a b=>wd a+wd b
 | .sl e=>wd e
 | .pt _=>0
 | _=>1
theorem cntM_le:∀(t:Ty) (x:den t),cntM t x<=wd t*(1+cnt t x)
 | .int _,_=>by simp[cntM,wd]
 | .bool,_=>by simp[cntM,wd]
 | .str,_=>by simp[cntM,wd]
 | .pt _,_=>by simp[cntM]
 | .sl e,xs=>by
   have key:∀l:List (den e),(l.map (cntM e)).sum<=wd e*(l.length+(l.map (cnt e)).sum):=by
    intro l
    induction l with
    | nil=>exact Nat.zero_le _
    | cons a r ih =>
      have h1:=cntM_le e a;rw[List.map_cons,List.sum_cons,List.map_cons,List.sum_cons,List.length_cons];have e1:wd e*(r.length+1+(cnt e a+(r.map (cnt e)).sum))=wd e*(1+cnt e a)+wd e*(r.length+(r.map (cnt e)).sum):=by
       rw[<- Nat.mul_add]; congr 1; omega
      omega
   refine Nat.le_trans (key xs) ?_;show _<=wd e*(1+(xs.length+(xs.map (cnt e)).sum));exact Nat.mul_le_mul_left _ (by omega)
 | .pr a b,x=>by
   have h1:=cntM_le a x.1;have h2:=cntM_le b x.2;show cntM a x.1+cntM b x.2<=(wd a+wd b)*(1+(cnt a x.1+cnt b x.2));have h3:wd a*(1+cnt a x.1)<=wd a*(1+(cnt a x.1+cnt b x.2)):=Nat.mul_le_mul_left _ (by omega);have h4:wd b*(1+cnt b x.2)<=wd b*(1+(cnt a x.1+cnt b x.2)):=Nat.mul_le_mul_left _ (by omega);rw[Nat.add_mul];omega
theorem cntM_bd{t:Ty}{x:den t}{k:Nat}(h:cnt t x<=1048576)(hw:wd t<=k):(cntM t x:Int)<=(k*1048577:Nat):=by
 have h1:=cntM_le t x;have h2:wd t*(1+cnt t x)<=k*1048577:=Nat.mul_le_mul hw (by omega);omega
theorem mkI_get:∀(m:Nat) (k:Int) (i:Nat),i<m->(mkI k m).getD i 0=k+(i:Int)
 | m+1,k,0,_=>by simp[mkI]
 | m+1,k,i+1,h=>by
   rw[mkI,List.getD_cons_succ,mkI_get m (k+1) i (by omega)];omega
theorem fold_one:∀n:Nat,fN (fun _ (v:Int)=>v+1) n 1=1+((1*n:Nat):Int)
 | 0=>rfl
 | n+1=>by rw[fN,fold_one n]; omega
end Go.Proofs.Xd
end
section
namespace Go.Proofs.YthobjlocnkienaaGreatDoor
open Go Go.Proofs Go.Proofs.Sv Go.Proofs.Xv Go.Proofs.Xl Go.Proofs.Xd
theorem br_both(b:Y46)(hw:wf y46 b)(hm:cnt y46 b<=1048576):∃l c,u33 b=some (l,c)/\u34 b=some (l,c)/\l.length<=6000:=by
 unfold u33 u34;rw[r69 b hw hm,r66 b hw hm,vS];cases hb:blockOk b with
 | false =>
   refine⟨[],1,(gP ⟨rfl,trivial⟩).trans rfl,(gP ⟨rfl,trivial⟩).trans rfl,Nat.zero_le _⟩
 | true =>
   obtain⟨l,h1,_,h2,h3⟩:=brk_eq hw hb;refine⟨l,0,(gP ⟨rfl,trivial⟩).trans ?_,(gP ⟨rfl,trivial⟩).trans ?_,h1⟩
   ·refine(if_neg (by simp)).trans ?_;rw[h3,vS,gP ⟨rfl,trivial⟩,lE]
   ·refine(if_neg (by simp)).trans ?_;rw[r70 b hw hb,vS,h2,vS,gP ⟨rfl,rfl,trivial⟩,lE]
theorem r19(n:Nat)(hn:n<=4611686018427387904):u19 (mkI 1 n) (1:Int)=some (1+((1*n:Nat):Int)):=by
 have hl:=mkI_len n 1;rw[<- fold_one n];refine lF (n:=n) (by omega) (fun i (s:Int)=>(s,(i:Int))) (fun _ s=>s+1) (fun i s=>s=1+(i:Int)) (J:=u19J0) (F:=u19L1 (mkI 1 n)) (fun g i s hi hs=>?_) (fun i s hi hs=>by subst hs; omega) (fun g s _=>if_neg (by rw[hl]; simp)) _ rfl;subst hs;refine(if_pos (decide_eq_true (by rw[hl]; omega))).trans ?_;refine(gP ⟨⟨by omega,by rw[hl]; omega⟩,trivial⟩).trans ?_;have e:(i:Int).toNat=i:=rfl;rw[e,mkI_get n 1 i hi];refine(if_neg (by simp)).trans ?_;refine(gP ⟨oo,trivial⟩).trans ?_;exact gP ⟨oo,trivial⟩
theorem cnt_len{br:List Int}(h:br.length<=1048576):cnt (.sl (.int .i64)) br<=1048576:=by
 have e:cnt (.sl (.int .i64)) br=br.length+0:=cnt_ints;omega
theorem r9(b:Y32)(hw:wf y32 b):G9 b:=by
 refine⟨_,z10 b 1048576 hw (by decide) (by decide),fun h0=>?_⟩;have hm:cnt y32 b<=1048576:=by
  unfold szN at h0;split at h0 <;> omega
 obtain⟨l,c,h1,h2,h3⟩:=br_both b hw hm;have k1:=cntM_bd (t:=y46) (x:=b) (k:=64) hm (by decide);exact⟨l,c,⟨w12 b hm,h1,h2,e15 _ (cnt_len (by omega)),e16 b hm,by omega,by omega,r19 _ (by omega)⟩⟩
end Go.Proofs.YthobjlocnkienaaGreatDoor
end
