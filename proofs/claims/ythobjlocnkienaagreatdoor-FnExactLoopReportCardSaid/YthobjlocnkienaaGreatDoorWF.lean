/- Reachability in a graph: a row of nodes to be looked at, and sweeps until nothing turns: both find the same. -/
import Derived.Test.YthobjlocnkienaaGreatDoorWB
import Derived.Test.YthobjlocnkienaaGreatDoorWE
import Derived.Test.YthobjlocnkienaaGreatDoorFn25d
section
namespace Go.Proofs.Xd
open Go.Proofs.Xl
inductive Rch(M:Nat)(fr to:Nat->Nat)(lv:Nat->Bool)(s:Nat):Nat->Prop
 | refl:Rch M fr to lv s s
 | step {i:Nat}:Rch M fr to lv s (fr i)->i<M->lv i=true->Rch M fr to lv s (to i)
theorem Rch.trans{M:Nat}{fr to:Nat->Nat}{lv:Nat->Bool}{a b c:Nat}(h:Rch M fr to lv a b)(k:Rch M fr to lv b c):Rch M fr to lv a c:=by
 induction k with
 | refl=>exact h
 | step _ hi hl ih=>exact ih.step hi hl
theorem Rch.one{M:Nat}{fr to:Nat->Nat}{lv:Nat->Bool}{i:Nat}(hi:i<M)(hl:lv i=true):Rch M fr to lv (fr i) (to i):=Rch.refl.step hi hl
theorem Rch.head{M:Nat}{fr to:Nat->Nat}{lv:Nat->Bool}{i c:Nat}(hi:i<M)(hl:lv i=true)(k:Rch M fr to lv (to i) c):Rch M fr to lv (fr i) c:=(Rch.one hi hl).trans k
theorem Rch.back{M:Nat}{fr to:Nat->Nat}{lv:Nat->Bool}{a b:Nat}(h:Rch M fr to lv a b):Rch M to fr lv b a:=by
 induction h with
 | refl=>exact .refl
 | step _ hi hl ih=>exact Rch.head hi hl ih
theorem Rch.lt{M N:Nat}{fr to:Nat->Nat}{lv:Nat->Bool}(ht:∀i,i<M->to i<N){a b:Nat}(h:Rch M fr to lv a b)(ha:a<N):b<N:=by
 cases h with
 | refl=>exact ha
 | step _ hi _=>exact ht _ hi
section
variable (M N:Nat) (fr to:Nat->Nat) (lv:Nat->Bool)
def RB(s:Nat)(L:List Bool):Prop:=L.length=N/\∀v,v<N->(L.getD v false=true↔Rch M fr to lv s v)
theorem RB.uniq{M N:Nat}{fr to:Nat->Nat}{lv:Nat->Bool}{s:Nat}{L K:List Bool}(h:RB M N fr to lv s L)(k:RB M N fr to lv s K):L=K :=
 list_eq false (h.1.trans k.1.symm) fun i hi=>by
  have hi':i<N:=by rw[<- h.1]; exact hi
  rw[Bool.eq_iff_iff,h.2 i hi',k.2 i hi']
structure RI(s:Nat)(r:List Bool):Prop where
 len:r.length=N
 src:r.getD s false=true
 snd:∀v,r.getD v false=true->Rch M fr to lv s v
theorem RI.done{M N:Nat}{fr to:Nat->Nat}{lv:Nat->Bool}{s:Nat}{r:List Bool}(h:RI M N fr to lv s r)(hc:∀i,i<M->lv i=true->r.getD (fr i) false=true->r.getD (to i) false=true):RB M N fr to lv s r :=
 ⟨h.len,fun v hv=>⟨h.snd v,fun hr=>by
   clear hv
   induction hr with
   | refl=>exact h.src
   | step _ hi hl ih=>exact hc _ hi hl ih⟩⟩
def cntT(r:List Bool):Nat:=r.countP id
theorem cntT_set{r:List Bool}{i:Nat}(hi:i<r.length)(h:r.getD i false=false):cntT (r.set i true)=cntT r+1:=by
 induction r generalizing i with
 | nil=>simp at hi
 | cons a t ih =>
   cases i with
   | zero =>
     simp only[List.getD_cons_zero] at h;subst h;simp[cntT]
   | succ i =>
     have:=ih (i:=i) (by simpa using hi) (by simpa using h);unfold cntT at this ⊢;rw[List.set_cons_succ,List.countP_cons,List.countP_cons,this];omega
theorem cntT_le(r:List Bool):cntT r<=r.length:=List.countP_le_length
def swS(k:Nat)(s:List Bool×Bool):List Bool×Bool:=if(lv k&&s.1.getD (fr k) false&&!s.1.getD (to k) false)=true then(s.1.set (to k) true,true) else s
theorem sw_fold(ht:∀i,i<M->to i<N){s:Nat}{r:List Bool}(h:RI M N fr to lv s r):∀m,m<=M->RI M N fr to lv s (fN (swS fr to lv) m (r,false)).1 /\
  ((fN (swS fr to lv) m (r,false)).2=false->(fN (swS fr to lv) m (r,false)).1=r/\∀i,i<m->lv i=true->r.getD (fr i) false=true->r.getD (to i) false=true) /\
  ((fN (swS fr to lv) m (r,false)).2=true->cntT r<cntT (fN (swS fr to lv) m (r,false)).1)/\cntT r<=cntT (fN (swS fr to lv) m (r,false)).1:=by
 intro m
 induction m with
 | zero=>intro _; exact⟨h,fun _=>⟨rfl,fun i hi=>by omega⟩,(fun h=>by cases h),Nat.le_refl _⟩
 | succ m ih =>
   intro hm;obtain⟨i1,i2,i3,i4⟩:=ih (by omega);show RI M N fr to lv s (swS fr to lv m (fN (swS fr to lv) m (r,false))).1/\((swS fr to lv m (fN (swS fr to lv) m (r,false))).2=false->(swS fr to lv m (fN (swS fr to lv) m (r,false))).1=r/\_)/\((swS fr to lv m (fN (swS fr to lv) m (r,false))).2=true->_<cntT (swS fr to lv m (fN (swS fr to lv) m (r,false))).1)/\_<=cntT (swS fr to lv m (fN (swS fr to lv) m (r,false))).1;generalize fN (swS fr to lv) m (r,false)=q at i1 i2 i3 i4 ⊢;unfold swS;split
   ·rename_i hc;simp only[ba,Bool.not_eq_true'] at hc;obtain⟨⟨c1,c2⟩,c3⟩:=hc;have hlt:to m<q.1.length:=by rw[i1.len]; exact ht m (by omega)
    have hcs:=cntT_set hlt c3;refine⟨⟨by rw[List.length_set,i1.len],?_,fun v hv=>?_⟩,(fun h=>by cases h),fun _=>by show cntT r<cntT (q.1.set (to m) true); omega,by show cntT r<=cntT (q.1.set (to m) true); omega⟩
    ·show(q.1.set (to m) true).getD s false=true;rw[setB_get true hlt];split
     ·rfl
     ·exact i1.src
    ·rw[setB_get true hlt] at hv;split at hv
     ·rename_i e;subst e;exact(i1.snd _ c2).step (by omega) c1
     ·exact i1.snd v hv
   ·rename_i hc;refine⟨i1,fun h2=>?_,i3,i4⟩;obtain⟨e,hh⟩:=i2 h2;refine⟨e,fun i hi hl hf=>?_⟩;rcases Nat.lt_or_ge i m with h' | h'
    ·exact hh i h' hl hf
    ·have:i=m:=by omega
     subst this;rw[e,hl,hf] at hc;cases ht:r.getD (to i) false with
     | true=>rfl
     | false=>rw[ht] at hc; exact absurd rfl hc
theorem sweep_lp{ρ:Type}(ht:∀i,i<M->to i<N)(hN:N<=1000000){s:Nat}(hs:s<N){F:(List Bool×Bool->Option ρ)->List Bool×Bool->Option ρ}{J:List Bool->Option ρ}
  (hF:∀g (q:List Bool×Bool),q.1.length=N->F g q=if q.2=true then g (fN (swS fr to lv) M (q.1,false)) else J q.1):∃L,RB M N fr to lv s L/\lp F ((List.replicate N false).set s true,true)=J L:=by
 have h0:RI M N fr to lv s ((List.replicate N false).set s true):=by
  have hl:s < (List.replicate N false).length:=by rw[List.length_replicate]; exact hs
  refine⟨by rw[List.length_set,List.length_replicate],by rw[setB_get true hl,if_pos rfl],fun v hv=>?_⟩;rw[setB_get true hl] at hv;split at hv
  ·rename_i e; subst e; exact .refl
  ·simp[gq,List.getElem?_replicate] at hv;split at hv <;> simp at hv
 obtain⟨q,⟨_,hq⟩,hc,he⟩:=lp_meas (J:=fun q:List Bool×Bool=>J q.1) (fun q=>2*(N-cntT q.1)+q.2.toNat) (fun q=>RI M N fr to lv s q.1/\(q.2=false->RB M N fr to lv s q.1)) (fun q=>q.2) (fun q=>fN (swS fr to lv) M (q.1,false))
  (fun g q hq=>hF g q hq.1.len) (fun q hq hc=>by
    obtain⟨i1,i2,i3,i4⟩:=sw_fold M N fr to lv ht hq.1 M (Nat.le_refl _);refine⟨⟨i1,fun h=>?_⟩,?_⟩
    ·obtain⟨e,hh⟩:=i2 h;rw[e];exact hq.1.done hh
    ·have l1:=cntT_le (fN (swS fr to lv) M (q.1,false)).1;rw[i1.len] at l1;show 2*(N-cntT (fN (swS fr to lv) M (q.1,false)).1)+(fN (swS fr to lv) M (q.1,false)).2.toNat<2*(N-cntT q.1)+q.2.toNat;rw[hc];cases h:(fN (swS fr to lv) M (q.1,false)).2 with
     | true=>have:=i3 h; simp; omega
     | false=>simp; omega) (((List.replicate N false).set s true),true) ⟨h0,fun h=>by cases h⟩ (by show 2*(N-cntT _)+1<=_; omega)
 exact⟨q.1,hq hc,he⟩
def cntU(r:List Bool):Nat:=(List.range M).countP fun i=>lv i&&!r.getD (fr i) false
def nxtV(v:Nat):List Int:=((List.range M).filter fun i=>lv i&&fr i==v).map fun i=>(to i:Int)
structure QI(s:Nat)(q:List Int×List Bool):Prop where
 len:q.2.length=N
 mem:∀x∈q.1,0<=x/\x.toNat<N/\Rch M fr to lv s x.toNat
 snd:∀v,q.2.getD v false=true->Rch M fr to lv s v
 src:q.2.getD s false=true∨(s:Int)∈q.1
 cls:∀i,i<M->lv i=true->q.2.getD (fr i) false=true->q.2.getD (to i) false=true∨(to i:Int)∈q.1
 cnt:q.1.length+cntU M fr lv q.2<=M+1
def quN(q:List Int×List Bool):List Int×List Bool:=if q.2.getD (q.1.getD 0 0).toNat false=true then(q.1.drop 1,q.2) else(q.1.drop 1++nxtV M fr to lv (q.1.getD 0 0).toNat,q.2.set (q.1.getD 0 0).toNat true)
theorem cntU_set{r:List Bool}{x:Nat}(hx:x<r.length)(h:r.getD x false=false):cntU M fr lv r=(nxtV M fr to lv x).length+cntU M fr lv (r.set x true):=by
 have e:(nxtV M fr to lv x).length=(List.range M).countP fun i=>lv i&&fr i==x:=by
  unfold nxtV;rw[List.length_map,List.countP_eq_length_filter]
 rw[e];unfold cntU;refine countP_split _ _ _ _ fun i _=>?_;rw[setB_get true hx];by_cases hf:fr i=x
 ·rw[if_pos hf,hf,h];cases lv i <;> simp
 ·rw[if_neg hf];have:(fr i==x)=false:=by simpa using hf
  rw[this];cases lv i <;> simp
theorem qu_step(ht:∀i,i<M->to i<N){s:Nat}{q:List Int×List Bool}(h:QI M N fr to lv s q)(hq:0<q.1.length):QI M N fr to lv s (quN M fr to lv q)/\(quN M fr to lv q).1.length+cntU M fr lv (quN M fr to lv q).2<q.1.length+cntU M fr lv q.2:=by
 obtain⟨o,r⟩:=q;cases o with
 | nil=>simp at hq
 | cons x t =>
   obtain⟨x0,x1,x2⟩:=h.mem x (by simp);have hl:=h.len;have hx:x.toNat<r.length:=by rw[show r.length=N from hl]; exact x1
   unfold quN;simp only[List.getD_cons_zero,List.drop_succ_cons,List.drop_zero];by_cases hr:r.getD x.toNat false=true
   ·rw[if_pos hr];have hxx:(x.toNat:Int)=x:=by omega
    refine⟨⟨hl,fun y hy=>h.mem y (List.mem_cons_of_mem _ hy),h.snd,?_,fun i hi hv hf=>?_,?_⟩,?_⟩
    ·rcases h.src with h' | h'
     ·exact .inl h'
     ·rcases List.mem_cons.1 h' with e | e
      ·left; rw[show s=x.toNat by omega]; exact hr
      ·exact .inr e
    ·rcases h.cls i hi hv hf with h' | h'
     ·exact .inl h'
     ·rcases List.mem_cons.1 h' with e | e
      ·left; rw[show to i=x.toNat by omega]; exact hr
      ·exact .inr e
    ·have h9:(x :: t).length+cntU M fr lv r<=M+1:=h.cnt;rw[List.length_cons] at h9;show t.length+cntU M fr lv r<=_;omega
    ·show t.length+cntU M fr lv r < (x :: t).length+cntU M fr lv r;simp
   ·rw[if_neg hr];have hr:r.getD x.toNat false=false:=by simpa using hr
    have hcu:=cntU_set M fr to lv hx hr;have hget:=fun v=>setB_get (v:=v) true hx;refine⟨⟨by show(r.set _ true).length=N; rw[List.length_set]; exact hl,fun y hy=>?_,fun v hv=>?_,?_,fun i hi hv hf=>?_,?_⟩,?_⟩
    ·rcases List.mem_append.1 hy with hy | hy
     ·exact h.mem y (List.mem_cons_of_mem _ hy)
     ·unfold nxtV at hy;obtain⟨i,hi,rfl⟩:=List.mem_map.1 hy;rw[List.mem_filter,List.mem_range] at hi;simp only[ba,beq_iff_eq] at hi;exact⟨by omega,by simpa using ht i hi.1,by
       rw[Int.toNat_natCast];refine Rch.step ?_ hi.1 hi.2.1;rw[hi.2.2]; exact x2⟩
    ·have hv:(r.set x.toNat true).getD v false=true:=hv;rw[hget] at hv;split at hv
     ·rename_i e; subst e; exact x2
     ·exact h.snd v hv
    ·show(r.set x.toNat true).getD s false=true∨_;rw[hget];split
     ·exact .inl rfl
     ·rename_i hne;rcases h.src with h' | h'
      ·exact .inl h'
      ·rcases List.mem_cons.1 h' with e | e
       ·exact(hne (by omega)).elim
       ·exact .inr (List.mem_append_left _ e)
    ·have hf:(r.set x.toNat true).getD (fr i) false=true:=hf;show(r.set x.toNat true).getD (to i) false=true∨(to i:Int)∈t++nxtV M fr to lv x.toNat;rw[hget] at hf ⊢;by_cases e:fr i=x.toNat
     ·right;refine List.mem_append_right _ ?_;unfold nxtV;refine List.mem_map.2 ⟨i,?_,rfl⟩;rw[List.mem_filter,List.mem_range];exact⟨hi,by simp[hv,e]⟩
     ·rw[if_neg e] at hf;by_cases e2:to i=x.toNat
      ·left; rw[if_pos e2]
      ·rw[if_neg e2];rcases h.cls i hi hv hf with h' | h'
       ·exact .inl h'
       ·rcases List.mem_cons.1 h' with e' | e'
        ·exact(e2 (by omega)).elim
        ·exact .inr (List.mem_append_left _ e')
    ·have:=h.cnt;simp only[List.length_cons] at this;show(t++nxtV M fr to lv x.toNat).length+cntU M fr lv (r.set x.toNat true)<=_;rw[List.length_append];omega
    ·show(t++nxtV M fr to lv x.toNat).length+cntU M fr lv (r.set x.toNat true) < (x :: t).length+cntU M fr lv r;rw[List.length_append,List.length_cons];omega
theorem queue_lp{ρ:Type}(ht:∀i,i<M->to i<N)(hM:M<=2000000){s:Nat}(hs:s<N){F:(List Int×List Bool->Option ρ)->List Int×List Bool->Option ρ}{J:List Bool->Option ρ}
  (hF:∀g (q:List Int×List Bool),q.2.length=N->(∀x∈q.1,0<=x/\x.toNat<N)->q.1.length<=M+1->F g q=if decide (0<q.1.length)=true then g (quN M fr to lv q) else J q.2):∃L,RB M N fr to lv s L/\lp F ([(s:Int)],List.replicate N false)=J L:=by
 have hrep:∀v,(List.replicate N false).getD v false=false:=fun v=>by
  simp[gq,List.getElem?_replicate];split <;> rfl
 have h0:QI M N fr to lv s ([(s:Int)],List.replicate N false):=by
  refine⟨by simp,fun x hx=>?_,fun v hv=>?_,.inr (by simp),fun i _ _ hf=>?_,?_⟩
  ·rw[List.mem_singleton.1 hx];exact⟨by omega,by simpa using hs,by rw[Int.toNat_natCast]; exact .refl⟩
  ·rw[show([(s:Int)],List.replicate N false).2=List.replicate N false from rfl,hrep] at hv; cases hv
  ·rw[show([(s:Int)],List.replicate N false).2=List.replicate N false from rfl,hrep] at hf; cases hf
  ·have:cntU M fr lv (List.replicate N false)<=M:=by unfold cntU; exact countP_rng _
   show 1+cntU M fr lv (List.replicate N false)<=M+1;omega
 obtain⟨q,hq,hc,he⟩:=lp_meas (J:=fun q:List Int×List Bool=>J q.2) (fun q=>q.1.length+cntU M fr lv q.2) (QI M N fr to lv s) (fun q=>decide (0<q.1.length)) (quN M fr to lv)
  (fun g q hq=>hF g q hq.len (fun x hx=>⟨(hq.mem x hx).1,(hq.mem x hx).2.1⟩) (by have:=hq.cnt; omega)) (fun q hq hc=>qu_step M N fr to lv ht hq (of_decide_eq_true hc)) _ h0 (by have h9:[(s:Int)].length+cntU M fr lv (List.replicate N false)<=M+1:=h0.cnt; show [(s:Int)].length+cntU M fr lv (List.replicate N false)<=_; omega)
 have hnil:q.1=[]:=List.eq_nil_of_length_eq_zero (by have:=of_decide_eq_false hc; omega);refine⟨q.2,RI.done ⟨hq.len,?_,hq.snd⟩ fun i hi hl hf=>?_,he⟩
 ·rcases hq.src with h | h
  ·exact h
  ·rw[hnil] at h; cases h
 ·rcases hq.cls i hi hl hf with h | h
  ·exact h
  ·rw[hnil] at h; cases h
theorem rb_fun(ht:∀i,i<M->to i<N)(hN:N<=1000000){s:Nat}(hs:s<N):∃L,RB M N fr to lv s L:=by
 obtain⟨L,h,_⟩:=sweep_lp (ρ:=Unit) M N fr to lv ht hN hs (F:=fun g q=>if q.2=true then g (fN (swS fr to lv) M (q.1,false)) else none) (J:=fun _=>none) (fun _ _ _=>rfl);exact⟨L,h⟩
end
end Go.Proofs.Xd
end
section
namespace Go.Proofs.YthobjlocnkienaaGreatDoor
open Go Go.Proofs Go.Proofs.Sv Go.Proofs.Xv Go.Proofs.Xl Go.Proofs.Xd
theorem lp_mk{σ τ ρ:Type}(mk:σ->τ){F:(τ->Option ρ)->τ->Option ρ}{G:(σ->Option ρ)->σ->Option ρ}(h:∀g s,F g (mk s)=G (fun s=>g (mk s)) s)(s:σ):lp F (mk s)=lp G s:=by
 have key:∀n s,itF F n (mk s)=itF G n s:=by
  intro n
  induction n with
  | zero=>intro s; rfl
  | succ n ih =>
    intro s;show F (itF F n) (mk s)=G (itF G n) s;rw[h];congr 1;exact funext fun s=>ih s
 exact key _ s
theorem nxtV_succ(fr to:Nat->Nat)(lv:Nat->Bool)(v k:Nat):nxtV (k+1) fr to lv v=if(lv k&&fr k==v)=true then nxtV k fr to lv v++[(to k:Int)] else nxtV k fr to lv v:=by
 unfold nxtV;rw[List.range_succ,List.filter_append,List.map_append];by_cases h:(lv k&&fr k==v)=true
 ·rw[if_pos h]; simp only[List.filter_cons,h,if_true,List.filter_nil,List.map_cons,List.map_nil]
 ·rw[if_neg h]; simp only[List.filter_cons,h,Bool.false_eq_true,if_false,List.filter_nil,List.map_nil,List.append_nil]
theorem nxtV_len(fr to:Nat->Nat)(lv:Nat->Bool)(v k:Nat):(nxtV k fr to lv v).length<=k:=by
 unfold nxtV;rw[List.length_map];have:=List.length_filter_le (fun i=>lv i&&fr i==v) (List.range k)
 rwa [List.length_range] at this
def grF(fr to:Nat->Nat)(lv:Nat->Bool)(k:Nat)(s:List (List Int)):List (List Int):=if lv k=true then s.set (fr k) (s.getD (fr k) []++[(to k:Int)]) else s
theorem setL_get{o:List (List Int)}{i v:Nat}(x:List Int)(hi:i<o.length):(o.set i x).getD v []=if v=i then x else o.getD v []:=by
 by_cases h:v=i
 ·subst h; simp[hi]
 ·rw[if_neg h]; simp[gq,List.getElem?_set_ne (Ne.symm h)]
theorem grF_step{N:Nat}(fr to:Nat->Nat)(lv:Nat->Bool){k:Nat}{s:List (List Int)}(hf:fr k<N)(hs:s.length=N/\∀v,s.getD v []=nxtV k fr to lv v):(grF fr to lv k s).length=N/\∀v,(grF fr to lv k s).getD v []=nxtV (k+1) fr to lv v:=by
 obtain⟨h1,h2⟩:=hs;unfold grF;cases hl:lv k with
 | false =>
   refine⟨h1,fun v=>?_⟩;rw[nxtV_succ,hl,if_neg (by simp),if_neg (by simp)];exact h2 v
 | true =>
   rw[if_pos rfl];refine⟨by rw[List.length_set,h1],fun v=>?_⟩;rw[setL_get _ (by omega),nxtV_succ,hl];by_cases e:v=fr k
   ·subst e; rw[if_pos rfl,if_pos (by simp),h2]
   ·rw[if_neg e,if_neg (by simp; exact fun h=>e h.symm),h2]
section
variable {b:Y46}
def srcN(b:Y46)(fw:Bool):Nat->Nat:=if fw=true then frN b else toN b
def dstN(b:Y46)(fw:Bool):Nat->Nat:=if fw=true then toN b else frN b
theorem srcN_lt(hb:blockOk b=true)(fw:Bool){i:Nat}(hi:i < (lV b).length):srcN b fw i<nodN b/\dstN b fw i<nodN b:=by
 obtain⟨_,_,h1,h2⟩:=frto b hb hi;cases fw
 ·exact⟨h2,h1⟩
 ·exact⟨h1,h2⟩
theorem r79(hb:blockOk b=true){lv:List Bool}(hlv:lv.length=(lV b).length){s:Nat}(hs:s<nodN b)(fw:Bool):∃L,RB (lV b).length (nodN b) (srcN b fw) (dstN b fw) (fun i=>lv.getD i false) s L/\u79 (nodN b:Int) (lV b) lv (s:Int) fw=some L:=by
 have hM:=links_len hb;have hN:=nod_le b hb;unfold u79;have e0:((nodN b:Int)).toNat=nodN b:=rfl;have e1:((s:Int)).toNat=s:=rfl;rw[e0,e1,gP ⟨⟨by omega,rfl,by omega,by omega⟩,trivial⟩,gP ⟨by rw[List.length_replicate]; exact oo,by rw[List.length_replicate]; exact hs,trivial⟩];obtain⟨L,h1,h2⟩:=sweep_lp (ρ:=List Bool) (lV b).length (nodN b) (srcN b fw) (dstN b fw) (fun i=>lv.getD i false) (fun i hi=>(srcN_lt hb fw hi).2) hN hs (F:=fun g q=>u79L1 lv fw (lV b) (fun t=>g (t.2,t.1)) (q.2,q.1)) (J:=fun L=>some L) (fun g q hq=>by
  obtain⟨r,c⟩:=q;cases c with
  | false=>rfl
  | true =>
    refine Eq.trans (if_pos (c:=(true:Bool)=true) (t:=lp (u79L2 lv fw (lV b) fun t=>g (t.2,t.1)) (false,0,r)) (e:=u79J0 r) rfl) ?_;show _=g (fN (swS (srcN b fw) (dstN b fw) fun i=>lv.getD i false) (lV b).length (r,false));refine lF (n:=(lV b).length) (by omega) (fun(k:Nat) (s:List Bool×Bool)=>(s.2,(k:Int),s.1)) (swS (srcN b fw) (dstN b fw) fun i=>lv.getD i false) (fun _ s=>s.1.length=nodN b) (J:=fun s=>g (s.1,s.2)) (F:=u79L2 lv fw (lV b) fun t=>g (t.2,t.1)) (fun g' k s hk hI=>?_) (fun k s hk hI=>?_) (fun g' s _=>aE) (r,false) hq
    ·obtain⟨a1,a2,_,_⟩:=frto b hb hk;obtain⟨l1,l2⟩:=srcN_lt hb fw hk;have hI:s.1.length=nodN b:=hI;have e3:((k:Int)).toNat=k:=rfl;have key:u79J4 (k:Int) s.1 s.2 lv g' ((srcN b fw k:Int),(dstN b fw k:Int))=g' ((swS (srcN b fw) (dstN b fw) (fun i=>lv.getD i false) k s).2,((k+1:Nat):Int),(swS (srcN b fw) (dstN b fw) (fun i=>lv.getD i false) k s).1):=by
      refine(gP ⟨oo,(fun _=>oo),(fun _=>by omega),(fun _=>oo),(fun _=>by omega),trivial⟩).trans ?_;unfold swS;by_cases h:(lv.getD k false&&s.1.getD (srcN b fw k) false&&!s.1.getD (dstN b fw k) false)=true
      ·rw[if_pos h];refine(if_pos h).trans ?_;refine(gP ⟨oo,by omega,trivial⟩).trans ?_;exact gP ⟨oo,trivial⟩
      ·rw[if_neg h];refine(if_neg h).trans ?_;exact gP ⟨oo,trivial⟩
     refine(if_pos (by simpa using hk)).trans ?_;refine(gP ⟨oo,oo,trivial⟩).trans ?_;rw[lE,e3];cases fw with
     | false =>
       refine(if_pos rfl).trans ?_;rw[a1,a2];exact key
     | true =>
       refine(if_neg (by simp)).trans ?_;rw[a1,a2];exact key
    ·have hI:s.1.length=nodN b:=hI;unfold swS;split
     ·show(s.1.set _ true).length=_;rw[List.length_set]; exact hI
     ·exact hI)
 refine⟨L,h1,Eq.trans ?_ h2⟩;exact lp_mk (fun q:List Bool×Bool=>(q.2,q.1)) (fun g s=>rfl) ((List.replicate (nodN b) false).set s true,true)
theorem r44c52(hb:blockOk b=true){lv:List Bool}(hlv:lv.length=(lV b).length){s':Nat}(hs:s'<nodN b):∃L,RB (lV b).length (nodN b) (srcN b true) (dstN b true) (fun i=>lv.getD i false) s' L/\u44c52 (viewV b,lv) [(s':Int)]=some L:=by
 have hM:=links_len hb;have hN:=nod_le b hb;unfold u44c52;have e0:((nodN b:Int)).toNat=nodN b:=rfl;have en:u86 ((viewV b,lv):Y113×List Bool).1=some (nodN b:Int):=r86 b hb;rw[en,vS,e0,gP ⟨rfl,⟨by omega,rfl,by omega,by omega⟩,trivial⟩,lE];have hg0:(List.replicate (nodN b) ([]:List Int)).length=nodN b/\∀v,(List.replicate (nodN b) ([]:List Int)).getD v []=nxtV 0 (srcN b true) (dstN b true) (fun i=>lv.getD i false) v:=⟨List.length_replicate,fun v=>by
  rw[gq,List.getElem?_replicate];split <;> rfl⟩
 obtain⟨L,h1,h2⟩:=queue_lp (ρ:=List Bool) (lV b).length (nodN b) (srcN b true) (dstN b true) (fun i=>lv.getD i false) (fun i hi=>(srcN_lt hb true hi).2) (by omega) hs (F:=u44c52L4 (fN (grF (srcN b true) (dstN b true) fun i=>lv.getD i false) (lV b).length (List.replicate (nodN b) []))) (J:=fun L=>some L) (fun g q hq hm hl=>by
  obtain⟨o,r⟩:=q;have hgr:∀m,m<=(lV b).length->(fN (grF (srcN b true) (dstN b true) fun i=>lv.getD i false) m (List.replicate (nodN b) [])).length=nodN b/\∀v,(fN (grF (srcN b true) (dstN b true) fun i=>lv.getD i false) m (List.replicate (nodN b) [])).getD v []=nxtV m (srcN b true) (dstN b true) (fun i=>lv.getD i false) v:=by
   intro m
   induction m with
   | zero=>intro _; exact hg0
   | succ m ih=>intro hm; exact grF_step _ _ _ (srcN_lt hb true (by omega)).1 (ih (by omega))
  obtain⟨g1,g2⟩:=hgr _ (Nat.le_refl _);generalize fN (grF (srcN b true) (dstN b true) fun i=>lv.getD i false) (lV b).length (List.replicate (nodN b) [])=gr at g1 g2;have hq:r.length=nodN b:=hq;have hl:o.length<=(lV b).length+1:=hl;by_cases h0:0<o.length
  ·refine Eq.trans ?_ (if_pos (decide_eq_true h0)).symm;obtain⟨x0,x1⟩:=hm (o.getD 0 0) (getD_mem h0);refine(if_pos (decide_eq_true (by omega))).trans ?_;refine(gP ⟨oo,by show 0<o.length; omega,trivial⟩).trans ?_;refine(gP ⟨⟨by omega,by omega,by omega⟩,trivial⟩).trans ?_;show gd (ix (o.getD 0 0) r.length/\(o.getD 0 0).toNat<r.length/\True) (if(!r.getD (o.getD 0 0).toNat false)=true then _ else _)=_;refine(gP ⟨oo,by omega,trivial⟩).trans ?_;unfold quN;show _=g (if r.getD (o.getD 0 0).toNat false=true then(o.drop 1,r) else(o.drop 1++nxtV (lV b).length (srcN b true) (dstN b true) (fun i=>lv.getD i false) (o.getD 0 0).toNat,r.set (o.getD 0 0).toNat true));cases hr:r.getD (o.getD 0 0).toNat false with
   | true =>
     refine(if_neg (by simp)).trans ?_;rw[if_pos rfl];rfl
   | false =>
     refine(if_pos rfl).trans ?_;rw[if_neg (by simp)];refine(gP ⟨⟨by show 0<=o.getD 0 0; omega,by show o.getD 0 0<_; omega⟩,by show(o.getD 0 0).toNat<_; omega,trivial⟩).trans ?_;rw[lE];have hl':o.length<=(lV b).length+1:=hl;have hd:(o.drop 1).length<=(lV b).length:=by rw[List.length_drop]; omega
     have hnl:=nxtV_len (srcN b true) (dstN b true) (fun i=>lv.getD i false) (o.getD 0 0).toNat (lV b).length;have e5:gr.getD (Int.toNat (o.getD (Int.toNat (0:Int)) (0:Int))) []=nxtV (lV b).length (srcN b true) (dstN b true) (fun i=>lv.getD i false) (o.getD 0 0).toNat:=g2 _;rw[e5];refine(gP ⟨⟨by show 0<=o.getD 0 0; omega,by show o.getD 0 0<_; omega⟩,⟨by show(o.drop 1).length+_<=_; omega,by show((o.drop 1).length+_)*8<=_; omega⟩,trivial⟩).trans ?_;rw[lE];rfl
  ·refine Eq.trans ?_ (if_neg (by simpa using h0)).symm;exact if_neg (by show ¬decide ((0:Int) < (o.length:Int))=true; rw[dq]; omega))
 refine⟨L,h1,?_⟩;refine(lF (n:=(lV b).length) (by omega) (fun(k:Nat) (s:List (List Int))=>((k:Int),s)) (grF (srcN b true) (dstN b true) fun i=>lv.getD i false) (fun k s=>s.length=nodN b/\∀v,s.getD v []=nxtV k (srcN b true) (dstN b true) (fun i=>lv.getD i false) v) (J:=fun s=>u44c52J0 [(s':Int)] (viewV b,lv) s) (F:=u44c52L1 (viewV b,lv) [(s':Int)]) (fun g k s hk hI=>?_) (fun k s hk hI=>grF_step _ _ _ (srcN_lt hb true hk).1 hI) (fun g s _=>aE) _ hg0).trans ?_
 ·obtain⟨a1,a2,_,_⟩:=frto b hb hk;obtain⟨l1,l2⟩:=srcN_lt hb true hk;obtain⟨i1,i2⟩:=hI;have e3:((k:Int)).toNat=k:=rfl;have hn:=nxtV_len (srcN b true) (dstN b true) (fun i=>lv.getD i false) (srcN b true k) k;refine(if_pos (by show decide ((k:Int) < ((lV b).length:Int))=true; simpa using hk)).trans ?_;refine(gP ⟨⟨by omega,by show(k:Int) < ((lV b).length:Int); omega⟩,trivial⟩).trans ?_;rw[lE,e3];have ef:u52 ((lV b).getD k (dflt y107))=some ((srcN b true k:Int),(dstN b true k:Int)):=by
   unfold u52;rw[a1,a2];rfl
  show gd ((u52 ((lV b).getD k (dflt y107))).isSome=true/\True) (lt (vl (u52 ((lV b).getD k (dflt y107)))) fun v8=>_)=_;rw[ef,vS,gP ⟨rfl,trivial⟩,lE];refine(gP ⟨⟨by omega,by show(k:Int) < (lv.length:Int); omega⟩,trivial⟩).trans ?_;rw[show grF (srcN b true) (dstN b true) (fun i=>lv.getD i false) k s=if lv.getD k false=true then s.set (srcN b true k) (s.getD (srcN b true k) []++[(dstN b true k:Int)]) else s from rfl];cases hl:lv.getD k false with
  | false =>
    refine(if_neg Bool.false_ne_true).trans ?_;refine(gP (V:=in64 ((k:Int)+1)/\True) ⟨oo,trivial⟩).trans ?_;rfl
  | true =>
    refine(if_pos (show(true:Bool)=true from rfl)).trans ?_;have e6:s.getD ((srcN b true k:Int)).toNat []=nxtV k (srcN b true) (dstN b true) (fun i=>lv.getD i false) (srcN b true k):=i2 _;refine(gP ⟨⟨by show 0<=(srcN b true k:Int); omega,by show(srcN b true k:Int)<_; omega⟩,by show srcN b true k<_; omega,⟨by show(s.getD ((srcN b true k:Int)).toNat []).length+1<=_; rw[e6]; omega,by show((s.getD ((srcN b true k:Int)).toNat []).length+1)*8<=_; rw[e6]; omega⟩,⟨by show 0<=(srcN b true k:Int); omega,by show(srcN b true k:Int)<_; omega⟩,⟨by show srcN b true k<_; omega,rfl⟩,trivial⟩).trans ?_;refine(gP (V:=in64 ((k:Int)+1)/\True) ⟨oo,trivial⟩).trans ?_;rfl
 ·show u44c52J0 [(s':Int)] (viewV b,lv) (fN _ _ _)=_;unfold u44c52J0;rw[en,vS,e0,gP ⟨rfl,⟨by omega,rfl,by omega,by omega⟩,trivial⟩,lE,r87 _ (by show 1<=_; omega),vS,gP ⟨rfl,trivial⟩,lE];exact h2
end
section
variable {b:Y46}
end
theorem has_iff{l:List Int}{x:Int}:hasB l x=true↔x∈l:=by
 unfold hasB;rw[List.any_eq_true];constructor
 ·rintro⟨j,hj,he⟩;rw[<- eq_of_beq he];exact getD_mem (List.mem_range.1 hj)
 ·intro h;obtain⟨j,hj,rfl⟩:=List.getElem_of_mem h;exact⟨j,List.mem_range.2 hj,by rw[gq,List.getElem?_eq_getElem hj]; exact beq_self_eq_true _⟩
def orB(p:Nat->Bool)(N:Nat)(S:List Bool):List Bool:=(List.range N).map fun w=>S.getD w false||p w
theorem mapB_get(f:Nat->Bool)(N w:Nat):((List.range N).map f).getD w false=if w<N then f w else false:=by
 rw[gq,List.getElem?_map];by_cases h:w<N
 ·rw[if_pos h,List.getElem?_range h]; rfl
 ·rw[if_neg h,List.getElem?_eq_none (by rw[List.length_range]; omega)]; rfl
theorem orB_len(p:Nat->Bool)(N:Nat)(S:List Bool):(orB p N S).length=N:=by
 unfold orB;rw[List.length_map,List.length_range]
theorem orB_get(p:Nat->Bool)(N:Nat)(S:List Bool){w:Nat}(h:w<N):(orB p N S).getD w false=(S.getD w false||p w):=by
 unfold orB;rw[mapB_get,if_pos h]
def mkD(N v:Nat)(S:List Bool):List Bool:=(List.range N).map fun w=>decide (w<v)||S.getD w false
theorem mkD_len(N v:Nat)(S:List Bool):(mkD N v S).length=N:=by
 unfold mkD;rw[List.length_map,List.length_range]
theorem mkD_get(N v:Nat)(S:List Bool){w:Nat}(h:w<N):(mkD N v S).getD w false=(decide (w<v)||S.getD w false):=by
 unfold mkD;rw[mapB_get,if_pos h]
theorem filt_one{N:Nat}{p:Nat->Bool}(h:((List.range N).filter p).length<2){v w:Nat}(hv:v<N)(pv:p v=true)(hw:w<N)(pw:p w=true):w=v:=by
 have m1:v∈(List.range N).filter p:=List.mem_filter.2 ⟨List.mem_range.2 hv,pv⟩;have m2:w∈(List.range N).filter p:=List.mem_filter.2 ⟨List.mem_range.2 hw,pw⟩;generalize (List.range N).filter p=l at h m1 m2
 match l,h with
 | [],_=>cases m1
 | [x],_=>rw[List.mem_singleton.1 m1,List.mem_singleton.1 m2]
 | x :: y :: r,h=>simp at h; omega
theorem set_spec(p:Nat->Bool)(N:Nat)(D:List Bool)(hD:D.length=N):∀m,m<=N->(fN (fun w (s:List Bool)=>if p w=true then s.set w true else s) m D).length=N/\∀w,w<N->(fN (fun w (s:List Bool)=>if p w=true then s.set w true else s) m D).getD w false=(D.getD w false||(decide (w<m)&&p w))
 | 0,_=>⟨hD,fun w _=>by simp[fN]⟩
 | m+1,h=>by
   obtain⟨h1,h2⟩:=set_spec p N D hD m (by omega);show(if p m=true then List.set _ m true else _:List Bool).length=N/\∀w,w<N->(if p m=true then List.set _ m true else _:List Bool).getD w false=_;by_cases hp:p m=true
   ·rw[if_pos hp];refine⟨by rw[List.length_set,h1],fun w hw=>?_⟩;rw[setB_get true (by omega)];by_cases e:w=m
    ·subst e; rw[if_pos rfl,decide_eq_true (by omega),hp]; simp
    ·rw[if_neg e,h2 w hw,Bool.eq_iff_iff];have:(w<m+1)↔w<m:=by omega
     simp[this]
   ·rw[if_neg hp];refine⟨h1,fun w hw=>?_⟩;rw[h2 w hw];by_cases e:w=m
    ·subst e;have hp:p w=false:=by simpa using hp
     simp[hp]
    ·have:(w<m+1)↔w<m:=by omega
     simp[this]
theorem set_specN(p:Nat->Bool)(N:Nat)(D:List Bool)(hD:D.length=N):fN (fun w (s:List Bool)=>if p w=true then s.set w true else s) N D=orB p N D:=by
 obtain⟨h1,h2⟩:=set_spec p N D hD N (Nat.le_refl _);refine list_eq false (by rw[h1,orB_len]) fun w hw=>?_;rw[h1] at hw;rw[h2 w hw,orB_get _ _ _ hw,decide_eq_true hw,Bool.true_and]
theorem set_implN(p:Nat->Bool)(N:Nat)(D:List Bool)(hD:D.length=N):fN (fun k (s:List Bool)=>s.set (((List.range N).filter p).getD k 0) true) ((List.range N).filter p).length D=orB p N D:=by
 rw[foldN_foldl (fun(s:List Bool) v=>s.set v true)];have hm:∀v∈(List.range N).filter p,v<D.length:=fun v hv=>by rw[hD]; exact List.mem_range.1 (List.mem_filter.1 hv).1
 refine list_eq false (by rw[(setsB_get _ D hm 0).1,orB_len,hD]) fun w hw=>?_;rw[(setsB_get _ D hm 0).1,hD] at hw;rw[(setsB_get _ D hm w).2,orB_get _ _ _ hw,Bool.or_comm];congr 1;rw[Bool.eq_iff_iff,List.contains_iff_mem,List.mem_filter,List.mem_range];exact⟨fun h=>h.2,fun h=>⟨hw,h⟩⟩
theorem any_filt(M:Nat)(q:Nat->Bool):(List.range M).any q=decide (0 < ((idxV q M).length:Int)):=by
 rw[Bool.eq_iff_iff,List.any_eq_true,dq,(idxV_len q M).2];constructor
 ·rintro⟨x,h1,h2⟩;have:x∈(List.range M).filter q:=List.mem_filter.2 ⟨h1,h2⟩;have:=List.length_pos_of_mem this;omega
 ·intro h;obtain⟨x,hx⟩:=List.exists_mem_of_length_pos (show 0 < ((List.range M).filter q).length by omega);exact⟨x,List.mem_filter.1 hx⟩
section
variable {b:Y46}
def rowV(b:Y46)(lv:List Bool)(v:Nat):List Bool:=vl (u44c52 (viewV b,lv) [(v:Int)])
theorem row_ok(hb:blockOk b=true){lv:List Bool}(hlv:lv.length=(lV b).length){v:Nat}(hv:v<nodN b):RB (lV b).length (nodN b) (frN b) (toN b) (fun i=>lv.getD i false) v (rowV b lv v)/\u44c52 (viewV b,lv) [(v:Int)]=some (rowV b lv v):=by
 obtain⟨L,h1,h2⟩:=r44c52 hb hlv hv;unfold rowV;rw[h2];exact⟨h1,rfl⟩
def clP(b:Y46)(lv:List Bool)(v w:Nat):Bool:=(rowV b lv v).getD w false&&(rowV b lv w).getD v false
def clV(b:Y46)(lv:List Bool)(v:Nat):List Int:=idxV (clP b lv v) (nodN b)
def selfB(b:Y46)(lv:List Bool)(v:Nat):Bool:=decide (0 < ((idxV (fun k=>lv.getD k false&&(frN b k==v&&toN b k==v)) (lV b).length).length:Int))
def cndB(b:Y46)(lv:List Bool)(v:Nat):Bool:=decide (1 < ((clV b lv v).length:Int))||selfB b lv v
def lpStep(b:Y46)(lv:List Bool)(v:Nat)(s:List Bool×List (List Int)):List Bool×List (List Int):=if s.1.getD v false=true then s else if cndB b lv v=true then(orB (clP b lv v) (nodN b) s.1,s.2++[clV b lv v]) else s
def loopsV(b:Y46)(lv:List Bool):List (List Int):=(fN (lpStep b lv) (nodN b) (List.replicate (nodN b) false,[])).2
theorem lpStep_in(b:Y46)(lv:List Bool){v:Nat}{s:List Bool×List (List Int)}(h:s.1.length=nodN b/\s.2.length<=v):(lpStep b lv v s).1.length=nodN b/\(lpStep b lv v s).2.length<=v+1:=by
 unfold lpStep;split
 ·exact⟨h.1,by omega⟩
 ·split
  ·exact⟨orB_len _ _ _,by rw[List.length_append,List.length_singleton]; omega⟩
  ·exact⟨h.1,by omega⟩
theorem clP_self(hb:blockOk b=true){lv:List Bool}(hlv:lv.length=(lV b).length){v:Nat}(hv:v<nodN b):clP b lv v v=true:=by
 have h:=((row_ok hb hlv hv).1.2 v hv).2 .refl;unfold clP;rw[h]; rfl
theorem clV_len(b:Y46)(lv:List Bool)(v:Nat):(clV b lv v).length<=nodN b:=(idxV_len _ _).1
theorem mkD_step(hb:blockOk b=true){lv:List Bool}(hlv:lv.length=(lV b).length){v:Nat}(hv:v<nodN b){s:List Bool×List (List Int)}(hs:s.1.length=nodN b):(s.1.getD v false=true->mkD (nodN b) v s.1=mkD (nodN b) (v+1) s.1)/\(s.1.getD v false=false->orB (clP b lv v) (nodN b) (mkD (nodN b) v s.1)=mkD (nodN b) (v+1) (lpStep b lv v s).1):=by
 have hself:=clP_self hb hlv hv;refine⟨fun h=>list_eq false (by rw[mkD_len,mkD_len]) fun w hw=>?_,fun h=>list_eq false (by rw[orB_len,mkD_len]) fun w hw=>?_⟩
 ·rw[mkD_len] at hw;rw[mkD_get _ _ _ hw,mkD_get _ _ _ hw];by_cases e:w=v
  ·subst e; rw[h]; simp
  ·have:(w<v+1)↔w<v:=by omega
   simp[this]
 ·rw[orB_len] at hw;rw[orB_get _ _ _ hw,mkD_get _ _ _ hw,mkD_get _ _ _ hw];unfold lpStep;rw[if_neg (by rw[h]; simp)];by_cases hc:cndB b lv v=true
  ·rw[if_pos hc,orB_get _ _ _ hw];by_cases e:w=v
   ·subst e; rw[hself]; simp
   ·have:(w<v+1)↔w<v:=by omega
    simp[this,Bool.or_assoc]
  ·rw[if_neg hc];have hlen:((List.range (nodN b)).filter (clP b lv v)).length<2:=by
    have:=(idxV_len (clP b lv v) (nodN b)).2;unfold cndB at hc;rw[Bool.or_eq_true,not_or,dq] at hc;unfold clV at hc;omega
   by_cases e:w=v
   ·subst e; rw[hself]; simp
   ·have hp:clP b lv v w=false:=by
     cases hp:clP b lv v w with
     | false=>rfl
     | true=>exact absurd (filt_one hlen hv hself hw hp) e
    have:(w<v+1)↔w<v:=by omega
    simp[this,hp]
theorem r126c153(hb:blockOk b=true){lv:List Bool}(hlv:lv.length=(lV b).length)(a:Nat):u126c153 (viewV b,lv) (a:Int)=some (idxV (fun i=>lv.getD i false&&(frN b i==a&&toN b i==a)) (lV b).length):=by
 have hM:=links_len hb;refine(lF (n:=(lV b).length) (by omega) (fun i (s:List Int)=>(s,(i:Int))) (fun i s=>if(lv.getD i false&&(frN b i==a&&toN b i==a))=true then s++[(i:Int)] else s) (fun i s=>s.length<=i) (J:=fun s=>some s) (F:=u126c153L1 (viewV b,lv) (a:Int)) (fun g i s hi hs=>?_) (fun i s hi hs=>?_) (fun g s _=>aE) [] (Nat.le_refl _)).trans ?_
 ·have hs:s.length<=i:=hs;have hx:ix (i:Int) (viewV b).2.2.1.length:=⟨by omega,by show(i:Int) < ((lV b).length:Int); omega⟩;refine(if_pos (decide_eq_true hx.2)).trans ((gP ⟨hx,trivial⟩).trans ?_);rw[lE];refine(gP ⟨⟨by omega,by show(i:Int) < (lv.length:Int); omega⟩,(fun _=>rfl),trivial⟩).trans ?_;obtain⟨f1,f2,_⟩:=frto b hb hi;have ef:(((lV b).getD i (dflt y107)).1==(a:Int))=(frN b i==a):=by
   rw[f1,Bool.eq_iff_iff,beq_iff_eq,beq_iff_eq]; omega
  have eg:(((lV b).getD i (dflt y107)).2.1==(a:Int))=(toN b i==a):=by
   rw[f2,Bool.eq_iff_iff,beq_iff_eq,beq_iff_eq]; omega
  show(if(lv.getD i false&&(((lV b).getD i (dflt y107)).1==(a:Int)&&((lV b).getD i (dflt y107)).2.1==(a:Int)))=true then _ else _)=_;rw[ef,eg];by_cases h:(lv.getD i false&&(frN b i==a&&toN b i==a))=true
  ·rw[if_pos h,if_pos h];refine(gP ⟨⟨by simp only[List.length_singleton]; omega,by simp only[List.length_singleton]; omega⟩,trivial⟩).trans ?_;exact gP ⟨oo,trivial⟩
  ·rw[if_neg h,if_neg h];exact gP ⟨oo,trivial⟩
 ·have hs:s.length<=i:=hs;show(if(lv.getD i false&&(frN b i==a&&toN b i==a))=true then s++[(i:Int)] else s).length<=i+1;split
  ·rw[List.length_append,List.length_singleton]; omega
  ·omega
 ·show some (fN _ _ [])=_;rw[idxV_fold]
theorem r115(hb:blockOk b=true){lv:List Bool}(hlv:lv.length=(lV b).length)(a:Nat):u115 (viewV b,lv) (a:Int)=some (selfB b lv a):=by
 unfold u115;rw[r126c153 hb hlv,vS,gP ⟨rfl,trivial⟩,lE];rfl
theorem r114(hb:blockOk b=true){lv:List Bool}(hlv:lv.length=(lV b).length)(a:Nat):u114 (lV b) lv (a:Int)=some (selfB b lv a):=by
 have hM:=links_len hb;unfold selfB;rw[<- any_filt];have key:=lp_all (n:=(lV b).length) (by omega) (fun i=>lv.getD i false&&(frN b i==a&&toN b i==a)) (some true) (e:=some false) (F:=u114L1 lv (lV b) (a:Int)) (fun g i hi=>by
  obtain⟨f1,f2,_⟩:=frto b hb hi;have e3:((i:Int)).toNat=i:=rfl;have ef:((frN b i:Int)==(a:Int))=(frN b i==a):=by
   rw[Bool.eq_iff_iff,beq_iff_eq,beq_iff_eq]; omega
  have eg:((toN b i:Int)==(a:Int))=(toN b i==a):=by
   rw[Bool.eq_iff_iff,beq_iff_eq,beq_iff_eq]; omega
  refine(if_pos (by simpa using hi)).trans ?_;rw[e3,f1,f2,ef,eg,Bool.and_assoc];refine(gP ⟨oo,(fun _=>oo),(fun _=>oo),trivial⟩).trans ?_;by_cases h:(lv.getD i false&&(frN b i==a&&toN b i==a))=true
  ·rw[if_pos h,if_pos h]
  ·rw[if_neg h,if_neg h];exact gP ⟨oo,trivial⟩) (fun g=>aE)
 refine key.trans ?_;cases(List.range (lV b).length).any fun i=>lv.getD i false&&(frN b i==a&&toN b i==a) <;> rfl
theorem r65(hb:blockOk b=true){lv:List Bool}(hlv:lv.length=(lV b).length):u65 (viewV b,lv)=some (loopsV b lv):=by
 have hM:=links_len hb;have hN:=nod_le b hb;have e0:((nodN b:Int)).toNat=nodN b:=rfl;have en:u86 ((viewV b,lv):Y113×List Bool).1=some (nodN b:Int):=r86 b hb;unfold u65;rw[en,vS,gP ⟨rfl,trivial⟩,lE];refine(lF (n:=nodN b) (by omega) (fun(k:Nat) (s:List (List Bool))=>(s,(k:Int))) (appF fun v=>rowV b lv v) (fun k s=>s.length=k) (J:=fun s=>u65J0 (viewV b,lv) (nodN b:Int) s) (F:=u65L1 (viewV b,lv) (nodN b:Int)) (fun g k s hk hI=>?_) (fun k s hk hI=>by show(s++[_]).length=_; rw[List.length_append,hI]; rfl) (fun g s _=>aE) [] rfl).trans ?_
 ·have hI:s.length=k:=hI;refine(if_pos (decide_eq_true (by omega))).trans ?_;rw[(row_ok hb hlv hk).2,vS];refine(gP ⟨rfl,⟨by show s.length+1<=_; omega,by show(s.length+1)*24<=_; omega⟩,trivial⟩).trans ?_;rw[lE];exact gP ⟨oo,trivial⟩
 have hgl:(fN (appF fun v=>rowV b lv v) (nodN b) []).length=nodN b:=appF_len _ _;have hgg:∀v,v<nodN b->(fN (appF fun v=>rowV b lv v) (nodN b) []).getD v []=rowV b lv v:=fun v hv=>appF_get _ _ _ v hv;have hrl:∀v,v<nodN b->(rowV b lv v).length=nodN b:=fun v hv=>(row_ok hb hlv hv).1.1;generalize fN (appF fun v=>rowV b lv v) (nodN b) []=gr at hgl hgg;show u65J0 (viewV b,lv) (nodN b:Int) gr=_;rw[u65J0,gP ⟨⟨by omega,rfl,by rw[e0]; omega,by omega⟩,trivial⟩,e0];refine lF (n:=nodN b) (by omega) (fun(v:Nat) (s:List Bool×List (List Int))=>(s.2,(v:Int),s.1)) (lpStep b lv) (fun v s=>s.1.length=nodN b/\s.2.length<=v) (J:=fun s=>some s.2) (F:=u65L3 gr (viewV b,lv) (nodN b:Int)) (fun g v s hv hI=>?_) (fun v s hv hI=>lpStep_in b lv hI) (fun g s _=>aE) (List.replicate (nodN b) false,[]) ⟨List.length_replicate,Nat.le_refl _⟩;obtain⟨h1,h2⟩:=hI;obtain⟨S,o⟩:=s;have h1:S.length=nodN b:=h1;have h2:o.length<=v:=h2;have e3:((v:Int)).toNat=v:=rfl;have j4:∀S' o',u65J4 (v:Int) g (S',o')=g (o',((v+1:Nat):Int),S'):=fun S' o'=>gP ⟨oo,trivial⟩;refine(if_pos (decide_eq_true (by omega))).trans ?_;refine(gP ⟨⟨by omega,by show(v:Int) < (S.length:Int); omega⟩,by show v<S.length; omega,trivial⟩).trans ?_;unfold lpStep;show(if S.getD v false=true then u65J4 (v:Int) g (S,o) else lp (u65L6 gr (v:Int) S o (viewV b,lv) (nodN b:Int) g) ([],0))=g ((if S.getD v false=true then(S,o) else if cndB b lv v=true then(orB (clP b lv v) (nodN b) S,o++[clV b lv v]) else(S,o)).2,((v+1:Nat):Int),(if S.getD v false=true then(S,o) else if cndB b lv v=true then(orB (clP b lv v) (nodN b) S,o++[clV b lv v]) else(S,o)).1);by_cases hS:S.getD v false=true
 ·rw[if_pos hS,if_pos hS,j4]
 rw[if_neg hS,if_neg hS];have hcl:lp (u65L6 gr (v:Int) S o (viewV b,lv) (nodN b:Int) g) ([],0)=u65J5 (v:Int) S o (viewV b,lv) g (clV b lv v):=by
  unfold clV;rw[<- idxV_fold];refine lF (n:=nodN b) (by omega) (fun(w:Nat) (s:List Int)=>(s,(w:Int))) (fun w s=>if clP b lv v w=true then s++[(w:Int)] else s) (fun w s=>s.length<=w) (J:=fun s=>u65J5 (v:Int) S o (viewV b,lv) g s) (F:=u65L6 gr (v:Int) S o (viewV b,lv) (nodN b:Int) g) (fun g' w s hw hI=>?_) (fun w s hw hI=>?_) (fun g' s _=>aE) [] (Nat.le_refl _)
  ·have hI:s.length<=w:=hI;have e4:((w:Int)).toNat=w:=rfl;have l1:=hrl v hv;have l2:=hrl w hw;refine(if_pos (decide_eq_true (by omega))).trans ?_;rw[e3,e4,hgg v hv,hgg w hw];refine(gP ⟨oo,by omega,oo,(fun _=>oo),(fun _=>by omega),(fun _=>oo),trivial⟩).trans ?_;show(if clP b lv v w=true then _ else _)=_;by_cases h:clP b lv v w=true
   ·rw[if_pos h,if_pos h];refine(gP ⟨⟨by show s.length+1<=_; omega,by show(s.length+1)*8<=_; omega⟩,trivial⟩).trans ?_;exact gP ⟨oo,trivial⟩
   ·rw[if_neg h,if_neg h];exact gP ⟨oo,trivial⟩
  ·have hI:s.length<=w:=hI;split
   ·rw[List.length_append,List.length_singleton]; omega
   ·omega
 rw[hcl,u65J5];have hc2:=clV_len b lv v;refine(gP ⟨fun _=>(by rw[r115 hb hlv]; rfl),trivial⟩).trans ?_;rw[r115 hb hlv,vS];have ecnd:(decide (((clV b lv v).length:Int)<2)&&!selfB b lv v)=!cndB b lv v:=by
  unfold cndB;rw[Bool.not_or];congr 1;rw[Bool.eq_iff_iff,dq,Bool.not_eq_true',decide_eq_false_iff_not];omega
 rw[ecnd];cases hc:cndB b lv v with
 | false =>
   refine(if_pos rfl).trans ?_;rw[j4];rfl
 | true =>
   refine(if_neg (by simp)).trans ?_;obtain⟨il1,il2⟩:=idxV_len (clP b lv v) (nodN b);have il3:(clV b lv v).length=((List.range (nodN b)).filter (clP b lv v)).length:=il2;rw[<- set_implN (clP b lv v) (nodN b) S h1];refine lF (n:=((List.range (nodN b)).filter (clP b lv v)).length) (by omega) (fun(k:Nat) (s:List Bool)=>((k:Int),s)) (fun k (s:List Bool)=>s.set (((List.range (nodN b)).filter (clP b lv v)).getD k 0) true) (fun _ s=>s.length=nodN b) (J:=fun s=>g (o++[clV b lv v],((v+1:Nat):Int),s)) (F:=u65L9 (clV b lv v) (v:Int) o g) (fun g' k s hk hI=>?_) (fun k s hk hI=>by rw[List.length_set]; exact hI) (fun g' s _=>?_) S h1
   ·have hI:s.length=nodN b:=hI;have e4:((k:Int)).toNat=k:=rfl;have hlt:=filt_lt hk;have eg:(clV b lv v).getD k 0=((((List.range (nodN b)).filter (clP b lv v)).getD k 0:Nat):Int):=idxV_get _ _ _;generalize ((List.range (nodN b)).filter (clP b lv v)).getD k 0=i at hlt eg ⊢;have e5:((i:Int)).toNat=i:=rfl;refine(if_pos (decide_eq_true (by omega))).trans ?_;rw[e4,eg,e5];refine(gP ⟨oo,by omega,trivial⟩).trans ?_;refine(gP ⟨oo,by omega,trivial⟩).trans ?_;exact gP ⟨oo,trivial⟩
   ·refine(if_neg (by rw[dq]; omega)).trans ?_;show gd _ (u65J4 (v:Int) g (s,o++[clV b lv v]))=_;rw[j4];exact gP ⟨⟨by show o.length+1<=_; omega,by show(o.length+1)*24<=_; omega⟩,trivial⟩
theorem r64(hb:blockOk b=true){lv:List Bool}(hlv:lv.length=(lV b).length):u64 (nodN b:Int) (lV b) lv=some (loopsV b lv):=by
 have hM:=links_len hb;have hN:=nod_le b hb;have e0:((nodN b:Int)).toNat=nodN b:=rfl;unfold u64;rw[gP ⟨⟨by omega,rfl,by rw[e0]; omega,by omega⟩,trivial⟩,e0];have hm0:List.replicate (nodN b) false=mkD (nodN b) 0 (List.replicate (nodN b) false):=list_eq false (by rw[mkD_len,List.length_replicate]) fun w hw=>by
  rw[List.length_replicate] at hw;rw[mkD_get _ _ _ hw];rfl
 refine Eq.trans (congrArg (fun x=>lp (u64L1 (lV b) lv (nodN b:Int)) (0,x,[])) hm0) ?_;refine lF (n:=nodN b) (by omega) (fun(v:Nat) (s:List Bool×List (List Int))=>((v:Int),mkD (nodN b) v s.1,s.2)) (lpStep b lv) (fun v s=>s.1.length=nodN b/\s.2.length<=v) (J:=fun s=>some s.2) (F:=u64L1 (lV b) lv (nodN b:Int)) (fun g v s hv hI=>?_) (fun v s hv hI=>lpStep_in b lv hI) (fun g s _=>aE) (List.replicate (nodN b) false,[]) ⟨List.length_replicate,Nat.le_refl _⟩;obtain⟨h1,h2⟩:=hI;obtain⟨S,o⟩:=s;have h1:S.length=nodN b:=h1;have h2:o.length<=v:=h2;have e3:((v:Int)).toNat=v:=rfl;have hml:=mkD_len (nodN b) v S;have hmg:(mkD (nodN b) v S).getD v false=S.getD v false:=by
  rw[mkD_get _ _ _ hv,decide_eq_false (Nat.lt_irrefl v),Bool.false_or]
 obtain⟨m1,m2⟩:=mkD_step hb hlv hv (s:=(S,o)) h1;have m1:S.getD v false=true->mkD (nodN b) v S=mkD (nodN b) (v+1) S:=m1;have m2:S.getD v false=false->orB (clP b lv v) (nodN b) (mkD (nodN b) v S)=mkD (nodN b) (v+1) (lpStep b lv v (S,o)).1:=m2;have j2:∀S' o',u64J2 (v:Int) g (S',o')=g (((v+1:Nat):Int),S',o'):=fun S' o'=>gP ⟨oo,trivial⟩;refine(if_pos (decide_eq_true (by omega))).trans ?_;refine(gP ⟨⟨by omega,by show(v:Int) < ((mkD (nodN b) v S).length:Int); omega⟩,by show v < (mkD (nodN b) v S).length; omega,trivial⟩).trans ?_;show(if(mkD (nodN b) v S).getD v false=true then u64J2 (v:Int) g (mkD (nodN b) v S,o) else _)=g (((v+1:Nat):Int),mkD (nodN b) (v+1) (lpStep b lv v (S,o)).1,(lpStep b lv v (S,o)).2);rw[hmg];cases hS:S.getD v false with
 | true =>
   refine(if_pos rfl).trans ?_;rw[j2,m1 hS];unfold lpStep;rw[if_pos hS]
 | false =>
   refine(if_neg (by simp)).trans ?_;obtain⟨T,t1,t2⟩:=r79 hb hlv hv true;obtain⟨B,b1,b2⟩:=r79 hb hlv hv false;have hrow:=row_ok hb hlv hv;obtain rfl:T=rowV b lv v:=t1.uniq hrow.1;have hBg:∀w,w<nodN b->B.getD w false=(rowV b lv w).getD v false:=fun w hw=>by
    rw[Bool.eq_iff_iff,b1.2 w hw,(row_ok hb hlv hw).1.2 v hv];exact⟨fun h=>Rch.back h,fun h=>Rch.back h⟩
   rw[t2,b2,vS,vS];refine(gP ⟨rfl,rfl,trivial⟩).trans ?_;rw[lE];have hrl:=hrow.1.1;have hbl:=b1.1;rw[<- m2 hS];have hcl:lp (u64L4 (rowV b lv v) B (v:Int) o (lV b) lv (nodN b:Int) g) (0,[],mkD (nodN b) v S)=u64J3 (v:Int) o (lV b) lv g (clV b lv v,orB (clP b lv v) (nodN b) (mkD (nodN b) v S)):=by
    unfold clV;rw[<- idxV_fold,<- set_specN (clP b lv v) (nodN b) (mkD (nodN b) v S) hml];have hpair:∀n,fN (fun w (s:List Int×List Bool)=>if clP b lv v w=true then(s.1++[(w:Int)],s.2.set w true) else s) n ([],mkD (nodN b) v S)=(fN (fun w (s:List Int)=>if clP b lv v w=true then s++[(w:Int)] else s) n [],fN (fun w (s:List Bool)=>if clP b lv v w=true then s.set w true else s) n (mkD (nodN b) v S)):=by
     intro n
     induction n with
     | zero=>rfl
     | succ n ih =>
       show(if clP b lv v n=true then((fN _ n _:List Int×List Bool).1++[(n:Int)],(fN _ n _:List Int×List Bool).2.set n true) else fN _ n _)=((if clP b lv v n=true then _ else _:List Int),(if clP b lv v n=true then _ else _:List Bool));rw[ih];by_cases h:clP b lv v n=true
       ·rw[if_pos h,if_pos h,if_pos h]
       ·rw[if_neg h,if_neg h,if_neg h]
    rw[<- hpair];refine lF (n:=nodN b) (by omega) (fun(w:Nat) (s:List Int×List Bool)=>((w:Int),s.1,s.2)) (fun w (s:List Int×List Bool)=>if clP b lv v w=true then(s.1++[(w:Int)],s.2.set w true) else s) (fun w s=>s.1.length<=w/\s.2.length=nodN b) (J:=fun s=>u64J3 (v:Int) o (lV b) lv g s) (F:=u64L4 (rowV b lv v) B (v:Int) o (lV b) lv (nodN b:Int) g) (fun g' w s hw hI=>?_) (fun w s hw hI=>?_) (fun g' s _=>aE) ([],mkD (nodN b) v S) ⟨Nat.le_refl _,hml⟩
    ·obtain⟨i1,i2⟩:=hI;obtain⟨l,D⟩:=s;have i1:l.length<=w:=i1;have i2:D.length=nodN b:=i2;have e4:((w:Int)).toNat=w:=rfl;refine(if_pos (decide_eq_true (by omega))).trans ?_;rw[e4,hBg w hw];refine(gP ⟨oo,by omega,(fun _=>oo),(fun _=>by omega),trivial⟩).trans ?_;show(if clP b lv v w=true then _ else _)=g' (((w+1:Nat):Int),(if clP b lv v w=true then(l++[(w:Int)],D.set w true) else(l,D)).1,(if clP b lv v w=true then(l++[(w:Int)],D.set w true) else(l,D)).2);by_cases h:clP b lv v w=true
     ·rw[if_pos h,if_pos h];refine(gP ⟨⟨by show l.length+1<=_; omega,by show(l.length+1)*8<=_; omega⟩,trivial⟩).trans ?_;refine(gP ⟨⟨by omega,by show(w:Int) < (D.length:Int); omega⟩,by show w<D.length; omega,trivial⟩).trans ?_;exact gP ⟨oo,trivial⟩
     ·rw[if_neg h,if_neg h];exact gP ⟨oo,trivial⟩
    ·obtain⟨i1,i2⟩:=hI;split
     ·exact⟨by show(s.1++[(w:Int)]).length<=_; rw[List.length_append,List.length_singleton]; omega,by show(s.2.set w true).length=_; rw[List.length_set]; exact i2⟩
     ·exact⟨by omega,i2⟩
   refine hcl.trans ?_;have hc2:=clV_len b lv v;rw[u64J3];refine(gP ⟨fun _=>(by rw[r114 hb hlv]; rfl),trivial⟩).trans ?_;rw[r114 hb hlv,vS];have els:lpStep b lv v (S,o)=if cndB b lv v=true then(orB (clP b lv v) (nodN b) S,o++[clV b lv v]) else(S,o):=if_neg (by show ¬S.getD v false=true; rw[hS]; simp)
   rw[els];show(if cndB b lv v=true then _ else _)=_;cases hc:cndB b lv v with
   | true =>
     refine(if_pos rfl).trans ?_;rw[j2];exact gP ⟨⟨by show o.length+1<=_; omega,by show(o.length+1)*24<=_; omega⟩,trivial⟩
   | false =>
     refine(if_neg (by simp)).trans ?_;rw[j2];rfl
end
end Go.Proofs.YthobjlocnkienaaGreatDoor
end
