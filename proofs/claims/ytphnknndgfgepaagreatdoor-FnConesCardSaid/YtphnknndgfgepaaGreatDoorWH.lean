/- Reachability in a graph: a row of nodes to be looked at, and sweeps until nothing turns: both find the same. -/
import Derived.Test.YtphnknndgfgepaaGreatDoorWC
import Derived.Test.YtphnknndgfgepaaGreatDoorWG
import Derived.Test.YtphnknndgfgepaaGreatDoorF75d
section
namespace Go.Proofs.Xd
open Go.Proofs.Xl
inductive Rch(M:Nat)(fr to:Nat->Nat)(lv:Nat->Bool)(s:Nat):Nat->Prop
 | refl:Rch M fr to lv s s
 | step {i:Nat}:Rch M fr to lv s (fr i)->i<M->lv i=true->Rch M fr to lv s (to i)
theorem Rch.trans{M:Nat}{fr to:Nat->Nat}{lv:Nat->Bool}{a b c:Nat}(h:Rch M fr to lv a b)(k:Rch M fr to lv b c):Rch M fr to lv a c:=by
 induction k with
 | refl=>exact h
 | step _ hi hl ih=>exact ih.step hi hl
theorem Rch.one{M:Nat}{fr to:Nat->Nat}{lv:Nat->Bool}{i:Nat}(hi:i<M)(hl:lv i=true):Rch M fr to lv (fr i) (to i):=Rch.refl.step hi hl
theorem Rch.head{M:Nat}{fr to:Nat->Nat}{lv:Nat->Bool}{i c:Nat}(hi:i<M)(hl:lv i=true)(k:Rch M fr to lv (to i) c):Rch M fr to lv (fr i) c:=(Rch.one hi hl).trans k
theorem Rch.back{M:Nat}{fr to:Nat->Nat}{lv:Nat->Bool}{a b:Nat}(h:Rch M fr to lv a b):Rch M to fr lv b a:=by
 induction h with
 | refl=>exact .refl
 | step _ hi hl ih=>exact Rch.head hi hl ih
theorem Rch.lt{M N:Nat}{fr to:Nat->Nat}{lv:Nat->Bool}(ht:∀i,i<M->to i<N){a b:Nat}(h:Rch M fr to lv a b)(ha:a<N):b<N:=by
 cases h with
 | refl=>exact ha
 | step _ hi _=>exact ht _ hi
section
variable (M N:Nat) (fr to:Nat->Nat) (lv:Nat->Bool)
def RB(s:Nat)(L:List Bool):Prop:=L.length=N/\∀v,v<N->(L.getD v false=true↔Rch M fr to lv s v)
theorem RB.uniq{M N:Nat}{fr to:Nat->Nat}{lv:Nat->Bool}{s:Nat}{L K:List Bool}(h:RB M N fr to lv s L)(k:RB M N fr to lv s K):L=K :=
 list_eq false (h.1.trans k.1.symm) fun i hi=>by
  have hi':i<N:=by rw[<- h.1]; exact hi
  rw[Bool.eq_iff_iff,h.2 i hi',k.2 i hi']
structure RI(s:Nat)(r:List Bool):Prop where
 len:r.length=N
 src:r.getD s false=true
 snd:∀v,r.getD v false=true->Rch M fr to lv s v
theorem RI.done{M N:Nat}{fr to:Nat->Nat}{lv:Nat->Bool}{s:Nat}{r:List Bool}(h:RI M N fr to lv s r)(hc:∀i,i<M->lv i=true->r.getD (fr i) false=true->r.getD (to i) false=true):RB M N fr to lv s r :=
 ⟨h.len,fun v hv=>⟨h.snd v,fun hr=>by
   clear hv
   induction hr with
   | refl=>exact h.src
   | step _ hi hl ih=>exact hc _ hi hl ih⟩⟩
def cntT(r:List Bool):Nat:=r.countP id
theorem cntT_set{r:List Bool}{i:Nat}(hi:i<r.length)(h:r.getD i false=false):cntT (r.set i true)=cntT r+1:=by
 induction r generalizing i with
 | nil=>simp at hi
 | cons a t ih =>
   cases i with
   | zero =>
     simp only[List.getD_cons_zero] at h;subst h;simp[cntT]
   | succ i =>
     have:=ih (i:=i) (by simpa using hi) (by simpa using h);unfold cntT at this ⊢;rw[List.set_cons_succ,List.countP_cons,List.countP_cons,this];omega
theorem cntT_le(r:List Bool):cntT r<=r.length:=List.countP_le_length
def swS(k:Nat)(s:List Bool×Bool):List Bool×Bool:=if(lv k&&s.1.getD (fr k) false&&!s.1.getD (to k) false)=true then(s.1.set (to k) true,true) else s
theorem sw_fold(ht:∀i,i<M->to i<N){s:Nat}{r:List Bool}(h:RI M N fr to lv s r):∀m,m<=M->RI M N fr to lv s (fN (swS fr to lv) m (r,false)).1 /\
  ((fN (swS fr to lv) m (r,false)).2=false->(fN (swS fr to lv) m (r,false)).1=r/\∀i,i<m->lv i=true->r.getD (fr i) false=true->r.getD (to i) false=true) /\
  ((fN (swS fr to lv) m (r,false)).2=true->cntT r<cntT (fN (swS fr to lv) m (r,false)).1)/\cntT r<=cntT (fN (swS fr to lv) m (r,false)).1:=by
 intro m
 induction m with
 | zero=>intro _; exact⟨h,fun _=>⟨rfl,fun i hi=>by omega⟩,(fun h=>by cases h),Nat.le_refl _⟩
 | succ m ih =>
   intro hm;obtain⟨i1,i2,i3,i4⟩:=ih (by omega);show RI M N fr to lv s (swS fr to lv m (fN (swS fr to lv) m (r,false))).1/\((swS fr to lv m (fN (swS fr to lv) m (r,false))).2=false->(swS fr to lv m (fN (swS fr to lv) m (r,false))).1=r/\_)/\((swS fr to lv m (fN (swS fr to lv) m (r,false))).2=true->_<cntT (swS fr to lv m (fN (swS fr to lv) m (r,false))).1)/\_<=cntT (swS fr to lv m (fN (swS fr to lv) m (r,false))).1;generalize fN (swS fr to lv) m (r,false)=q at i1 i2 i3 i4 ⊢;unfold swS;split
   ·rename_i hc;simp only[ba,Bool.not_eq_true'] at hc;obtain⟨⟨c1,c2⟩,c3⟩:=hc;have hlt:to m<q.1.length:=by rw[i1.len]; exact ht m (by omega)
    have hcs:=cntT_set hlt c3;refine⟨⟨by rw[List.length_set,i1.len],?_,fun v hv=>?_⟩,(fun h=>by cases h),fun _=>by show cntT r<cntT (q.1.set (to m) true); omega,by show cntT r<=cntT (q.1.set (to m) true); omega⟩
    ·show(q.1.set (to m) true).getD s false=true;rw[setB_get true hlt];split
     ·rfl
     ·exact i1.src
    ·rw[setB_get true hlt] at hv;split at hv
     ·rename_i e;subst e;exact(i1.snd _ c2).step (by omega) c1
     ·exact i1.snd v hv
   ·rename_i hc;refine⟨i1,fun h2=>?_,i3,i4⟩;obtain⟨e,hh⟩:=i2 h2;refine⟨e,fun i hi hl hf=>?_⟩;rcases Nat.lt_or_ge i m with h' | h'
    ·exact hh i h' hl hf
    ·have:i=m:=by omega
     subst this;rw[e,hl,hf] at hc;cases ht:r.getD (to i) false with
     | true=>rfl
     | false=>rw[ht] at hc; exact absurd rfl hc
theorem sweep_lp{ρ:Type}(ht:∀i,i<M->to i<N)(hN:N<=1000000){s:Nat}(hs:s<N){F:(List Bool×Bool->Option ρ)->List Bool×Bool->Option ρ}{J:List Bool->Option ρ}
  (hF:∀g (q:List Bool×Bool),q.1.length=N->F g q=if q.2=true then g (fN (swS fr to lv) M (q.1,false)) else J q.1):∃L,RB M N fr to lv s L/\lp F ((List.replicate N false).set s true,true)=J L:=by
 have h0:RI M N fr to lv s ((List.replicate N false).set s true):=by
  have hl:s < (List.replicate N false).length:=by rw[List.length_replicate]; exact hs
  refine⟨by rw[List.length_set,List.length_replicate],by rw[setB_get true hl,if_pos rfl],fun v hv=>?_⟩;rw[setB_get true hl] at hv;split at hv
  ·rename_i e; subst e; exact .refl
  ·simp[gq,List.getElem?_replicate] at hv;split at hv <;> simp at hv
 obtain⟨q,⟨_,hq⟩,hc,he⟩:=lp_meas (J:=fun q:List Bool×Bool=>J q.1) (fun q=>2*(N-cntT q.1)+q.2.toNat) (fun q=>RI M N fr to lv s q.1/\(q.2=false->RB M N fr to lv s q.1)) (fun q=>q.2) (fun q=>fN (swS fr to lv) M (q.1,false))
  (fun g q hq=>hF g q hq.1.len) (fun q hq hc=>by
    obtain⟨i1,i2,i3,i4⟩:=sw_fold M N fr to lv ht hq.1 M (Nat.le_refl _);refine⟨⟨i1,fun h=>?_⟩,?_⟩
    ·obtain⟨e,hh⟩:=i2 h;rw[e];exact hq.1.done hh
    ·have l1:=cntT_le (fN (swS fr to lv) M (q.1,false)).1;rw[i1.len] at l1;show 2*(N-cntT (fN (swS fr to lv) M (q.1,false)).1)+(fN (swS fr to lv) M (q.1,false)).2.toNat<2*(N-cntT q.1)+q.2.toNat;rw[hc];cases h:(fN (swS fr to lv) M (q.1,false)).2 with
     | true=>have:=i3 h; simp; omega
     | false=>simp; omega) (((List.replicate N false).set s true),true) ⟨h0,fun h=>by cases h⟩ (by show 2*(N-cntT _)+1<=_; omega)
 exact⟨q.1,hq hc,he⟩
def cntU(r:List Bool):Nat:=(List.range M).countP fun i=>lv i&&!r.getD (fr i) false
def nxtV(v:Nat):List Int:=((List.range M).filter fun i=>lv i&&fr i==v).map fun i=>(to i:Int)
structure QI(s:Nat)(q:List Int×List Bool):Prop where
 len:q.2.length=N
 mem:∀x∈q.1,0<=x/\x.toNat<N/\Rch M fr to lv s x.toNat
 snd:∀v,q.2.getD v false=true->Rch M fr to lv s v
 src:q.2.getD s false=true∨(s:Int)∈q.1
 cls:∀i,i<M->lv i=true->q.2.getD (fr i) false=true->q.2.getD (to i) false=true∨(to i:Int)∈q.1
 cnt:q.1.length+cntU M fr lv q.2<=M+1
def quN(q:List Int×List Bool):List Int×List Bool:=if q.2.getD (q.1.getD 0 0).toNat false=true then(q.1.drop 1,q.2) else(q.1.drop 1++nxtV M fr to lv (q.1.getD 0 0).toNat,q.2.set (q.1.getD 0 0).toNat true)
theorem cntU_set{r:List Bool}{x:Nat}(hx:x<r.length)(h:r.getD x false=false):cntU M fr lv r=(nxtV M fr to lv x).length+cntU M fr lv (r.set x true):=by
 have e:(nxtV M fr to lv x).length=(List.range M).countP fun i=>lv i&&fr i==x:=by
  unfold nxtV;rw[List.length_map,List.countP_eq_length_filter]
 rw[e];unfold cntU;refine countP_split _ _ _ _ fun i _=>?_;rw[setB_get true hx];by_cases hf:fr i=x
 ·rw[if_pos hf,hf,h];cases lv i <;> simp
 ·rw[if_neg hf];have:(fr i==x)=false:=by simpa using hf
  rw[this];cases lv i <;> simp
theorem qu_step(ht:∀i,i<M->to i<N){s:Nat}{q:List Int×List Bool}(h:QI M N fr to lv s q)(hq:0<q.1.length):QI M N fr to lv s (quN M fr to lv q)/\(quN M fr to lv q).1.length+cntU M fr lv (quN M fr to lv q).2<q.1.length+cntU M fr lv q.2:=by
 obtain⟨o,r⟩:=q;cases o with
 | nil=>simp at hq
 | cons x t =>
   obtain⟨x0,x1,x2⟩:=h.mem x (by simp);have hl:=h.len;have hx:x.toNat<r.length:=by rw[show r.length=N from hl]; exact x1
   unfold quN;simp only[List.getD_cons_zero,List.drop_succ_cons,List.drop_zero];by_cases hr:r.getD x.toNat false=true
   ·rw[if_pos hr];have hxx:(x.toNat:Int)=x:=by omega
    refine⟨⟨hl,fun y hy=>h.mem y (List.mem_cons_of_mem _ hy),h.snd,?_,fun i hi hv hf=>?_,?_⟩,?_⟩
    ·rcases h.src with h' | h'
     ·exact .inl h'
     ·rcases List.mem_cons.1 h' with e | e
      ·left; rw[show s=x.toNat by omega]; exact hr
      ·exact .inr e
    ·rcases h.cls i hi hv hf with h' | h'
     ·exact .inl h'
     ·rcases List.mem_cons.1 h' with e | e
      ·left; rw[show to i=x.toNat by omega]; exact hr
      ·exact .inr e
    ·have h9:(x :: t).length+cntU M fr lv r<=M+1:=h.cnt;rw[List.length_cons] at h9;show t.length+cntU M fr lv r<=_;omega
    ·show t.length+cntU M fr lv r < (x :: t).length+cntU M fr lv r;simp
   ·rw[if_neg hr];have hr:r.getD x.toNat false=false:=by simpa using hr
    have hcu:=cntU_set M fr to lv hx hr;have hget:=fun v=>setB_get (v:=v) true hx;refine⟨⟨by show(r.set _ true).length=N; rw[List.length_set]; exact hl,fun y hy=>?_,fun v hv=>?_,?_,fun i hi hv hf=>?_,?_⟩,?_⟩
    ·rcases List.mem_append.1 hy with hy | hy
     ·exact h.mem y (List.mem_cons_of_mem _ hy)
     ·unfold nxtV at hy;obtain⟨i,hi,rfl⟩:=List.mem_map.1 hy;rw[List.mem_filter,List.mem_range] at hi;simp only[ba,beq_iff_eq] at hi;exact⟨by omega,by simpa using ht i hi.1,by
       rw[Int.toNat_natCast];refine Rch.step ?_ hi.1 hi.2.1;rw[hi.2.2]; exact x2⟩
    ·have hv:(r.set x.toNat true).getD v false=true:=hv;rw[hget] at hv;split at hv
     ·rename_i e; subst e; exact x2
     ·exact h.snd v hv
    ·show(r.set x.toNat true).getD s false=true∨_;rw[hget];split
     ·exact .inl rfl
     ·rename_i hne;rcases h.src with h' | h'
      ·exact .inl h'
      ·rcases List.mem_cons.1 h' with e | e
       ·exact(hne (by omega)).elim
       ·exact .inr (List.mem_append_left _ e)
    ·have hf:(r.set x.toNat true).getD (fr i) false=true:=hf;show(r.set x.toNat true).getD (to i) false=true∨(to i:Int)∈t++nxtV M fr to lv x.toNat;rw[hget] at hf ⊢;by_cases e:fr i=x.toNat
     ·right;refine List.mem_append_right _ ?_;unfold nxtV;refine List.mem_map.2 ⟨i,?_,rfl⟩;rw[List.mem_filter,List.mem_range];exact⟨hi,by simp[hv,e]⟩
     ·rw[if_neg e] at hf;by_cases e2:to i=x.toNat
      ·left; rw[if_pos e2]
      ·rw[if_neg e2];rcases h.cls i hi hv hf with h' | h'
       ·exact .inl h'
       ·rcases List.mem_cons.1 h' with e' | e'
        ·exact(e2 (by omega)).elim
        ·exact .inr (List.mem_append_left _ e')
    ·have:=h.cnt;simp only[List.length_cons] at this;show(t++nxtV M fr to lv x.toNat).length+cntU M fr lv (r.set x.toNat true)<=_;rw[List.length_append];omega
    ·show(t++nxtV M fr to lv x.toNat).length+cntU M fr lv (r.set x.toNat true) < (x :: t).length+cntU M fr lv r;rw[List.length_append,List.length_cons];omega
theorem queue_lp{ρ:Type}(ht:∀i,i<M->to i<N)(hM:M<=2000000){s:Nat}(hs:s<N){F:(List Int×List Bool->Option ρ)->List Int×List Bool->Option ρ}{J:List Bool->Option ρ}
  (hF:∀g (q:List Int×List Bool),q.2.length=N->(∀x∈q.1,0<=x/\x.toNat<N)->q.1.length<=M+1->F g q=if decide (0<q.1.length)=true then g (quN M fr to lv q) else J q.2):∃L,RB M N fr to lv s L/\lp F ([(s:Int)],List.replicate N false)=J L:=by
 have hrep:∀v,(List.replicate N false).getD v false=false:=fun v=>by
  simp[gq,List.getElem?_replicate];split <;> rfl
 have h0:QI M N fr to lv s ([(s:Int)],List.replicate N false):=by
  refine⟨by simp,fun x hx=>?_,fun v hv=>?_,.inr (by simp),fun i _ _ hf=>?_,?_⟩
  ·rw[List.mem_singleton.1 hx];exact⟨by omega,by simpa using hs,by rw[Int.toNat_natCast]; exact .refl⟩
  ·rw[show([(s:Int)],List.replicate N false).2=List.replicate N false from rfl,hrep] at hv; cases hv
  ·rw[show([(s:Int)],List.replicate N false).2=List.replicate N false from rfl,hrep] at hf; cases hf
  ·have:cntU M fr lv (List.replicate N false)<=M:=by unfold cntU; exact countP_rng _
   show 1+cntU M fr lv (List.replicate N false)<=M+1;omega
 obtain⟨q,hq,hc,he⟩:=lp_meas (J:=fun q:List Int×List Bool=>J q.2) (fun q=>q.1.length+cntU M fr lv q.2) (QI M N fr to lv s) (fun q=>decide (0<q.1.length)) (quN M fr to lv)
  (fun g q hq=>hF g q hq.len (fun x hx=>⟨(hq.mem x hx).1,(hq.mem x hx).2.1⟩) (by have:=hq.cnt; omega)) (fun q hq hc=>qu_step M N fr to lv ht hq (of_decide_eq_true hc)) _ h0 (by have h9:[(s:Int)].length+cntU M fr lv (List.replicate N false)<=M+1:=h0.cnt; show [(s:Int)].length+cntU M fr lv (List.replicate N false)<=_; omega)
 have hnil:q.1=[]:=List.eq_nil_of_length_eq_zero (by have:=of_decide_eq_false hc; omega);refine⟨q.2,RI.done ⟨hq.len,?_,hq.snd⟩ fun i hi hl hf=>?_,he⟩
 ·rcases hq.src with h | h
  ·exact h
  ·rw[hnil] at h; cases h
 ·rcases hq.cls i hi hl hf with h | h
  ·exact h
  ·rw[hnil] at h; cases h
end
end Go.Proofs.Xd
end
section
namespace Go.Proofs.YtphnknndgfgepaaGreatDoor
open Go Go.Proofs Go.Proofs.Sv Go.Proofs.Xv Go.Proofs.Xl Go.Proofs.Xd
theorem lp_mk{σ τ ρ:Type}(mk:σ->τ){F:(τ->Option ρ)->τ->Option ρ}{G:(σ->Option ρ)->σ->Option ρ}(h:∀g s,F g (mk s)=G (fun s=>g (mk s)) s)(s:σ):lp F (mk s)=lp G s:=by
 have key:∀n s,itF F n (mk s)=itF G n s:=by
  intro n
  induction n with
  | zero=>intro s; rfl
  | succ n ih =>
    intro s;show F (itF F n) (mk s)=G (itF G n) s;rw[h];congr 1;exact funext fun s=>ih s
 exact key _ s
theorem nxtV_succ(fr to:Nat->Nat)(lv:Nat->Bool)(v k:Nat):nxtV (k+1) fr to lv v=if(lv k&&fr k==v)=true then nxtV k fr to lv v++[(to k:Int)] else nxtV k fr to lv v:=by
 unfold nxtV;rw[List.range_succ,List.filter_append,List.map_append];by_cases h:(lv k&&fr k==v)=true
 ·rw[if_pos h]; simp only[List.filter_cons,h,if_true,List.filter_nil,List.map_cons,List.map_nil]
 ·rw[if_neg h]; simp only[List.filter_cons,h,Bool.false_eq_true,if_false,List.filter_nil,List.map_nil,List.append_nil]
theorem nxtV_len(fr to:Nat->Nat)(lv:Nat->Bool)(v k:Nat):(nxtV k fr to lv v).length<=k:=by
 unfold nxtV;rw[List.length_map];have:=List.length_filter_le (fun i=>lv i&&fr i==v) (List.range k)
 rwa [List.length_range] at this
def grF(fr to:Nat->Nat)(lv:Nat->Bool)(k:Nat)(s:List (List Int)):List (List Int):=if lv k=true then s.set (fr k) (s.getD (fr k) []++[(to k:Int)]) else s
theorem setL_get{o:List (List Int)}{i v:Nat}(x:List Int)(hi:i<o.length):(o.set i x).getD v []=if v=i then x else o.getD v []:=by
 by_cases h:v=i
 ·subst h; simp[hi]
 ·rw[if_neg h]; simp[List.getElem?_set_ne (Ne.symm h)]
theorem grF_step{N:Nat}(fr to:Nat->Nat)(lv:Nat->Bool){k:Nat}{s:List (List Int)}(hf:fr k<N)(hs:s.length=N/\∀v,s.getD v []=nxtV k fr to lv v):(grF fr to lv k s).length=N/\∀v,(grF fr to lv k s).getD v []=nxtV (k+1) fr to lv v:=by
 obtain⟨h1,h2⟩:=hs;unfold grF;cases hl:lv k with
 | false =>
   refine⟨h1,fun v=>?_⟩;rw[nxtV_succ,hl,if_neg (by simp),if_neg (by simp)];exact h2 v
 | true =>
   rw[if_pos rfl];refine⟨by rw[List.length_set,h1],fun v=>?_⟩;rw[setL_get _ (by omega),nxtV_succ,hl];by_cases e:v=fr k
   ·subst e; rw[if_pos rfl,if_pos (by simp),h2]
   ·rw[if_neg e,if_neg (by simp; exact fun h=>e h.symm),h2]
section
variable {b:Y34}
def srcN(b:Y34)(fw:Bool):Nat->Nat:=if fw=true then frN b else toN b
def dstN(b:Y34)(fw:Bool):Nat->Nat:=if fw=true then toN b else frN b
theorem srcN_lt(hb:blockOk b=true)(fw:Bool){i:Nat}(hi:i < (lV b).length):srcN b fw i<nodN b/\dstN b fw i<nodN b:=by
 obtain⟨_,_,h1,h2⟩:=frto b hb hi;cases fw
 ·exact⟨h2,h1⟩
 ·exact⟨h1,h2⟩
theorem r141(hb:blockOk b=true){lv:List Bool}(hlv:lv.length=(lV b).length){s:Nat}(hs:s<nodN b)(fw:Bool):∃L,RB (lV b).length (nodN b) (srcN b fw) (dstN b fw) (fun i=>lv.getD i false) s L/\u141 (nodN b:Int) (lV b) lv (s:Int) fw=some L:=by
 have hM:=links_len hb;have hN:=nod_le b hb;unfold u141;have e0:((nodN b:Int)).toNat=nodN b:=rfl;have e1:((s:Int)).toNat=s:=rfl;rw[e0,e1,gP ⟨⟨by omega,rfl,by omega,by omega⟩,trivial⟩,gP ⟨by rw[List.length_replicate]; exact oo,by rw[List.length_replicate]; exact hs,trivial⟩];obtain⟨L,h1,h2⟩:=sweep_lp (ρ:=List Bool) (lV b).length (nodN b) (srcN b fw) (dstN b fw) (fun i=>lv.getD i false) (fun i hi=>(srcN_lt hb fw hi).2) hN hs (F:=fun g q=>u141L1 lv fw (lV b) (fun t=>g (t.2,t.1)) (q.2,q.1)) (J:=fun L=>some L) (fun g q hq=>by
  obtain⟨r,c⟩:=q;cases c with
  | false=>rfl
  | true =>
    refine Eq.trans (if_pos (c:=(true:Bool)=true) (t:=lp (u141L2 lv fw (lV b) fun t=>g (t.2,t.1)) (false,0,r)) (e:=u141J0 r) rfl) ?_;show _=g (fN (swS (srcN b fw) (dstN b fw) fun i=>lv.getD i false) (lV b).length (r,false));refine lF (n:=(lV b).length) (by omega) (fun(k:Nat) (s:List Bool×Bool)=>(s.2,(k:Int),s.1)) (swS (srcN b fw) (dstN b fw) fun i=>lv.getD i false) (fun _ s=>s.1.length=nodN b) (J:=fun s=>g (s.1,s.2)) (F:=u141L2 lv fw (lV b) fun t=>g (t.2,t.1)) (fun g' k s hk hI=>?_) (fun k s hk hI=>?_) (fun g' s _=>aE) (r,false) hq
    ·obtain⟨a1,a2,_,_⟩:=frto b hb hk;obtain⟨l1,l2⟩:=srcN_lt hb fw hk;have hI:s.1.length=nodN b:=hI;have e3:((k:Int)).toNat=k:=rfl;have key:u141J4 (k:Int) s.1 s.2 lv g' ((srcN b fw k:Int),(dstN b fw k:Int))=g' ((swS (srcN b fw) (dstN b fw) (fun i=>lv.getD i false) k s).2,((k+1:Nat):Int),(swS (srcN b fw) (dstN b fw) (fun i=>lv.getD i false) k s).1):=by
      refine(gP ⟨oo,(fun _=>oo),(fun _=>by omega),(fun _=>oo),(fun _=>by omega),trivial⟩).trans ?_;unfold swS;by_cases h:(lv.getD k false&&s.1.getD (srcN b fw k) false&&!s.1.getD (dstN b fw k) false)=true
      ·rw[if_pos h];refine(if_pos h).trans ?_;refine(gP ⟨oo,by omega,trivial⟩).trans ?_;exact gP ⟨oo,trivial⟩
      ·rw[if_neg h];refine(if_neg h).trans ?_;exact gP ⟨oo,trivial⟩
     refine(if_pos (by simpa using hk)).trans ?_;refine(gP ⟨oo,oo,trivial⟩).trans ?_;rw[lE,e3];cases fw with
     | false =>
       refine(if_pos rfl).trans ?_;rw[a1,a2];exact key
     | true =>
       refine(if_neg (by simp)).trans ?_;rw[a1,a2];exact key
    ·have hI:s.1.length=nodN b:=hI;unfold swS;split
     ·show(s.1.set _ true).length=_;rw[List.length_set]; exact hI
     ·exact hI)
 refine⟨L,h1,Eq.trans ?_ h2⟩;exact lp_mk (fun q:List Bool×Bool=>(q.2,q.1)) (fun g s=>rfl) ((List.replicate (nodN b) false).set s true,true)
theorem r76c79(hb:blockOk b=true){lv:List Bool}(hlv:lv.length=(lV b).length){s':Nat}(hs:s'<nodN b):∃L,RB (lV b).length (nodN b) (srcN b false) (dstN b false) (fun i=>lv.getD i false) s' L/\u76c79 (viewV b,lv) [(s':Int)]=some L:=by
 have hM:=links_len hb;have hN:=nod_le b hb;unfold u76c79;have e0:((nodN b:Int)).toNat=nodN b:=rfl;have en:u115 ((viewV b,lv):Y100×List Bool).1=some (nodN b:Int):=r115 b hb;rw[en,vS,e0,gP ⟨rfl,⟨by omega,rfl,by omega,by omega⟩,trivial⟩,lE];have hg0:(List.replicate (nodN b) ([]:List Int)).length=nodN b/\∀v,(List.replicate (nodN b) ([]:List Int)).getD v []=nxtV 0 (srcN b false) (dstN b false) (fun i=>lv.getD i false) v:=⟨List.length_replicate,fun v=>by
  rw[gq,List.getElem?_replicate];split <;> rfl⟩
 obtain⟨L,h1,h2⟩:=queue_lp (ρ:=List Bool) (lV b).length (nodN b) (srcN b false) (dstN b false) (fun i=>lv.getD i false) (fun i hi=>(srcN_lt hb false hi).2) (by omega) hs (F:=u76c79L4 (fN (grF (srcN b false) (dstN b false) fun i=>lv.getD i false) (lV b).length (List.replicate (nodN b) []))) (J:=fun L=>some L) (fun g q hq hm hl=>by
  obtain⟨o,r⟩:=q;have hgr:∀m,m<=(lV b).length->(fN (grF (srcN b false) (dstN b false) fun i=>lv.getD i false) m (List.replicate (nodN b) [])).length=nodN b/\∀v,(fN (grF (srcN b false) (dstN b false) fun i=>lv.getD i false) m (List.replicate (nodN b) [])).getD v []=nxtV m (srcN b false) (dstN b false) (fun i=>lv.getD i false) v:=by
   intro m
   induction m with
   | zero=>intro _; exact hg0
   | succ m ih=>intro hm; exact grF_step _ _ _ (srcN_lt hb false (by omega)).1 (ih (by omega))
  obtain⟨g1,g2⟩:=hgr _ (Nat.le_refl _);generalize fN (grF (srcN b false) (dstN b false) fun i=>lv.getD i false) (lV b).length (List.replicate (nodN b) [])=gr at g1 g2;have hq:r.length=nodN b:=hq;have hl:o.length<=(lV b).length+1:=hl;by_cases h0:0<o.length
  ·refine Eq.trans ?_ (if_pos (decide_eq_true h0)).symm;obtain⟨x0,x1⟩:=hm (o.getD 0 0) (getD_mem h0);refine(if_pos (decide_eq_true (by omega))).trans ?_;refine(gP ⟨oo,by show 0<o.length; omega,trivial⟩).trans ?_;refine(gP ⟨⟨by omega,by omega,by omega⟩,trivial⟩).trans ?_;show gd (ix (o.getD 0 0) r.length/\(o.getD 0 0).toNat<r.length/\True) (if(!r.getD (o.getD 0 0).toNat false)=true then _ else _)=_;refine(gP ⟨oo,by omega,trivial⟩).trans ?_;unfold quN;show _=g (if r.getD (o.getD 0 0).toNat false=true then(o.drop 1,r) else(o.drop 1++nxtV (lV b).length (srcN b false) (dstN b false) (fun i=>lv.getD i false) (o.getD 0 0).toNat,r.set (o.getD 0 0).toNat true));cases hr:r.getD (o.getD 0 0).toNat false with
   | true =>
     refine(if_neg (by simp)).trans ?_;rw[if_pos rfl];rfl
   | false =>
     refine(if_pos rfl).trans ?_;rw[if_neg (by simp)];refine(gP ⟨⟨by show 0<=o.getD 0 0; omega,by show o.getD 0 0<_; omega⟩,by show(o.getD 0 0).toNat<_; omega,trivial⟩).trans ?_;rw[lE];have hl':o.length<=(lV b).length+1:=hl;have hd:(o.drop 1).length<=(lV b).length:=by rw[List.length_drop]; omega
     have hnl:=nxtV_len (srcN b false) (dstN b false) (fun i=>lv.getD i false) (o.getD 0 0).toNat (lV b).length;have e5:gr.getD (Int.toNat (o.getD (Int.toNat (0:Int)) (0:Int))) []=nxtV (lV b).length (srcN b false) (dstN b false) (fun i=>lv.getD i false) (o.getD 0 0).toNat:=g2 _;rw[e5];refine(gP ⟨⟨by show 0<=o.getD 0 0; omega,by show o.getD 0 0<_; omega⟩,⟨by show(o.drop 1).length+_<=_; omega,by show((o.drop 1).length+_)*8<=_; omega⟩,trivial⟩).trans ?_;rw[lE];rfl
  ·refine Eq.trans ?_ (if_neg (by simpa using h0)).symm;exact if_neg (by show ¬decide ((0:Int) < (o.length:Int))=true; rw[dq]; omega))
 refine⟨L,h1,?_⟩;refine(lF (n:=(lV b).length) (by omega) (fun(k:Nat) (s:List (List Int))=>((k:Int),s)) (grF (srcN b false) (dstN b false) fun i=>lv.getD i false) (fun k s=>s.length=nodN b/\∀v,s.getD v []=nxtV k (srcN b false) (dstN b false) (fun i=>lv.getD i false) v) (J:=fun s=>u76c79J0 [(s':Int)] (viewV b,lv) s) (F:=u76c79L1 (viewV b,lv) [(s':Int)]) (fun g k s hk hI=>?_) (fun k s hk hI=>grF_step _ _ _ (srcN_lt hb false hk).1 hI) (fun g s _=>aE) _ hg0).trans ?_
 ·obtain⟨a1,a2,_,_⟩:=frto b hb hk;obtain⟨l1,l2⟩:=srcN_lt hb false hk;obtain⟨i1,i2⟩:=hI;have e3:((k:Int)).toNat=k:=rfl;have hn:=nxtV_len (srcN b false) (dstN b false) (fun i=>lv.getD i false) (srcN b false k) k;refine(if_pos (by show decide ((k:Int) < ((lV b).length:Int))=true; simpa using hk)).trans ?_;refine(gP ⟨⟨by omega,by show(k:Int) < ((lV b).length:Int); omega⟩,trivial⟩).trans ?_;rw[lE,e3];have ef:u79 ((lV b).getD k (dflt y48))=some ((srcN b false k:Int),(dstN b false k:Int)):=by
   unfold u79;rw[a1,a2];rfl
  show gd ((u79 ((lV b).getD k (dflt y48))).isSome=true/\True) (lt (vl (u79 ((lV b).getD k (dflt y48)))) fun v8=>_)=_;rw[ef,vS,gP ⟨rfl,trivial⟩,lE];refine(gP ⟨⟨by omega,by show(k:Int) < (lv.length:Int); omega⟩,trivial⟩).trans ?_;rw[show grF (srcN b false) (dstN b false) (fun i=>lv.getD i false) k s=if lv.getD k false=true then s.set (srcN b false k) (s.getD (srcN b false k) []++[(dstN b false k:Int)]) else s from rfl];cases hl:lv.getD k false with
  | false =>
    refine(if_neg Bool.false_ne_true).trans ?_;refine(gP (V:=in64 ((k:Int)+1)/\True) ⟨oo,trivial⟩).trans ?_;rfl
  | true =>
    refine(if_pos (show(true:Bool)=true from rfl)).trans ?_;have e6:s.getD ((srcN b false k:Int)).toNat []=nxtV k (srcN b false) (dstN b false) (fun i=>lv.getD i false) (srcN b false k):=i2 _;refine(gP ⟨⟨by show 0<=(srcN b false k:Int); omega,by show(srcN b false k:Int)<_; omega⟩,by show srcN b false k<_; omega,⟨by show(s.getD ((srcN b false k:Int)).toNat []).length+1<=_; rw[e6]; omega,by show((s.getD ((srcN b false k:Int)).toNat []).length+1)*8<=_; rw[e6]; omega⟩,⟨by show 0<=(srcN b false k:Int); omega,by show(srcN b false k:Int)<_; omega⟩,⟨by show srcN b false k<_; omega,rfl⟩,trivial⟩).trans ?_;refine(gP (V:=in64 ((k:Int)+1)/\True) ⟨oo,trivial⟩).trans ?_;rfl
 ·show u76c79J0 [(s':Int)] (viewV b,lv) (fN _ _ _)=_;unfold u76c79J0;rw[en,vS,e0,gP ⟨rfl,⟨by omega,rfl,by omega,by omega⟩,trivial⟩,lE,r138 _ (by show 1<=_; omega),vS,gP ⟨rfl,trivial⟩,lE];exact h2
theorem r76c77(hb:blockOk b=true){lv:List Bool}(hlv:lv.length=(lV b).length){s':Nat}(hs:s'<nodN b):∃L,RB (lV b).length (nodN b) (srcN b true) (dstN b true) (fun i=>lv.getD i false) s' L/\u76c77 (viewV b,lv) [(s':Int)]=some L:=by
 have hM:=links_len hb;have hN:=nod_le b hb;unfold u76c77;have e0:((nodN b:Int)).toNat=nodN b:=rfl;have en:u115 ((viewV b,lv):Y100×List Bool).1=some (nodN b:Int):=r115 b hb;rw[en,vS,e0,gP ⟨rfl,⟨by omega,rfl,by omega,by omega⟩,trivial⟩,lE];have hg0:(List.replicate (nodN b) ([]:List Int)).length=nodN b/\∀v,(List.replicate (nodN b) ([]:List Int)).getD v []=nxtV 0 (srcN b true) (dstN b true) (fun i=>lv.getD i false) v:=⟨List.length_replicate,fun v=>by
  rw[gq,List.getElem?_replicate];split <;> rfl⟩
 obtain⟨L,h1,h2⟩:=queue_lp (ρ:=List Bool) (lV b).length (nodN b) (srcN b true) (dstN b true) (fun i=>lv.getD i false) (fun i hi=>(srcN_lt hb true hi).2) (by omega) hs (F:=u76c77L4 (fN (grF (srcN b true) (dstN b true) fun i=>lv.getD i false) (lV b).length (List.replicate (nodN b) []))) (J:=fun L=>some L) (fun g q hq hm hl=>by
  obtain⟨o,r⟩:=q;have hgr:∀m,m<=(lV b).length->(fN (grF (srcN b true) (dstN b true) fun i=>lv.getD i false) m (List.replicate (nodN b) [])).length=nodN b/\∀v,(fN (grF (srcN b true) (dstN b true) fun i=>lv.getD i false) m (List.replicate (nodN b) [])).getD v []=nxtV m (srcN b true) (dstN b true) (fun i=>lv.getD i false) v:=by
   intro m
   induction m with
   | zero=>intro _; exact hg0
   | succ m ih=>intro hm; exact grF_step _ _ _ (srcN_lt hb true (by omega)).1 (ih (by omega))
  obtain⟨g1,g2⟩:=hgr _ (Nat.le_refl _);generalize fN (grF (srcN b true) (dstN b true) fun i=>lv.getD i false) (lV b).length (List.replicate (nodN b) [])=gr at g1 g2;have hq:r.length=nodN b:=hq;have hl:o.length<=(lV b).length+1:=hl;by_cases h0:0<o.length
  ·refine Eq.trans ?_ (if_pos (decide_eq_true h0)).symm;obtain⟨x0,x1⟩:=hm (o.getD 0 0) (getD_mem h0);refine(if_pos (decide_eq_true (by omega))).trans ?_;refine(gP ⟨oo,by show 0<o.length; omega,trivial⟩).trans ?_;refine(gP ⟨⟨by omega,by omega,by omega⟩,trivial⟩).trans ?_;show gd (ix (o.getD 0 0) r.length/\(o.getD 0 0).toNat<r.length/\True) (if(!r.getD (o.getD 0 0).toNat false)=true then _ else _)=_;refine(gP ⟨oo,by omega,trivial⟩).trans ?_;unfold quN;show _=g (if r.getD (o.getD 0 0).toNat false=true then(o.drop 1,r) else(o.drop 1++nxtV (lV b).length (srcN b true) (dstN b true) (fun i=>lv.getD i false) (o.getD 0 0).toNat,r.set (o.getD 0 0).toNat true));cases hr:r.getD (o.getD 0 0).toNat false with
   | true =>
     refine(if_neg (by simp)).trans ?_;rw[if_pos rfl];rfl
   | false =>
     refine(if_pos rfl).trans ?_;rw[if_neg (by simp)];refine(gP ⟨⟨by show 0<=o.getD 0 0; omega,by show o.getD 0 0<_; omega⟩,by show(o.getD 0 0).toNat<_; omega,trivial⟩).trans ?_;rw[lE];have hl':o.length<=(lV b).length+1:=hl;have hd:(o.drop 1).length<=(lV b).length:=by rw[List.length_drop]; omega
     have hnl:=nxtV_len (srcN b true) (dstN b true) (fun i=>lv.getD i false) (o.getD 0 0).toNat (lV b).length;have e5:gr.getD (Int.toNat (o.getD (Int.toNat (0:Int)) (0:Int))) []=nxtV (lV b).length (srcN b true) (dstN b true) (fun i=>lv.getD i false) (o.getD 0 0).toNat:=g2 _;rw[e5];refine(gP ⟨⟨by show 0<=o.getD 0 0; omega,by show o.getD 0 0<_; omega⟩,⟨by show(o.drop 1).length+_<=_; omega,by show((o.drop 1).length+_)*8<=_; omega⟩,trivial⟩).trans ?_;rw[lE];rfl
  ·refine Eq.trans ?_ (if_neg (by simpa using h0)).symm;exact if_neg (by show ¬decide ((0:Int) < (o.length:Int))=true; rw[dq]; omega))
 refine⟨L,h1,?_⟩;refine(lF (n:=(lV b).length) (by omega) (fun(k:Nat) (s:List (List Int))=>((k:Int),s)) (grF (srcN b true) (dstN b true) fun i=>lv.getD i false) (fun k s=>s.length=nodN b/\∀v,s.getD v []=nxtV k (srcN b true) (dstN b true) (fun i=>lv.getD i false) v) (J:=fun s=>u76c77J0 [(s':Int)] (viewV b,lv) s) (F:=u76c77L1 (viewV b,lv) [(s':Int)]) (fun g k s hk hI=>?_) (fun k s hk hI=>grF_step _ _ _ (srcN_lt hb true hk).1 hI) (fun g s _=>aE) _ hg0).trans ?_
 ·obtain⟨a1,a2,_,_⟩:=frto b hb hk;obtain⟨l1,l2⟩:=srcN_lt hb true hk;obtain⟨i1,i2⟩:=hI;have e3:((k:Int)).toNat=k:=rfl;have hn:=nxtV_len (srcN b true) (dstN b true) (fun i=>lv.getD i false) (srcN b true k) k;refine(if_pos (by show decide ((k:Int) < ((lV b).length:Int))=true; simpa using hk)).trans ?_;refine(gP ⟨⟨by omega,by show(k:Int) < ((lV b).length:Int); omega⟩,trivial⟩).trans ?_;rw[lE,e3];have ef:u77 ((lV b).getD k (dflt y48))=some ((srcN b true k:Int),(dstN b true k:Int)):=by
   unfold u77;rw[a1,a2];rfl
  show gd ((u77 ((lV b).getD k (dflt y48))).isSome=true/\True) (lt (vl (u77 ((lV b).getD k (dflt y48)))) fun v8=>_)=_;rw[ef,vS,gP ⟨rfl,trivial⟩,lE];refine(gP ⟨⟨by omega,by show(k:Int) < (lv.length:Int); omega⟩,trivial⟩).trans ?_;rw[show grF (srcN b true) (dstN b true) (fun i=>lv.getD i false) k s=if lv.getD k false=true then s.set (srcN b true k) (s.getD (srcN b true k) []++[(dstN b true k:Int)]) else s from rfl];cases hl:lv.getD k false with
  | false =>
    refine(if_neg Bool.false_ne_true).trans ?_;refine(gP (V:=in64 ((k:Int)+1)/\True) ⟨oo,trivial⟩).trans ?_;rfl
  | true =>
    refine(if_pos (show(true:Bool)=true from rfl)).trans ?_;have e6:s.getD ((srcN b true k:Int)).toNat []=nxtV k (srcN b true) (dstN b true) (fun i=>lv.getD i false) (srcN b true k):=i2 _;refine(gP ⟨⟨by show 0<=(srcN b true k:Int); omega,by show(srcN b true k:Int)<_; omega⟩,by show srcN b true k<_; omega,⟨by show(s.getD ((srcN b true k:Int)).toNat []).length+1<=_; rw[e6]; omega,by show((s.getD ((srcN b true k:Int)).toNat []).length+1)*8<=_; rw[e6]; omega⟩,⟨by show 0<=(srcN b true k:Int); omega,by show(srcN b true k:Int)<_; omega⟩,⟨by show srcN b true k<_; omega,rfl⟩,trivial⟩).trans ?_;refine(gP (V:=in64 ((k:Int)+1)/\True) ⟨oo,trivial⟩).trans ?_;rfl
 ·show u76c77J0 [(s':Int)] (viewV b,lv) (fN _ _ _)=_;unfold u76c77J0;rw[en,vS,e0,gP ⟨rfl,⟨by omega,rfl,by omega,by omega⟩,trivial⟩,lE,r138 _ (by show 1<=_; omega),vS,gP ⟨rfl,trivial⟩,lE];exact h2
end
theorem r140(L:List Bool)(h:L.length<=1048576):u140 L=some (idxV (fun i=>L.getD i false) L.length):=by
 rw[<- idxV_fold];refine lF (n:=L.length) (by omega) (fun(k:Nat) (s:List Int)=>((k:Int),s)) (fun i s=>if L.getD i false=true then s++[(i:Int)] else s) (fun k s=>s.length<=k) (J:=fun s=>some s) (F:=u140L1 L) (fun g k s hk hI=>?_) (fun k s hk hI=>?_) (fun g s _=>aE) [] (Nat.le_refl _)
 ·have hI:s.length<=k:=hI;have e3:((k:Int)).toNat=k:=rfl;refine(if_pos (by simpa using hk)).trans ?_;refine(gP ⟨oo,trivial⟩).trans ?_;rw[e3];cases hl:L.getD k false with
  | false =>
    refine(if_neg (by simp)).trans ?_;exact gP ⟨oo,trivial⟩
  | true =>
    refine(if_pos rfl).trans ?_;refine(gP ⟨⟨by show s.length+1<=_; omega,by show(s.length+1)*8<=_; omega⟩,trivial⟩).trans ?_;exact gP ⟨oo,trivial⟩
 ·have hI:s.length<=k:=hI;split
  ·rw[List.length_append,List.length_singleton]; omega
  ·omega
theorem r75(L:List Bool)(h:L.length<=1048576):u75 L=some (idxV (fun i=>L.getD i false) L.length):=by
 rw[<- idxV_fold];refine lF (n:=L.length) (by omega) (fun(k:Nat) (s:List Int)=>(s,(k:Int))) (fun i s=>if L.getD i false=true then s++[(i:Int)] else s) (fun k s=>s.length<=k) (J:=fun s=>some s) (F:=u75L1 L) (fun g k s hk hI=>?_) (fun k s hk hI=>?_) (fun g s _=>aE) [] (Nat.le_refl _)
 ·have hI:s.length<=k:=hI;have e3:((k:Int)).toNat=k:=rfl;refine(if_pos (by simpa using hk)).trans ?_;refine(gP ⟨oo,trivial⟩).trans ?_;rw[e3];cases hl:L.getD k false with
  | false =>
    refine(if_neg (by simp)).trans ?_;exact gP ⟨oo,trivial⟩
  | true =>
    refine(if_pos rfl).trans ?_;refine(gP ⟨⟨by show s.length+1<=_; omega,by show(s.length+1)*8<=_; omega⟩,trivial⟩).trans ?_;exact gP ⟨oo,trivial⟩
 ·have hI:s.length<=k:=hI;split
  ·rw[List.length_append,List.length_singleton]; omega
  ·omega
theorem r78(b:Y34)(hw:wf y34 b)(hm:cnt y34 b<=1048576)(br:List Int)(hl:br.length<=1048576)(a:Int)(fw:Bool):(codeN b br a≠0/\u78 b br a fw=some ([],codeN b br a)) ∨
  (codeN b br a=0/\∃L,RB (lV b).length (nodN b) (srcN b fw) (dstN b fw) (fun i=>(liveV (lV b).length br).getD i false) a.toNat L/\u78 b br a fw=some (idxV (fun i=>L.getD i false) L.length,0)):=by
 unfold u78;rw[r139 b hw hm br hl,vS,gP ⟨rfl,trivial⟩,lE];by_cases h:codeN b br a=0
 ·right;obtain⟨hc,hi⟩:=codeN_ok h;obtain⟨hb,hr⟩:=codeG_ok hc;have hM:=links_len hb;have hN:=nod_le b hb;have ha:=nat_of hi;have hlt:a.toNat<nodN b:=by
   unfold inB at hi;simp only[ba,dq] at hi;omega
  obtain⟨L,h1,h2⟩:=r141 hb (live_len _ br) hlt fw;refine⟨h,L,h1,?_⟩;rw[<- ha] at h2;rw[h];refine(if_neg (by decide)).trans ?_;rw[r59 b hw hb,vS,gP ⟨rfl,trivial⟩,lE,r61 b hw hb,vS,r62 _ _ (by omega) hl,vS,h2,vS,r140 L (by rw[h1.1]; omega),vS];refine(gP ⟨rfl,rfl,rfl,rfl,trivial⟩).trans ?_;rfl
 ·left;exact⟨h,if_pos (by simp[h])⟩
theorem r28(b:Y34)(hw:wf y34 b)(hm:cnt y34 b<=1048576)(br:List Int)(hl:br.length<=1048576)(a:Int):∃l c,u29 b br a=some (l,c)/\u28 b br a=some (l,c)/\l.length<=1048576:=by
 unfold u29 u28;rw[r72 b hw hm br hl];rcases r78 b hw hm br hl a true with ⟨h,e⟩ | ⟨h,L,h1,e⟩
 ·refine⟨[],codeN b br a,by rw[e]; rfl,?_,Nat.zero_le _⟩;rw[if_neg h];refine(if_pos rfl).trans ((gP ⟨rfl,trivial⟩).trans ?_);exact if_pos (by show(codeN b br a != 0)=true; simp[h])
 ·obtain⟨hc,hi⟩:=codeN_ok h;obtain⟨hb,hr⟩:=codeG_ok hc;have hM:=links_len hb;have hN:=nod_le b hb;have ha:=nat_of hi;have hlt:a.toNat<nodN b:=by
   unfold inB at hi;simp only[ba,dq] at hi;omega
  obtain⟨K,k1,k2⟩:=r76c77 hb (live_len _ br) hlt;obtain rfl:=h1.uniq k1;rw[<- ha] at k2;refine⟨_,0,by rw[e]; rfl,?_,Nat.le_trans (idxV_len _ _).1 (by rw[h1.1]; omega)⟩;rw[if_pos h];refine(if_neg (by simp[isL])).trans ((gP ⟨rfl,trivial⟩).trans ?_);rw[lE];refine(if_neg (by simp[vR])).trans ?_;show gd ((u76c77 (viewV b,liveV (lV b).length br) [a]).isSome=true/\(u75 (vl (u76c77 (viewV b,liveV (lV b).length br) [a]))).isSome=true/\True) (lt (vl (u75 (vl (u76c77 (viewV b,liveV (lV b).length br) [a]))),vl (u76c77 (viewV b,liveV (lV b).length br) [a])) fun v=>_)=_;rw[k2,vS,r75 L (by rw[h1.1]; omega),vS,gP ⟨rfl,rfl,trivial⟩,lE]
def Dd(d:Y115):Prop:=d.1.length<=4096/\0<=d.2.1/\d.2.1<=4096/\∀b∈d.1,0<=b/\b<=255
theorem roll_ok{c:List Int}(hw:wf (.sl (.int .u8)) c)(hl:c.length<=4096)(s:Int):∃d,u26 c s=some d/\Dd d:=by
 unfold u26;refine gd_ex ⟨trivial,oo,trivial,trivial⟩ (lt_ex ?_);refine lp_ex (fun x=>4097-x.1.toNat) (fun x=>0<=x.1/\x.1<=4096) ?_ ⟨by simp only; omega,by simp only; omega⟩ (by simp only; omega);rintro g ⟨i,x⟩ ⟨i1,i2⟩ ih;simp only at i1 i2;unfold u26L1;dsimp only;split
 ·rename_i hc;have hc:=of_decide_eq_true hc;have hlt:i.toNat<c.length:=by omega
  have hb:0<=c.getD i.toNat 0/\c.getD i.toNat 0<=255:=by
   rw[gq,List.getElem?_eq_getElem hlt];exact hw.2 _ (List.getElem_mem hlt)
  refine gd_ex ⟨trivial,⟨i1,hc⟩,oo,trivial,trivial,trivial⟩ (lt_ex (gd_ex ⟨oo,trivial⟩ ?_));exact ih _ ⟨by simp only; omega,by simp only; omega⟩ (by simp only; omega)
 ·exact⟨_,rfl,hl,by simp only; omega,by simp only; omega,fun b hb=>hw.2 b hb⟩
theorem below_ok{d:Y115}(h:Dd d){n:Int}(hn:1<=n):∃x d',u30 d n=some (x,d')/\Dd d'/\0<=x/\x<n:=by
 obtain⟨h1,h2,h3,h4⟩:=h;have key:∃r,u30 d n=some r/\(Dd r.2/\0<=r.1/\r.1<n):=by
  unfold u30;refine gd_ex ⟨trivial,trivial,trivial⟩ (lt_ex ?_);generalize hv:(d.2.2*6364136223846793005 % 18446744073709551616+1442695040888963407) % 18446744073709551616=v;have v0:0<=v:=by rw[<- hv]; exact Int.emod_nonneg _ (by decide)
  have v1:v<=18446744073709551615:=by
   have:=Int.emod_lt_of_pos (d.2.2*6364136223846793005 % 18446744073709551616+1442695040888963407) (show(0:Int)<18446744073709551616 by decide);omega
  have e33:(2:Int) ^ Int.toNat (33:Int)=8589934592:=by decide
  have w0:0<=v.fdiv ((2:Int) ^ Int.toNat (33:Int))/\v.fdiv ((2:Int) ^ Int.toNat (33:Int))<=18446744073709551615:=by
   rw[e33,Int.fdiv_eq_ediv_of_nonneg _ (by decide)];omega
  have e24:∀k:Nat,(0:Int)<=((k &&& Int.toNat (16777215:Int):Nat):Int)/\((k &&& Int.toNat (16777215:Int):Nat):Int)<=16777215:=fun k=>by
   have:k &&& Int.toNat (16777215:Int)<=Int.toNat (16777215:Int):=Nat.and_le_right;omega
  generalize hx:v.fdiv ((2:Int) ^ Int.toNat (33:Int))=x at w0;obtain⟨y0,y1⟩:=e24 x.toNat;refine gd_ex ⟨⟨⟨by decide,by decide⟩,w0.1,w0.2⟩,⟨w0.1,by decide⟩,oo,trivial⟩ (lt_ex ?_);generalize ((x.toNat &&& Int.toNat (16777215:Int):Nat):Int)=y at y0 y1;split
  ·rename_i hc;have hc:=of_decide_eq_true hc;have hlt:d.2.1.toNat<d.1.length:=by omega
   have hb:0<=d.1.getD d.2.1.toNat 0/\d.1.getD d.2.1.toNat 0<=255:=by
    rw[gq,List.getElem?_eq_getElem hlt];exact h4 _ (List.getElem_mem hlt)
   refine gd_ex ⟨⟨h2,hc⟩,trivial,oo,trivial⟩ (gd_ex ⟨oo,trivial⟩ ?_);unfold u30J0;exact gd_ex ⟨by omega,trivial⟩ ⟨_,rfl,⟨h1,by simp only; omega,by simp only; omega,h4⟩,Int.tmod_nonneg _ (by omega),Int.tmod_lt_of_pos _ (by omega)⟩
  ·unfold u30J0;exact gd_ex ⟨by omega,trivial⟩ ⟨_,rfl,⟨h1,h2,h3,h4⟩,Int.tmod_nonneg _ (by omega),Int.tmod_lt_of_pos _ (by omega)⟩
 obtain⟨⟨x,d'⟩,e,h5,h6,h7⟩:=key;exact⟨x,d',e,h5,h6,h7⟩
theorem code_lt{b:Y34}{br:List Int}{a:Int}(h:codeN b br a=0):0<=a/\a.toNat<nodN b:=by
 obtain⟨_,hi⟩:=codeN_ok h;have:=inB_iff.1 hi;omega
theorem cone_out(b:Y34)(hw:wf y34 b)(hm:cnt y34 b<=1048576)(br:List Int)(hl:br.length<=1048576)(a:Int):(codeN b br a≠0/\u28 b br a=some ([],codeN b br a)/\u29 b br a=some ([],codeN b br a)) ∨
  (codeN b br a=0/\∃L,RB (lV b).length (nodN b) (frN b) (toN b) (fun i=>(liveV (lV b).length br).getD i false) a.toNat L/\u28 b br a=some (idxV (fun i=>L.getD i false) (nodN b),0)/\u29 b br a=some (idxV (fun i=>L.getD i false) (nodN b),0)):=by
 obtain⟨l,c,e1,e2,_⟩:=r28 b hw hm br hl a;rw[e2,e1];unfold u29 at e1;rcases r78 b hw hm br hl a true with ⟨h,e⟩ | ⟨h,L,h1,e⟩
 ·rw[e,vS,gP ⟨rfl,trivial⟩,lE] at e1;exact .inl ⟨h,e1.symm,e1.symm⟩
 ·rw[e,vS,gP ⟨rfl,trivial⟩,lE,h1.1] at e1;exact .inr ⟨h,L,h1,e1.symm,e1.symm⟩
theorem cone_in(b:Y34)(hw:wf y34 b)(hm:cnt y34 b<=1048576)(br:List Int)(hl:br.length<=1048576)(a:Int)(h:codeN b br a=0) :
  ∃L,RB (lV b).length (nodN b) (toN b) (frN b) (fun i=>(liveV (lV b).length br).getD i false) a.toNat L/\u31 b br a=some (idxV (fun i=>L.getD i false) (nodN b),0):=by
 obtain⟨hc,hi⟩:=codeN_ok h;obtain⟨hb,hr⟩:=codeG_ok hc;have hM:=links_len hb;have hN:=nod_le b hb;have ha:=nat_of hi;obtain⟨K,k1,k2⟩:=r76c79 hb (live_len _ br) (code_lt h).2;rw[<- ha] at k2;refine⟨K,k1,?_⟩;unfold u31;rw[r72 b hw hm br hl,if_pos h];refine(if_neg (by simp[isL])).trans ((gP ⟨rfl,trivial⟩).trans ?_);rw[lE];refine(if_neg (by simp[vR])).trans ?_;show gd ((u76c79 (viewV b,liveV (lV b).length br) [a]).isSome=true/\(u75 (vl (u76c79 (viewV b,liveV (lV b).length br) [a]))).isSome=true/\True) (lt (vl (u75 (vl (u76c79 (viewV b,liveV (lV b).length br) [a]))),vl (u76c79 (viewV b,liveV (lV b).length br) [a])) fun v=>_)=_;rw[k2,vS,r75 K (by rw[k1.1]; omega),vS,gP ⟨rfl,rfl,trivial⟩,lE,k1.1]
theorem has_idx{N:Nat}{p:Nat->Bool}{k:Nat}(h:k<N):hasB (idxV p N) (k:Int)=p k:=by
 rw[Bool.eq_iff_iff];unfold hasB;rw[List.any_eq_true];constructor
 ·rintro⟨j,hj,e⟩;rw[List.mem_range] at hj;rw[idxV_get,beq_iff_eq] at e;rw[(idxV_len _ _).2] at hj;have:=getD_mem (d:=0) hj;have e2:((List.range N).filter p).getD j 0=k:=by omega
  rw[e2,List.mem_filter] at this;exact this.2
 ·intro hp;have hm:k∈(List.range N).filter p:=List.mem_filter.2 ⟨List.mem_range.2 h,hp⟩;obtain⟨j,hj,e⟩:=mem_pos hm;exact⟨j,List.mem_range.2 (by rw[(idxV_len _ _).2]; exact hj),by rw[idxV_get,e,beq_iff_eq]⟩
theorem idx_in{N:Nat}{p:Nat->Bool}{j:Nat}(h:j < (idxV p N).length):∃k:Nat,(idxV p N).getD j 0=(k:Int)/\k<N/\p k=true:=by
 rw[(idxV_len _ _).2] at h;have:=getD_mem (d:=0) h;rw[List.mem_filter,List.mem_range] at this;exact⟨_,idxV_get _ _ _,this.1,this.2⟩
section
variable [Alw] {b:Y34} {br:List Int}
theorem conesL1{p q:Nat->Bool}{N:Nat}(hN:N<=1000000)(hpq:∀k,k<N->q k=true->p k=true){d:Int×Y115}{c:Int}{k:Nat}(hd:(idxV p N).getD d.1.toNat 0=(k:Int))(hk:k<N)(hq:q k=true) :
  ∃r,lp (u5L1 (idxV p N,c) (idxV q N,0) d) 0=some r/\r=true:=by
 have hl:∀p:Nat->Bool,(idxV p N).length<=9223372036854775807:=fun p=>by
  have:=(idxV_len p N).1;omega
 have hq1:=(idxV_len q N).1;refine lp_ex (fun i=>(idxV q N).length+1-i.toNat) (fun i=>0<=i/\i<=((idxV q N).length:Int)) ?_ oo (by omega);rintro g i ⟨i1,i2⟩ ih;obtain⟨j,rfl⟩:∃j:Nat,i=(j:Int):=⟨i.toNat,by omega⟩;have e3:((j:Int)).toNat=j:=rfl;unfold u5L1;dsimp only;by_cases cc:(j:Int) < ((idxV q N).length:Int)
 ·rw[if_pos (decide_eq_true cc)];obtain⟨m,em,m1,m2⟩:=idx_in (p:=q) (N:=N) (j:=j) (by omega);simp only[e3,em,r18 _ _ (hl p),vS,Option.isSome_some,has_idx m1,hpq m m1 m2];refine gd_ex ⟨oo,by omega,trivial,trivial⟩ ?_;rw[if_neg (by decide)];exact gd_ex ⟨oo,trivial⟩ (ih _ oo (by omega))
 ·rw[if_neg (by simpa using cc)];unfold u5J0;simp only[hd,r18 _ _ (hl q),vS,Option.isSome_some,has_idx hk,hq];exact gd_ex ⟨fun _=>trivial,trivial⟩ ⟨_,rfl,rfl⟩
end
theorem n5[Alw](c:List Int)(hw0:wf (.sl (.int .u8)) c):u5 c=some true:=by
 have key2:∀e:Option Bool,(∃r,e=some r/\r=true)->e=some true:=by rintro e ⟨r,rfl,rfl⟩; rfl
 refine key2 _ ?_;unfold u5;refine gd_ex ⟨rfl,trivial⟩ ?_;split
 ·exact⟨_,rfl,rfl⟩
 ·rename_i hbig;have hbig:c.length<=4096:=by
   have:¬(decide ((4096:Int) < (c.length:Int))=true):=hbig;simp only[dq] at this;omega
  obtain⟨d0,ed,hd0⟩:=roll_ok hw0 hbig 6101;simp only[ed,vS,Option.isSome_some];refine gd_ex ⟨trivial,trivial⟩ (lt_ex (gd_ex ⟨trivial,trivial⟩ ⟨true,?_,rfl⟩));refine Alw.alp_of (([],([],[],[]),[]),[],0) ⟨⟨by decide,by decide⟩,⟨⟨wf_nil,wf_nil,wf_nil,wf_nil,wf_nil,trivial⟩,wf_nil,⟨by decide,by decide⟩,trivial⟩,trivial⟩ fun v0 hv=>?_;obtain⟨⟨t1,t2⟩,hw,-⟩:=hv;have hwb:wf y34 v0.1:=⟨hw.1.1,⟨hw.1.2.1,hw.1.2.2.1,hw.1.2.2.2.1⟩,hw.1.2.2.2.2.1⟩;obtain⟨b,br,a⟩:=v0;simp only at t1 t2 hwb;have hm:cnt y34 b<=1048576:=by omega
  have hl:br.length<=1048576:=by omega
  refine(gP trivial).trans (key2 _ ?_);rcases cone_out b hwb hm br hl a with ⟨h,e1,e2⟩ | ⟨h,L,h1,e1,e2⟩
  ·simp only[e1,e2,vS,Option.isSome_some];refine gd_ex ⟨trivial,trivial⟩ (lt_ex (gd_ex ⟨trivial,trivial⟩ (lt_ex ?_)));rw[if_neg (by simp),if_pos (by simpa using h)];exact⟨_,rfl,rfl⟩
  ·obtain⟨hc,hi⟩:=codeN_ok h;obtain⟨hb,hr⟩:=codeG_ok hc;have hNN:=nod_le b hb;obtain⟨ha0,ha⟩:=code_lt h;obtain⟨n,rfl⟩:∃n:Nat,a=(n:Int):=⟨a.toNat,by omega⟩;have en:∀n:Nat,Int.toNat (n:Int)=n:=fun _=>rfl;rw[en] at ha h1;simp only[e1,e2,vS,Option.isSome_some];refine gd_ex ⟨trivial,trivial⟩ (lt_ex (gd_ex ⟨trivial,trivial⟩ (lt_ex ?_)));rw[if_neg (by simp),if_neg (by simp)];obtain⟨x,d1,eb,hd1,x0,x1⟩:=below_ok hd0 (n:=(nodN b:Int)) (by omega);obtain⟨m,rfl⟩:∃m:Nat,x=(m:Int):=⟨x.toNat,by omega⟩;have hmN:m<nodN b:=by omega
   simp only[n17 b hwb hm hb,eb,vS,Option.isSome_some];refine gd_ex ⟨trivial,trivial,trivial⟩ (lt_ex ?_);have hcm:∀k:Nat,k<nodN b->codeN b br (k:Int)=0:=fun k hk=>by
    unfold codeN;rw[if_pos hc,if_pos (inB_iff.2 oo)]
   obtain⟨K,k1,k2⟩:=cone_in b hwb hm br hl (m:Int) (hcm m hmN);rw[en] at k1;have hlen:∀p:Nat->Bool,(idxV p (nodN b)).length<=9223372036854775807:=fun p=>by
    have:=(idxV_len p (nodN b)).1;omega
   have hft:∀i,i < (lV b).length->toN b i<nodN b:=fun i hi=>(frto b hb hi).2.2.2;have hff:∀i,i < (lV b).length->frN b i<nodN b:=fun i hi=>(frto b hb hi).2.2.1;have s1:L.getD n false=true:=(h1.2 n ha).2 .refl;have s2:K.getD m false=true:=(k1.2 m hmN).2 .refl;have s3:L.getD m false=K.getD n false:=by
    rw[Bool.eq_iff_iff,h1.2 m hmN,k1.2 n ha];exact⟨Rch.back,Rch.back⟩
   simp only[k2,vS,Option.isSome_some];refine gd_ex ⟨trivial,trivial⟩ (lt_ex ?_);simp only[r18 _ _ (hlen _),has_idx hmN,has_idx ha,s1,s2,s3,vS,Option.isSome_some];refine gd_ex ⟨fun _=>trivial,fun _=>trivial,fun _=>trivial,fun _=>trivial,trivial⟩ ?_;rw[if_neg (by cases K.getD n false <;> simp)];have hpos:1<=(idxV (fun i=>L.getD i false) (nodN b)).length:=by
    rw[(idxV_len _ _).2];exact List.length_pos_of_mem (List.mem_filter.2 ⟨List.mem_range.2 ha,s1⟩)
   obtain⟨y,d2,ey,hd2,y0,y1⟩:=below_ok hd1 (n:=((idxV (fun i=>L.getD i false) (nodN b)).length:Int)) (by omega);obtain⟨w,ew,w1,w2⟩:=idx_in (p:=fun i=>L.getD i false) (N:=nodN b) (j:=y.toNat) (by omega);simp only[ey,vS,Option.isSome_some];refine gd_ex ⟨trivial,oo,by omega,trivial⟩ (lt_ex ?_);simp only[ew];rcases cone_out b hwb hm br hl (w:Int) with ⟨hn,_,_⟩ | ⟨_,R,r1,e3,_⟩
   ·exact(hn (hcm w w1)).elim
   rw[en] at r1;simp only[e3,vS,Option.isSome_some];refine gd_ex ⟨trivial,trivial⟩ (lt_ex ?_);exact conesL1 hNN (fun k hk hq=>(h1.2 k hk).2 (((h1.2 w w1).1 w2).trans ((r1.2 k hk).1 hq))) ew w1 ((r1.2 w w1).2 .refl)
end Go.Proofs.YtphnknndgfgepaaGreatDoor
end
