/- Reachability in a graph: a row of nodes to be looked at, and sweeps until nothing turns: both find the same. -/
import Derived.Test.YtphnknndgfgepaaGreatDoorWC6
import Derived.Test.YtphnknndgfgepaaGreatDoorWF6
import Derived.Test.YtphnknndgfgepaaGreatDoorF76d
section
namespace Go.Proofs.Xd
open Go.Proofs.Xl
inductive Rch(M:Nat)(fr to:Nat->Nat)(lv:Nat->Bool)(s:Nat):Nat->Prop
 | refl:Rch M fr to lv s s
 | step {i:Nat}:Rch M fr to lv s (fr i)->i<M->lv i=true->Rch M fr to lv s (to i)
theorem Rch.trans{M:Nat}{fr to:Nat->Nat}{lv:Nat->Bool}{a b c:Nat}(h:Rch M fr to lv a b)(k:Rch M fr to lv b c):Rch M fr to lv a c:=by
 induction k with
 | refl=>exact h
 | step _ hi hl ih=>exact ih.step hi hl
theorem Rch.one{M:Nat}{fr to:Nat->Nat}{lv:Nat->Bool}{i:Nat}(hi:i<M)(hl:lv i=true):Rch M fr to lv (fr i) (to i):=Rch.refl.step hi hl
theorem Rch.head{M:Nat}{fr to:Nat->Nat}{lv:Nat->Bool}{i c:Nat}(hi:i<M)(hl:lv i=true)(k:Rch M fr to lv (to i) c):Rch M fr to lv (fr i) c:=(Rch.one hi hl).trans k
theorem Rch.back{M:Nat}{fr to:Nat->Nat}{lv:Nat->Bool}{a b:Nat}(h:Rch M fr to lv a b):Rch M to fr lv b a:=by
 induction h with
 | refl=>exact .refl
 | step _ hi hl ih=>exact Rch.head hi hl ih
theorem Rch.lt{M N:Nat}{fr to:Nat->Nat}{lv:Nat->Bool}(ht:∀i,i<M->to i<N){a b:Nat}(h:Rch M fr to lv a b)(ha:a<N):b<N:=by
 cases h with
 | refl=>exact ha
 | step _ hi _=>exact ht _ hi
section
variable (M N:Nat) (fr to:Nat->Nat) (lv:Nat->Bool)
def RB(s:Nat)(L:List Bool):Prop:=L.length=N/\∀v,v<N->(L.getD v false=true↔Rch M fr to lv s v)
theorem RB.uniq{M N:Nat}{fr to:Nat->Nat}{lv:Nat->Bool}{s:Nat}{L K:List Bool}(h:RB M N fr to lv s L)(k:RB M N fr to lv s K):L=K :=
 d0N false (h.1.trans k.1.symm) fun i hi=>by
  have hi':i<N:=by rw[<- h.1]; exact hi
  rw[Bool.eq_iff_iff,h.2 i hi',k.2 i hi']
structure RI(s:Nat)(r:List Bool):Prop where
 len:r.length=N
 src:r.getD s false=true
 snd:∀v,r.getD v false=true->Rch M fr to lv s v
theorem RI.done{M N:Nat}{fr to:Nat->Nat}{lv:Nat->Bool}{s:Nat}{r:List Bool}(h:RI M N fr to lv s r)(hc:∀i,i<M->lv i=true->r.getD (fr i) false=true->r.getD (to i) false=true):RB M N fr to lv s r :=
 ⟨h.len,fun v hv=>⟨h.snd v,fun hr=>by
   clear hv
   induction hr with
   | refl=>exact h.src
   | step _ hi hl ih=>exact hc _ hi hl ih⟩⟩
def K6(r:List Bool):Nat:=r.countP id
theorem v0D{r:List Bool}{i:Nat}(hi:i<r.length)(h:r.getD i false=false):K6 (r.set i true)=K6 r+1:=by
 induction r generalizing i with
 | nil=>simp at hi
 | cons a t ih =>
   cases i with
   | zero =>
     simp only[List.getD_cons_zero] at h;subst h;simp[K6]
   | succ i =>
     have:=ih (i:=i) (by simpa using hi) (by simpa using h);unfold K6 at this ⊢;rw[List.set_cons_succ,List.countP_cons,List.countP_cons,this];omega
theorem z0I(r:List Bool):K6 r<=r.length:=List.countP_le_length
def swS(k:Nat)(s:List Bool×Bool):List Bool×Bool:=if(lv k&&s.1.getD (fr k) false&&!s.1.getD (to k) false)=true then(s.1.set (to k) true,true) else s
theorem y0L(ht:∀i,i<M->to i<N){s:Nat}{r:List Bool}(h:RI M N fr to lv s r):∀m,m<=M->RI M N fr to lv s (fN (swS fr to lv) m (r,false)).1 /\
  ((fN (swS fr to lv) m (r,false)).2=false->(fN (swS fr to lv) m (r,false)).1=r/\∀i,i<m->lv i=true->r.getD (fr i) false=true->r.getD (to i) false=true) /\
  ((fN (swS fr to lv) m (r,false)).2=true->K6 r<K6 (fN (swS fr to lv) m (r,false)).1)/\K6 r<=K6 (fN (swS fr to lv) m (r,false)).1:=by
 intro m
 induction m with
 | zero=>intro _; exact⟨h,fun _=>⟨rfl,fun i hi=>by omega⟩,(fun h=>by cases h),Nat.le_refl _⟩
 | succ m ih =>
   intro hm;obtain⟨i1,i2,i3,i4⟩:=ih (by omega);show RI M N fr to lv s (swS fr to lv m (fN (swS fr to lv) m (r,false))).1/\((swS fr to lv m (fN (swS fr to lv) m (r,false))).2=false->(swS fr to lv m (fN (swS fr to lv) m (r,false))).1=r/\_)/\((swS fr to lv m (fN (swS fr to lv) m (r,false))).2=true->_<K6 (swS fr to lv m (fN (swS fr to lv) m (r,false))).1)/\_<=K6 (swS fr to lv m (fN (swS fr to lv) m (r,false))).1;generalize fN (swS fr to lv) m (r,false)=q at i1 i2 i3 i4 ⊢;unfold swS;split
   ·rename_i hc;simp only[ba,Bool.not_eq_true'] at hc;obtain⟨⟨c1,c2⟩,c3⟩:=hc;have hlt:to m<q.1.length:=by rw[i1.len]; exact ht m (by omega)
    have hcs:=v0D hlt c3;refine⟨⟨by rw[List.length_set,i1.len],?_,fun v hv=>?_⟩,(fun h=>by cases h),fun _=>by show K6 r<K6 (q.1.set (to m) true); omega,by show K6 r<=K6 (q.1.set (to m) true); omega⟩
    ·show(q.1.set (to m) true).getD s false=true;rw[Hx true hlt];split
     ·rfl
     ·exact i1.src
    ·rw[Hx true hlt] at hv;split at hv
     ·rename_i e;subst e;exact(i1.snd _ c2).step (by omega) c1
     ·exact i1.snd v hv
   ·rename_i hc;refine⟨i1,fun h2=>?_,i3,i4⟩;obtain⟨e,hh⟩:=i2 h2;refine⟨e,fun i hi hl hf=>?_⟩;rcases Nat.lt_or_ge i m with h' | h'
    ·exact hh i h' hl hf
    ·have:i=m:=by omega
     subst this;rw[e,hl,hf] at hc;cases ht:r.getD (to i) false with
     | true=>rfl
     | false=>rw[ht] at hc; exact absurd rfl hc
theorem t0S{ρ:Type}(ht:∀i,i<M->to i<N)(hN:N<=1000000){s:Nat}(hs:s<N){F:(List Bool×Bool->Option ρ)->List Bool×Bool->Option ρ}{J:List Bool->Option ρ}
  (hF:∀g (q:List Bool×Bool),q.1.length=N->F g q=if q.2=true then g (fN (swS fr to lv) M (q.1,false)) else J q.1):∃L,RB M N fr to lv s L/\lp F ((List.replicate N false).set s true,true)=J L:=by
 have h0:RI M N fr to lv s ((List.replicate N false).set s true):=by
  have hl:s < (List.replicate N false).length:=by rw[List.length_replicate]; exact hs
  refine⟨by rw[List.length_set,List.length_replicate],by rw[Hx true hl,if_pos rfl],fun v hv=>?_⟩;rw[Hx true hl] at hv;split at hv
  ·rename_i e; subst e; exact .refl
  ·simp[gq,List.getElem?_replicate] at hv;split at hv <;> simp at hv
 obtain⟨q,⟨_,hq⟩,hc,he⟩:=Sm (J:=fun q:List Bool×Bool=>J q.1) (fun q=>2*(N-K6 q.1)+q.2.toNat) (fun q=>RI M N fr to lv s q.1/\(q.2=false->RB M N fr to lv s q.1)) (fun q=>q.2) (fun q=>fN (swS fr to lv) M (q.1,false))
  (fun g q hq=>hF g q hq.1.len) (fun q hq hc=>by
    obtain⟨i1,i2,i3,i4⟩:=y0L M N fr to lv ht hq.1 M (Nat.le_refl _);refine⟨⟨i1,fun h=>?_⟩,?_⟩
    ·obtain⟨e,hh⟩:=i2 h;rw[e];exact hq.1.done hh
    ·have l1:=z0I (fN (swS fr to lv) M (q.1,false)).1;rw[i1.len] at l1;show 2*(N-K6 (fN (swS fr to lv) M (q.1,false)).1)+(fN (swS fr to lv) M (q.1,false)).2.toNat<2*(N-K6 q.1)+q.2.toNat;rw[hc];cases h:(fN (swS fr to lv) M (q.1,false)).2 with
     | true=>have:=i3 h; simp; omega
     | false=>simp; omega) (((List.replicate N false).set s true),true) ⟨h0,fun h=>by cases h⟩ (by show 2*(N-K6 _)+1<=_; omega)
 exact⟨q.1,hq hc,he⟩
def N9(r:List Bool):Nat:=(List.range M).countP fun i=>lv i&&!r.getD (fr i) false
def J7(v:Nat):List Int:=((List.range M).filter fun i=>lv i&&fr i==v).map fun i=>(to i:Int)
structure QI(s:Nat)(q:List Int×List Bool):Prop where
 len:q.2.length=N
 mem:∀x∈q.1,0<=x/\x.toNat<N/\Rch M fr to lv s x.toNat
 snd:∀v,q.2.getD v false=true->Rch M fr to lv s v
 src:q.2.getD s false=true∨(s:Int)∈q.1
 cls:∀i,i<M->lv i=true->q.2.getD (fr i) false=true->q.2.getD (to i) false=true∨(to i:Int)∈q.1
 cnt:q.1.length+N9 M fr lv q.2<=M+1
def quN(q:List Int×List Bool):List Int×List Bool:=if q.2.getD (q.1.getD 0 0).toNat false=true then(q.1.drop 1,q.2) else(q.1.drop 1++J7 M fr to lv (q.1.getD 0 0).toNat,q.2.set (q.1.getD 0 0).toNat true)
theorem v0C{r:List Bool}{x:Nat}(hx:x<r.length)(h:r.getD x false=false):N9 M fr lv r=(J7 M fr to lv x).length+N9 M fr lv (r.set x true):=by
 have e:(J7 M fr to lv x).length=(List.range M).countP fun i=>lv i&&fr i==x:=by
  unfold J7;rw[List.length_map,List.countP_eq_length_filter]
 rw[e];unfold N9;refine l0x _ _ _ _ fun i _=>?_;rw[Hx true hx];by_cases hf:fr i=x
 ·rw[if_pos hf,hf,h];cases lv i <;> simp
 ·rw[if_neg hf];have:(fr i==x)=false:=by simpa using hf
  rw[this];cases lv i <;> simp
theorem y0T(ht:∀i,i<M->to i<N){s:Nat}{q:List Int×List Bool}(h:QI M N fr to lv s q)(hq:0<q.1.length):QI M N fr to lv s (quN M fr to lv q)/\(quN M fr to lv q).1.length+N9 M fr lv (quN M fr to lv q).2<q.1.length+N9 M fr lv q.2:=by
 obtain⟨o,r⟩:=q;cases o with
 | nil=>simp at hq
 | cons x t =>
   obtain⟨x0,x1,x2⟩:=h.mem x (by simp);have hl:=h.len;have hx:x.toNat<r.length:=by rw[show r.length=N from hl]; exact x1
   unfold quN;simp only[List.getD_cons_zero,List.drop_succ_cons,List.drop_zero];by_cases hr:r.getD x.toNat false=true
   ·rw[if_pos hr];have hxx:(x.toNat:Int)=x:=by omega
    refine⟨⟨hl,fun y hy=>h.mem y (List.mem_cons_of_mem _ hy),h.snd,?_,fun i hi hv hf=>?_,?_⟩,?_⟩
    ·rcases h.src with h' | h'
     ·exact .inl h'
     ·rcases List.mem_cons.1 h' with e | e
      ·left; rw[show s=x.toNat by omega]; exact hr
      ·exact .inr e
    ·rcases h.cls i hi hv hf with h' | h'
     ·exact .inl h'
     ·rcases List.mem_cons.1 h' with e | e
      ·left; rw[show to i=x.toNat by omega]; exact hr
      ·exact .inr e
    ·have h9:(x :: t).length+N9 M fr lv r<=M+1:=h.cnt;rw[List.length_cons] at h9;show t.length+N9 M fr lv r<=_;omega
    ·show t.length+N9 M fr lv r < (x :: t).length+N9 M fr lv r;simp
   ·rw[if_neg hr];have hr:r.getD x.toNat false=false:=by simpa using hr
    have hcu:=v0C M fr to lv hx hr;have hget:=fun v=>Hx (v:=v) true hx;refine⟨⟨by show(r.set _ true).length=N; rw[List.length_set]; exact hl,fun y hy=>?_,fun v hv=>?_,?_,fun i hi hv hf=>?_,?_⟩,?_⟩
    ·rcases List.mem_append.1 hy with hy | hy
     ·exact h.mem y (List.mem_cons_of_mem _ hy)
     ·unfold J7 at hy;obtain⟨i,hi,rfl⟩:=List.mem_map.1 hy;rw[List.mem_filter,List.mem_range] at hi;simp only[ba,beq_iff_eq] at hi;exact⟨by omega,by simpa using ht i hi.1,by
       rw[Int.toNat_natCast];refine Rch.step ?_ hi.1 hi.2.1;rw[hi.2.2]; exact x2⟩
    ·have hv:(r.set x.toNat true).getD v false=true:=hv;rw[hget] at hv;split at hv
     ·rename_i e; subst e; exact x2
     ·exact h.snd v hv
    ·show(r.set x.toNat true).getD s false=true∨_;rw[hget];split
     ·exact .inl rfl
     ·rename_i hne;rcases h.src with h' | h'
      ·exact .inl h'
      ·rcases List.mem_cons.1 h' with e | e
       ·exact(hne (by omega)).elim
       ·exact .inr (List.mem_append_left _ e)
    ·have hf:(r.set x.toNat true).getD (fr i) false=true:=hf;show(r.set x.toNat true).getD (to i) false=true∨(to i:Int)∈t++J7 M fr to lv x.toNat;rw[hget] at hf ⊢;by_cases e:fr i=x.toNat
     ·right;refine List.mem_append_right _ ?_;unfold J7;refine List.mem_map.2 ⟨i,?_,rfl⟩;rw[List.mem_filter,List.mem_range];exact⟨hi,by simp[hv,e]⟩
     ·rw[if_neg e] at hf;by_cases e2:to i=x.toNat
      ·left; rw[if_pos e2]
      ·rw[if_neg e2];rcases h.cls i hi hv hf with h' | h'
       ·exact .inl h'
       ·rcases List.mem_cons.1 h' with e' | e'
        ·exact(e2 (by omega)).elim
        ·exact .inr (List.mem_append_left _ e')
    ·have:=h.cnt;simp only[List.length_cons] at this;show(t++J7 M fr to lv x.toNat).length+N9 M fr lv (r.set x.toNat true)<=_;rw[List.length_append];omega
    ·show(t++J7 M fr to lv x.toNat).length+N9 M fr lv (r.set x.toNat true) < (x :: t).length+N9 M fr lv r;rw[List.length_append,List.length_cons];omega
theorem u0t{ρ:Type}(ht:∀i,i<M->to i<N)(hM:M<=2000000){s:Nat}(hs:s<N){F:(List Int×List Bool->Option ρ)->List Int×List Bool->Option ρ}{J:List Bool->Option ρ}
  (hF:∀g (q:List Int×List Bool),q.2.length=N->(∀x∈q.1,0<=x/\x.toNat<N)->q.1.length<=M+1->F g q=if decide (0<q.1.length)=true then g (quN M fr to lv q) else J q.2):∃L,RB M N fr to lv s L/\lp F ([(s:Int)],List.replicate N false)=J L:=by
 have hrep:∀v,(List.replicate N false).getD v false=false:=fun v=>by
  simp[gq,List.getElem?_replicate];split <;> rfl
 have h0:QI M N fr to lv s ([(s:Int)],List.replicate N false):=by
  refine⟨by simp,fun x hx=>?_,fun v hv=>?_,.inr (by simp),fun i _ _ hf=>?_,?_⟩
  ·rw[List.mem_singleton.1 hx];exact⟨by omega,by simpa using hs,by rw[Int.toNat_natCast]; exact .refl⟩
  ·rw[show([(s:Int)],List.replicate N false).2=List.replicate N false from rfl,hrep] at hv; cases hv
  ·rw[show([(s:Int)],List.replicate N false).2=List.replicate N false from rfl,hrep] at hf; cases hf
  ·have:N9 M fr lv (List.replicate N false)<=M:=by unfold N9; exact p0G _
   show 1+N9 M fr lv (List.replicate N false)<=M+1;omega
 obtain⟨q,hq,hc,he⟩:=Sm (J:=fun q:List Int×List Bool=>J q.2) (fun q=>q.1.length+N9 M fr lv q.2) (QI M N fr to lv s) (fun q=>decide (0<q.1.length)) (quN M fr to lv)
  (fun g q hq=>hF g q hq.len (fun x hx=>⟨(hq.mem x hx).1,(hq.mem x hx).2.1⟩) (by have:=hq.cnt; omega)) (fun q hq hc=>y0T M N fr to lv ht hq (of_decide_eq_true hc)) _ h0 (by have h9:[(s:Int)].length+N9 M fr lv (List.replicate N false)<=M+1:=h0.cnt; show [(s:Int)].length+N9 M fr lv (List.replicate N false)<=_; omega)
 have hnil:q.1=[]:=List.eq_nil_of_length_eq_zero (by have:=of_decide_eq_false hc; omega);refine⟨q.2,RI.done ⟨hq.len,?_,hq.snd⟩ fun i hi hl hf=>?_,he⟩
 ·rcases hq.src with h | h
  ·exact h
  ·rw[hnil] at h; cases h
 ·rcases hq.cls i hi hl hf with h | h
  ·exact h
  ·rw[hnil] at h; cases h
end
end Go.Proofs.Xd
end
section
namespace Go.Proofs.YtphnknndgfgepaaGreatDoor
open Go Go.Proofs Go.Proofs.Sv Go.Proofs.Xv Go.Proofs.Xl Go.Proofs.Xd
theorem E0M{σ τ ρ:Type}(mk:σ->τ){F:(τ->Option ρ)->τ->Option ρ}{G:(σ->Option ρ)->σ->Option ρ}(h:∀g s,F g (mk s)=G (fun s=>g (mk s)) s)(s:σ):lp F (mk s)=lp G s:=by
 have key:∀n s,itF F n (mk s)=itF G n s:=by
  intro n
  induction n with
  | zero=>intro s; rfl
  | succ n ih =>
    intro s;show F (itF F n) (mk s)=G (itF G n) s;rw[h];congr 1;exact funext fun s=>ih s
 exact key _ s
theorem Yb(fr to:Nat->Nat)(lv:Nat->Bool)(v k:Nat):J7 (k+1) fr to lv v=if(lv k&&fr k==v)=true then J7 k fr to lv v++[(to k:Int)] else J7 k fr to lv v:=by
 unfold J7;rw[List.range_succ,List.filter_append,List.map_append];by_cases h:(lv k&&fr k==v)=true
 ·rw[if_pos h]; simp only[List.filter_cons,h,if_true,List.filter_nil,List.map_cons,List.map_nil]
 ·rw[if_neg h]; simp only[List.filter_cons,h,Bool.false_eq_true,if_false,List.filter_nil,List.map_nil,List.append_nil]
theorem Zb(fr to:Nat->Nat)(lv:Nat->Bool)(v k:Nat):(J7 k fr to lv v).length<=k:=by
 unfold J7;rw[List.length_map];have:=List.length_filter_le (fun i=>lv i&&fr i==v) (List.range k)
 rwa [List.length_range] at this
def grF(fr to:Nat->Nat)(lv:Nat->Bool)(k:Nat)(s:List (List Int)):List (List Int):=if lv k=true then s.set (fr k) (s.getD (fr k) []++[(to k:Int)]) else s
theorem t0Z{o:List (List Int)}{i v:Nat}(x:List Int)(hi:i<o.length):(o.set i x).getD v []=if v=i then x else o.getD v []:=by
 by_cases h:v=i
 ·subst h; simp[hi]
 ·rw[if_neg h]; simp[List.getElem?_set_ne (Ne.symm h)]
theorem o0p{N:Nat}(fr to:Nat->Nat)(lv:Nat->Bool){k:Nat}{s:List (List Int)}(hf:fr k<N)(hs:s.length=N/\∀v,s.getD v []=J7 k fr to lv v):(grF fr to lv k s).length=N/\∀v,(grF fr to lv k s).getD v []=J7 (k+1) fr to lv v:=by
 obtain⟨h1,h2⟩:=hs;unfold grF;cases hl:lv k with
 | false =>
   refine⟨h1,fun v=>?_⟩;rw[Yb,hl,if_neg (by simp),if_neg (by simp)];exact h2 v
 | true =>
   rw[if_pos rfl];refine⟨by rw[List.length_set,h1],fun v=>?_⟩;rw[t0Z _ (by omega),Yb,hl];by_cases e:v=fr k
   ·subst e; rw[if_pos rfl,if_pos (by simp),h2]
   ·rw[if_neg e,if_neg (by simp; exact fun h=>e h.symm),h2]
section
variable {b:Y34}
def C4(b:Y34)(fw:Bool):Nat->Nat:=if fw=true then frN b else toN b
def I7(b:Y34)(fw:Bool):Nat->Nat:=if fw=true then toN b else frN b
theorem Pj(hb:A7 b=true)(fw:Bool){i:Nat}(hi:i < (lV b).length):C4 b fw i<l5 b/\I7 b fw i<l5 b:=by
 obtain⟨_,_,h1,h2⟩:=M4 b hb hi;cases fw
 ·exact⟨h2,h1⟩
 ·exact⟨h1,h2⟩
theorem F0w(hb:A7 b=true){lv:List Bool}(hlv:lv.length=(lV b).length){s:Nat}(hs:s<l5 b)(fw:Bool):∃L,RB (lV b).length (l5 b) (C4 b fw) (I7 b fw) (fun i=>lv.getD i false) s L/\y0F (l5 b:Int) (lV b) lv (s:Int) fw=some L:=by
 have hM:=P9 hb;have hN:=Pq b hb;unfold y0F;have e0:((l5 b:Int)).toNat=l5 b:=rfl;have e1:((s:Int)).toNat=s:=rfl;rw[e0,e1,gP ⟨⟨by omega,rfl,by omega,by omega⟩,trivial⟩,gP ⟨by rw[List.length_replicate]; exact oo,by rw[List.length_replicate]; exact hs,trivial⟩];obtain⟨L,h1,h2⟩:=t0S (ρ:=List Bool) (lV b).length (l5 b) (C4 b fw) (I7 b fw) (fun i=>lv.getD i false) (fun i hi=>(Pj hb fw hi).2) hN hs (F:=fun g q=>w0S lv fw (lV b) (fun t=>g (t.2,t.1)) (q.2,q.1)) (J:=fun L=>some L) (fun g q hq=>by
  obtain⟨r,c⟩:=q;cases c with
  | false=>rfl
  | true =>
    refine Eq.trans (if_pos (c:=(true:Bool)=true) (t:=lp (q0O lv fw (lV b) fun t=>g (t.2,t.1)) (false,0,r)) (e:=q0Q r) rfl) ?_;show _=g (fN (swS (C4 b fw) (I7 b fw) fun i=>lv.getD i false) (lV b).length (r,false));refine lF (n:=(lV b).length) (by omega) (fun(k:Nat) (s:List Bool×Bool)=>(s.2,(k:Int),s.1)) (swS (C4 b fw) (I7 b fw) fun i=>lv.getD i false) (fun _ s=>s.1.length=l5 b) (J:=fun s=>g (s.1,s.2)) (F:=q0O lv fw (lV b) fun t=>g (t.2,t.1)) (fun g' k s hk hI=>?_) (fun k s hk hI=>?_) (fun g' s _=>aE) (r,false) hq
    ·obtain⟨a1,a2,_,_⟩:=M4 b hb hk;obtain⟨l1,l2⟩:=Pj hb fw hk;have hI:s.1.length=l5 b:=hI;have e3:((k:Int)).toNat=k:=rfl;have key:n0p (k:Int) s.1 s.2 lv g' ((C4 b fw k:Int),(I7 b fw k:Int))=g' ((swS (C4 b fw) (I7 b fw) (fun i=>lv.getD i false) k s).2,((k+1:Nat):Int),(swS (C4 b fw) (I7 b fw) (fun i=>lv.getD i false) k s).1):=by
      refine(gP ⟨oo,(fun _=>oo),(fun _=>by omega),(fun _=>oo),(fun _=>by omega),trivial⟩).trans ?_;unfold swS;by_cases h:(lv.getD k false&&s.1.getD (C4 b fw k) false&&!s.1.getD (I7 b fw k) false)=true
      ·rw[if_pos h];refine(if_pos h).trans ?_;refine(gP ⟨oo,by omega,trivial⟩).trans ?_;exact gP ⟨oo,trivial⟩
      ·rw[if_neg h];refine(if_neg h).trans ?_;exact gP ⟨oo,trivial⟩
     refine(if_pos (by simpa using hk)).trans ?_;refine(gP ⟨oo,oo,trivial⟩).trans ?_;rw[lE,e3];cases fw with
     | false =>
       refine(if_pos rfl).trans ?_;rw[a1,a2];exact key
     | true =>
       refine(if_neg (by simp)).trans ?_;rw[a1,a2];exact key
    ·have hI:s.1.length=l5 b:=hI;unfold swS;split
     ·show(s.1.set _ true).length=_;rw[List.length_set]; exact hI
     ·exact hI)
 refine⟨L,h1,Eq.trans ?_ h2⟩;exact E0M (fun q:List Bool×Bool=>(q.2,q.1)) (fun g s=>rfl) ((List.replicate (l5 b) false).set s true,true)
theorem B0Z(hb:A7 b=true){lv:List Bool}(hlv:lv.length=(lV b).length){s':Nat}(hs:s'<l5 b):∃L,RB (lV b).length (l5 b) (C4 b true) (I7 b true) (fun i=>lv.getD i false) s' L/\e0q (r5 b,lv) [(s':Int)]=some L:=by
 have hM:=P9 hb;have hN:=Pq b hb;unfold e0q;have e0:((l5 b:Int)).toNat=l5 b:=rfl;have en:B1 ((r5 b,lv):y9×List Bool).1=some (l5 b:Int):=Pv b hb;rw[en,vS,e0,gP ⟨rfl,⟨by omega,rfl,by omega,by omega⟩,trivial⟩,lE];have hg0:(List.replicate (l5 b) ([]:List Int)).length=l5 b/\∀v,(List.replicate (l5 b) ([]:List Int)).getD v []=J7 0 (C4 b true) (I7 b true) (fun i=>lv.getD i false) v:=⟨List.length_replicate,fun v=>by
  rw[gq,List.getElem?_replicate];split <;> rfl⟩
 obtain⟨L,h1,h2⟩:=u0t (ρ:=List Bool) (lV b).length (l5 b) (C4 b true) (I7 b true) (fun i=>lv.getD i false) (fun i hi=>(Pj hb true hi).2) (by omega) hs (F:=m0Z (fN (grF (C4 b true) (I7 b true) fun i=>lv.getD i false) (lV b).length (List.replicate (l5 b) []))) (J:=fun L=>some L) (fun g q hq hm hl=>by
  obtain⟨o,r⟩:=q;have hgr:∀m,m<=(lV b).length->(fN (grF (C4 b true) (I7 b true) fun i=>lv.getD i false) m (List.replicate (l5 b) [])).length=l5 b/\∀v,(fN (grF (C4 b true) (I7 b true) fun i=>lv.getD i false) m (List.replicate (l5 b) [])).getD v []=J7 m (C4 b true) (I7 b true) (fun i=>lv.getD i false) v:=by
   intro m
   induction m with
   | zero=>intro _; exact hg0
   | succ m ih=>intro hm; exact o0p _ _ _ (Pj hb true (by omega)).1 (ih (by omega))
  obtain⟨g1,g2⟩:=hgr _ (Nat.le_refl _);generalize fN (grF (C4 b true) (I7 b true) fun i=>lv.getD i false) (lV b).length (List.replicate (l5 b) [])=gr at g1 g2;have hq:r.length=l5 b:=hq;have hl:o.length<=(lV b).length+1:=hl;by_cases h0:0<o.length
  ·refine Eq.trans ?_ (if_pos (decide_eq_true h0)).symm;obtain⟨x0,x1⟩:=hm (o.getD 0 0) (X1 h0);refine(if_pos (decide_eq_true (by omega))).trans ?_;refine(gP ⟨oo,by show 0<o.length; omega,trivial⟩).trans ?_;refine(gP ⟨⟨by omega,by omega,by omega⟩,trivial⟩).trans ?_;show gd (ix (o.getD 0 0) r.length/\(o.getD 0 0).toNat<r.length/\True) (if(!r.getD (o.getD 0 0).toNat false)=true then _ else _)=_;refine(gP ⟨oo,by omega,trivial⟩).trans ?_;unfold quN;show _=g (if r.getD (o.getD 0 0).toNat false=true then(o.drop 1,r) else(o.drop 1++J7 (lV b).length (C4 b true) (I7 b true) (fun i=>lv.getD i false) (o.getD 0 0).toNat,r.set (o.getD 0 0).toNat true));cases hr:r.getD (o.getD 0 0).toNat false with
   | true =>
     refine(if_neg (by simp)).trans ?_;rw[if_pos rfl];rfl
   | false =>
     refine(if_pos rfl).trans ?_;rw[if_neg (by simp)];refine(gP ⟨⟨by show 0<=o.getD 0 0; omega,by show o.getD 0 0<_; omega⟩,by show(o.getD 0 0).toNat<_; omega,trivial⟩).trans ?_;rw[lE];have hl':o.length<=(lV b).length+1:=hl;have hd:(o.drop 1).length<=(lV b).length:=by rw[List.length_drop]; omega
     have hnl:=Zb (C4 b true) (I7 b true) (fun i=>lv.getD i false) (o.getD 0 0).toNat (lV b).length;have e5:gr.getD (Int.toNat (o.getD (Int.toNat (0:Int)) (0:Int))) []=J7 (lV b).length (C4 b true) (I7 b true) (fun i=>lv.getD i false) (o.getD 0 0).toNat:=g2 _;rw[e5];refine(gP ⟨⟨by show 0<=o.getD 0 0; omega,by show o.getD 0 0<_; omega⟩,⟨by show(o.drop 1).length+_<=_; omega,by show((o.drop 1).length+_)*8<=_; omega⟩,trivial⟩).trans ?_;rw[lE];rfl
  ·refine Eq.trans ?_ (if_neg (by simpa using h0)).symm;exact if_neg (by show ¬decide ((0:Int) < (o.length:Int))=true; rw[dq]; omega))
 refine⟨L,h1,?_⟩;refine(lF (n:=(lV b).length) (by omega) (fun(k:Nat) (s:List (List Int))=>((k:Int),s)) (grF (C4 b true) (I7 b true) fun i=>lv.getD i false) (fun k s=>s.length=l5 b/\∀v,s.getD v []=J7 k (C4 b true) (I7 b true) (fun i=>lv.getD i false) v) (J:=fun s=>e0U [(s':Int)] (r5 b,lv) s) (F:=n0a (r5 b,lv) [(s':Int)]) (fun g k s hk hI=>?_) (fun k s hk hI=>o0p _ _ _ (Pj hb true hk).1 hI) (fun g s _=>aE) _ hg0).trans ?_
 ·obtain⟨a1,a2,_,_⟩:=M4 b hb hk;obtain⟨l1,l2⟩:=Pj hb true hk;obtain⟨i1,i2⟩:=hI;have e3:((k:Int)).toNat=k:=rfl;have hn:=Zb (C4 b true) (I7 b true) (fun i=>lv.getD i false) (C4 b true k) k;refine(if_pos (by show decide ((k:Int) < ((lV b).length:Int))=true; simpa using hk)).trans ?_;refine(gP ⟨⟨by omega,by show(k:Int) < ((lV b).length:Int); omega⟩,trivial⟩).trans ?_;rw[lE,e3];have ef:u77 ((lV b).getD k (d6 y48))=some ((C4 b true k:Int),(I7 b true k:Int)):=by
   unfold u77;rw[a1,a2];rfl
  show gd ((u77 ((lV b).getD k (d6 y48))).isSome=true/\True) (lt (vl (u77 ((lV b).getD k (d6 y48)))) fun v8=>_)=_;rw[ef,vS,gP ⟨rfl,trivial⟩,lE];refine(gP ⟨⟨by omega,by show(k:Int) < (lv.length:Int); omega⟩,trivial⟩).trans ?_;rw[show grF (C4 b true) (I7 b true) (fun i=>lv.getD i false) k s=if lv.getD k false=true then s.set (C4 b true k) (s.getD (C4 b true k) []++[(I7 b true k:Int)]) else s from rfl];cases hl:lv.getD k false with
  | false =>
    refine(if_neg Bool.false_ne_true).trans ?_;refine(gP (V:=l3 ((k:Int)+1)/\True) ⟨oo,trivial⟩).trans ?_;rfl
  | true =>
    refine(if_pos (show(true:Bool)=true from rfl)).trans ?_;have e6:s.getD ((C4 b true k:Int)).toNat []=J7 k (C4 b true) (I7 b true) (fun i=>lv.getD i false) (C4 b true k):=i2 _;refine(gP ⟨⟨by show 0<=(C4 b true k:Int); omega,by show(C4 b true k:Int)<_; omega⟩,by show C4 b true k<_; omega,⟨by show(s.getD ((C4 b true k:Int)).toNat []).length+1<=_; rw[e6]; omega,by show((s.getD ((C4 b true k:Int)).toNat []).length+1)*8<=_; rw[e6]; omega⟩,⟨by show 0<=(C4 b true k:Int); omega,by show(C4 b true k:Int)<_; omega⟩,⟨by show C4 b true k<_; omega,rfl⟩,trivial⟩).trans ?_;refine(gP (V:=l3 ((k:Int)+1)/\True) ⟨oo,trivial⟩).trans ?_;rfl
 ·show e0U [(s':Int)] (r5 b,lv) (fN _ _ _)=_;unfold e0U;rw[en,vS,e0,gP ⟨rfl,⟨by omega,rfl,by omega,by omega⟩,trivial⟩,lE,Fb _ (by show 1<=_; omega),vS,gP ⟨rfl,trivial⟩,lE];exact h2
end
section
variable {b:Y34}
end
theorem s0j{l:List Int}{x:Int}:B6 l x=true↔x∈l:=by
 unfold B6;rw[List.any_eq_true];constructor
 ·rintro⟨j,hj,he⟩;rw[<- eq_of_beq he];exact X1 (List.mem_range.1 hj)
 ·intro h;obtain⟨j,hj,rfl⟩:=List.getElem_of_mem h;exact⟨j,List.mem_range.2 hj,by rw[gq,List.getElem?_eq_getElem hj]; exact beq_self_eq_true _⟩
theorem z0l{M:Nat}(br:List Int){k:Nat}(hk:k<M):(A0 M br).getD k false=!B6 br (k:Int):=Cv (fun k=>!B6 br (k:Int)) false _ k hk
def orB(p:Nat->Bool)(N:Nat)(S:List Bool):List Bool:=(List.range N).map fun w=>S.getD w false||p w
theorem o0h(f:Nat->Bool)(N w:Nat):((List.range N).map f).getD w false=if w<N then f w else false:=by
 rw[gq,List.getElem?_map];by_cases h:w<N
 ·rw[if_pos h,List.getElem?_range h]; rfl
 ·rw[if_neg h,List.getElem?_eq_none (by rw[List.length_range]; omega)]; rfl
theorem Qj(p:Nat->Bool)(N:Nat)(S:List Bool):(orB p N S).length=N:=by
 unfold orB;rw[List.length_map,List.length_range]
theorem Tw(p:Nat->Bool)(N:Nat)(S:List Bool){w:Nat}(h:w<N):(orB p N S).getD w false=(S.getD w false||p w):=by
 unfold orB;rw[o0h,if_pos h]
def mkD(N v:Nat)(S:List Bool):List Bool:=(List.range N).map fun w=>decide (w<v)||S.getD w false
theorem Rj(N v:Nat)(S:List Bool):(mkD N v S).length=N:=by
 unfold mkD;rw[List.length_map,List.length_range]
theorem Sj(N v:Nat)(S:List Bool){w:Nat}(h:w<N):(mkD N v S).getD w false=(decide (w<v)||S.getD w false):=by
 unfold mkD;rw[o0h,if_pos h]
theorem o0t{N:Nat}{p:Nat->Bool}(h:((List.range N).filter p).length<2){v w:Nat}(hv:v<N)(pv:p v=true)(hw:w<N)(pw:p w=true):w=v:=by
 have m1:v∈(List.range N).filter p:=List.mem_filter.2 ⟨List.mem_range.2 hv,pv⟩;have m2:w∈(List.range N).filter p:=List.mem_filter.2 ⟨List.mem_range.2 hw,pw⟩;generalize (List.range N).filter p=l at h m1 m2
 match l,h with
 | [],_=>cases m1
 | [x],_=>rw[List.mem_singleton.1 m1,List.mem_singleton.1 m2]
 | x :: y :: r,h=>simp at h; omega
theorem n0D(p:Nat->Bool)(N:Nat)(D:List Bool)(hD:D.length=N):∀m,m<=N->(fN (fun w (s:List Bool)=>if p w=true then s.set w true else s) m D).length=N/\∀w,w<N->(fN (fun w (s:List Bool)=>if p w=true then s.set w true else s) m D).getD w false=(D.getD w false||(decide (w<m)&&p w))
 | 0,_=>⟨hD,fun w _=>by simp[fN]⟩
 | m+1,h=>by
   obtain⟨h1,h2⟩:=n0D p N D hD m (by omega);show(if p m=true then List.set _ m true else _:List Bool).length=N/\∀w,w<N->(if p m=true then List.set _ m true else _:List Bool).getD w false=_;by_cases hp:p m=true
   ·rw[if_pos hp];refine⟨by rw[List.length_set,h1],fun w hw=>?_⟩;rw[Hx true (by omega)];by_cases e:w=m
    ·subst e; rw[if_pos rfl,decide_eq_true (by omega),hp]; simp
    ·rw[if_neg e,h2 w hw,Bool.eq_iff_iff];have:(w<m+1)↔w<m:=by omega
     simp[this]
   ·rw[if_neg hp];refine⟨h1,fun w hw=>?_⟩;rw[h2 w hw];by_cases e:w=m
    ·subst e;have hp:p w=false:=by simpa using hp
     simp[hp]
    ·have:(w<m+1)↔w<m:=by omega
     simp[this]
theorem r0n(p:Nat->Bool)(N:Nat)(D:List Bool)(hD:D.length=N):fN (fun w (s:List Bool)=>if p w=true then s.set w true else s) N D=orB p N D:=by
 obtain⟨h1,h2⟩:=n0D p N D hD N (Nat.le_refl _);refine d0N false (by rw[h1,Qj]) fun w hw=>?_;rw[h1] at hw;rw[h2 w hw,Tw _ _ _ hw,decide_eq_true hw,Bool.true_and]
theorem r0o(p:Nat->Bool)(N:Nat)(D:List Bool)(hD:D.length=N):fN (fun k (s:List Bool)=>s.set (((List.range N).filter p).getD k 0) true) ((List.range N).filter p).length D=orB p N D:=by
 rw[Qy (fun(s:List Bool) v=>s.set v true)];have hm:∀v∈(List.range N).filter p,v<D.length:=fun v hv=>by rw[hD]; exact List.mem_range.1 (List.mem_filter.1 hv).1
 refine d0N false (by rw[(Vk _ D hm 0).1,Qj,hD]) fun w hw=>?_;rw[(Vk _ D hm 0).1,hD] at hw;rw[(Vk _ D hm w).2,Tw _ _ _ hw,Bool.or_comm];congr 1;rw[Bool.eq_iff_iff,List.contains_iff_mem,List.mem_filter,List.mem_range];exact⟨fun h=>h.2,fun h=>⟨hw,h⟩⟩
theorem o0P(M:Nat)(q:Nat->Bool):(List.range M).any q=decide (0 < ((J3 q M).length:Int)):=by
 rw[Bool.eq_iff_iff,List.any_eq_true,dq,(Mz q M).2];constructor
 ·rintro⟨x,h1,h2⟩;have:x∈(List.range M).filter q:=List.mem_filter.2 ⟨h1,h2⟩;have:=List.length_pos_of_mem this;omega
 ·intro h;obtain⟨x,hx⟩:=List.exists_mem_of_length_pos (show 0 < ((List.range M).filter q).length by omega);exact⟨x,List.mem_filter.1 hx⟩
section
variable {b:Y34}
def U8(b:Y34)(lv:List Bool)(v:Nat):List Bool:=vl (e0q (r5 b,lv) [(v:Int)])
theorem Nz(hb:A7 b=true){lv:List Bool}(hlv:lv.length=(lV b).length){v:Nat}(hv:v<l5 b):RB (lV b).length (l5 b) (frN b) (toN b) (fun i=>lv.getD i false) v (U8 b lv v)/\e0q (r5 b,lv) [(v:Int)]=some (U8 b lv v):=by
 obtain⟨L,h1,h2⟩:=B0Z hb hlv hv;unfold U8;rw[h2];exact⟨h1,rfl⟩
def clP(b:Y34)(lv:List Bool)(v w:Nat):Bool:=(U8 b lv v).getD w false&&(U8 b lv w).getD v false
def clV(b:Y34)(lv:List Bool)(v:Nat):List Int:=J3 (clP b lv v) (l5 b)
def Pz(b:Y34)(lv:List Bool)(v:Nat):Bool:=decide (0 < ((J3 (fun k=>lv.getD k false&&(frN b k==v&&toN b k==v)) (lV b).length).length:Int))
def U9(b:Y34)(lv:List Bool)(v:Nat):Bool:=decide (1 < ((clV b lv v).length:Int))||Pz b lv v
def O7(b:Y34)(lv:List Bool)(v:Nat)(s:List Bool×List (List Int)):List Bool×List (List Int):=if s.1.getD v false=true then s else if U9 b lv v=true then(orB (clP b lv v) (l5 b) s.1,s.2++[clV b lv v]) else s
def J8(b:Y34)(lv:List Bool):List (List Int):=(fN (O7 b lv) (l5 b) (List.replicate (l5 b) false,[])).2
theorem Uy(b:Y34)(lv:List Bool){v:Nat}{s:List Bool×List (List Int)}(h:s.1.length=l5 b/\s.2.length<=v):(O7 b lv v s).1.length=l5 b/\(O7 b lv v s).2.length<=v+1:=by
 unfold O7;split
 ·exact⟨h.1,by omega⟩
 ·split
  ·exact⟨Qj _ _ _,by rw[List.length_append,List.length_singleton]; omega⟩
  ·exact⟨h.1,by omega⟩
theorem o0E(hb:A7 b=true){lv:List Bool}(hlv:lv.length=(lV b).length){v:Nat}(hv:v<l5 b):clP b lv v v=true:=by
 have h:=((Nz hb hlv hv).1.2 v hv).2 .refl;unfold clP;rw[h]; rfl
theorem Vy(b:Y34)(lv:List Bool)(v:Nat):(clV b lv v).length<=l5 b:=(Mz _ _).1
theorem u0I(hb:A7 b=true){lv:List Bool}(hlv:lv.length=(lV b).length){v:Nat}(hv:v<l5 b){s:List Bool×List (List Int)}(hs:s.1.length=l5 b):(s.1.getD v false=true->mkD (l5 b) v s.1=mkD (l5 b) (v+1) s.1)/\(s.1.getD v false=false->orB (clP b lv v) (l5 b) (mkD (l5 b) v s.1)=mkD (l5 b) (v+1) (O7 b lv v s).1):=by
 have hself:=o0E hb hlv hv;refine⟨fun h=>d0N false (by rw[Rj,Rj]) fun w hw=>?_,fun h=>d0N false (by rw[Qj,Rj]) fun w hw=>?_⟩
 ·rw[Rj] at hw;rw[Sj _ _ _ hw,Sj _ _ _ hw];by_cases e:w=v
  ·subst e; rw[h]; simp
  ·have:(w<v+1)↔w<v:=by omega
   simp[this]
 ·rw[Qj] at hw;rw[Tw _ _ _ hw,Sj _ _ _ hw,Sj _ _ _ hw];unfold O7;rw[if_neg (by rw[h]; simp)];by_cases hc:U9 b lv v=true
  ·rw[if_pos hc,Tw _ _ _ hw];by_cases e:w=v
   ·subst e; rw[hself]; simp
   ·have:(w<v+1)↔w<v:=by omega
    simp[this,Bool.or_assoc]
  ·rw[if_neg hc];have hlen:((List.range (l5 b)).filter (clP b lv v)).length<2:=by
    have:=(Mz (clP b lv v) (l5 b)).2;unfold U9 at hc;rw[Bool.or_eq_true,not_or,dq] at hc;unfold clV at hc;omega
   by_cases e:w=v
   ·subst e; rw[hself]; simp
   ·have hp:clP b lv v w=false:=by
     cases hp:clP b lv v w with
     | false=>rfl
     | true=>exact absurd (o0t hlen hv hself hw hp) e
    have:(w<v+1)↔w<v:=by omega
    simp[this,hp]
theorem u0r(hb:A7 b=true){lv:List Bool}(hlv:lv.length=(lV b).length)(a:Nat):g0y (r5 b,lv) (a:Int)=some (J3 (fun i=>lv.getD i false&&(frN b i==a&&toN b i==a)) (lV b).length):=by
 have hM:=P9 hb;refine(lF (n:=(lV b).length) (by omega) (fun i (s:List Int)=>(s,(i:Int))) (fun i s=>if(lv.getD i false&&(frN b i==a&&toN b i==a))=true then s++[(i:Int)] else s) (fun i s=>s.length<=i) (J:=fun s=>some s) (F:=i0y (r5 b,lv) (a:Int)) (fun g i s hi hs=>?_) (fun i s hi hs=>?_) (fun g s _=>aE) [] (Nat.le_refl _)).trans ?_
 ·have hs:s.length<=i:=hs;have hx:ix (i:Int) (r5 b).2.2.1.length:=⟨by omega,by show(i:Int) < ((lV b).length:Int); omega⟩;refine(if_pos (decide_eq_true hx.2)).trans ((gP ⟨hx,trivial⟩).trans ?_);rw[lE];refine(gP ⟨⟨by omega,by show(i:Int) < (lv.length:Int); omega⟩,(fun _=>rfl),trivial⟩).trans ?_;obtain⟨f1,f2,_⟩:=M4 b hb hi;have ef:(((lV b).getD i (d6 y48)).1==(a:Int))=(frN b i==a):=by
   rw[f1,Bool.eq_iff_iff,beq_iff_eq,beq_iff_eq]; omega
  have eg:(((lV b).getD i (d6 y48)).2.1==(a:Int))=(toN b i==a):=by
   rw[f2,Bool.eq_iff_iff,beq_iff_eq,beq_iff_eq]; omega
  show(if(lv.getD i false&&(((lV b).getD i (d6 y48)).1==(a:Int)&&((lV b).getD i (d6 y48)).2.1==(a:Int)))=true then _ else _)=_;rw[ef,eg];by_cases h:(lv.getD i false&&(frN b i==a&&toN b i==a))=true
  ·rw[if_pos h,if_pos h];refine(gP ⟨⟨by simp only[List.length_singleton]; omega,by simp only[List.length_singleton]; omega⟩,trivial⟩).trans ?_;exact gP ⟨oo,trivial⟩
  ·rw[if_neg h,if_neg h];exact gP ⟨oo,trivial⟩
 ·have hs:s.length<=i:=hs;show(if(lv.getD i false&&(frN b i==a&&toN b i==a))=true then s++[(i:Int)] else s).length<=i+1;split
  ·rw[List.length_append,List.length_singleton]; omega
  ·omega
 ·show some (fN _ _ [])=_;rw[Kj]
theorem F0v(hb:A7 b=true){lv:List Bool}(hlv:lv.length=(lV b).length)(a:Nat):A0n (r5 b,lv) (a:Int)=some (Pz b lv a):=by
 unfold A0n;rw[u0r hb hlv,vS,gP ⟨rfl,trivial⟩,lE];rfl
theorem F0u(hb:A7 b=true){lv:List Bool}(hlv:lv.length=(lV b).length)(a:Nat):A0m (lV b) lv (a:Int)=some (Pz b lv a):=by
 have hM:=P9 hb;unfold Pz;rw[<- o0P];have key:=I6 (n:=(lV b).length) (by omega) (fun i=>lv.getD i false&&(frN b i==a&&toN b i==a)) (some true) (e:=some false) (F:=w0Q lv (lV b) (a:Int)) (fun g i hi=>by
  obtain⟨f1,f2,_⟩:=M4 b hb hi;have e3:((i:Int)).toNat=i:=rfl;have ef:((frN b i:Int)==(a:Int))=(frN b i==a):=by
   rw[Bool.eq_iff_iff,beq_iff_eq,beq_iff_eq]; omega
  have eg:((toN b i:Int)==(a:Int))=(toN b i==a):=by
   rw[Bool.eq_iff_iff,beq_iff_eq,beq_iff_eq]; omega
  refine(if_pos (by simpa using hi)).trans ?_;rw[e3,f1,f2,ef,eg,Bool.and_assoc];refine(gP ⟨oo,(fun _=>oo),(fun _=>oo),trivial⟩).trans ?_;by_cases h:(lv.getD i false&&(frN b i==a&&toN b i==a))=true
  ·rw[if_pos h,if_pos h]
  ·rw[if_neg h,if_neg h];exact gP ⟨oo,trivial⟩) (fun g=>aE)
 refine key.trans ?_;cases(List.range (lV b).length).any fun i=>lv.getD i false&&(frN b i==a&&toN b i==a) <;> rfl
theorem r81(hb:A7 b=true){lv:List Bool}(hlv:lv.length=(lV b).length):u81 (r5 b,lv)=some (J8 b lv):=by
 have hM:=P9 hb;have hN:=Pq b hb;have e0:((l5 b:Int)).toNat=l5 b:=rfl;have en:B1 ((r5 b,lv):y9×List Bool).1=some (l5 b:Int):=Pv b hb;unfold u81;rw[en,vS,gP ⟨rfl,trivial⟩,lE];refine(lF (n:=l5 b) (by omega) (fun(k:Nat) (s:List (List Bool))=>(s,(k:Int))) (N3 fun v=>U8 b lv v) (fun k s=>s.length=k) (J:=fun s=>q0n (r5 b,lv) (l5 b:Int) s) (F:=A0Q (r5 b,lv) (l5 b:Int)) (fun g k s hk hI=>?_) (fun k s hk hI=>by show(s++[_]).length=_; rw[List.length_append,hI]; rfl) (fun g s _=>aE) [] rfl).trans ?_
 ·have hI:s.length=k:=hI;refine(if_pos (decide_eq_true (by omega))).trans ?_;rw[(Nz hb hlv hk).2,vS];refine(gP ⟨rfl,⟨by show s.length+1<=_; omega,by show(s.length+1)*24<=_; omega⟩,trivial⟩).trans ?_;rw[lE];exact gP ⟨oo,trivial⟩
 have hgl:(fN (N3 fun v=>U8 b lv v) (l5 b) []).length=l5 b:=Jw _ _;have hgg:∀v,v<l5 b->(fN (N3 fun v=>U8 b lv v) (l5 b) []).getD v []=U8 b lv v:=fun v hv=>Cv _ _ _ v hv;have hrl:∀v,v<l5 b->(U8 b lv v).length=l5 b:=fun v hv=>(Nz hb hlv hv).1.1;generalize fN (N3 fun v=>U8 b lv v) (l5 b) []=gr at hgl hgg;show q0n (r5 b,lv) (l5 b:Int) gr=_;rw[q0n,gP ⟨⟨by omega,rfl,by rw[e0]; omega,by omega⟩,trivial⟩,e0];refine lF (n:=l5 b) (by omega) (fun(v:Nat) (s:List Bool×List (List Int))=>(s.2,(v:Int),s.1)) (O7 b lv) (fun v s=>s.1.length=l5 b/\s.2.length<=v) (J:=fun s=>some s.2) (F:=A0P gr (r5 b,lv) (l5 b:Int)) (fun g v s hv hI=>?_) (fun v s hv hI=>Uy b lv hI) (fun g s _=>aE) (List.replicate (l5 b) false,[]) ⟨List.length_replicate,Nat.le_refl _⟩;obtain⟨h1,h2⟩:=hI;obtain⟨S,o⟩:=s;have h1:S.length=l5 b:=h1;have h2:o.length<=v:=h2;have e3:((v:Int)).toNat=v:=rfl;have j4:∀S' o',l0W (v:Int) g (S',o')=g (o',((v+1:Nat):Int),S'):=fun S' o'=>gP ⟨oo,trivial⟩;refine(if_pos (decide_eq_true (by omega))).trans ?_;refine(gP ⟨⟨by omega,by show(v:Int) < (S.length:Int); omega⟩,by show v<S.length; omega,trivial⟩).trans ?_;unfold O7;show(if S.getD v false=true then l0W (v:Int) g (S,o) else lp (t0v gr (v:Int) S o (r5 b,lv) (l5 b:Int) g) ([],0))=g ((if S.getD v false=true then(S,o) else if U9 b lv v=true then(orB (clP b lv v) (l5 b) S,o++[clV b lv v]) else(S,o)).2,((v+1:Nat):Int),(if S.getD v false=true then(S,o) else if U9 b lv v=true then(orB (clP b lv v) (l5 b) S,o++[clV b lv v]) else(S,o)).1);by_cases hS:S.getD v false=true
 ·rw[if_pos hS,if_pos hS,j4]
 rw[if_neg hS,if_neg hS];have hcl:lp (t0v gr (v:Int) S o (r5 b,lv) (l5 b:Int) g) ([],0)=q0m (v:Int) S o (r5 b,lv) g (clV b lv v):=by
  unfold clV;rw[<- Kj];refine lF (n:=l5 b) (by omega) (fun(w:Nat) (s:List Int)=>(s,(w:Int))) (fun w s=>if clP b lv v w=true then s++[(w:Int)] else s) (fun w s=>s.length<=w) (J:=fun s=>q0m (v:Int) S o (r5 b,lv) g s) (F:=t0v gr (v:Int) S o (r5 b,lv) (l5 b:Int) g) (fun g' w s hw hI=>?_) (fun w s hw hI=>?_) (fun g' s _=>aE) [] (Nat.le_refl _)
  ·have hI:s.length<=w:=hI;have e4:((w:Int)).toNat=w:=rfl;have l1:=hrl v hv;have l2:=hrl w hw;refine(if_pos (decide_eq_true (by omega))).trans ?_;rw[e3,e4,hgg v hv,hgg w hw];refine(gP ⟨oo,by omega,oo,(fun _=>oo),(fun _=>by omega),(fun _=>oo),trivial⟩).trans ?_;show(if clP b lv v w=true then _ else _)=_;by_cases h:clP b lv v w=true
   ·rw[if_pos h,if_pos h];refine(gP ⟨⟨by show s.length+1<=_; omega,by show(s.length+1)*8<=_; omega⟩,trivial⟩).trans ?_;exact gP ⟨oo,trivial⟩
   ·rw[if_neg h,if_neg h];exact gP ⟨oo,trivial⟩
  ·have hI:s.length<=w:=hI;split
   ·rw[List.length_append,List.length_singleton]; omega
   ·omega
 rw[hcl,q0m];have hc2:=Vy b lv v;refine(gP ⟨fun _=>(by rw[F0v hb hlv]; rfl),trivial⟩).trans ?_;rw[F0v hb hlv,vS];have ecnd:(decide (((clV b lv v).length:Int)<2)&&!Pz b lv v)=!U9 b lv v:=by
  unfold U9;rw[Bool.not_or];congr 1;rw[Bool.eq_iff_iff,dq,Bool.not_eq_true',decide_eq_false_iff_not];omega
 rw[ecnd];cases hc:U9 b lv v with
 | false =>
   refine(if_pos rfl).trans ?_;rw[j4];rfl
 | true =>
   refine(if_neg (by simp)).trans ?_;obtain⟨il1,il2⟩:=Mz (clP b lv v) (l5 b);have il3:(clV b lv v).length=((List.range (l5 b)).filter (clP b lv v)).length:=il2;rw[<- r0o (clP b lv v) (l5 b) S h1];refine lF (n:=((List.range (l5 b)).filter (clP b lv v)).length) (by omega) (fun(k:Nat) (s:List Bool)=>((k:Int),s)) (fun k (s:List Bool)=>s.set (((List.range (l5 b)).filter (clP b lv v)).getD k 0) true) (fun _ s=>s.length=l5 b) (J:=fun s=>g (o++[clV b lv v],((v+1:Nat):Int),s)) (F:=A0O (clV b lv v) (v:Int) o g) (fun g' k s hk hI=>?_) (fun k s hk hI=>by rw[List.length_set]; exact hI) (fun g' s _=>?_) S h1
   ·have hI:s.length=l5 b:=hI;have e4:((k:Int)).toNat=k:=rfl;have hlt:=Sy hk;have eg:(clV b lv v).getD k 0=((((List.range (l5 b)).filter (clP b lv v)).getD k 0:Nat):Int):=Ry _ _ _;generalize ((List.range (l5 b)).filter (clP b lv v)).getD k 0=i at hlt eg ⊢;have e5:((i:Int)).toNat=i:=rfl;refine(if_pos (decide_eq_true (by omega))).trans ?_;rw[e4,eg,e5];refine(gP ⟨oo,by omega,trivial⟩).trans ?_;refine(gP ⟨oo,by omega,trivial⟩).trans ?_;exact gP ⟨oo,trivial⟩
   ·refine(if_neg (by rw[dq]; omega)).trans ?_;show gd _ (l0W (v:Int) g (s,o++[clV b lv v]))=_;rw[j4];exact gP ⟨⟨by show o.length+1<=_; omega,by show(o.length+1)*24<=_; omega⟩,trivial⟩
theorem r82(hb:A7 b=true){lv:List Bool}(hlv:lv.length=(lV b).length):u82 (l5 b:Int) (lV b) lv=some (J8 b lv):=by
 have hM:=P9 hb;have hN:=Pq b hb;have e0:((l5 b:Int)).toNat=l5 b:=rfl;unfold u82;rw[gP ⟨⟨by omega,rfl,by rw[e0]; omega,by omega⟩,trivial⟩,e0];have hm0:List.replicate (l5 b) false=mkD (l5 b) 0 (List.replicate (l5 b) false):=d0N false (by rw[Rj,List.length_replicate]) fun w hw=>by
  rw[List.length_replicate] at hw;rw[Sj _ _ _ hw];rfl
 refine Eq.trans (congrArg (fun x=>lp (y0m (lV b) lv (l5 b:Int)) (0,x,[])) hm0) ?_;refine lF (n:=l5 b) (by omega) (fun(v:Nat) (s:List Bool×List (List Int))=>((v:Int),mkD (l5 b) v s.1,s.2)) (O7 b lv) (fun v s=>s.1.length=l5 b/\s.2.length<=v) (J:=fun s=>some s.2) (F:=y0m (lV b) lv (l5 b:Int)) (fun g v s hv hI=>?_) (fun v s hv hI=>Uy b lv hI) (fun g s _=>aE) (List.replicate (l5 b) false,[]) ⟨List.length_replicate,Nat.le_refl _⟩;obtain⟨h1,h2⟩:=hI;obtain⟨S,o⟩:=s;have h1:S.length=l5 b:=h1;have h2:o.length<=v:=h2;have e3:((v:Int)).toNat=v:=rfl;have hml:=Rj (l5 b) v S;have hmg:(mkD (l5 b) v S).getD v false=S.getD v false:=by
  rw[Sj _ _ _ hv,decide_eq_false (Nat.lt_irrefl v),Bool.false_or]
 obtain⟨m1,m2⟩:=u0I hb hlv hv (s:=(S,o)) h1;have m1:S.getD v false=true->mkD (l5 b) v S=mkD (l5 b) (v+1) S:=m1;have m2:S.getD v false=false->orB (clP b lv v) (l5 b) (mkD (l5 b) v S)=mkD (l5 b) (v+1) (O7 b lv v (S,o)).1:=m2;have j2:∀S' o',o0X (v:Int) g (S',o')=g (((v+1:Nat):Int),S',o'):=fun S' o'=>gP ⟨oo,trivial⟩;refine(if_pos (decide_eq_true (by omega))).trans ?_;refine(gP ⟨⟨by omega,by show(v:Int) < ((mkD (l5 b) v S).length:Int); omega⟩,by show v < (mkD (l5 b) v S).length; omega,trivial⟩).trans ?_;show(if(mkD (l5 b) v S).getD v false=true then o0X (v:Int) g (mkD (l5 b) v S,o) else _)=g (((v+1:Nat):Int),mkD (l5 b) (v+1) (O7 b lv v (S,o)).1,(O7 b lv v (S,o)).2);rw[hmg];cases hS:S.getD v false with
 | true =>
   refine(if_pos rfl).trans ?_;rw[j2,m1 hS];unfold O7;rw[if_pos hS]
 | false =>
   refine(if_neg (by simp)).trans ?_;obtain⟨T,t1,t2⟩:=F0w hb hlv hv true;obtain⟨B,b1,b2⟩:=F0w hb hlv hv false;have hrow:=Nz hb hlv hv;obtain rfl:T=U8 b lv v:=t1.uniq hrow.1;have hBg:∀w,w<l5 b->B.getD w false=(U8 b lv w).getD v false:=fun w hw=>by
    rw[Bool.eq_iff_iff,b1.2 w hw,(Nz hb hlv hw).1.2 v hv];exact⟨fun h=>Rch.back h,fun h=>Rch.back h⟩
   rw[t2,b2,vS,vS];refine(gP ⟨rfl,rfl,trivial⟩).trans ?_;rw[lE];have hrl:=hrow.1.1;have hbl:=b1.1;rw[<- m2 hS];have hcl:lp (y0l (U8 b lv v) B (v:Int) o (lV b) lv (l5 b:Int) g) (0,[],mkD (l5 b) v S)=q0l (v:Int) o (lV b) lv g (clV b lv v,orB (clP b lv v) (l5 b) (mkD (l5 b) v S)):=by
    unfold clV;rw[<- Kj,<- r0n (clP b lv v) (l5 b) (mkD (l5 b) v S) hml];have hpair:∀n,fN (fun w (s:List Int×List Bool)=>if clP b lv v w=true then(s.1++[(w:Int)],s.2.set w true) else s) n ([],mkD (l5 b) v S)=(fN (fun w (s:List Int)=>if clP b lv v w=true then s++[(w:Int)] else s) n [],fN (fun w (s:List Bool)=>if clP b lv v w=true then s.set w true else s) n (mkD (l5 b) v S)):=by
     intro n
     induction n with
     | zero=>rfl
     | succ n ih =>
       show(if clP b lv v n=true then((fN _ n _:List Int×List Bool).1++[(n:Int)],(fN _ n _:List Int×List Bool).2.set n true) else fN _ n _)=((if clP b lv v n=true then _ else _:List Int),(if clP b lv v n=true then _ else _:List Bool));rw[ih];by_cases h:clP b lv v n=true
       ·rw[if_pos h,if_pos h,if_pos h]
       ·rw[if_neg h,if_neg h,if_neg h]
    rw[<- hpair];refine lF (n:=l5 b) (by omega) (fun(w:Nat) (s:List Int×List Bool)=>((w:Int),s.1,s.2)) (fun w (s:List Int×List Bool)=>if clP b lv v w=true then(s.1++[(w:Int)],s.2.set w true) else s) (fun w s=>s.1.length<=w/\s.2.length=l5 b) (J:=fun s=>q0l (v:Int) o (lV b) lv g s) (F:=y0l (U8 b lv v) B (v:Int) o (lV b) lv (l5 b:Int) g) (fun g' w s hw hI=>?_) (fun w s hw hI=>?_) (fun g' s _=>aE) ([],mkD (l5 b) v S) ⟨Nat.le_refl _,hml⟩
    ·obtain⟨i1,i2⟩:=hI;obtain⟨l,D⟩:=s;have i1:l.length<=w:=i1;have i2:D.length=l5 b:=i2;have e4:((w:Int)).toNat=w:=rfl;refine(if_pos (decide_eq_true (by omega))).trans ?_;rw[e4,hBg w hw];refine(gP ⟨oo,by omega,(fun _=>oo),(fun _=>by omega),trivial⟩).trans ?_;show(if clP b lv v w=true then _ else _)=g' (((w+1:Nat):Int),(if clP b lv v w=true then(l++[(w:Int)],D.set w true) else(l,D)).1,(if clP b lv v w=true then(l++[(w:Int)],D.set w true) else(l,D)).2);by_cases h:clP b lv v w=true
     ·rw[if_pos h,if_pos h];refine(gP ⟨⟨by show l.length+1<=_; omega,by show(l.length+1)*8<=_; omega⟩,trivial⟩).trans ?_;refine(gP ⟨⟨by omega,by show(w:Int) < (D.length:Int); omega⟩,by show w<D.length; omega,trivial⟩).trans ?_;exact gP ⟨oo,trivial⟩
     ·rw[if_neg h,if_neg h];exact gP ⟨oo,trivial⟩
    ·obtain⟨i1,i2⟩:=hI;split
     ·exact⟨by show(s.1++[(w:Int)]).length<=_; rw[List.length_append,List.length_singleton]; omega,by show(s.2.set w true).length=_; rw[List.length_set]; exact i2⟩
     ·exact⟨by omega,i2⟩
   refine hcl.trans ?_;have hc2:=Vy b lv v;rw[q0l];refine(gP ⟨fun _=>(by rw[F0u hb hlv]; rfl),trivial⟩).trans ?_;rw[F0u hb hlv,vS];have els:O7 b lv v (S,o)=if U9 b lv v=true then(orB (clP b lv v) (l5 b) S,o++[clV b lv v]) else(S,o):=if_neg (by show ¬S.getD v false=true; rw[hS]; simp)
   rw[els];show(if U9 b lv v=true then _ else _)=_;cases hc:U9 b lv v with
   | true =>
     refine(if_pos rfl).trans ?_;rw[j2];exact gP ⟨⟨by show o.length+1<=_; omega,by show(o.length+1)*24<=_; omega⟩,trivial⟩
   | false =>
     refine(if_neg (by simp)).trans ?_;rw[j2];rfl
end
end Go.Proofs.YtphnknndgfgepaaGreatDoor
end
section
namespace Go.Proofs.Xd
open Go.Proofs.Xl
section
variable (M N:Nat) (fr to:Nat->Nat) (lv:Nat->Bool)
structure LI(out:List Nat):Prop where
 cnt:K6 (E0N N out)=out.length
 lt:∀v∈out,v<N
 cls:∀i,i<M->lv i=true->to i∈out->fr i∈out
 acy:∀i,i<M->lv i=true->fr i∈out->¬Rch M fr to lv (to i) (fr i)
theorem LI.nil:LI M N fr to lv []:=by
 refine⟨?_,(fun _ h=>by cases h),(fun _ _ _ h=>by cases h),(fun _ _ _ h=>by cases h)⟩;show K6 (List.replicate N false)=0;unfold K6;rw[List.countP_eq_zero];intro a ha;rw[(List.mem_replicate.1 ha).2];simp
end
end Go.Proofs.Xd
end
