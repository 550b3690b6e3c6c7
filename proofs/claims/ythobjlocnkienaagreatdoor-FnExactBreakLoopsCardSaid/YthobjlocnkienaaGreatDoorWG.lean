/- The order of the nodes of a graph: the two loops. -/
import Derived.Test.YthobjlocnkienaaGreatDoorWF
import Derived.Test.YthobjlocnkienaaGreatDoorWC
section
namespace Go.Proofs.YthobjlocnkienaaGreatDoor
open Go Go.Proofs Go.Proofs.Sv Go.Proofs.Xv Go.Proofs.Xl Go.Proofs.Xd
section
variable {b:Y46}
theorem set_len{o:List Int}{i N:Nat}{x:Int}(h:o.length=N):(o.set i x).length=N:=by rw[List.length_set,h]
theorem r101L1(hb:blockOk b=true){lv:List Bool}{p:Nat->Bool}:lp (u101L1 (viewV b,lv) (idxV p (lV b).length)) (0,List.replicate (nodN b) 0)=u101J0 (viewV b,lv) (((List.range (lV b).length).filter p).foldl (incO (toN b)) (List.replicate (nodN b) 0)):=by
 have hM:=links_len hb;obtain⟨q1,q2⟩:=idxV_len p (lV b).length;rw[<- foldN_foldl,<- q2];refine lF (n:=(idxV p (lV b).length).length) (by omega) (fun i (s:List Int)=>((i:Int),s)) (fun i o=>incO (toN b) o (((List.range (lV b).length).filter p).getD i 0)) (fun i o=>o.length=nodN b/\∀v,0<=o.getD v 0/\o.getD v 0<=(i:Int)) (J:=fun s=>u101J0 (viewV b,lv) s) (F:=u101L1 (viewV b,lv) (idxV p (lV b).length)) (fun g i o hi ho=>?_) (fun i o hi ho=>?_) (fun g s _=>if_neg (by simp)) _ ⟨List.length_replicate,fun v=>?_⟩
 ·have e3:((i:Int)).toNat=i:=rfl;obtain⟨ol,ob⟩:=ho;have hk:=filt_lt (p:=p) (M:=(lV b).length) (i:=i) (by omega);refine(if_pos (decide_eq_true (by omega))).trans ?_;refine(gP ⟨oo,by omega,trivial⟩).trans ?_;rw[e3,idxV_get];generalize ((List.range (lV b).length).filter p).getD i 0=k at hk;have e4:Int.toNat ((k:Nat):Int)=k:=rfl;obtain⟨f1,f2,f3,f4⟩:=frto b hb hk;have hx:ix ((k:Nat):Int) (viewV b).2.2.1.length:=⟨by omega,by show((k:Nat):Int) < ((lV b).length:Int); omega⟩;have hv:=ob (toN b k);have e5:((viewV b).2.2.1.getD (Int.toNat ((k:Nat):Int)) (dflt y107)).2.1=(toN b k:Int):=f2;have e6:Int.toNat ((toN b k:Nat):Int)=toN b k:=rfl;rw[e5,e6];refine(gP ⟨hx,oo,by omega,oo,oo,by omega,trivial⟩).trans ?_;rw[lE];exact gP ⟨oo,trivial⟩
 ·obtain⟨ol,ob⟩:=ho;have hk:=filt_lt (p:=p) (M:=(lV b).length) (i:=i) (by omega);obtain⟨f1,f2,f3,f4⟩:=frto b hb hk;refine⟨set_len ol,fun v=>?_⟩;unfold incO;rw[set_get _ (by omega)];have h1:=ob v;have h2:=ob (toN b (((List.range (lV b).length).filter p).getD i 0));split <;> omega
 ·have:(List.replicate (nodN b) (0:Int)).getD v 0=0:=by
   rw[gq,List.getElem?_replicate];split <;> rfl
  rw[this];omega
theorem r101L5(hb:blockOk b=true){lv:List Bool}{p:Nat->Bool}{n:Int}{l:List Int}{v:Int}{g3:List Int×Int×List Int->Option (List Int×Bool)}{o:List Int}{A:Int}(hA:0<=A)(hA2:A<=1000000000000)(ol:o.length=nodN b)(olo:∀w,w<nodN b -> -A<=o.getD w 0/\o.getD w 0<=A):lp (u101L5 (viewV b,lv) (idxV p (lV b).length) n l v g3) (0,o)=u101J4 n g3 (l++[v],((List.range (lV b).length).filter p).foldl (decO (toN b)) o):=by
 have hM:=links_len hb;obtain⟨q1,q2⟩:=idxV_len p (lV b).length;rw[<- foldN_foldl,<- q2];refine lF (n:=(idxV p (lV b).length).length) (by omega) (fun i (s:List Int)=>((i:Int),s)) (fun i o=>decO (toN b) o (((List.range (lV b).length).filter p).getD i 0)) (fun i o=>o.length=nodN b/\∀w,w<nodN b -> -A-(i:Int)<=o.getD w 0/\o.getD w 0<=A) (J:=fun s=>u101J4 n g3 (l++[v],s)) (F:=u101L5 (viewV b,lv) (idxV p (lV b).length) n l v g3) (fun g i o hi ho=>?_) (fun i o hi ho=>?_) (fun g s _=>if_neg (by simp)) _ ⟨ol,fun w hw=>by have:=olo w hw; omega⟩
 ·have e3:((i:Int)).toNat=i:=rfl;obtain⟨ol,ob⟩:=ho;have hk:=filt_lt (p:=p) (M:=(lV b).length) (i:=i) (by omega);refine(if_pos (decide_eq_true (by omega))).trans ?_;refine(gP ⟨oo,by omega,trivial⟩).trans ?_;rw[e3,idxV_get];generalize ((List.range (lV b).length).filter p).getD i 0=k at hk;obtain⟨f1,f2,f3,f4⟩:=frto b hb hk;have hx:ix ((k:Nat):Int) (viewV b).2.2.1.length:=⟨by omega,by show((k:Nat):Int) < ((lV b).length:Int); omega⟩;have hv:=ob (toN b k) f4;have e5:((viewV b).2.2.1.getD (Int.toNat ((k:Nat):Int)) (dflt y107)).2.1=(toN b k:Int):=f2;have e6:Int.toNat ((toN b k:Nat):Int)=toN b k:=rfl;rw[e5,e6];refine(gP ⟨hx,oo,by omega,oo,oo,by omega,trivial⟩).trans ?_;rw[lE];exact gP ⟨oo,trivial⟩
 ·obtain⟨ol,ob⟩:=ho;have hk:=filt_lt (p:=p) (M:=(lV b).length) (i:=i) (by omega);obtain⟨f1,f2,f3,f4⟩:=frto b hb hk;refine⟨set_len ol,fun w hw=>?_⟩;unfold decO;rw[set_get _ (by omega)];have h1:=ob w hw;have h2:=ob _ f4;split <;> omega
def ordB(b:Y46)(lv:List Bool)(out:List Nat)(k:Nat):Option (List Nat):=ordGo (lV b).length (nodN b) (frN b) (toN b) (fun i=>lv.getD i false) k out
theorem ordGo_succ(M N:Nat)(fr to:Nat->Nat)(lv:Nat->Bool)(k:Nat)(out:List Nat):ordGo M N fr to lv (k+1) out=match nextV M N fr to lv out with | none=>none | some v=>ordGo M N fr to lv k (out++[v]):=rfl
theorem r101(hb:blockOk b=true){lv:List Bool}(hlv:lv.length=(lV b).length):u101 (viewV b,lv)=some (ordRes (ordB b lv [] (nodN b))):=by
 have hM:=links_len hb;have hN:=nod_le b hb;have ht:∀i,i < (lV b).length->toN b i<nodN b:=fun i hi=>(frto b hb hi).2.2.2;unfold u101;rw[r86 b hb,vS,gP ⟨rfl,⟨by omega,rfl,by rw[Int.toNat_natCast]; omega,by omega⟩,trivial⟩,lE,r126T hb hlv,vS,gP ⟨rfl,trivial⟩,lE,Int.toNat_natCast,r101L1 hb];have hO:((List.range (lV b).length).filter fun i=>lv.getD i false).foldl (incO (toN b)) (List.replicate (nodN b) 0)=openV (lV b).length (nodN b) (frN b) (toN b) (fun i=>lv.getD i false) []:=rfl;rw[hO];have hl0:(openV (lV b).length (nodN b) (frN b) (toN b) (fun i=>lv.getD i false) []).length=nodN b:=(oinv_0 (fr:=frN b) ht).len;generalize hv6:openV (lV b).length (nodN b) (frN b) (toN b) (fun i=>lv.getD i false) []=v6 at hl0;rw[u101J0];have key:=lp_run (n:=nodN b) (by omega) (fun i (out:List Nat)=>(out.map (fun v:Nat=>(v:Int)),(i:Int),openV (lV b).length (nodN b) (frN b) (toN b) (fun i=>lv.getD i false) out))
  (fun _ out=>(nextV (lV b).length (nodN b) (frN b) (toN b) (fun i=>lv.getD i false) out).map fun v=>out++[v]) (fun _ _=>some ([],false))
  (fun i out=>out.length=i/\OInv (lV b).length (nodN b) (frN b) (toN b) (fun i=>lv.getD i false) out (openV (lV b).length (nodN b) (frN b) (toN b) (fun i=>lv.getD i false) out))
  (J:=fun out=>some (out.map (fun v:Nat=>(v:Int)),true)) (F:=u101L3 (viewV b,lv) v6)
  (fun g i out hi ho=>by
    obtain⟨h1,h2⟩:=ho;have e3:((i:Int)).toNat=i:=rfl;refine(if_pos (decide_eq_true (by omega))).trans ?_;rw[r150 _ (by rw[h2.len]; omega),oinv_next h2,vS];refine(gP ⟨rfl,trivial⟩).trans ?_;rw[lE];cases hn:nextV (lV b).length (nodN b) (frN b) (toN b) (fun i=>lv.getD i false) out with
    | none=>rfl
    | some v =>
      obtain⟨n1,n2⟩:=next_ok hn;have ev:((v:Int)).toNat=v:=rfl;dsimp only;refine(if_neg (by simp)).trans ?_;refine(gP ⟨⟨by omega,by rw[h2.len]; omega⟩,by rw[h2.len]; omega,trivial⟩).trans ?_;refine(gP ⟨⟨by simp only[List.length_singleton,List.length_map]; omega,by simp only[List.length_singleton,List.length_map]; omega⟩,trivial⟩).trans ?_;show gd ((u113 (viewV b,lv) (v:Int)).isSome=true/\True) (lt (vl (u113 (viewV b,lv) (v:Int))) fun v19=>lp (u101L5 (viewV b,lv) v19 (i:Int) (out.map fun v:Nat=>(v:Int)) (v:Int) g) (0,(openV (lV b).length (nodN b) (frN b) (toN b) (fun i=>lv.getD i false) out).set v (-1)))=g ((out++[v]).map (fun v:Nat=>(v:Int)),(((i+1:Nat)):Int),openV (lV b).length (nodN b) (frN b) (toN b) (fun i=>lv.getD i false) (out++[v]));rw[r113 hb hlv,vS,gP ⟨rfl,trivial⟩,lE];have hle:(out.length:Int)*((lV b).length:Int)<=1000000*6000:=Int.mul_le_mul (by omega) (by omega) (by omega) (by decide);rw[r101L5 hb (A:=6000000001) (by decide) (by decide) (set_len h2.len) (fun w hw=>by
       rw[set_get _ (by rw[h2.len]; exact n1)];have a1:=h2.lo w hw;have a2:=h2.hi w hw;split <;> omega)]
      rw[openV_app,List.map_append];exact gP ⟨oo,trivial⟩)
  (fun i out out' hi ho he=>by
    obtain⟨h1,h2⟩:=ho;cases hn:nextV (lV b).length (nodN b) (frN b) (toN b) (fun i=>lv.getD i false) out with
    | none=>rw[hn] at he; cases he
    | some v =>
      rw[hn] at he;cases he;obtain⟨n1,n2⟩:=next_ok hn;refine⟨by simp[h1],?_⟩;rw[openV_app];exact oinv_step ht h2 n1 n2)
  (fun g out ho=>by
    refine(if_neg ?_).trans rfl;simp[hl0])
  (fun i out=>some (ordRes (ordB b lv out (nodN b-i)))) (fun out _=>by
    rw[Nat.sub_self]; rfl)
  (fun i out hi ho=>by
    have e:nodN b-i=(nodN b-(i+1))+1:=by omega
    show some (ordRes (ordGo _ _ _ _ _ (nodN b-i) out))=_;rw[e,ordGo_succ];cases nextV (lV b).length (nodN b) (frN b) (toN b) (fun i=>lv.getD i false) out <;> rfl)
  0 (Nat.zero_le _) [] ⟨rfl,oinv_0 ht⟩
 rw[hv6] at key;exact key
end
section
variable {b:Y46}
end
theorem live_get{M:Nat}(br:List Int){i:Nat}(h:i<M):(liveV M br).getD i false=!hasB br (i:Int):=appF_get _ _ _ _ h
section
variable {b:Y46}
end
end Go.Proofs.YthobjlocnkienaaGreatDoor
end
section
namespace Go.Proofs.Xd
open Go.Proofs.Xl
inductive Rch(M:Nat)(fr to:Nat->Nat)(lv:Nat->Bool)(s:Nat):Nat->Prop
 | refl:Rch M fr to lv s s
 | step {i:Nat}:Rch M fr to lv s (fr i)->i<M->lv i=true->Rch M fr to lv s (to i)
theorem Rch.trans{M:Nat}{fr to:Nat->Nat}{lv:Nat->Bool}{a b c:Nat}(h:Rch M fr to lv a b)(k:Rch M fr to lv b c):Rch M fr to lv a c:=by
 induction k with
 | refl=>exact h
 | step _ hi hl ih=>exact ih.step hi hl
theorem Rch.one{M:Nat}{fr to:Nat->Nat}{lv:Nat->Bool}{i:Nat}(hi:i<M)(hl:lv i=true):Rch M fr to lv (fr i) (to i):=Rch.refl.step hi hl
theorem Rch.head{M:Nat}{fr to:Nat->Nat}{lv:Nat->Bool}{i c:Nat}(hi:i<M)(hl:lv i=true)(k:Rch M fr to lv (to i) c):Rch M fr to lv (fr i) c:=(Rch.one hi hl).trans k
theorem Rch.back{M:Nat}{fr to:Nat->Nat}{lv:Nat->Bool}{a b:Nat}(h:Rch M fr to lv a b):Rch M to fr lv b a:=by
 induction h with
 | refl=>exact .refl
 | step _ hi hl ih=>exact Rch.head hi hl ih
theorem Rch.lt{M N:Nat}{fr to:Nat->Nat}{lv:Nat->Bool}(ht:∀i,i<M->to i<N){a b:Nat}(h:Rch M fr to lv a b)(ha:a<N):b<N:=by
 cases h with
 | refl=>exact ha
 | step _ hi _=>exact ht _ hi
section
variable (M N:Nat) (fr to:Nat->Nat) (lv:Nat->Bool)
def RB(s:Nat)(L:List Bool):Prop:=L.length=N/\∀v,v<N->(L.getD v false=true↔Rch M fr to lv s v)
theorem RB.uniq{M N:Nat}{fr to:Nat->Nat}{lv:Nat->Bool}{s:Nat}{L K:List Bool}(h:RB M N fr to lv s L)(k:RB M N fr to lv s K):L=K :=
 list_eq false (h.1.trans k.1.symm) fun i hi=>by
  have hi':i<N:=by rw[<- h.1]; exact hi
  rw[Bool.eq_iff_iff,h.2 i hi',k.2 i hi']
structure RI(s:Nat)(r:List Bool):Prop where
 len:r.length=N
 src:r.getD s false=true
 snd:∀v,r.getD v false=true->Rch M fr to lv s v
theorem RI.done{M N:Nat}{fr to:Nat->Nat}{lv:Nat->Bool}{s:Nat}{r:List Bool}(h:RI M N fr to lv s r)(hc:∀i,i<M->lv i=true->r.getD (fr i) false=true->r.getD (to i) false=true):RB M N fr to lv s r :=
 ⟨h.len,fun v hv=>⟨h.snd v,fun hr=>by
   clear hv
   induction hr with
   | refl=>exact h.src
   | step _ hi hl ih=>exact hc _ hi hl ih⟩⟩
def cntT(r:List Bool):Nat:=r.countP id
theorem cntT_set{r:List Bool}{i:Nat}(hi:i<r.length)(h:r.getD i false=false):cntT (r.set i true)=cntT r+1:=by
 induction r generalizing i with
 | nil=>simp at hi
 | cons a t ih =>
   cases i with
   | zero =>
     simp only[List.getD_cons_zero] at h;subst h;simp[cntT]
   | succ i =>
     have:=ih (i:=i) (by simpa using hi) (by simpa using h);unfold cntT at this ⊢;rw[List.set_cons_succ,List.countP_cons,List.countP_cons,this];omega
theorem cntT_le(r:List Bool):cntT r<=r.length:=List.countP_le_length
def swS(k:Nat)(s:List Bool×Bool):List Bool×Bool:=if(lv k&&s.1.getD (fr k) false&&!s.1.getD (to k) false)=true then(s.1.set (to k) true,true) else s
theorem sw_fold(ht:∀i,i<M->to i<N){s:Nat}{r:List Bool}(h:RI M N fr to lv s r):∀m,m<=M->RI M N fr to lv s (fN (swS fr to lv) m (r,false)).1 /\
  ((fN (swS fr to lv) m (r,false)).2=false->(fN (swS fr to lv) m (r,false)).1=r/\∀i,i<m->lv i=true->r.getD (fr i) false=true->r.getD (to i) false=true) /\
  ((fN (swS fr to lv) m (r,false)).2=true->cntT r<cntT (fN (swS fr to lv) m (r,false)).1)/\cntT r<=cntT (fN (swS fr to lv) m (r,false)).1:=by
 intro m
 induction m with
 | zero=>intro _; exact⟨h,fun _=>⟨rfl,fun i hi=>by omega⟩,(fun h=>by cases h),Nat.le_refl _⟩
 | succ m ih =>
   intro hm;obtain⟨i1,i2,i3,i4⟩:=ih (by omega);show RI M N fr to lv s (swS fr to lv m (fN (swS fr to lv) m (r,false))).1/\((swS fr to lv m (fN (swS fr to lv) m (r,false))).2=false->(swS fr to lv m (fN (swS fr to lv) m (r,false))).1=r/\_)/\((swS fr to lv m (fN (swS fr to lv) m (r,false))).2=true->_<cntT (swS fr to lv m (fN (swS fr to lv) m (r,false))).1)/\_<=cntT (swS fr to lv m (fN (swS fr to lv) m (r,false))).1;generalize fN (swS fr to lv) m (r,false)=q at i1 i2 i3 i4 ⊢;unfold swS;split
   ·rename_i hc;simp only[ba,Bool.not_eq_true'] at hc;obtain⟨⟨c1,c2⟩,c3⟩:=hc;have hlt:to m<q.1.length:=by rw[i1.len]; exact ht m (by omega)
    have hcs:=cntT_set hlt c3;refine⟨⟨by rw[List.length_set,i1.len],?_,fun v hv=>?_⟩,(fun h=>by cases h),fun _=>by show cntT r<cntT (q.1.set (to m) true); omega,by show cntT r<=cntT (q.1.set (to m) true); omega⟩
    ·show(q.1.set (to m) true).getD s false=true;rw[setB_get true hlt];split
     ·rfl
     ·exact i1.src
    ·rw[setB_get true hlt] at hv;split at hv
     ·rename_i e;subst e;exact(i1.snd _ c2).step (by omega) c1
     ·exact i1.snd v hv
   ·rename_i hc;refine⟨i1,fun h2=>?_,i3,i4⟩;obtain⟨e,hh⟩:=i2 h2;refine⟨e,fun i hi hl hf=>?_⟩;rcases Nat.lt_or_ge i m with h' | h'
    ·exact hh i h' hl hf
    ·have:i=m:=by omega
     subst this;rw[e,hl,hf] at hc;cases ht:r.getD (to i) false with
     | true=>rfl
     | false=>rw[ht] at hc; exact absurd rfl hc
theorem sweep_lp{ρ:Type}(ht:∀i,i<M->to i<N)(hN:N<=1000000){s:Nat}(hs:s<N){F:(List Bool×Bool->Option ρ)->List Bool×Bool->Option ρ}{J:List Bool->Option ρ}
  (hF:∀g (q:List Bool×Bool),q.1.length=N->F g q=if q.2=true then g (fN (swS fr to lv) M (q.1,false)) else J q.1):∃L,RB M N fr to lv s L/\lp F ((List.replicate N false).set s true,true)=J L:=by
 have h0:RI M N fr to lv s ((List.replicate N false).set s true):=by
  have hl:s < (List.replicate N false).length:=by rw[List.length_replicate]; exact hs
  refine⟨by rw[List.length_set,List.length_replicate],by rw[setB_get true hl,if_pos rfl],fun v hv=>?_⟩;rw[setB_get true hl] at hv;split at hv
  ·rename_i e; subst e; exact .refl
  ·simp[gq,List.getElem?_replicate] at hv;split at hv <;> simp at hv
 obtain⟨q,⟨_,hq⟩,hc,he⟩:=lp_meas (J:=fun q:List Bool×Bool=>J q.1) (fun q=>2*(N-cntT q.1)+q.2.toNat) (fun q=>RI M N fr to lv s q.1/\(q.2=false->RB M N fr to lv s q.1)) (fun q=>q.2) (fun q=>fN (swS fr to lv) M (q.1,false))
  (fun g q hq=>hF g q hq.1.len) (fun q hq hc=>by
    obtain⟨i1,i2,i3,i4⟩:=sw_fold M N fr to lv ht hq.1 M (Nat.le_refl _);refine⟨⟨i1,fun h=>?_⟩,?_⟩
    ·obtain⟨e,hh⟩:=i2 h;rw[e];exact hq.1.done hh
    ·have l1:=cntT_le (fN (swS fr to lv) M (q.1,false)).1;rw[i1.len] at l1;show 2*(N-cntT (fN (swS fr to lv) M (q.1,false)).1)+(fN (swS fr to lv) M (q.1,false)).2.toNat<2*(N-cntT q.1)+q.2.toNat;rw[hc];cases h:(fN (swS fr to lv) M (q.1,false)).2 with
     | true=>have:=i3 h; simp; omega
     | false=>simp; omega) (((List.replicate N false).set s true),true) ⟨h0,fun h=>by cases h⟩ (by show 2*(N-cntT _)+1<=_; omega)
 exact⟨q.1,hq hc,he⟩
def cntU(r:List Bool):Nat:=(List.range M).countP fun i=>lv i&&!r.getD (fr i) false
def nxtV(v:Nat):List Int:=((List.range M).filter fun i=>lv i&&fr i==v).map fun i=>(to i:Int)
structure QI(s:Nat)(q:List Int×List Bool):Prop where
 len:q.2.length=N
 mem:∀x∈q.1,0<=x/\x.toNat<N/\Rch M fr to lv s x.toNat
 snd:∀v,q.2.getD v false=true->Rch M fr to lv s v
 src:q.2.getD s false=true∨(s:Int)∈q.1
 cls:∀i,i<M->lv i=true->q.2.getD (fr i) false=true->q.2.getD (to i) false=true∨(to i:Int)∈q.1
 cnt:q.1.length+cntU M fr lv q.2<=M+1
def quN(q:List Int×List Bool):List Int×List Bool:=if q.2.getD (q.1.getD 0 0).toNat false=true then(q.1.drop 1,q.2) else(q.1.drop 1++nxtV M fr to lv (q.1.getD 0 0).toNat,q.2.set (q.1.getD 0 0).toNat true)
theorem cntU_set{r:List Bool}{x:Nat}(hx:x<r.length)(h:r.getD x false=false):cntU M fr lv r=(nxtV M fr to lv x).length+cntU M fr lv (r.set x true):=by
 have e:(nxtV M fr to lv x).length=(List.range M).countP fun i=>lv i&&fr i==x:=by
  unfold nxtV;rw[List.length_map,List.countP_eq_length_filter]
 rw[e];unfold cntU;refine countP_split _ _ _ _ fun i _=>?_;rw[setB_get true hx];by_cases hf:fr i=x
 ·rw[if_pos hf,hf,h];cases lv i <;> simp
 ·rw[if_neg hf];have:(fr i==x)=false:=by simpa using hf
  rw[this];cases lv i <;> simp
theorem qu_step(ht:∀i,i<M->to i<N){s:Nat}{q:List Int×List Bool}(h:QI M N fr to lv s q)(hq:0<q.1.length):QI M N fr to lv s (quN M fr to lv q)/\(quN M fr to lv q).1.length+cntU M fr lv (quN M fr to lv q).2<q.1.length+cntU M fr lv q.2:=by
 obtain⟨o,r⟩:=q;cases o with
 | nil=>simp at hq
 | cons x t =>
   obtain⟨x0,x1,x2⟩:=h.mem x (by simp);have hl:=h.len;have hx:x.toNat<r.length:=by rw[show r.length=N from hl]; exact x1
   unfold quN;simp only[List.getD_cons_zero,List.drop_succ_cons,List.drop_zero];by_cases hr:r.getD x.toNat false=true
   ·rw[if_pos hr];have hxx:(x.toNat:Int)=x:=by omega
    refine⟨⟨hl,fun y hy=>h.mem y (List.mem_cons_of_mem _ hy),h.snd,?_,fun i hi hv hf=>?_,?_⟩,?_⟩
    ·rcases h.src with h' | h'
     ·exact .inl h'
     ·rcases List.mem_cons.1 h' with e | e
      ·left; rw[show s=x.toNat by omega]; exact hr
      ·exact .inr e
    ·rcases h.cls i hi hv hf with h' | h'
     ·exact .inl h'
     ·rcases List.mem_cons.1 h' with e | e
      ·left; rw[show to i=x.toNat by omega]; exact hr
      ·exact .inr e
    ·have h9:(x :: t).length+cntU M fr lv r<=M+1:=h.cnt;rw[List.length_cons] at h9;show t.length+cntU M fr lv r<=_;omega
    ·show t.length+cntU M fr lv r < (x :: t).length+cntU M fr lv r;simp
   ·rw[if_neg hr];have hr:r.getD x.toNat false=false:=by simpa using hr
    have hcu:=cntU_set M fr to lv hx hr;have hget:=fun v=>setB_get (v:=v) true hx;refine⟨⟨by show(r.set _ true).length=N; rw[List.length_set]; exact hl,fun y hy=>?_,fun v hv=>?_,?_,fun i hi hv hf=>?_,?_⟩,?_⟩
    ·rcases List.mem_append.1 hy with hy | hy
     ·exact h.mem y (List.mem_cons_of_mem _ hy)
     ·unfold nxtV at hy;obtain⟨i,hi,rfl⟩:=List.mem_map.1 hy;rw[List.mem_filter,List.mem_range] at hi;simp only[ba,beq_iff_eq] at hi;exact⟨by omega,by simpa using ht i hi.1,by
       rw[Int.toNat_natCast];refine Rch.step ?_ hi.1 hi.2.1;rw[hi.2.2]; exact x2⟩
    ·have hv:(r.set x.toNat true).getD v false=true:=hv;rw[hget] at hv;split at hv
     ·rename_i e; subst e; exact x2
     ·exact h.snd v hv
    ·show(r.set x.toNat true).getD s false=true∨_;rw[hget];split
     ·exact .inl rfl
     ·rename_i hne;rcases h.src with h' | h'
      ·exact .inl h'
      ·rcases List.mem_cons.1 h' with e | e
       ·exact(hne (by omega)).elim
       ·exact .inr (List.mem_append_left _ e)
    ·have hf:(r.set x.toNat true).getD (fr i) false=true:=hf;show(r.set x.toNat true).getD (to i) false=true∨(to i:Int)∈t++nxtV M fr to lv x.toNat;rw[hget] at hf ⊢;by_cases e:fr i=x.toNat
     ·right;refine List.mem_append_right _ ?_;unfold nxtV;refine List.mem_map.2 ⟨i,?_,rfl⟩;rw[List.mem_filter,List.mem_range];exact⟨hi,by simp[hv,e]⟩
     ·rw[if_neg e] at hf;by_cases e2:to i=x.toNat
      ·left; rw[if_pos e2]
      ·rw[if_neg e2];rcases h.cls i hi hv hf with h' | h'
       ·exact .inl h'
       ·rcases List.mem_cons.1 h' with e' | e'
        ·exact(e2 (by omega)).elim
        ·exact .inr (List.mem_append_left _ e')
    ·have:=h.cnt;simp only[List.length_cons] at this;show(t++nxtV M fr to lv x.toNat).length+cntU M fr lv (r.set x.toNat true)<=_;rw[List.length_append];omega
    ·show(t++nxtV M fr to lv x.toNat).length+cntU M fr lv (r.set x.toNat true) < (x :: t).length+cntU M fr lv r;rw[List.length_append,List.length_cons];omega
theorem queue_lp{ρ:Type}(ht:∀i,i<M->to i<N)(hM:M<=2000000){s:Nat}(hs:s<N){F:(List Int×List Bool->Option ρ)->List Int×List Bool->Option ρ}{J:List Bool->Option ρ}
  (hF:∀g (q:List Int×List Bool),q.2.length=N->(∀x∈q.1,0<=x/\x.toNat<N)->q.1.length<=M+1->F g q=if decide (0<q.1.length)=true then g (quN M fr to lv q) else J q.2):∃L,RB M N fr to lv s L/\lp F ([(s:Int)],List.replicate N false)=J L:=by
 have hrep:∀v,(List.replicate N false).getD v false=false:=fun v=>by
  simp[gq,List.getElem?_replicate];split <;> rfl
 have h0:QI M N fr to lv s ([(s:Int)],List.replicate N false):=by
  refine⟨by simp,fun x hx=>?_,fun v hv=>?_,.inr (by simp),fun i _ _ hf=>?_,?_⟩
  ·rw[List.mem_singleton.1 hx];exact⟨by omega,by simpa using hs,by rw[Int.toNat_natCast]; exact .refl⟩
  ·rw[show([(s:Int)],List.replicate N false).2=List.replicate N false from rfl,hrep] at hv; cases hv
  ·rw[show([(s:Int)],List.replicate N false).2=List.replicate N false from rfl,hrep] at hf; cases hf
  ·have:cntU M fr lv (List.replicate N false)<=M:=by unfold cntU; exact countP_rng _
   show 1+cntU M fr lv (List.replicate N false)<=M+1;omega
 obtain⟨q,hq,hc,he⟩:=lp_meas (J:=fun q:List Int×List Bool=>J q.2) (fun q=>q.1.length+cntU M fr lv q.2) (QI M N fr to lv s) (fun q=>decide (0<q.1.length)) (quN M fr to lv)
  (fun g q hq=>hF g q hq.len (fun x hx=>⟨(hq.mem x hx).1,(hq.mem x hx).2.1⟩) (by have:=hq.cnt; omega)) (fun q hq hc=>qu_step M N fr to lv ht hq (of_decide_eq_true hc)) _ h0 (by have h9:[(s:Int)].length+cntU M fr lv (List.replicate N false)<=M+1:=h0.cnt; show [(s:Int)].length+cntU M fr lv (List.replicate N false)<=_; omega)
 have hnil:q.1=[]:=List.eq_nil_of_length_eq_zero (by have:=of_decide_eq_false hc; omega);refine⟨q.2,RI.done ⟨hq.len,?_,hq.snd⟩ fun i hi hl hf=>?_,he⟩
 ·rcases hq.src with h | h
  ·exact h
  ·rw[hnil] at h; cases h
 ·rcases hq.cls i hi hl hf with h | h
  ·exact h
  ·rw[hnil] at h; cases h
theorem rb_fun(ht:∀i,i<M->to i<N)(hN:N<=1000000){s:Nat}(hs:s<N):∃L,RB M N fr to lv s L:=by
 obtain⟨L,h,_⟩:=sweep_lp (ρ:=Unit) M N fr to lv ht hN hs (F:=fun g q=>if q.2=true then g (fN (swS fr to lv) M (q.1,false)) else none) (J:=fun _=>none) (fun _ _ _=>rfl);exact⟨L,h⟩
end
end Go.Proofs.Xd
end
section
namespace Go.Proofs.YthobjlocnkienaaGreatDoor
open Go Go.Proofs Go.Proofs.Sv Go.Proofs.Xv Go.Proofs.Xl Go.Proofs.Xd
theorem lp_mk{σ τ ρ:Type}(mk:σ->τ){F:(τ->Option ρ)->τ->Option ρ}{G:(σ->Option ρ)->σ->Option ρ}(h:∀g s,F g (mk s)=G (fun s=>g (mk s)) s)(s:σ):lp F (mk s)=lp G s:=by
 have key:∀n s,itF F n (mk s)=itF G n s:=by
  intro n
  induction n with
  | zero=>intro s; rfl
  | succ n ih =>
    intro s;show F (itF F n) (mk s)=G (itF G n) s;rw[h];congr 1;exact funext fun s=>ih s
 exact key _ s
theorem nxtV_succ(fr to:Nat->Nat)(lv:Nat->Bool)(v k:Nat):nxtV (k+1) fr to lv v=if(lv k&&fr k==v)=true then nxtV k fr to lv v++[(to k:Int)] else nxtV k fr to lv v:=by
 unfold nxtV;rw[List.range_succ,List.filter_append,List.map_append];by_cases h:(lv k&&fr k==v)=true
 ·rw[if_pos h]; simp only[List.filter_cons,h,if_true,List.filter_nil,List.map_cons,List.map_nil]
 ·rw[if_neg h]; simp only[List.filter_cons,h,Bool.false_eq_true,if_false,List.filter_nil,List.map_nil,List.append_nil]
theorem nxtV_len(fr to:Nat->Nat)(lv:Nat->Bool)(v k:Nat):(nxtV k fr to lv v).length<=k:=by
 unfold nxtV;rw[List.length_map];have:=List.length_filter_le (fun i=>lv i&&fr i==v) (List.range k)
 rwa [List.length_range] at this
def grF(fr to:Nat->Nat)(lv:Nat->Bool)(k:Nat)(s:List (List Int)):List (List Int):=if lv k=true then s.set (fr k) (s.getD (fr k) []++[(to k:Int)]) else s
theorem setL_get{o:List (List Int)}{i v:Nat}(x:List Int)(hi:i<o.length):(o.set i x).getD v []=if v=i then x else o.getD v []:=by
 by_cases h:v=i
 ·subst h; simp[hi]
 ·rw[if_neg h]; simp[gq,List.getElem?_set_ne (Ne.symm h)]
theorem grF_step{N:Nat}(fr to:Nat->Nat)(lv:Nat->Bool){k:Nat}{s:List (List Int)}(hf:fr k<N)(hs:s.length=N/\∀v,s.getD v []=nxtV k fr to lv v):(grF fr to lv k s).length=N/\∀v,(grF fr to lv k s).getD v []=nxtV (k+1) fr to lv v:=by
 obtain⟨h1,h2⟩:=hs;unfold grF;cases hl:lv k with
 | false =>
   refine⟨h1,fun v=>?_⟩;rw[nxtV_succ,hl,if_neg (by simp),if_neg (by simp)];exact h2 v
 | true =>
   rw[if_pos rfl];refine⟨by rw[List.length_set,h1],fun v=>?_⟩;rw[setL_get _ (by omega),nxtV_succ,hl];by_cases e:v=fr k
   ·subst e; rw[if_pos rfl,if_pos (by simp),h2]
   ·rw[if_neg e,if_neg (by simp; exact fun h=>e h.symm),h2]
section
variable {b:Y46}
def srcN(b:Y46)(fw:Bool):Nat->Nat:=if fw=true then frN b else toN b
def dstN(b:Y46)(fw:Bool):Nat->Nat:=if fw=true then toN b else frN b
theorem srcN_lt(hb:blockOk b=true)(fw:Bool){i:Nat}(hi:i < (lV b).length):srcN b fw i<nodN b/\dstN b fw i<nodN b:=by
 obtain⟨_,_,h1,h2⟩:=frto b hb hi;cases fw
 ·exact⟨h2,h1⟩
 ·exact⟨h1,h2⟩
theorem r79(hb:blockOk b=true){lv:List Bool}(hlv:lv.length=(lV b).length){s:Nat}(hs:s<nodN b)(fw:Bool):∃L,RB (lV b).length (nodN b) (srcN b fw) (dstN b fw) (fun i=>lv.getD i false) s L/\u79 (nodN b:Int) (lV b) lv (s:Int) fw=some L:=by
 have hM:=links_len hb;have hN:=nod_le b hb;unfold u79;have e0:((nodN b:Int)).toNat=nodN b:=rfl;have e1:((s:Int)).toNat=s:=rfl;rw[e0,e1,gP ⟨⟨by omega,rfl,by omega,by omega⟩,trivial⟩,gP ⟨by rw[List.length_replicate]; exact oo,by rw[List.length_replicate]; exact hs,trivial⟩];obtain⟨L,h1,h2⟩:=sweep_lp (ρ:=List Bool) (lV b).length (nodN b) (srcN b fw) (dstN b fw) (fun i=>lv.getD i false) (fun i hi=>(srcN_lt hb fw hi).2) hN hs (F:=fun g q=>u79L1 lv fw (lV b) (fun t=>g (t.2,t.1)) (q.2,q.1)) (J:=fun L=>some L) (fun g q hq=>by
  obtain⟨r,c⟩:=q;cases c with
  | false=>rfl
  | true =>
    refine Eq.trans (if_pos (c:=(true:Bool)=true) (t:=lp (u79L2 lv fw (lV b) fun t=>g (t.2,t.1)) (false,0,r)) (e:=u79J0 r) rfl) ?_;show _=g (fN (swS (srcN b fw) (dstN b fw) fun i=>lv.getD i false) (lV b).length (r,false));refine lF (n:=(lV b).length) (by omega) (fun(k:Nat) (s:List Bool×Bool)=>(s.2,(k:Int),s.1)) (swS (srcN b fw) (dstN b fw) fun i=>lv.getD i false) (fun _ s=>s.1.length=nodN b) (J:=fun s=>g (s.1,s.2)) (F:=u79L2 lv fw (lV b) fun t=>g (t.2,t.1)) (fun g' k s hk hI=>?_) (fun k s hk hI=>?_) (fun g' s _=>aE) (r,false) hq
    ·obtain⟨a1,a2,_,_⟩:=frto b hb hk;obtain⟨l1,l2⟩:=srcN_lt hb fw hk;have hI:s.1.length=nodN b:=hI;have e3:((k:Int)).toNat=k:=rfl;have key:u79J4 (k:Int) s.1 s.2 lv g' ((srcN b fw k:Int),(dstN b fw k:Int))=g' ((swS (srcN b fw) (dstN b fw) (fun i=>lv.getD i false) k s).2,((k+1:Nat):Int),(swS (srcN b fw) (dstN b fw) (fun i=>lv.getD i false) k s).1):=by
      refine(gP ⟨oo,(fun _=>oo),(fun _=>by omega),(fun _=>oo),(fun _=>by omega),trivial⟩).trans ?_;unfold swS;by_cases h:(lv.getD k false&&s.1.getD (srcN b fw k) false&&!s.1.getD (dstN b fw k) false)=true
      ·rw[if_pos h];refine(if_pos h).trans ?_;refine(gP ⟨oo,by omega,trivial⟩).trans ?_;exact gP ⟨oo,trivial⟩
      ·rw[if_neg h];refine(if_neg h).trans ?_;exact gP ⟨oo,trivial⟩
     refine(if_pos (by simpa using hk)).trans ?_;refine(gP ⟨oo,oo,trivial⟩).trans ?_;rw[lE,e3];cases fw with
     | false =>
       refine(if_pos rfl).trans ?_;rw[a1,a2];exact key
     | true =>
       refine(if_neg (by simp)).trans ?_;rw[a1,a2];exact key
    ·have hI:s.1.length=nodN b:=hI;unfold swS;split
     ·show(s.1.set _ true).length=_;rw[List.length_set]; exact hI
     ·exact hI)
 refine⟨L,h1,Eq.trans ?_ h2⟩;exact lp_mk (fun q:List Bool×Bool=>(q.2,q.1)) (fun g s=>rfl) ((List.replicate (nodN b) false).set s true,true)
theorem r44c52(hb:blockOk b=true){lv:List Bool}(hlv:lv.length=(lV b).length){s':Nat}(hs:s'<nodN b):∃L,RB (lV b).length (nodN b) (srcN b true) (dstN b true) (fun i=>lv.getD i false) s' L/\u44c52 (viewV b,lv) [(s':Int)]=some L:=by
 have hM:=links_len hb;have hN:=nod_le b hb;unfold u44c52;have e0:((nodN b:Int)).toNat=nodN b:=rfl;have en:u86 ((viewV b,lv):Y113×List Bool).1=some (nodN b:Int):=r86 b hb;rw[en,vS,e0,gP ⟨rfl,⟨by omega,rfl,by omega,by omega⟩,trivial⟩,lE];have hg0:(List.replicate (nodN b) ([]:List Int)).length=nodN b/\∀v,(List.replicate (nodN b) ([]:List Int)).getD v []=nxtV 0 (srcN b true) (dstN b true) (fun i=>lv.getD i false) v:=⟨List.length_replicate,fun v=>by
  rw[gq,List.getElem?_replicate];split <;> rfl⟩
 obtain⟨L,h1,h2⟩:=queue_lp (ρ:=List Bool) (lV b).length (nodN b) (srcN b true) (dstN b true) (fun i=>lv.getD i false) (fun i hi=>(srcN_lt hb true hi).2) (by omega) hs (F:=u44c52L4 (fN (grF (srcN b true) (dstN b true) fun i=>lv.getD i false) (lV b).length (List.replicate (nodN b) []))) (J:=fun L=>some L) (fun g q hq hm hl=>by
  obtain⟨o,r⟩:=q;have hgr:∀m,m<=(lV b).length->(fN (grF (srcN b true) (dstN b true) fun i=>lv.getD i false) m (List.replicate (nodN b) [])).length=nodN b/\∀v,(fN (grF (srcN b true) (dstN b true) fun i=>lv.getD i false) m (List.replicate (nodN b) [])).getD v []=nxtV m (srcN b true) (dstN b true) (fun i=>lv.getD i false) v:=by
   intro m
   induction m with
   | zero=>intro _; exact hg0
   | succ m ih=>intro hm; exact grF_step _ _ _ (srcN_lt hb true (by omega)).1 (ih (by omega))
  obtain⟨g1,g2⟩:=hgr _ (Nat.le_refl _);generalize fN (grF (srcN b true) (dstN b true) fun i=>lv.getD i false) (lV b).length (List.replicate (nodN b) [])=gr at g1 g2;have hq:r.length=nodN b:=hq;have hl:o.length<=(lV b).length+1:=hl;by_cases h0:0<o.length
  ·refine Eq.trans ?_ (if_pos (decide_eq_true h0)).symm;obtain⟨x0,x1⟩:=hm (o.getD 0 0) (getD_mem h0);refine(if_pos (decide_eq_true (by omega))).trans ?_;refine(gP ⟨oo,by show 0<o.length; omega,trivial⟩).trans ?_;refine(gP ⟨⟨by omega,by omega,by omega⟩,trivial⟩).trans ?_;show gd (ix (o.getD 0 0) r.length/\(o.getD 0 0).toNat<r.length/\True) (if(!r.getD (o.getD 0 0).toNat false)=true then _ else _)=_;refine(gP ⟨oo,by omega,trivial⟩).trans ?_;unfold quN;show _=g (if r.getD (o.getD 0 0).toNat false=true then(o.drop 1,r) else(o.drop 1++nxtV (lV b).length (srcN b true) (dstN b true) (fun i=>lv.getD i false) (o.getD 0 0).toNat,r.set (o.getD 0 0).toNat true));cases hr:r.getD (o.getD 0 0).toNat false with
   | true =>
     refine(if_neg (by simp)).trans ?_;rw[if_pos rfl];rfl
   | false =>
     refine(if_pos rfl).trans ?_;rw[if_neg (by simp)];refine(gP ⟨⟨by show 0<=o.getD 0 0; omega,by show o.getD 0 0<_; omega⟩,by show(o.getD 0 0).toNat<_; omega,trivial⟩).trans ?_;rw[lE];have hl':o.length<=(lV b).length+1:=hl;have hd:(o.drop 1).length<=(lV b).length:=by rw[List.length_drop]; omega
     have hnl:=nxtV_len (srcN b true) (dstN b true) (fun i=>lv.getD i false) (o.getD 0 0).toNat (lV b).length;have e5:gr.getD (Int.toNat (o.getD (Int.toNat (0:Int)) (0:Int))) []=nxtV (lV b).length (srcN b true) (dstN b true) (fun i=>lv.getD i false) (o.getD 0 0).toNat:=g2 _;rw[e5];refine(gP ⟨⟨by show 0<=o.getD 0 0; omega,by show o.getD 0 0<_; omega⟩,⟨by show(o.drop 1).length+_<=_; omega,by show((o.drop 1).length+_)*8<=_; omega⟩,trivial⟩).trans ?_;rw[lE];rfl
  ·refine Eq.trans ?_ (if_neg (by simpa using h0)).symm;exact if_neg (by show ¬decide ((0:Int) < (o.length:Int))=true; rw[dq]; omega))
 refine⟨L,h1,?_⟩;refine(lF (n:=(lV b).length) (by omega) (fun(k:Nat) (s:List (List Int))=>((k:Int),s)) (grF (srcN b true) (dstN b true) fun i=>lv.getD i false) (fun k s=>s.length=nodN b/\∀v,s.getD v []=nxtV k (srcN b true) (dstN b true) (fun i=>lv.getD i false) v) (J:=fun s=>u44c52J0 [(s':Int)] (viewV b,lv) s) (F:=u44c52L1 (viewV b,lv) [(s':Int)]) (fun g k s hk hI=>?_) (fun k s hk hI=>grF_step _ _ _ (srcN_lt hb true hk).1 hI) (fun g s _=>aE) _ hg0).trans ?_
 ·obtain⟨a1,a2,_,_⟩:=frto b hb hk;obtain⟨l1,l2⟩:=srcN_lt hb true hk;obtain⟨i1,i2⟩:=hI;have e3:((k:Int)).toNat=k:=rfl;have hn:=nxtV_len (srcN b true) (dstN b true) (fun i=>lv.getD i false) (srcN b true k) k;refine(if_pos (by show decide ((k:Int) < ((lV b).length:Int))=true; simpa using hk)).trans ?_;refine(gP ⟨⟨by omega,by show(k:Int) < ((lV b).length:Int); omega⟩,trivial⟩).trans ?_;rw[lE,e3];have ef:u52 ((lV b).getD k (dflt y107))=some ((srcN b true k:Int),(dstN b true k:Int)):=by
   unfold u52;rw[a1,a2];rfl
  show gd ((u52 ((lV b).getD k (dflt y107))).isSome=true/\True) (lt (vl (u52 ((lV b).getD k (dflt y107)))) fun v8=>_)=_;rw[ef,vS,gP ⟨rfl,trivial⟩,lE];refine(gP ⟨⟨by omega,by show(k:Int) < (lv.length:Int); omega⟩,trivial⟩).trans ?_;rw[show grF (srcN b true) (dstN b true) (fun i=>lv.getD i false) k s=if lv.getD k false=true then s.set (srcN b true k) (s.getD (srcN b true k) []++[(dstN b true k:Int)]) else s from rfl];cases hl:lv.getD k false with
  | false =>
    refine(if_neg Bool.false_ne_true).trans ?_;refine(gP (V:=in64 ((k:Int)+1)/\True) ⟨oo,trivial⟩).trans ?_;rfl
  | true =>
    refine(if_pos (show(true:Bool)=true from rfl)).trans ?_;have e6:s.getD ((srcN b true k:Int)).toNat []=nxtV k (srcN b true) (dstN b true) (fun i=>lv.getD i false) (srcN b true k):=i2 _;refine(gP ⟨⟨by show 0<=(srcN b true k:Int); omega,by show(srcN b true k:Int)<_; omega⟩,by show srcN b true k<_; omega,⟨by show(s.getD ((srcN b true k:Int)).toNat []).length+1<=_; rw[e6]; omega,by show((s.getD ((srcN b true k:Int)).toNat []).length+1)*8<=_; rw[e6]; omega⟩,⟨by show 0<=(srcN b true k:Int); omega,by show(srcN b true k:Int)<_; omega⟩,⟨by show srcN b true k<_; omega,rfl⟩,trivial⟩).trans ?_;refine(gP (V:=in64 ((k:Int)+1)/\True) ⟨oo,trivial⟩).trans ?_;rfl
 ·show u44c52J0 [(s':Int)] (viewV b,lv) (fN _ _ _)=_;unfold u44c52J0;rw[en,vS,e0,gP ⟨rfl,⟨by omega,rfl,by omega,by omega⟩,trivial⟩,lE,r87 _ (by show 1<=_; omega),vS,gP ⟨rfl,trivial⟩,lE];exact h2
end
section
variable {b:Y46}
end
theorem has_iff{l:List Int}{x:Int}:hasB l x=true↔x∈l:=by
 unfold hasB;rw[List.any_eq_true];constructor
 ·rintro⟨j,hj,he⟩;rw[<- eq_of_beq he];exact getD_mem (List.mem_range.1 hj)
 ·intro h;obtain⟨j,hj,rfl⟩:=List.getElem_of_mem h;exact⟨j,List.mem_range.2 hj,by rw[gq,List.getElem?_eq_getElem hj]; exact beq_self_eq_true _⟩
end Go.Proofs.YthobjlocnkienaaGreatDoor
end
