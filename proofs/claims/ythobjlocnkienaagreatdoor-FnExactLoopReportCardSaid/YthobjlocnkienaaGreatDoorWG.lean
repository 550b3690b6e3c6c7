/- The order of the nodes fails exactly if there is a closed path. -/
import Derived.Test.YthobjlocnkienaaGreatDoorWF
import Derived.Test.YthobjlocnkienaaGreatDoorFn25d
import Derived.Test.YthobjlocnkienaaGreatDoorWD
import Derived.Test.YthobjlocnkienaaGreatDoorGn25
section
namespace Go.Proofs.Xd
open Go.Proofs.Xl
section
variable (M N:Nat) (fr to:Nat->Nat) (lv:Nat->Bool)
def Cyc:Prop:=∃i,i<M/\lv i=true/\Rch M fr to lv (to i) (fr i)
theorem cntT_all:∀r:List Bool,cntT r<r.length->∃v,v<r.length/\r.getD v false=false
 | [],h=>by simp at h
 | false :: r,_=>⟨0,by simp,rfl⟩
 | true :: r,h=>by
   have e:cntT (true :: r)=cntT r+1:=by unfold cntT; rw[List.countP_cons]; rfl
   obtain⟨v,h1,h2⟩:=cntT_all r (by rw[e] at h; simpa using h);exact⟨v+1,by simpa using h1,by simpa using h2⟩
theorem cntT_lt:∀(a b:List Bool),a.length=b.length->(∀v,a.getD v false=true->b.getD v false=true)->(∃v,a.getD v false=false/\b.getD v false=true)->cntT a<cntT b:=by
 have le:∀(a b:List Bool),a.length=b.length->(∀v,a.getD v false=true->b.getD v false=true)->cntT a<=cntT b:=by
  intro a
  induction a with
  | nil=>intro b _ _; exact Nat.zero_le _
  | cons x a ih =>
    intro b hl h;cases b with
    | nil=>simp at hl
    | cons y b =>
      have h0:=h 0;have:=ih b (by simpa using hl) (fun v hv=>by have:=h (v+1); simpa using this (by simpa using hv));unfold cntT at this ⊢;rw[List.countP_cons,List.countP_cons];simp only[List.getD_cons_zero] at h0;cases x <;> cases y <;> simp_all <;> omega
 intro a
 induction a with
 | nil=>intro b hl _ ⟨v,_,h2⟩; cases b with
   | nil=>simp at h2
   | cons _ _=>simp at hl
 | cons x a ih =>
   intro b hl h ⟨v,h1,h2⟩;cases b with
   | nil=>simp at hl
   | cons y b =>
     have hl':a.length=b.length:=by simpa using hl
     have h0:=h 0;have ht:∀v,a.getD v false=true->b.getD v false=true:=fun v hv=>by have:=h (v+1); simpa using this (by simpa using hv)
     simp only[List.getD_cons_zero] at h0;cases v with
     | zero =>
       simp only[List.getD_cons_zero] at h1 h2;subst h1; subst h2;have:=le a b hl' ht;unfold cntT at this ⊢;rw[List.countP_cons,List.countP_cons];simp;omega
     | succ v =>
       have:=ih b hl' ht ⟨v,by simpa using h1,by simpa using h2⟩;unfold cntT at this ⊢;rw[List.countP_cons,List.countP_cons];cases x <;> cases y <;> simp_all <;> omega
theorem cyc_of(hf:∀i,i<M->fr i<N)(ht:∀i,i<M->to i<N)(hN:N<=1000000){U:Nat->Prop}(hU:∀u,U u->u<N/\∃i,i<M/\lv i=true/\to i=u/\U (fr i)){u:Nat}(hu:U u):Cyc M fr to lv:=by
 have key:∀(n u:Nat) (L:List Bool),U u->RB M N to fr lv u L->cntT L<=n->Cyc M fr to lv:=by
  intro n
  induction n with
  | zero =>
    intro u L hu hL hn;obtain⟨h1,i,hi,hl,e,hp⟩:=hU u hu;have hz:L.getD u false=true:=(hL.2 u h1).2 .refl;have:0<cntT L:=by
     unfold cntT;rw[List.countP_pos_iff];refine⟨true,?_,rfl⟩;have hu':u<L.length:=by rw[hL.1]; exact h1
     rw[gq,List.getElem?_eq_getElem hu'] at hz;have hz:L[u]=true:=hz;rw[<- hz];exact List.getElem_mem hu'
    omega
  | succ n ih =>
    intro u L hu hL hn;obtain⟨h1,i,hi,hl,e,hp⟩:=hU u hu;by_cases hr:Rch M fr to lv u (fr i)
    ·exact⟨i,hi,hl,by rw[e]; exact hr⟩
    ·obtain⟨K,hK⟩:=rb_fun M N to fr lv hf hN (hf i hi);refine ih (fr i) K hp hK ?_;have:cntT K<cntT L:=by
      refine cntT_lt K L (by rw[hK.1,hL.1]) (fun v hv=>?_) ⟨u,?_,(hL.2 u h1).2 .refl⟩
      ·have hvN:v<N:=by
        rcases Nat.lt_or_ge v N with h | h
        ·exact h
        ·rw[gq,List.getElem?_eq_none (by rw[hK.1]; exact h)] at hv; cases hv
       refine(hL.2 v hvN).2 ?_;have h2:=(hK.2 v hvN).1 hv;have h3:Rch M to fr lv u (fr i):=by
        have:=Rch.one (M:=M) (fr:=to) (to:=fr) (lv:=lv) hi hl
        rwa [e] at this
       exact h3.trans h2
      ·cases hc:K.getD u false with
       | false=>rfl
       | true=>exact(hr ((hK.2 u h1).1 hc).back).elim
     omega
 obtain⟨L,hL⟩:=rb_fun M N to fr lv hf hN (hU u hu).1;exact key _ u L hu hL (Nat.le_refl _)
structure LI(out:List Nat):Prop where
 cnt:cntT (listV N out)=out.length
 lt:∀v∈out,v<N
 cls:∀i,i<M->lv i=true->to i∈out->fr i∈out
 acy:∀i,i<M->lv i=true->fr i∈out->¬Rch M fr to lv (to i) (fr i)
theorem LI.nil:LI M N fr to lv []:=by
 refine⟨?_,(fun _ h=>by cases h),(fun _ _ _ h=>by cases h),(fun _ _ _ h=>by cases h)⟩;show cntT (List.replicate N false)=0;unfold cntT;rw[List.countP_eq_zero];intro a ha;rw[(List.mem_replicate.1 ha).2];simp
theorem LI.snoc{M N:Nat}{fr to:Nat->Nat}{lv:Nat->Bool}{out:List Nat}(h:LI M N fr to lv out){v:Nat}(hv:v<N)(hn:v ∉ out)(hc:cntO M fr to lv out v=0):LI M N fr to lv (out++[v]):=by
 have hin:∀i,i<M->lv i=true->to i=v->fr i∈out:=fun i hi hl e=>by
  unfold cntO at hc;rw[List.countP_eq_zero] at hc;have:=hc i (List.mem_range.2 hi);simpa [hl,e] using this
 have hg:=listV_get h.lt v;refine⟨?_,fun w hw=>?_,fun i hi hl hm=>?_,fun i hi hl hm hr=>?_⟩
 ·rw[listV_app,cntT_set (by rw[hg.1]; exact hv) (by rw[hg.2]; simpa using hn),h.cnt,List.length_append];rfl
 ·rcases List.mem_append.1 hw with hw | hw
  ·exact h.lt w hw
  ·rw[List.mem_singleton.1 hw]; exact hv
 ·rcases List.mem_append.1 hm with hm | hm
  ·exact List.mem_append_left _ (h.cls i hi hl hm)
  ·exact List.mem_append_left _ (hin i hi hl (List.mem_singleton.1 hm))
 ·rcases List.mem_append.1 hm with hm | hm
  ·exact h.acy i hi hl hm hr
  ·have e:=List.mem_singleton.1 hm;rw[e] at hr;generalize hq:to i=q at hr;cases hr with
   | refl =>
     have:=hin i hi hl hq;rw[e] at this;exact hn this
   | @step j hr hj hlj =>
     have hm2:=hin j hj hlj rfl;refine h.acy j hj hlj hm2 ?_;have h1:=Rch.one (M:=M) (fr:=fr) (to:=to) (lv:=lv) hi hl;rw[e,hq] at h1;exact h1.trans hr
theorem ord_cyc(hf:∀i,i<M->fr i<N)(ht:∀i,i<M->to i<N)(hN:N<=1000000):ordGo M N fr to lv N []=none↔Cyc M fr to lv:=by
 have key:∀(k:Nat) (out:List Nat),LI M N fr to lv out->out.length+k=N->(ordGo M N fr to lv k out=none->Cyc M fr to lv)/\∀l,ordGo M N fr to lv k out=some l->LI M N fr to lv l/\l.length=N:=by
  intro k
  induction k with
  | zero=>intro out h hk; exact⟨(fun e=>by cases e),fun l e=>by cases e; exact⟨h,by omega⟩⟩
  | succ k ih =>
    intro out h hk;show((match nextV M N fr to lv out with | none=>none | some v=>ordGo M N fr to lv k (out++[v]))=none->_)/\∀l,(match nextV M N fr to lv out with | none=>none | some v=>ordGo M N fr to lv k (out++[v]))=some l->_;cases hn:nextV M N fr to lv out with
    | none =>
      refine⟨fun _=>?_,fun l e=>by cases e⟩;have hno:∀v,v<N->v ∉ out->cntO M fr to lv out v≠0:=fun v hv hm hc=>by
       unfold nextV at hn;rw[List.find?_eq_none] at hn;have:=hn v (List.mem_range.2 hv);simp[hm,hc] at this
      have hg:=fun v=>listV_get h.lt v;obtain⟨v,hv,hf2⟩:=cntT_all (listV N out) (by rw[h.cnt,(hg 0).1]; omega);rw[(hg v).1] at hv;rw[(hg v).2] at hf2;refine cyc_of M N fr to lv hf ht hN (U:=fun v=>v<N/\v ∉ out) (fun u ⟨hu,hm⟩=>⟨hu,?_⟩) (u:=v) ⟨hv,by simpa using hf2⟩;have:=hno u hu hm;unfold cntO at this;have:=Nat.pos_of_ne_zero this;rw[List.countP_pos_iff] at this;obtain⟨i,hi,hp⟩:=this;rw[List.mem_range] at hi;simp only[ba,beq_iff_eq,Bool.not_eq_true'] at hp;exact⟨i,hi,hp.1.1,hp.1.2,hf i hi,by simpa using hp.2⟩
    | some v =>
      obtain⟨n1,n2⟩:=next_ok hn;have hc:cntO M fr to lv out v=0:=by
       unfold nextV at hn;have:=List.find?_some hn;simp only[ba,beq_iff_eq] at this;exact this.2
      exact ih (out++[v]) (h.snoc n1 n2 hc) (by rw[List.length_append,List.length_singleton]; omega)
 obtain⟨k1,k2⟩:=key N [] (LI.nil M N fr to lv) (by simp);refine⟨k1,fun⟨i,hi,hl,hr⟩=>?_⟩;cases ho:ordGo M N fr to lv N [] with
 | none=>rfl
 | some l =>
   obtain⟨h1,h2⟩:=k2 l ho;have hm:fr i∈l:=by
    have hg:=listV_get h1.lt (fr i);cases hc:l.contains (fr i) with
    | true=>simpa using hc
    | false =>
      exfalso;have hlt:cntT (listV N l)<N:=by
       have:=cntT_lt (listV N l) (List.replicate N true) (by rw[hg.1,List.length_replicate]) (fun v hv=>?_) ⟨fr i,by rw[hg.2]; exact hc,?_⟩
       ·have e:cntT (List.replicate N true)<=N:=by
         have:=cntT_le (List.replicate N true)
         rwa [List.length_replicate] at this
        omega
       ·have hvN:v<N:=by
         rcases Nat.lt_or_ge v N with h | h
         ·exact h
         ·rw[gq,List.getElem?_eq_none (by rw[hg.1]; exact h)] at hv; cases hv
        simp[gq,List.getElem?_replicate,hvN]
       ·simp[gq,List.getElem?_replicate,hf i hi]
      rw[h1.cnt] at hlt;omega
   exact(h1.acy i hi hl hm hr).elim
end
end Go.Proofs.Xd
end
section
namespace Go.Proofs.YthobjlocnkienaaGreatDoor
open Go Go.Proofs Go.Proofs.Sv Go.Proofs.Xv Go.Proofs.Xl Go.Proofs.Xd
section
variable {b:Y46}
def kdN(b:Y46)(i:Nat):Int:=((lV b).getD i (dflt y107)).2.2.1
theorem kd_or(hb:blockOk b=true){i:Nat}(hi:i < (lV b).length):kdN b i=1∨((plcOf b.2.1 (frN b i / 2)).2.2.2=true/\(plcOf b.2.1 (toN b i / 2)).2.2.2=false):=by
 have hm:=getD_mem (d:=dflt y107) hi;unfold kdN frN toN;rcases link_is hm with ⟨i',j,t,_,_,_,e⟩ | ⟨n,k,t,hn,hk,ht,e⟩
 ·left;rw[e]; rfl
 ·right;have hn:n<b.2.2.length:=hn;obtain⟨q,h1,_,_,h4⟩:=sinkL_in (plcOf b.2.1) n (plcs b.2.1).length _ (getD_mem (d:=0) hk);have h1:(sinksV b.2.1 n).getD k 0=(q:Int):=h1;obtain⟨p,p1,p2,_,p4⟩:=drv_one (drv_cnt hb hn);have p4:drvV b n=(p:Int):=p4;unfold drvB at p2;rw[ba] at p2;rw[e,h1,p4];show(plcOf b.2.1 ((2*(p:Int)+(t:Int)).toNat / 2)).2.2.2=true/\(plcOf b.2.1 ((2*(q:Int)+(t:Int)).toNat / 2)).2.2.2=false;rw[show(2*(p:Int)+(t:Int)).toNat / 2=p by omega,show(2*(q:Int)+(t:Int)).toNat / 2=q by omega];exact⟨p2.2,h4⟩
end
end Go.Proofs.YthobjlocnkienaaGreatDoor
namespace Go.Proofs.Xd
open Go.Proofs.Xl
theorem rch_head{M:Nat}{fr to:Nat->Nat}{lv:Nat->Bool}{a c:Nat}(h:Rch M fr to lv a c):a=c∨∃i,i<M/\lv i=true/\fr i=a/\Rch M fr to lv (to i) c:=by
 induction h with
 | refl=>exact .inl rfl
 | @step j hr hj hl ih =>
   rcases ih with e | ⟨i,h1,h2,h3,h4⟩
   ·exact .inr ⟨j,hj,hl,e.symm,.refl⟩
   ·exact .inr ⟨i,h1,h2,h3,h4.step hj hl⟩
theorem filt_two{N:Nat}{p:Nat->Bool}{v:Nat}(h:1 < ((List.range N).filter p).length):∃w,w<N/\p w=true/\w≠v:=by
 have hn:((List.range N).filter p).Nodup:=List.nodup_range.filter _;have hmem:∀x∈(List.range N).filter p,x<N/\p x=true:=fun x hx=>by
  rw[List.mem_filter,List.mem_range] at hx; exact hx
 generalize (List.range N).filter p=l at h hn hmem
 match l,h with
 | x :: y :: r,_ =>
   have hxy:x≠y:=fun e=>by
    rw[e,List.nodup_cons] at hn;exact hn.1 (by simp)
   by_cases e:x=v
   ·exact⟨y,(hmem y (by simp)).1,(hmem y (by simp)).2,fun e'=>hxy (by rw[e,e'])⟩
   ·exact⟨x,(hmem x (by simp)).1,(hmem x (by simp)).2,e⟩
end Go.Proofs.Xd
namespace Go.Proofs.YthobjlocnkienaaGreatDoor
open Go Go.Proofs Go.Proofs.Sv Go.Proofs.Xv Go.Proofs.Xl Go.Proofs.Xd
section
variable {b:Y46}
def lastI(q:Nat->Bool)(m:Nat):Int:=fN (fun k (l:Int)=>if q k=true then(k:Int) else l) m (-1)
theorem last_eq(q:Nat->Bool):∀m,(∃k,k<m/\q k=true)->∃k,k<m/\q k=true/\lastI q m=(k:Int)/\0 < (idxV q m).length/\(idxV q m).getD (((idxV q m).length:Int)-1).toNat 0=(k:Int)
 | 0,⟨k,h,_⟩=>by omega
 | m+1,⟨k,h,hk⟩=>by
   have e1:lastI q (m+1)=if q m=true then(m:Int) else lastI q m:=rfl
   have e2:idxV q (m+1)=if q m=true then idxV q m++[(m:Int)] else idxV q m:=by
    rw[<- idxV_fold,<- idxV_fold]; rfl
   rw[e1,e2];by_cases hq:q m=true
   ·rw[if_pos hq,if_pos hq];refine⟨m,by omega,hq,rfl,by rw[List.length_append,List.length_singleton]; omega,?_⟩;rw[List.length_append,List.length_singleton,show(((idxV q m).length+1:Nat):Int)-1=((idxV q m).length:Int) by omega,Int.toNat_natCast,gq,List.getElem?_append_right (Nat.le_refl _)];simp
   ·rw[if_neg hq,if_neg hq];have hkm:k<m:=by
     rcases Nat.lt_or_ge k m with h' | h'
     ·exact h'
     ·have:k=m:=by omega
      rw[this] at hk; exact absurd hk hq
    obtain⟨k',a1,a2,a3,a4,a5⟩:=last_eq q m ⟨k,hkm,hk⟩;exact⟨k',by omega,a2,a3,a4,a5⟩
abbrev rchV(b:Y46)(lv:List Bool)(v w:Nat):Prop:=Rch (lV b).length (frN b) (toN b) (fun i=>lv.getD i false) v w
theorem clP_iff(hb:blockOk b=true){lv:List Bool}(hlv:lv.length=(lV b).length){v w:Nat}(hv:v<nodN b)(hw:w<nodN b):clP b lv v w=true↔rchV b lv v w/\rchV b lv w v:=by
 unfold clP;rw[ba,(row_ok hb hlv hv).1.2 w hw,(row_ok hb hlv hw).1.2 v hv]
theorem cnd_iff(hb:blockOk b=true){lv:List Bool}(hlv:lv.length=(lV b).length){v:Nat}(hv:v<nodN b):cndB b lv v=true↔∃i,i < (lV b).length/\lv.getD i false=true/\frN b i=v/\rchV b lv (toN b i) v:=by
 unfold cndB;rw[Bool.or_eq_true,dq];have hs:selfB b lv v=true↔∃i,i < (lV b).length/\lv.getD i false=true/\frN b i=v/\toN b i=v:=by
  unfold selfB;rw[<- any_filt,List.any_eq_true];constructor
  ·rintro⟨i,h1,h2⟩;simp only[ba,beq_iff_eq] at h2;exact⟨i,List.mem_range.1 h1,h2.1,h2.2.1,h2.2.2⟩
  ·rintro⟨i,h1,h2,h3,h4⟩;exact⟨i,List.mem_range.2 h1,by simp only[ba,beq_iff_eq]; exact⟨h2,h3,h4⟩⟩
 have hl:(clV b lv v).length=((List.range (nodN b)).filter (clP b lv v)).length:=(idxV_len _ _).2;constructor
 ·rintro(h | h)
  ·obtain⟨w,hw,pw,hne⟩:=filt_two (v:=v) (show 1 < ((List.range (nodN b)).filter (clP b lv v)).length by omega);obtain⟨r1,r2⟩:=(clP_iff hb hlv hv hw).1 pw;rcases rch_head r1 with e | ⟨i,h1,h2,h3,h4⟩
   ·exact absurd e.symm hne
   ·exact⟨i,h1,h2,h3,h4.trans r2⟩
  ·obtain⟨i,h1,h2,h3,h4⟩:=hs.1 h;exact⟨i,h1,h2,h3,by rw[h4]; exact .refl⟩
 ·rintro⟨i,h1,h2,h3,h4⟩;by_cases e:toN b i=v
  ·exact .inr (hs.2 ⟨i,h1,h2,h3,e⟩)
  ·left;obtain⟨_,_,_,f4⟩:=frto b hb h1;have pt:clP b lv v (toN b i)=true:=(clP_iff hb hlv hv f4).2 ⟨by have:=Rch.one (M:=(lV b).length) (fr:=frN b) (to:=toN b) (lv:=fun i=>lv.getD i false) h1 h2; rw[h3] at this; exact this,h4⟩;rcases Nat.lt_or_ge ((List.range (nodN b)).filter (clP b lv v)).length 2 with h | h
   ·exact absurd (filt_one h hv (clP_self hb hlv hv) f4 pt) e
   ·omega
theorem cnd_cell(hb:blockOk b=true){lv:List Bool}(hlv:lv.length=(lV b).length){v:Nat}(hv:v<nodN b)(h:cndB b lv v=true):∃k,k < (lV b).length/\lv.getD k false=true/\kdN b k=1/\clP b lv v (frN b k)=true/\clP b lv v (toN b k)=true:=by
 obtain⟨i,h1,h2,h3,h4⟩:=(cnd_iff hb hlv hv).1 h;obtain⟨_,_,_,f4⟩:=frto b hb h1;have o1:rchV b lv v (toN b i):=by
  have:=Rch.one (M:=(lV b).length) (fr:=frN b) (to:=toN b) (lv:=fun i=>lv.getD i false) h1 h2;rw[h3] at this; exact this
 rcases kd_or hb h1 with k1 | ⟨_,k2⟩
 ·exact⟨i,h1,h2,k1,by rw[h3]; exact clP_self hb hlv hv,(clP_iff hb hlv hv f4).2 ⟨o1,h4⟩⟩
 ·rcases rch_head h4 with e | ⟨j,j1,j2,j3,j4⟩
  ·rcases kd_or hb h1 with k1 | ⟨k3,_⟩
   ·exact⟨i,h1,h2,k1,by rw[h3]; exact clP_self hb hlv hv,(clP_iff hb hlv hv f4).2 ⟨o1,h4⟩⟩
   ·rw[e,<- h3,k3] at k2; cases k2
  ·obtain⟨_,_,g3,g4⟩:=frto b hb j1;have o2:=Rch.one (M:=(lV b).length) (fr:=frN b) (to:=toN b) (lv:=fun i=>lv.getD i false) j1 j2;rw[j3] at o2;rcases kd_or hb j1 with k1 | ⟨k3,_⟩
   ·exact⟨j,j1,j2,k1,by rw[j3]; exact(clP_iff hb hlv hv f4).2 ⟨o1,h4⟩,(clP_iff hb hlv hv g4).2 ⟨o1.trans o2,j4⟩⟩
   ·rw[j3,k2] at k3; cases k3
theorem loops_inv(b:Y46)(lv:List Bool):∀m,m<=nodN b->((fN (lpStep b lv) m (List.replicate (nodN b) false,[]))=(List.replicate (nodN b) false,[])/\∀v,v<m->cndB b lv v=false)∨∃v t,v<m/\cndB b lv v=true/\(fN (lpStep b lv) m (List.replicate (nodN b) false,[])).2=clV b lv v :: t
 | 0,_=>.inl ⟨rfl,fun v h=>by omega⟩
 | m+1,h=>by
   have e:fN (lpStep b lv) (m+1) (List.replicate (nodN b) false,[])=lpStep b lv m (fN (lpStep b lv) m (List.replicate (nodN b) false,[])):=rfl;rw[e];rcases loops_inv b lv m (by omega) with ⟨h1,h2⟩ | ⟨v,t,h1,h2,h3⟩
   ·rw[h1];have hf:(List.replicate (nodN b) false).getD m false=false:=by
     rw[gq,List.getElem?_replicate];split <;> rfl
    unfold lpStep;show(if(List.replicate (nodN b) false).getD m false=true then _ else _)=_/\_∨∃v t,_/\_/\(if(List.replicate (nodN b) false).getD m false=true then _ else _:List Bool×List (List Int)).2=_;rw[hf];cases hc:cndB b lv m with
    | false =>
      left;refine⟨rfl,fun v hv=>?_⟩;by_cases e:v=m
      ·rw[e]; exact hc
      ·exact h2 v (by omega)
    | true=>exact .inr ⟨m,[],by omega,hc,rfl⟩
   ·right;generalize fN (lpStep b lv) m (List.replicate (nodN b) false,[])=s at h3;unfold lpStep;split
    ·exact⟨v,t,by omega,h2,h3⟩
    ·split
     ·exact⟨v,t++[clV b lv m],by omega,h2,by show s.2++[_]=_; rw[h3]; rfl⟩
     ·exact⟨v,t,by omega,h2,h3⟩
def lpB(b:Y46)(lv:List Bool):Bool:=!(ordRes (ordB b lv [] (nodN b))).2
theorem lpB_iff(hb:blockOk b=true){lv:List Bool}(hlv:lv.length=(lV b).length):lpB b lv=true↔∃v,v<nodN b/\cndB b lv v=true:=by
 have hN:=nod_le b hb;have hc:=ord_cyc (lV b).length (nodN b) (frN b) (toN b) (fun i=>lv.getD i false) (fun i hi=>(frto b hb hi).2.2.1) (fun i hi=>(frto b hb hi).2.2.2) hN;have h1:lpB b lv=true↔ordB b lv [] (nodN b)=none:=by
  unfold lpB;cases ordB b lv [] (nodN b) with
  | none=>exact⟨fun _=>rfl,fun _=>rfl⟩
  | some l=>exact⟨fun h=>(by cases h),fun h=>(by cases h)⟩
 rw[h1];refine hc.trans ⟨?_,?_⟩
 ·rintro⟨i,h1,h2,h3⟩;obtain⟨_,_,f3,_⟩:=frto b hb h1;exact⟨frN b i,f3,(cnd_iff hb hlv f3).2 ⟨i,h1,h2,rfl,h3⟩⟩
 ·rintro⟨v,hv,h⟩;obtain⟨i,h1,h2,h3,h4⟩:=(cnd_iff hb hlv hv).1 h;exact⟨i,h1,h2,by rw[h3]; exact h4⟩
def fstL(b:Y46)(lv:List Bool):List Int:=(loopsV b lv).getD 0 []
def qB(b:Y46)(lv:List Bool)(k:Nat):Bool:=lv.getD k false&&(kdN b k==1&&hasB (fstL b lv) (frN b k:Int)&&hasB (fstL b lv) (toN b k:Int))
theorem loops_none(hb:blockOk b=true){lv:List Bool}(hlv:lv.length=(lV b).length)(h:lpB b lv=false):loopsV b lv=[]:=by
 unfold loopsV;rcases loops_inv b lv (nodN b) (Nat.le_refl _) with ⟨h1,_⟩ | ⟨v,t,h1,h2,_⟩
 ·rw[h1]
 ·have:=(lpB_iff hb hlv).2 ⟨v,h1,h2⟩;rw[h] at this; cases this
theorem loops_some(hb:blockOk b=true){lv:List Bool}(hlv:lv.length=(lV b).length)(h:lpB b lv=true):0 < (loopsV b lv).length/\∃k,k < (lV b).length/\qB b lv k=true:=by
 obtain⟨v0,hv0,c0⟩:=(lpB_iff hb hlv).1 h;unfold qB fstL;have key:∃v t,v<nodN b/\cndB b lv v=true/\loopsV b lv=clV b lv v :: t:=by
  unfold loopsV;rcases loops_inv b lv (nodN b) (Nat.le_refl _) with ⟨_,h2⟩ | ⟨v,t,h1,h2,h3⟩
  ·rw[h2 v0 hv0] at c0; cases c0
  ·exact⟨v,t,h1,h2,h3⟩
 obtain⟨v,t,hv,hc,e⟩:=key;rw[e];refine⟨by rw[List.length_cons]; omega,?_⟩;obtain⟨k,k1,k2,k3,k4,k5⟩:=cnd_cell hb hlv hv hc;obtain⟨_,_,f3,f4⟩:=frto b hb k1;have hin:∀w,w<nodN b->clP b lv v w=true->hasB (clV b lv v) (w:Int)=true:=fun w hw hp=>by
  rw[has_iff];unfold clV idxV;exact List.mem_map.2 ⟨w,List.mem_filter.2 ⟨List.mem_range.2 hw,hp⟩,rfl⟩
 refine⟨k,k1,?_⟩;show(lv.getD k false&&(kdN b k==1&&hasB (clV b lv v) _&&hasB (clV b lv v) _))=true;rw[k2,k3,hin _ f3 k4,hin _ f4 k5];rfl
end
theorem lp_two{σ τ ρ π:Type}{F:(σ->Option ρ)->σ->Option ρ}{J:σ->Option ρ}{G:(τ->Option π)->τ->Option π}{K:τ->Option π}(μ:τ->Nat)(R:σ->τ->Prop)(c:τ->Bool)(nx:σ->σ)(ny:τ->τ)
  (hF:∀g s t,R s t->F g s=if c t=true then g (nx s) else J s) (hG:∀g s t,R s t->G g t=if c t=true then g (ny t) else K t) (hI:∀s t,R s t->c t=true->R (nx s) (ny t)/\μ (ny t)<μ t) (s:σ) (t:τ) (hs:R s t) (hm:μ t<=9223372036854775806):∃s' t',R s' t'/\c t'=false/\lp F s=J s'/\lp G t=K t':=by
 have key:∀(n:Nat) (s:σ) (t:τ),μ t<=n->R s t->∃s' t',R s' t'/\c t'=false/\(∀k,itF F (k+(n+1)) s=J s')/\∀k,itF G (k+(n+1)) t=K t':=by
  intro n
  induction n with
  | zero =>
    intro s t hn hs;cases hc:c t with
    | true=>have:=(hI s t hs hc).2; omega
    | false=>exact⟨s,t,hs,hc,fun k=>by show F (itF F k) s=_; rw[hF _ _ _ hs,hc]; rfl,fun k=>by show G (itF G k) t=_; rw[hG _ _ _ hs,hc]; rfl⟩
  | succ n ih =>
    intro s t hn hs;cases hc:c t with
    | true =>
      obtain⟨h1,h2⟩:=hI s t hs hc;obtain⟨s',t',h3,h4,h5,h6⟩:=ih (nx s) (ny t) (by omega) h1;refine⟨s',t',h3,h4,fun k=>?_,fun k=>?_⟩
      ·show F (itF F (k+(n+1))) s=_;rw[hF _ _ _ hs,hc,if_pos rfl];exact h5 k
      ·show G (itF G (k+(n+1))) t=_;rw[hG _ _ _ hs,hc,if_pos rfl];exact h6 k
    | false=>exact⟨s,t,hs,hc,fun k=>by show F (itF F (k+(n+1))) s=_; rw[hF _ _ _ hs,hc]; rfl,fun k=>by show G (itF G (k+(n+1))) t=_; rw[hG _ _ _ hs,hc]; rfl⟩
 obtain⟨s',t',h1,h2,h3,h4⟩:=key (μ t) s t (Nat.le_refl _) hs;exact⟨s',t',h1,h2,lp_of (μ t+1) (by omega) h3,lp_of (μ t+1) (by omega) h4⟩
theorem idxV_srt(p:Nat->Bool)(M:Nat):(idxV p M).Pairwise fun x y=>x<y:=by
 unfold idxV;rw[List.pairwise_map];refine(List.pairwise_lt_range.filter p).imp ?_;intro a c h;omega
theorem idxV_mem{p:Nat->Bool}{M:Nat}{x:Int}:x∈idxV p M↔∃k,k<M/\p k=true/\x=(k:Int):=by
 unfold idxV;rw[List.mem_map];constructor
 ·rintro⟨k,h,e⟩;rw[List.mem_filter,List.mem_range] at h;exact⟨k,h.1,h.2,e.symm⟩
 ·rintro⟨k,h1,h2,e⟩;exact⟨k,List.mem_filter.2 ⟨List.mem_range.2 h1,h2⟩,e.symm⟩
theorem sort_idx{l:List Int}{p:Nat->Bool}{M:Nat}(hn:l.Nodup)(hm:∀x,x∈l↔∃k,k<M/\p k=true/\x=(k:Int)):(l.mergeSort fun x y=>decide (x<=y))=idxV p M:=by
 have hs:=idxV_srt p M;have hn2:(idxV p M).Nodup:=hs.imp fun h=>by omega
 have hp:List.Perm l (idxV p M):=(List.perm_ext_iff_of_nodup hn hn2).2 fun x=>by rw[hm,idxV_mem]
 refine List.Perm.eq_of_pairwise (le:=fun x y=>x<=y) (fun a c _ _ h1 h2=>by omega) ?_ (hs.imp fun h=>by omega) ((List.mergeSort_perm l _).trans hp);have:=List.pairwise_mergeSort (le:=fun x y:Int=>decide (x<=y)) (fun a b c h1 h2=>by rw[dq] at *; omega) (fun a b=>by rw[Bool.or_eq_true,dq,dq]; omega) l;exact this.imp fun h=>of_decide_eq_true h
section
variable {b:Y46}
theorem r128(l:List Int)(x:Int)(hl:l.length<=9223372036854775807):u128 l x=some (hasB l x):=by
 have key:=lp_any hl (fun v=>x==l.getD v 0) (fun v=>some (v:Int)) (e:=some (-1)) (F:=u170L1 x l) 0 (Nat.zero_le _) (fun g i _ hi=>by
  have e3:((i:Int)).toNat=i:=rfl;refine(if_pos (decide_eq_true (by omega))).trans ((gP ⟨oo,trivial⟩).trans ?_);rw[e3];by_cases hc:(x==l.getD i 0)=true
  ·rw[if_pos hc,if_pos hc]
  ·rw[if_neg hc,if_neg hc];exact gP ⟨oo,trivial⟩) (fun g=>if_neg (by simp))
 rw[Nat.sub_zero,<- List.range_eq_range'] at key;have key:u170 l x=_:=key;have hh:hasB l x=((List.range l.length).find? fun v=>x==l.getD v 0).isSome:=by
  unfold hasB;rw[Bool.eq_iff_iff,List.any_eq_true,List.find?_isSome];constructor
  ·rintro⟨j,h1,h2⟩;exact⟨j,h1,by rw[beq_iff_eq] at *; exact h2.symm⟩
  ·rintro⟨j,h1,h2⟩;exact⟨j,h1,by rw[beq_iff_eq] at *; exact h2.symm⟩
 unfold u128;rw[key,hh];cases(List.range l.length).find? fun v=>x==l.getD v 0 with
 | none=>rfl
 | some v =>
   refine(gP ⟨rfl,trivial⟩).trans ?_;rw[lE];show some (decide (0<=(v:Int)))=_;rw[decide_eq_true (by omega)];rfl
theorem r127{L:List Int}(hL:L.length<=9223372036854775807)(l:Y107):u127 l L=some (l.2.2.1==1&&hasB L l.1&&hasB L l.2.1):=by
 unfold u127;rw[r128 L _ hL,r128 L _ hL,vS,vS];exact gP ⟨(fun _=>rfl),(fun _=>rfl),trivial⟩
theorem r126c127(hb:blockOk b=true){lv:List Bool}(hlv:lv.length=(lV b).length){L:List Int}(hL:L.length<=9223372036854775807):u126c127 (viewV b,lv) L=some (idxV (fun k=>lv.getD k false&&(kdN b k==1&&hasB L (frN b k:Int)&&hasB L (toN b k:Int))) (lV b).length):=by
 have hM:=links_len hb;refine(lF (n:=(lV b).length) (by omega) (fun i (s:List Int)=>(s,(i:Int))) (fun i s=>if(lv.getD i false&&(kdN b i==1&&hasB L (frN b i:Int)&&hasB L (toN b i:Int)))=true then s++[(i:Int)] else s) (fun i s=>s.length<=i) (J:=fun s=>some s) (F:=u126c127L1 (viewV b,lv) L) (fun g i s hi hs=>?_) (fun i s hi hs=>?_) (fun g s _=>aE) [] (Nat.le_refl _)).trans ?_
 ·have hs:s.length<=i:=hs;have hx:ix (i:Int) (viewV b).2.2.1.length:=⟨by omega,by show(i:Int) < ((lV b).length:Int); omega⟩;refine(if_pos (decide_eq_true hx.2)).trans ((gP ⟨hx,trivial⟩).trans ?_);rw[lE];obtain⟨f1,f2,_⟩:=frto b hb hi;have hq:u127 ((lV b).getD i (dflt y107)) L=some (kdN b i==1&&hasB L (frN b i:Int)&&hasB L (toN b i:Int)):=by
   rw[r127 hL,f1,f2]; rfl
  have hq:u127 ((viewV b).2.2.1.getD ((i:Int)).toNat (dflt y107)) L=some (kdN b i==1&&hasB L (frN b i:Int)&&hasB L (toN b i:Int)):=hq;refine(gP ⟨⟨by omega,by show(i:Int) < (lv.length:Int); omega⟩,(fun _=>by rw[hq]; rfl),trivial⟩).trans ?_;rw[hq,vS];show(if(lv.getD i false&&(kdN b i==1&&hasB L (frN b i:Int)&&hasB L (toN b i:Int)))=true then _ else _)=_;by_cases h:(lv.getD i false&&(kdN b i==1&&hasB L (frN b i:Int)&&hasB L (toN b i:Int)))=true
  ·rw[if_pos h,if_pos h];refine(gP ⟨⟨by simp only[List.length_singleton]; omega,by simp only[List.length_singleton]; omega⟩,trivial⟩).trans ?_;exact gP ⟨oo,trivial⟩
  ·rw[if_neg h,if_neg h];exact gP ⟨oo,trivial⟩
 ·have hs:s.length<=i:=hs;show(if(lv.getD i false&&(kdN b i==1&&hasB L (frN b i:Int)&&hasB L (toN b i:Int)))=true then s++[(i:Int)] else s).length<=i+1;split
  ·rw[List.length_append,List.length_singleton]; omega
  ·omega
 ·show some (fN _ _ [])=_;rw[idxV_fold]
def nxL(b:Y46)(lv:List Bool):Int:=lastI (qB b lv) (lV b).length
theorem fstL_len(hb:blockOk b=true){lv:List Bool}(hlv:lv.length=(lV b).length):(fstL b lv).length<=1000000:=by
 have hN:=nod_le b hb;unfold fstL loopsV;rcases loops_inv b lv (nodN b) (Nat.le_refl _) with ⟨h1,_⟩ | ⟨v,t,_,_,h3⟩
 ·rw[h1]; exact Nat.zero_le _
 ·rw[h3];have:=clV_len b lv v;show(clV b lv v).length<=_;omega
def brR(b:Y46)(s:List Int×List Bool)(t:List Bool):Prop:=s.2=t/\t.length=(lV b).length/\s.1.Nodup/\(∀x,x∈s.1↔∃k,k < (lV b).length/\(!t.getD k false)=true/\x=(k:Int))/\s.1.length+cntT t<=(lV b).length
theorem brk_eq(hw:wf y46 b)(hb:blockOk b=true):∃l:List Int,l.length<=6000/\(∀x∈l,0<=x/\x < ((lV b).length:Int))/\u71 (viewV b)=some l/\u67 b=some l:=by
 have hM:=links_len hb;have hN:=nod_le b hb;have hnil:brokB (lV b).length []=true:=rfl;have ll:(liveV (lV b).length []).length=(lV b).length:=appF_len _ _;have hm0:∀x:Int,x∈([]:List Int)↔∃k,k < (lV b).length/\(!(liveV (lV b).length []).getD k false)=true/\x=(k:Int):=fun x=>by
  constructor
  ·intro h; cases h
  ·rintro⟨k,h1,h2,_⟩;rw[live_get [] h1] at h2;cases h2
 obtain⟨s',t',⟨r1,r2,r3,r4,r5⟩,hc,e1,e2⟩:=lp_two (F:=u71L1 (viewV b,liveV (lV b).length [])) (J:=fun s=>u71J0 s.1) (G:=u67L1 (lV b) (nodN b:Int)) (K:=fun t=>u67J0 t) cntT (brR b) (lpB b) (fun s=>(s.1++[nxL b s.2],s.2.set (nxL b s.2).toNat false)) (fun t=>t.set (nxL b t).toNat false)
  (fun g s t hR=>by
    obtain⟨o,lv⟩:=s;obtain⟨h1,h2,h3,h4,h5⟩:=hR;have h1:lv=t:=h1;subst h1;have h5:o.length+cntT lv<=(lV b).length:=h5;have hl:u57 (viewV b,lv)=some (lpB b lv):=by
     unfold u57;rw[r101 hb h2,vS,gP ⟨rfl,trivial⟩,lE];rfl
    show gd ((u57 (viewV b,lv)).isSome=true/\True) (if vl (u57 (viewV b,lv))=true then _ else _)=_;rw[hl,vS,gP ⟨rfl,trivial⟩];cases hc:lpB b lv with
    | false=>rfl
    | true =>
      obtain⟨q1,q2⟩:=loops_some hb h2 hc;obtain⟨k,k1,k2,k3,k4,k5⟩:=last_eq (qB b lv) _ q2;have hlp:u65 (viewV b,lv)=some (loopsV b lv):=r65 hb h2;refine(if_pos rfl).trans ?_;show gd ((u65 (viewV b,lv)).isSome=true/\_) _=_;rw[hlp,vS];refine(gP ⟨rfl,oo,q1,trivial⟩).trans ?_;rw[lE];have hch:u126c127 (viewV b,lv) (fstL b lv)=some (idxV (qB b lv) (lV b).length):=r126c127 hb h2 (by have:=fstL_len hb h2; omega);have hch:u126c127 (viewV b,lv) ((loopsV b lv).getD (Int.toNat (0:Int)) [])=some (idxV (qB b lv) (lV b).length):=hch;rw[hch,vS,gP ⟨rfl,trivial⟩,lE];have il:=(idxV_len (qB b lv) (lV b).length).1;refine(gP ⟨oo,oo,by omega,trivial⟩).trans ?_;rw[k5];have e3:Int.toNat (k:Int)=k:=rfl;refine(gP ⟨⟨by omega,by show(k:Int) < (lv.length:Int); omega⟩,by show k<lv.length; omega,trivial⟩).trans ?_;rw[lE];refine(gP ⟨⟨by show o.length+1<=_; omega,by show(o.length+1)*8<=_; omega⟩,trivial⟩).trans ?_;refine Eq.trans ?_ (if_pos rfl).symm;show g (o++[(k:Int)],lv.set (Int.toNat (k:Int)) false)=g (o++[nxL b lv],lv.set (nxL b lv).toNat false);unfold nxL;rw[k3])
  (fun g s t hR=>by
    obtain⟨_,h2,_⟩:=hR;have hlp:u64 (nodN b:Int) (lV b) t=some (loopsV b t):=r64 hb h2;show gd ((u64 (nodN b:Int) (lV b) t).isSome=true/\True) _=_;rw[hlp,vS,gP ⟨rfl,trivial⟩,lE];cases hc:lpB b t with
    | false =>
      rw[loops_none hb h2 hc];rfl
    | true =>
      obtain⟨q1,q2⟩:=loops_some hb h2 hc;obtain⟨k,k1,k2,k3,k4,k5⟩:=last_eq (qB b t) _ q2;have hne:¬(((loopsV b t).length:Int)==0)=true:=by rw[beq_iff_eq]; omega
      refine(if_neg hne).trans ?_;have hfl:=fstL_len hb h2;refine(lF (n:=(lV b).length) (by omega) (fun i (s:Int)=>(s,(i:Int))) (fun i (s:Int)=>if qB b t i=true then(i:Int) else s) (fun _ _=>True) (J:=fun s=>u67J2 t g s) (F:=u67L3 t (lV b) (loopsV b t) g) (fun g' i s hi _=>?_) (fun _ _ _ _=>trivial) (fun g' s _=>aE) (-1) trivial).trans ?_
      ·have e3:((i:Int)).toNat=i:=rfl;obtain⟨f1,f2,_⟩:=frto b hb hi;have ha:u110 ((loopsV b t).getD (Int.toNat (0:Int)) []) ((lV b).getD ((i:Int)).toNat (dflt y107)).1=some (hasB (fstL b t) (frN b i:Int)):=by
        rw[e3,f1]; exact r110 (fstL b t) _ (by omega)
       have hz:u110 ((loopsV b t).getD (Int.toNat (0:Int)) []) ((lV b).getD ((i:Int)).toNat (dflt y107)).2.1=some (hasB (fstL b t) (toN b i:Int)):=by
        rw[e3,f2]; exact r110 (fstL b t) _ (by omega)
       refine(if_pos (decide_eq_true (by omega))).trans ?_;rw[ha,hz,vS,vS];have x1:ix (i:Int) (lV b).length:=oo;have x2:((i:Int)).toNat < (lV b).length:=hi;have x3:ix (0:Int) (loopsV b t).length:=oo;refine(gP ⟨oo,by omega,(fun _=>x1),(fun _=>x2),(fun _=>x3),(fun _=>q1),(fun _=>x1),(fun _=>x2),(fun _=>rfl),(fun _=>x3),(fun _=>q1),(fun _=>x1),(fun _=>x2),(fun _=>rfl),trivial⟩).trans ?_;have eq:(t.getD ((i:Int)).toNat false&&((lV b).getD ((i:Int)).toNat (dflt y107)).2.2.1==(1:Int)&&hasB (fstL b t) (frN b i:Int)&&hasB (fstL b t) (toN b i:Int))=qB b t i:=by
        unfold qB kdN;rw[e3,Bool.and_assoc,Bool.and_assoc,Bool.and_assoc]
       rw[eq];have j4:∀x,u67J4 (i:Int) g' x=g' (x,((i+1:Nat):Int)):=fun x=>gP ⟨oo,trivial⟩;rw[j4,j4];by_cases h:qB b t i=true
       ·rw[if_pos h,if_pos h]
       ·rw[if_neg h,if_neg h]
      ·show u67J2 t g (nxL b t)=_;have e4:nxL b t=(k:Int):=k3;rw[u67J2,e4];refine(gP ⟨oo,by show k<t.length; omega,trivial⟩).trans ?_;rfl)
  (fun s t hR hc=>by
    obtain⟨o,lv⟩:=s;obtain⟨h1,h2,h3,h4,h5⟩:=hR;have h1:lv=t:=h1;subst h1;have h5:o.length+cntT lv<=(lV b).length:=h5;have h3:o.Nodup:=h3;have h4:∀x,x∈o↔∃k,k < (lV b).length/\(!lv.getD k false)=true/\x=(k:Int):=h4;obtain⟨_,q2⟩:=loops_some hb h2 hc;obtain⟨k,k1,k2,k3,_,_⟩:=last_eq (qB b lv) _ q2;have e4:nxL b lv=(k:Int):=k3;have hk:lv.getD k false=true:=by
     unfold qB at k2;rw[ba] at k2;exact k2.1
    have hg:∀w,(lv.set k false).getD w false=if w=k then false else lv.getD w false:=fun w=>setB_get false (by omega)
    have hlt:cntT (lv.set k false)<cntT lv:=by
     refine cntT_lt _ _ (by rw[List.length_set]) (fun v hv=>?_) ⟨k,by rw[hg,if_pos rfl],hk⟩;rw[hg] at hv;split at hv
     ·cases hv
     ·exact hv
    show brR b (o++[nxL b lv],lv.set (nxL b lv).toNat false) (lv.set (nxL b lv).toNat false)/\cntT (lv.set (nxL b lv).toNat false)<cntT lv;rw[e4,Int.toNat_natCast];refine⟨⟨rfl,by rw[List.length_set]; exact h2,?_,fun x=>?_,?_⟩,hlt⟩
    ·show(o++[(k:Int)]).Nodup;rw[List.nodup_append];refine⟨h3,by simp,fun a ha c hc' e=>?_⟩;rw[List.mem_singleton] at hc';obtain⟨k',_,z2,z3⟩:=(h4 a).1 ha;have:k'=k:=by omega
     rw[this,hk] at z2;cases z2
    ·show x∈o++[(k:Int)]↔_;rw[List.mem_append,List.mem_singleton,h4];constructor
     ·rintro(⟨k',z1,z2,z3⟩ | e)
      ·refine⟨k',z1,?_,z3⟩;rw[hg];split
       ·rfl
       ·exact z2
      ·exact⟨k,k1,by rw[hg,if_pos rfl]; rfl,e⟩
     ·rintro⟨k',z1,z2,z3⟩;by_cases e:k'=k
      ·right; rw[z3,e]
      ·left;rw[hg,if_neg e] at z2;exact⟨k',z1,z2,z3⟩
    ·show(o++[(k:Int)]).length+cntT (lv.set k false)<=_;rw[List.length_append,List.length_singleton];omega)
  ([],liveV (lV b).length []) (liveV (lV b).length []) ⟨rfl,ll,List.nodup_nil,hm0,by
    have:=cntT_le (liveV (lV b).length []);show 0+_<=_;omega⟩ (by
    have:=cntT_le (liveV (lV b).length []);omega)
 have hsort:=sort_idx r3 r4;refine⟨idxV (fun k=>!t'.getD k false) (lV b).length,by have:=(idxV_len (fun k=>!t'.getD k false) (lV b).length).1; omega,fun x hx=>?_,?_,?_⟩
 ·obtain⟨k,h1,_,rfl⟩:=idxV_mem.1 hx;omega
 ·unfold u71;rw[r100 hb hnil (Nat.zero_le _),vS,gP ⟨rfl,trivial⟩,lE];refine e1.trans ?_;show u71J0 s'.1=_;have hsl:s129 s'.1=some (idxV (fun k=>!t'.getD k false) (lV b).length):=by
   unfold s129;rw[if_pos (by omega),hsort]
  rw[u71J0,hsl,vS,gP ⟨rfl,trivial⟩,lE]
 ·unfold u67;rw[r59 b hw hb,vS,gP ⟨rfl,trivial⟩,lE,r62 _ _ (by omega) (Nat.zero_le _),vS,gP ⟨rfl,trivial⟩,lE,r61 b hw hb,vS,gP ⟨rfl,trivial⟩,lE];refine e2.trans ?_;show u67J0 t'=_;rw[u67J0,<- idxV_fold];refine lF (n:=(lV b).length) (by omega) (fun(i:Nat) (s:List Int)=>((i:Int),s)) (fun i s=>if(!t'.getD i false)=true then s++[(i:Int)] else s) (fun i s=>s.length<=i) (J:=fun s=>some s) (F:=u67L6 t') (fun g i s hi hs=>?_) (fun i s hi hs=>?_) (fun g s _=>?_) [] (Nat.le_refl _)
  ·have hs:s.length<=i:=hs;have e3:((i:Int)).toNat=i:=rfl;refine(if_pos (decide_eq_true (by omega))).trans ?_;refine(gP ⟨oo,by omega,trivial⟩).trans ?_;rw[e3];by_cases h:(!t'.getD i false)=true
   ·rw[if_pos h,if_pos h];refine(gP ⟨⟨by show s.length+1<=_; omega,by show(s.length+1)*8<=_; omega⟩,trivial⟩).trans ?_;exact gP ⟨oo,trivial⟩
   ·rw[if_neg h,if_neg h];exact gP ⟨oo,trivial⟩
  ·have hs:s.length<=i:=hs;split
   ·rw[List.length_append,List.length_singleton]; omega
   ·omega
  ·exact if_neg (by rw[dq]; omega)
end
def nameV(l:List Y148)(d:Y43)(p:DPlace):ByteArray:=if p.1<0 then(prtOf d p.2.1.toNat).1 else(insOf d p.1.toNat).1++ByteArray.mk #[47]++((l.getD (insOf d p.1.toNat).2.1.toNat (dflt y148)).2.2.1.getD p.2.1.toNat (dflt y222)).1
theorem nm_size{s:ByteArray}(h:nmB s=true):s.size<=8:=by
 unfold nmB at h;simp only[ba,dq] at h;omega
theorem pin_name{l:List Y148}(hl:libOk l=true){i j:Nat}(hi:i<l.length)(hj:j < (celOf l i).2.2.1.length):(pinOf (celOf l i) j).1.size<=8:=by
 have h:cellB isArcS _ _ _ _ _ _ _ _ _=true:=lib_cell' hl hi;unfold cellB pinsOk at h;simp only[ba] at h;exact nm_size (namesB_iff.1 h.1.1.1.1.2.1.2 j hj).1
theorem des_names{l:List Y148}{d:Y43}(h:designOk l d=true):(∀i,i<d.1.length->(insOf d i).1.size<=8)/\∀i,i<d.2.2.length->(prtOf d i).1.size<=8:=by
 have h:designB _ _ _ _ _ _ _ _ _=true:=h;unfold designB at h;simp only[ba] at h;obtain⟨⟨⟨⟨⟨⟨_,c1⟩,_⟩,c2⟩,_⟩,_⟩,_⟩:=h;exact⟨fun i hi=>nm_size (namesB_iff.1 c1 i hi).1,fun i hi=>nm_size (namesB_iff.1 c2 i hi).1⟩
theorem r130(l:List Y148)(d:Y43)(h:designOk l d=true){p:DPlace}(hp:p∈plcs d):u130 d l p=some (nameV l d p)/\u158 l d p=some (nameV l d p)/\(nameV l d p).size<=20:=by
 have df:=df_of h;obtain⟨n1,n2⟩:=des_names h;have e47:(ByteArray.mk #[47]).size=1:=rfl;unfold u130 u158 nameV;rcases plc_pin df hp with ⟨h1,h2,h3⟩ | ⟨h1,h2,h3,h4,h5,h6⟩
 ·have hs:=n2 _ h3;have hn:p.1<0:=by omega
  rw[if_pos (decide_eq_true hn),if_pos hn,gP ⟨⟨h2,by omega⟩,trivial⟩];exact⟨rfl,rfl,by omega⟩
 ·have hs:=n1 _ h2;have hq:=pin_name df.lib h4 h6;have hn:¬p.1<0:=by omega
  have hn':¬decide (p.1<0)=true:=by simpa using hn
  have hq:((l.getD (insOf d p.1.toNat).2.1.toNat (dflt y148)).2.2.1.getD p.2.1.toNat (dflt y222)).1.size<=8:=hq;rw[if_neg hn',if_neg hn,gP ⟨⟨h1,by omega⟩,trivial⟩,lE];show gd ((insOf d p.1.toNat).1.size+_<=_/\ix (insOf d p.1.toNat).2.1 _/\ix p.2.1 (l.getD (insOf d p.1.toNat).2.1.toNat (dflt y148)).2.2.1.length/\_) _=_/\gd ((insOf d p.1.toNat).1.size+_<=_/\ix (insOf d p.1.toNat).2.1 _/\ix p.2.1 (l.getD (insOf d p.1.toNat).2.1.toNat (dflt y148)).2.2.1.length/\_) _=_/\_;have ha:((insOf d p.1.toNat).1++ByteArray.mk #[47]).size=(insOf d p.1.toNat).1.size+1:=by rw[ByteArray.size_append]; rfl
  have g:(insOf d p.1.toNat).1.size+(ByteArray.mk #[47]).size<=9223372036854775807/\ix (insOf d p.1.toNat).2.1 l.length/\ix p.2.1 (l.getD (insOf d p.1.toNat).2.1.toNat (dflt y148)).2.2.1.length/\((insOf d p.1.toNat).1++ByteArray.mk #[47]).size+((l.getD (insOf d p.1.toNat).2.1.toNat (dflt y148)).2.2.1.getD p.2.1.toNat (dflt y222)).1.size<=9223372036854775807/\True :=
   ⟨by omega,⟨h3,by omega⟩,⟨h5,by omega⟩,by omega,trivial⟩
  refine⟨gP g,gP g,?_⟩;rw[ByteArray.size_append];omega
abbrev rfS:List ByteArray:=[ByteArray.mk #[58,114],ByteArray.mk #[58,102]]
def txtV(b:Y46)(a:Int):ByteArray:=nameV b.1 b.2.1 (plcOf b.2.1 (a.tdiv 2).toNat)++rfS.getD (a.tmod 2).toNat (dflt .str)
def textV(b:Y46)(a:Int):ByteArray:=if blockOk b=true then if inB a 0 (2*((plcs b.2.1).length:Int)-1)=true then txtV b a else ByteArray.mk #[] else ByteArray.mk #[]
theorem half{a:Int}{n:Nat}(h:inB a 0 (2*(n:Int)-1)=true):0<=a.tdiv 2/\a.tdiv 2 < (n:Int)/\0<=a.tmod 2/\a.tmod 2<2:=by
 rw[inB_iff] at h;rw[Int.tdiv_eq_ediv_of_nonneg h.1,Int.tmod_eq_emod_of_nonneg h.1];omega
theorem rf_size(r:Int):(rfS.getD r.toNat (dflt .str)).size<=2:=by
 cases r.toNat with
 | zero=>decide
 | succ k=>cases k with
   | zero=>decide
   | succ k=>show(dflt Ty.str).size<=2; decide
theorem r72(b:Y46)(hb:blockOk b=true)(a:Int)(h:inB a 0 (2*((plcs b.2.1).length:Int)-1)=true):u72 (viewV b) a=some (txtV b a):=by
 obtain⟨h1,h2,h3,h4⟩:=half h;have hd:=(block_design hb).1;have hp:plcOf b.2.1 (a.tdiv 2).toNat∈plcs b.2.1:=plc_mem (by omega);obtain⟨e1,_,e3⟩:=r130 b.1 b.2.1 hd hp;have e1':u130 (viewV b).1.2.1 (viewV b).1.1 ((viewV b).2.1.getD (a.tdiv 2).toNat (dflt y171))=some (nameV b.1 b.2.1 (plcOf b.2.1 (a.tdiv 2).toNat)):=e1;have hz:=rf_size (a.tmod 2);unfold u72;rw[e1',vS,gP ⟨by decide,⟨h1,h2⟩,rfl,by decide,⟨h3,h4⟩,by show(a.tmod 2).toNat<2; omega,by show _+(rfS.getD (a.tmod 2).toNat (dflt .str)).size<=_; omega,trivial⟩,lE];rfl
theorem r118(b:Y46)(hw:wf y46 b)(hm:cnt y46 b<=1048576)(hb:blockOk b=true)(q:Int)(h0:0<=q)(h1:q < ((plcs b.2.1).length:Int)):u118 b.1 b.2.1 q=some (nameV b.1 b.2.1 (plcOf b.2.1 q.toNat)):=by
 have hd:=(block_design hb).1;have df:=df_of hd;have hl:=df.len;have ein:inB q 0 (((plcs b.2.1).length:Int)-1)=true:=inB_iff.2 ⟨h0,by omega⟩;have eat:u157 b.1 b.2.1 q=some (plcOf b.2.1 q.toNat,true):=by
  unfold u157;rw[r116 b.1 b.2.1 hw.1 hw.2.1 (cF (cS hm)),vS,gP ⟨rfl,trivial⟩,hd];refine(if_neg (by simp)).trans ?_;rw[r109 b.2.1 hw.2.1 df.fac.ni14 df.fac.np8 df.pin,vS,gP ⟨rfl,trivial⟩,lE];show gd (in64 (((plcs b.2.1).length:Int)-1)/\(u102 q 0 (((plcs b.2.1).length:Int)-1)).isSome=true/\True) (if(!vl (u102 q 0 (((plcs b.2.1).length:Int)-1)))=true then _ else _)=_;rw[r102,vS,gP ⟨oo,rfl,trivial⟩,ein];refine(if_neg (by simp)).trans ?_;exact gP ⟨⟨h0,h1⟩,by show q.toNat < (plcs b.2.1).length; omega,trivial⟩
 unfold u118;rw[eat,vS,gP ⟨rfl,trivial⟩,lE];refine(if_neg (by simp)).trans ?_;rw[(r130 b.1 b.2.1 hd (plc_mem (by omega))).2.1,vS,gP ⟨rfl,trivial⟩,lE]
theorem r68(b:Y46)(hw:wf y46 b)(hm:cnt y46 b<=1048576)(a:Int):u68 b a=some (textV b a):=by
 unfold u68 textV;rw[r66 b hw hm,vS];cases hb:blockOk b with
 | false=>exact gP ⟨rfl,(fun h=>by cases h.1),(fun h=>by cases h.1),(fun h=>by cases h.1),trivial⟩
 | true =>
   have hd:=(block_design hb).1;have df:=df_of hd;have hl:(placesN b.2.1.1.length b.2.1.2.2.length (insOf b.2.1) (prtOf b.2.1)).length<=78:=df.len;have e:u61 b=some (2*((plcs b.2.1).length:Int)):=by
    unfold u61;rw[r109 b.2.1 hw.2.1 df.fac.ni14 df.fac.np8 df.pin,vS,gP ⟨rfl,oo,trivial⟩,lE]
   have hl:(plcs b.2.1).length<=78:=hl;rw[if_pos rfl,e,vS,r102,vS,gP ⟨rfl,fun _=>rfl,fun _=>oo,fun _=>rfl,trivial⟩];cases h:inB a 0 (2*((plcs b.2.1).length:Int)-1) with
   | false=>rfl
   | true =>
     obtain⟨h1,h2,h3,h4⟩:=half h;have hz:=rf_size (a.tmod 2);have e3:=(r130 b.1 b.2.1 hd (plc_mem (d:=b.2.1) (i:=(a.tdiv 2).toNat) (by omega))).2.2;refine(if_neg (by simp)).trans ?_;rw[if_pos rfl,r118 b hw hm hb _ h1 h2,vS,gP ⟨by decide,rfl,by decide,⟨h3,h4⟩,by show(a.tmod 2).toNat<2; omega,by show _+(rfS.getD (a.tmod 2).toNat (dflt .str)).size<=_; omega,trivial⟩,lE];rfl
abbrev brS:ByteArray:=ByteArray.mk #[98,114,101,97,107,32]
abbrev spS:ByteArray:=ByteArray.mk #[32]
abbrev nlS:ByteArray:=ByteArray.mk #[10]
def lineV(b:Y46)(k:Nat):ByteArray:=brS++txtV b (frN b k:Int)++spS++txtV b (toN b k:Int)++nlS
def repF(b:Y46)(l:List Int)(i:Nat)(s:ByteArray):ByteArray:=s++lineV b (l.getD i 0).toNat
theorem txt_size{b:Y46}(hb:blockOk b=true){a:Nat}(h:a<nodN b):(txtV b (a:Int)).size<=22/\inB (a:Int) 0 (2*((plcs b.2.1).length:Int)-1)=true:=by
 have hi:inB (a:Int) 0 (2*((plcs b.2.1).length:Int)-1)=true:=by
  rw[inB_iff];unfold nodN at h;omega
 obtain⟨h1,h2,_,_⟩:=half hi;have e3:=(r130 b.1 b.2.1 (block_design hb).1 (plc_mem (d:=b.2.1) (i:=((a:Int).tdiv 2).toNat) (by omega))).2.2;have hz:=rf_size ((a:Int).tmod 2);refine⟨?_,hi⟩;unfold txtV;rw[ByteArray.size_append];omega
theorem line_size{b:Y46}(hb:blockOk b=true){k:Nat}(h:k < (lV b).length):(lineV b k).size<=60:=by
 obtain⟨_,_,f3,f4⟩:=frto b hb h;have h1:=(txt_size hb f3).1;have h2:=(txt_size hb f4).1;have e1:brS.size=6:=rfl;have e2:spS.size=1:=rfl;have e3:nlS.size=1:=rfl;unfold lineV;rw[ByteArray.size_append,ByteArray.size_append,ByteArray.size_append,ByteArray.size_append];omega
theorem rep_both(b:Y46)(hw:wf y46 b)(hm:cnt y46 b<=1048576):∃r,u31 b=some r/\u32 b=some r:=by
 have e1:brS.size=6:=rfl;have e2:spS.size=1:=rfl;have e3:nlS.size=1:=rfl;unfold u31 u32;rw[r69 b hw hm,r66 b hw hm,vS];cases hb:blockOk b with
 | false =>
   exact⟨(ByteArray.mk #[],1),(gP ⟨rfl,trivial⟩).trans rfl,(gP ⟨rfl,trivial⟩).trans rfl⟩
 | true =>
   have hM:=links_len hb;obtain⟨l,h1,hin,h2,h3⟩:=brk_eq hw hb;have hk:∀i,i<l.length->∃k:Nat,l.getD i 0=(k:Int)/\k < (lV b).length:=fun i hi=>by
    have:=hin _ (getD_mem (d:=0) hi);exact⟨(l.getD i 0).toNat,by omega,by omega⟩
   have step:∀i s,i<l.length->s.size<=60*i->(repF b l i s).size<=60*(i+1):=fun i s hi hs=>by
    obtain⟨k,ek,hkM⟩:=hk i hi;have:=line_size hb hkM;unfold repF;rw[ek,Int.toNat_natCast,ByteArray.size_append];omega
   refine⟨(fN (repF b l) l.length (ByteArray.mk #[]),0),(gP ⟨rfl,trivial⟩).trans ?_,(gP ⟨rfl,trivial⟩).trans ?_⟩
   ·refine(if_neg (by simp)).trans ?_;rw[r59 b hw hb,vS,gP ⟨rfl,trivial⟩,lE,h3,vS,gP ⟨rfl,trivial⟩,lE];refine lF (n:=l.length) (by omega) (fun(i:Nat) (s:ByteArray)=>(s,(i:Int))) (repF b l) (fun i s=>s.size<=60*i) (J:=fun s=>some (s,(0:Int))) (F:=u31L1 b (lV b) l) (fun g i s hi hs=>?_) (fun i s hi hs=>step i s hi hs) (fun g s _=>aE) (ByteArray.mk #[]) (Nat.le_refl _);have hs:s.size<=60*i:=hs;obtain⟨k,ek,hkM⟩:=hk i hi;obtain⟨f1,f2,f3,f4⟩:=frto b hb hkM;obtain⟨a1,a2⟩:=txt_size hb f3;obtain⟨c1,c2⟩:=txt_size hb f4;have t1:u68 b (frN b k:Int)=some (txtV b (frN b k:Int)):=by
     rw[r68 b hw hm];unfold textV;rw[if_pos hb,if_pos a2]
    have t2:u68 b (toN b k:Int)=some (txtV b (toN b k:Int)):=by
     rw[r68 b hw hm];unfold textV;rw[if_pos hb,if_pos c2]
    have ei:((i:Int)).toNat=i:=rfl;have e4:Int.toNat (k:Int)=k:=rfl;have ix1:ix (k:Int) (lV b).length:=oo;refine(if_pos (decide_eq_true (by omega))).trans ?_;refine(gP ⟨oo,by omega,trivial⟩).trans ?_;rw[ei,ek,e4,f1,f2,t1,t2,vS,vS];generalize hA:txtV b (frN b k:Int)=A at a1;generalize hC:txtV b (toN b k:Int)=C at c1;have sz1:(s++brS).size=s.size+6:=by rw[ByteArray.size_append,e1]
    have sz2:(s++brS++A).size=s.size+6+A.size:=by rw[ByteArray.size_append,sz1]
    have sz3:(s++brS++A++spS).size=s.size+6+A.size+1:=by rw[ByteArray.size_append,sz2,e2]
    have sz4:(s++brS++A++spS++C).size=s.size+6+A.size+1+C.size:=by rw[ByteArray.size_append,sz3]
    refine(gP ⟨by show s.size+brS.size<=_; omega,ix1,hkM,rfl,by show(s++brS).size+A.size<=_; omega,by show(s++brS++A).size+spS.size<=_; omega,ix1,hkM,rfl,by show(s++brS++A++spS).size+C.size<=_; omega,by show(s++brS++A++spS++C).size+nlS.size<=_; omega,trivial⟩).trans ?_;rw[lE];refine(gP ⟨oo,trivial⟩).trans ?_;unfold repF lineV;rw[ek,e4,hA,hC,<- ByteArray.append_assoc,<- ByteArray.append_assoc,<- ByteArray.append_assoc,<- ByteArray.append_assoc];rfl
   ·refine(if_neg (by simp)).trans ?_;rw[r70 b hw hb,vS,gP ⟨rfl,trivial⟩,lE,h2,vS,gP ⟨rfl,trivial⟩,lE];refine lF (n:=l.length) (by omega) (fun(i:Nat) (s:ByteArray)=>(s,(i:Int))) (repF b l) (fun i s=>s.size<=60*i) (J:=fun s=>some (s,(0:Int))) (F:=u32L1 (viewV b) l) (fun g i s hi hs=>?_) (fun i s hi hs=>step i s hi hs) (fun g s _=>aE) (ByteArray.mk #[]) (Nat.le_refl _);have hs:s.size<=60*i:=hs;obtain⟨k,ek,hkM⟩:=hk i hi;obtain⟨f1,f2,f3,f4⟩:=frto b hb hkM;obtain⟨a1,a2⟩:=txt_size hb f3;obtain⟨c1,c2⟩:=txt_size hb f4;have t1:u72 (viewV b) (frN b k:Int)=some (txtV b (frN b k:Int)):=r72 b hb _ a2;have t2:u72 (viewV b) (toN b k:Int)=some (txtV b (toN b k:Int)):=r72 b hb _ c2;have ei:((i:Int)).toNat=i:=rfl;have e4:Int.toNat (k:Int)=k:=rfl;have ix1:ix (k:Int) (lV b).length:=oo;have f1:((viewV b).2.2.1.getD k (dflt y107)).1=(frN b k:Int):=f1;have f2:((viewV b).2.2.1.getD k (dflt y107)).2.1=(toN b k:Int):=f2;refine(if_pos (decide_eq_true (by omega))).trans ?_;refine(gP ⟨oo,by omega,trivial⟩).trans ?_;rw[ei,ek,e4,f1,f2,t1,t2,vS,vS];generalize hA:txtV b (frN b k:Int)=A at a1;generalize hC:txtV b (toN b k:Int)=C at c1;have sz2:(brS++A).size=6+A.size:=by rw[ByteArray.size_append,e1]
    have sz3:(brS++A++spS).size=6+A.size+1:=by rw[ByteArray.size_append,sz2,e2]
    have sz4:(brS++A++spS++C).size=6+A.size+1+C.size:=by rw[ByteArray.size_append,sz3]
    have sz5:(brS++A++spS++C++nlS).size=6+A.size+1+C.size+1:=by rw[ByteArray.size_append,sz4,e3]
    refine(gP ⟨ix1,rfl,by show brS.size+A.size<=_; omega,by show(brS++A).size+spS.size<=_; omega,ix1,rfl,by show(brS++A++spS).size+C.size<=_; omega,by show(brS++A++spS++C).size+nlS.size<=_; omega,by show s.size+(brS++A++spS++C++nlS).size<=_; omega,trivial⟩).trans ?_;rw[lE];refine(gP ⟨oo,trivial⟩).trans ?_;unfold repF lineV;rw[ek,e4,hA,hC];rfl
theorem r8(b:Y32)(hw:wf y32 b):u8 b=some true:=by
 unfold u8;rw[z10 b 1048576 hw (by decide) (by decide),vS,gP ⟨rfl,trivial⟩,lE];by_cases hc:szN (cnt y32 b) 1048576<0
 ·exact if_pos (by simpa using hc)
 ·refine(if_neg (by simpa using hc)).trans ?_;have hm:cnt y32 b<=1048576:=by
   unfold szN at hc;split at hc <;> omega
  obtain⟨r,h1,h2⟩:=rep_both b hw hm;have h1:u31 b=some r:=h1;have h2:u32 b=some r:=h2;rw[w12 b hm,vS,h1,vS,gP ⟨rfl,rfl,trivial⟩,lE];show gd _ (lt b fun v3=>_)=_;rw[gP ⟨rfl,trivial⟩,lE,h2,vS,gP ⟨rfl,trivial⟩,lE];refine(if_neg (by simp)).trans ?_;rw[e16 b hm,gP ⟨rfl,rfl,trivial⟩,lE,e16 b hm];rfl
end Go.Proofs.YthobjlocnkienaaGreatDoor
end
