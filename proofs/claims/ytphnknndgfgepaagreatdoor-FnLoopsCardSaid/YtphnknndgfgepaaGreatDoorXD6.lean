/- The same for operations that make, change or call. Over any program. -/
import Derived.Test.YtphnknndgfgepaaGreatDoorXG6
import Derived.Test.YtphnknndgfgepaaGreatDoorXA6
section
namespace Go.Proofs.Xv
open Go Go.RowKit Go.Proofs.Sv
section
variable {e e':List (Nat×Sl)} {o o':List (Nat×Ob)}
theorem p0P{Γ:m9}{p:Pa}{d:Nat}{op:Op}{q:Prop}{r:AV}{w:Nat×Ob}{l:List Nat}(hs:∀t,.tmp t∈op.operands.toList->lku e t=lku e' t)(h:Z3 Γ ⟨e,o⟩ p d op=some (q,r,w,l))(ho:∀id∈l,lku o id=lku o' id):Z3 Γ ⟨e',o'⟩ p d op=some (q,r,w,l):=by
 have R:∀(x:Operand),x∈op.operands.toList->rd ⟨e',o'⟩ p x=rd ⟨e,o⟩ p x:=fun x hx=>(b0U (fun t ht=>hs t (by rw[<- ht]; exact hx))).symm;unfold Z3 at h;split at h
 ·simp only[Z3];split at h
  ·split at h
   ·rw[ce] at h ⊢;split at h
    ·rename_i hf;have hh:=h;simp only[oi,pj] at h;obtain⟨_,_,_,rfl⟩:=h;rw[b0p (ho d (by simp)),if_pos hf]; exact hh
    ·cases h
   ·cases h
  ·cases h
 ·rename_i T x;simp only[Z3,R x (by simp[Op.operands])];split at h
  ·split at h
   ·rw[ce] at h ⊢;split at h
    ·rename_i hf;have hh:=h;simp only[oi,pj] at h;obtain⟨_,_,_,rfl⟩:=h;rw[b0p (ho d (by simp)),if_pos hf]; exact hh
    ·cases h
   ·cases h
  ·cases h
 ·rename_i T x y;simp only[Z3,R x (by simp[Op.operands]),R y (by simp[Op.operands])];split at h
  ·split at h
   ·split at h
    ·rw[ce] at h ⊢;split at h
     ·rename_i hf;have hh:=h;simp only[oi,pj] at h;obtain⟨_,_,_,rfl⟩:=h;rw[b0p (ho d (by simp)),if_pos hf]; exact hh
     ·cases h
    ·split at h
     ·split at h
      ·rename_i hd;rw[b0P 24 hd (fun _ h=>by cases h)];simp only;rw[ce] at h ⊢;split at h
       ·rename_i hf;have hh:=h;simp only[oi,pj] at h;obtain⟨_,_,_,rfl⟩:=h;rw[b0p (ho d (by simp)),if_pos hf]; exact hh
       ·cases h
      ·cases h
     ·cases h
   ·cases h
  ·cases h
 ·rename_i T n parts;simp only[Z3];split at h
  ·split at h
   ·split at h
    ·rename_i xs hp;rw[g0e (e':=e') (o':=o') (fun s hs'=>hs s (by simpa [Op.operands] using hs')) hp];simp only;rw[ce] at h ⊢;split at h
     ·rename_i hf;have hh:=h;simp only[oi,pj] at h;obtain⟨_,_,_,rfl⟩:=h;rw[b0p (ho d (by simp)),if_pos hf]; exact hh
     ·cases h
    ·cases h
   ·cases h
  ·cases h
 ·rename_i xs Ts;have:rds ⟨e',o'⟩ p xs.toList=rds ⟨e,o⟩ p xs.toList:=(c0q (fun t ht=>hs t (by simp[Op.operands,Call.operands] at ht ⊢; exact ht))).symm;simp only[Z3,this];split at h
  ·split at h
   ·rename_i h3 h4 h5;split at h
    ·rename_i h6 h7;rw[ce] at h;split at h
     ·rename_i hf;have hh:=h;simp only[oi,pj] at h;obtain⟨_,_,_,rfl⟩:=h;have e1:=ho _ List.mem_cons_self;simp only at h4;rw[h4] at e1;have e2:=i0U (o':=o') h5 (fun id hid=>ho id (by simp[hid]));simp only[h3,<- e1,e2,h6,h7,hf,cond_true];simpa only[hf,cond_true] using hh
     ·cases h
    ·cases h
   ·cases h
  ·split at h
   ·rename_i h3 h5;split at h
    ·rename_i h6;rw[ce] at h;split at h
     ·rename_i hf;have hh:=h;simp only[oi,pj] at h;obtain⟨_,_,_,rfl⟩:=h;have e2:=i0U (o':=o') h5 (fun id hid=>ho id (by simp[hid]));simp only[h3,e2,h6,b0p (ho d (by simp))];simp only at hf;rw[hf,cond_true]; exact hh
     ·cases h
    ·cases h
   ·cases h
  ·cases h
 ·cases h
theorem p0L{Γ:m9}{p:Pa}{op:Op}{q:Prop}{w:Nat×Ob}{l:List Nat}(hs:∀t,.tmp t∈op.operands.toList->lku e t=lku e' t)(h:t0d Γ ⟨e,o⟩ p op=some (q,w,l))(ho:∀id∈l,lku o id=lku o' id):t0d Γ ⟨e',o'⟩ p op=some (q,w,l):=by
 have R:∀(x:Operand),x∈op.operands.toList->rd ⟨e',o'⟩ p x=rd ⟨e,o⟩ p x:=fun x hx=>(b0U (fun t ht=>hs t (by rw[<- ht]; exact hx))).symm;unfold t0d at h;split at h
 ·rename_i T x y;simp only[t0d,R x (by simp[Op.operands]),R y (by simp[Op.operands])];split at h
  ·split at h
   ·rename_i h4 h5;rw[ce] at h;split at h
    ·rename_i hf;have hh:=h;simp only[oi,pj] at h;obtain⟨_,_,rfl⟩:=h;have e1:=ho _ (List.mem_singleton.2 rfl);simp only at h4;rw[h4] at e1;simp only[<- e1,h5,hf,cond_true]; exact hh
    ·cases h
   ·cases h
  ·split at h
   ·rename_i h4 h5;split at h
    ·rename_i h6;rw[ce] at h;split at h
     ·rename_i hf;have hh:=h;simp only[oi,pj] at h;obtain⟨_,_,rfl⟩:=h;have e1:=ho _ (List.mem_singleton.2 rfl);simp only at h4;rw[h4] at e1;simp only[<- e1,h5,b0P (o':=o') 24 h6 (fun _ h=>by cases h),hf,cond_true]; exact hh
     ·cases h
    ·cases h
   ·cases h
  ·cases h
 ·cases h
theorem j0d{T:List Ct}{p:Pa}{d:Nat}{op:Op}{q:Prop}{r:AV}{obs:List (Nat×Ob)}{fp:List Nat}(hs:∀t,.tmp t∈op.operands.toList->lku e t=lku e' t)(h:t0t T ⟨e,o⟩ p d op=some (q,r,obs,fp))(ho:∀id∈fp,lku o id=lku o' id):t0t T ⟨e',o'⟩ p d op=some (q,r,obs,fp):=by
 unfold t0t at h;split at h
 ·rename_i x xs Ts;have e1:rds ⟨e',o'⟩ p xs.toList=rds ⟨e,o⟩ p xs.toList:=(c0q (fun t ht=>hs t (by simp[Op.operands,Call.operands] at ht ⊢; exact .inr ht))).symm;have e2:rd ⟨e',o'⟩ p x=rd ⟨e,o⟩ p x:=(b0U (fun t ht=>hs t (by simp[Op.operands,Call.operands,ht]))).symm;simp only[t0t,e1,e2];split at h
  ·exact h0H h ho
  ·cases h
 ·cases h
theorem C0Z{Γ:m9}{st:St}{p:Pa}{d:Nat}{op:Op}{r:Prop×AV×List (Nat×Ob)×List Nat}(h:q0d Γ st p d op=some r):H7 Γ st p op=none:=by
 unfold q0d at h;split at h
 ·split at h
  ·rename_i h1 h2;simp only[H7,h1,h2,T8]
  ·cases h
 ·split at h
  ·rename_i h1 h2 h3 h4;simp only[H7,h1,h2,h3,h4]
  ·cases h
 ·cases h
theorem z0V{Γ:m9}{st:St}{p:Pa}{op:Op}{r:Prop×List (Nat×Ob)×List Nat}(h:h0O Γ st p op=some r):t0d Γ st p op=none:=by
 unfold h0O at h;split at h
 ·split at h
  ·rename_i h1 h2 h3;simp only[t0d,h1,h2,h3]
  ·cases h
 ·cases h
theorem p0S{Γ:m9}{p:Pa}{d:Nat}{op:Op}{q:Prop}{r:AV}{obs:List (Nat×Ob)}{l:List Nat}(hs:∀t,.tmp t∈op.operands.toList->lku e t=lku e' t)(h:q0d Γ ⟨e,o⟩ p d op=some (q,r,obs,l))(ho:∀id∈l,lku o id=lku o' id):q0d Γ ⟨e',o'⟩ p d op=some (q,r,obs,l):=by
 have R:∀(x:Operand),x∈op.operands.toList->rd ⟨e',o'⟩ p x=rd ⟨e,o⟩ p x:=fun x hx=>(b0U (fun t ht=>hs t (by rw[<- ht]; exact hx))).symm;unfold q0d at h;split at h
 ·rename_i T x;simp only[q0d,R x (by simp[Op.operands])];split at h
  ·rename_i h1 h2;split at h
   ·rename_i h3;rw[ce] at h;split at h
    ·rename_i hf;have hh:=h;simp only[oi,pj] at h;obtain⟨_,_,_,rfl⟩:=h;have e1:=ho _ (List.mem_cons_of_mem _ (List.mem_singleton.2 rfl));simp only at h3;rw[h3] at e1;simp only at hf;simp only[<- e1,b0p (ho d (by simp)),hf,cond_true];exact hh
    ·cases h
   ·cases h
  ·cases h
 ·rename_i T x l h0;have e2:M5 ⟨e',o'⟩ p l=M5 ⟨e,o⟩ p l:=(e0b (fun t ht=>hs t (by subst ht; simp[Op.operands]))).symm;have e3:M5 ⟨e',o'⟩ p h0=M5 ⟨e,o⟩ p h0:=(e0b (fun t ht=>hs t (by subst ht; simp[Op.operands]))).symm;simp only[q0d,R x (by simp[Op.operands]),e2,e3];split at h
  ·rename_i h1 h2 h3 h4;split at h
   ·rename_i h5 h6;rw[ce] at h;split at h
    ·rename_i hf;have hh:=h;simp only[oi,pj] at h;obtain⟨_,_,_,rfl⟩:=h;have e1:=ho _ (List.mem_singleton.2 rfl);simp only at h6;rw[h6] at e1;simp only[h5,<- e1,hf,cond_true];exact hh
    ·cases h
   ·cases h
  ·cases h
 ·cases h
theorem m0U{Γ:m9}{p:Pa}{op:Op}{q:Prop}{obs:List (Nat×Ob)}{l:List Nat}(hs:∀t,.tmp t∈op.operands.toList->lku e t=lku e' t)(h:h0O Γ ⟨e,o⟩ p op=some (q,obs,l))(ho:∀id∈l,lku o id=lku o' id):h0O Γ ⟨e',o'⟩ p op=some (q,obs,l):=by
 have R:∀(x:Operand),x∈op.operands.toList->rd ⟨e',o'⟩ p x=rd ⟨e,o⟩ p x:=fun x hx=>(b0U (fun t ht=>hs t (by rw[<- ht]; exact hx))).symm;unfold h0O at h;split at h
 ·rename_i T x y;simp only[h0O,R x (by simp[Op.operands]),R y (by simp[Op.operands])];split at h
  ·rename_i h1 h2 h3;split at h
   ·rename_i h4 h5;split at h
    ·rename_i h6;rw[ce] at h;split at h
     ·rename_i hf;have hh:=h;simp only[oi,pj] at h;obtain⟨_,_,rfl⟩:=h;have e1:=ho _ (List.mem_cons_self);have e2:=ho _ (List.mem_cons_of_mem _ (List.mem_singleton.2 rfl));simp only at h4 h5;rw[h4] at e1;rw[h5] at e2;simp only[<- e1,<- e2,h6,hf,cond_true];exact hh
     ·cases h
    ·cases h
   ·cases h
  ·cases h
 ·cases h
theorem j0b{Γ:m9}{T:List Ct}{p:Pa}{x:Oper}{q:Prop}{av:Option AV}{obs:List (Nat×Ob)}{fp:List Nat}(hs:∀t,.tmp t∈x.op.operands.toList->lku e t=lku e' t)(h:T9 Γ T ⟨e,o⟩ p x=some (q,av,obs,fp))(ho:∀id∈fp,lku o id=lku o' id) :
  T9 Γ T ⟨e',o'⟩ p x=some (q,av,obs,fp):=by
 unfold T9 at h ⊢;split at h
 ·rw[ce] at h ⊢;split at h
  ·rename_i hk;rw[if_pos hk];split at h
   ·rename_i hh;simp only[oi,pj] at h;obtain⟨rfl,rfl,rfl,rfl⟩:=h;rw[p0N hs hh ho]
   ·split at h
    ·rename_i hh;simp only[oi,pj] at h;obtain⟨rfl,rfl,rfl,rfl⟩:=h;have hG:=p0S hs hh ho;rw[C0Z hG];simp only[hG]
    ·cases h
  ·rename_i hk;rw[if_neg hk];rw[ce] at h ⊢;split at h
   ·rename_i hk;rw[if_pos hk];split at h
    ·rename_i hh;simp only[oi,pj] at h;obtain⟨rfl,rfl,rfl,rfl⟩:=h;rw[p0P hs hh ho]
    ·cases h
   ·rename_i hk;rw[if_neg hk];split at h
    ·rename_i hh;simp only[oi,pj] at h;obtain⟨rfl,rfl,rfl,rfl⟩:=h;rw[j0d hs hh ho]
    ·cases h
 ·rw[ce] at h ⊢;split at h
  ·rename_i hk;rw[if_pos hk];split at h
   ·rename_i hh;simp only[oi,pj] at h;obtain⟨rfl,rfl,rfl,rfl⟩:=h;rw[p0L hs hh ho]
   ·split at h
    ·rename_i hh;simp only[oi,pj] at h;obtain⟨rfl,rfl,rfl,rfl⟩:=h;have hG:=m0U hs hh ho;rw[z0V hG];simp only[hG]
    ·cases h
  ·rename_i hk;rw[if_neg hk];split at h
   ·rename_i hh;simp only[oi,pj] at h;obtain⟨rfl,rfl,rfl,rfl⟩:=h;rw[j0d hs hh ho]
   ·cases h
end
structure Rec where
 o:Oper
 p:Pa
 av:Option AV
 obs:List (Nat×Ob)
 fp:List Nat
def vcW(e:List (Nat×Sl))(p:Pa)(q:Prop):Prop:=match p with
 | []=>q
 | x :: r=>l0y e (x :: r)->q
def m0w(Γ:m9)(T:List Ct)(all:List Oper):List Oper->St->List Rec->(St->List Rec->Prop)->Prop
 | [],st,rs,K=>K st rs
 | o :: r,st,rs,K=>match d0x all st.e o with
   | some p=>match T9 Γ T st p o with
     | some (q,av,obs,fp)=>bif h0n p||h0n obs then(vcW st.e p q/\m0w Γ T all r ⟨t0c o.dst p av st.e,obs++st.o⟩ (⟨o,p,av,obs,fp⟩ :: rs) K) else False
     | none=>False
   | none=>False
def I3(n:Nat):Nat->List Nat->List Oper->Bool
 | _,_,[]=>true
 | i,seen,o :: r=>(match o.dst with
   | some d=>Nat.blt d n&&k0U d seen
   | none=>true)&&(match o.guard with
   | some (j,_)=>Nat.blt j i
   | none=>true)&&I3 n (i+1) (match o.dst with
   | some d=>d :: seen
   | none=>seen) r
def B7(st:St)(R:Rec):St:=⟨t0c R.o.dst R.p R.av st.e,R.obs++st.o⟩
def y0c(Γ:m9)(T:List Ct)(all:List Oper):St->List Rec->Prop
 | _,[]=>True
 | st,R :: r=>d0x all st.e R.o=some R.p/\(∃q,T9 Γ T st R.p R.o=some (q,R.av,R.obs,R.fp)/\(l0y st.e R.p->q))/\(R.p=[]∨R.obs=[])/\y0c Γ T all (B7 st R) r
theorem Z4{Γ:m9}{T:List Ct}{all:List Oper}{K:St->List Rec->Prop}:∀{ops:List Oper} {st:St} {rs:List Rec},m0w Γ T all ops st rs K->∃recs:List Rec,recs.map (·.o)=ops/\y0c Γ T all st recs/\K (recs.foldl B7 st) (recs.reverse++rs)
 | [],st,rs,h=>⟨[],rfl,trivial,h⟩
 | o :: r,st,rs,h=>by
   unfold m0w at h;split at h
   ·rename_i p hp;split at h
    ·rename_i q av obs fp ho;rw[ce] at h;split at h
     ·rename_i hg;obtain⟨h1,h2⟩:=h;obtain⟨recs,e1,e2,e3⟩:=Z4 h2;refine⟨⟨o,p,av,obs,fp⟩ :: recs,by simp[e1],⟨hp,⟨q,ho,?_⟩,?_,e2⟩,by simp only[List.foldl_cons,List.reverse_cons,List.append_assoc,List.singleton_append]; exact e3⟩
      ·intro hc;cases p with
       | nil=>exact h1
       | cons x r=>exact h1 hc
      ·rw[Bool.or_eq_true] at hg;rcases hg with h | h
       ·exact .inl (e0g h)
       ·exact .inr (e0g h)
     ·exact h.elim
    ·exact h.elim
   ·exact h.elim
theorem f0g{β:Type}{l:List β}{j:Nat}{x:β}(h:B5 l j=some x):l[j]?=some x:=by rw[<- S9]; exact h
section
variable {X:Cx} {Γ:m9} {T:List Ct}
theorem c0B(hΓ:x6 X.P Γ)(hT:∀c∈T,Ok X.P c){ops:Array Oper}{all:List Oper}(ha:ops=all.toArray){Q:Exit->Act->World->Prop}{rest:List Oper}:∀(recs:List Rec) (i:Nat) (seen:List Nat) (st:St) (G:Gh) (a:Act),(∀j,j<recs.length->recs[j]?.map (·.o)=all[i+j]?)->I3 X.n i seen (recs.map (·.o))=true ->
  (∀j oj dj,j<i->all[j]?=some oj->oj.dst=some dj->dj∈seen)->(∀t s,lku st.e t=some s->∀x∈s.p,x.1∈seen)->y0c Γ T all st recs->Sat X G->G.o=st.o->EnvR X.n G st.e a ->
  (∀G' a',Sat X G'->G'.o=(recs.foldl B7 st).o->EnvR X.n G' (recs.foldl B7 st).e a'->wpList X.P ops Q rest a' G'.w)->wpList X.P ops Q (recs.map (·.o)++rest) a G.w
 | [],i,seen,st,G,a,_,_,_,_,_,S,ho,hE,hK=>hK G a S ho hE
 | R :: r,i,seen,st,G,a,hall,hreg,hseen,hpath,⟨hp,⟨q,hab,hq⟩,hg,hrun⟩,S,ho,hE,hK=>by
   simp only[List.map_cons,I3,ba] at hreg;obtain⟨⟨hr1,hr2⟩,hr3⟩:=hreg;have hdn:∀d,R.o.dst=some d->d<X.n/\d ∉ seen:=fun d hd=>by
    rw[hd] at hr1;simp only[ba] at hr1;exact⟨by simpa using hr1.1,d0o hr1.2⟩
   have hps:∀x∈R.p,x.1∈seen:=by
    unfold d0x at hp;split at hp
    ·simp only[oi] at hp; rw[<- hp]; exact fun _ h=>by cases h
    ·rename_i j b hgd;rw[hgd] at hr2;have hji:j<i:=by simpa using hr2
     split at hp
     ·rename_i oj hj;split at hp
      ·rename_i dj hdj;split at hp
       ·rename_i q' f' x' hs;simp only[oi] at hp; rw[<- hp];intro y hy;rcases List.mem_cons.1 hy with rfl | hy
        ·exact hseen j oj dj hji (f0g hj) hdj
        ·exact hpath dj _ hs y hy
       ·cases hp
      ·cases hp
     ·cases hp
   have hd:∀d,R.o.dst=some d->d<X.n/\(∀x∈R.p,x.1≠d)/\∀t s,lku st.e t=some s->∀x∈s.p,x.1≠d:=fun d hd=>⟨(hdn d hd).1,fun x hx e=>(hdn d hd).2 (e ▸ hps x hx),fun t s ht x hx e=>(hdn d hd).2 (e ▸ hpath t s ht x hx)⟩
   have key:=r0C (K:=wpList X.P ops Q (r.map (·.o)++rest)) hΓ hT ha (Q:=Q) S ho hE hp hab hq hg hd (fun a' G' S' _ ho' hE'=>by
    refine c0B hΓ hT ha r (i+1) _ (B7 st R) G' a' (fun j hj=>?_) hr3 ?_ ?_ hrun S' ho' hE' hK
    ·have:=hall (j+1) (by simpa using hj);simp only[List.getElem?_cons_succ] at this;rw[this]; congr 1; omega
    ·intro j oj dj hj h1 h2;rcases Nat.lt_or_ge j i with h | h
     ·have:=hseen j oj dj h h1 h2;split
      ·exact List.mem_cons_of_mem _ this
      ·exact this
     ·have hji:j=i:=by omega
      subst hji;have h0:=hall 0 (by simp);simp only[List.getElem?_cons_zero,Option.map_some,Nat.add_zero] at h0;rw[h1] at h0;cases h0;rw[h2];simp
    ·intro t s ht x hx;have hin:x.1∈seen->x.1∈(match R.o.dst with | some d=>d :: seen | none=>seen):=fun h=>by
      split
      ·exact List.mem_cons_of_mem _ h
      ·exact h
     simp only[B7,t0c] at ht;split at ht
     ·rw[lK] at ht;split at ht
      ·cases ht; exact hin (hps x hx)
      ·exact hin (hpath t s ht x hx)
     ·exact hin (hpath t s ht x hx))
   simp only[List.map_cons,List.cons_append];unfold wpList;unfold N5 at key;split
   ·rename_i hw; rw[if_pos hw] at key; exact .inl key
   ·rename_i hw; rw[if_neg hw] at key; exact key
theorem y0N(hΓ:x6 X.P Γ)(hT:∀c∈T,Ok X.P c){ops:Array Oper}{all:List Oper}(ha:ops=all.toArray){Q:Exit->Act->World->Prop}(recs:List Rec)(i:Nat)(seen:List Nat)(st:St)(G:Gh)(a:Act)(hall:∀j,recs[j]?.map (·.o)=all[i+j]?)(hreg:I3 X.n i seen (recs.map (·.o))=true)
  (hseen:∀j oj dj,j<i->all[j]?=some oj->oj.dst=some dj->dj∈seen) (hpath:∀t s,lku st.e t=some s->∀x∈s.p,x.1∈seen) (hrun:y0c Γ T all st recs) (S:Sat X G) (ho:G.o=st.o) (hE:EnvR X.n G st.e a)
  (hK:∀G' a',Sat X G'->G'.o=(recs.foldl B7 st).o->EnvR X.n G' (recs.foldl B7 st).e a'->Q .normal a' G'.w):wpList X.P ops Q (recs.map (·.o)) a G.w:=by
 have:=c0B (rest:=[]) hΓ hT ha recs i seen st G a (fun j _=>hall j) hreg hseen hpath hrun S ho hE hK
 rwa [List.append_nil] at this
end
def stD(D:Nat->Bool):Nat->List Rec->St->St
 | _,[],st=>st
 | i,R :: r,st=>stD D (i+1) r (if D i=true then B7 st R else st)
def wrS(R:Rec)(t:Nat):Prop:=R.o.dst=some t
def wrO(R:Rec)(id:Nat):Prop:=∃x∈R.obs,x.1=id
theorem k0C(st:St)(R:Rec)(t:Nat)(h:¬wrS R t):lku (B7 st R).e t=lku st.e t:=by
 simp only[B7,t0c];split
 ·rename_i d a hd _;rw[lK,if_neg (fun e=>h (by rw[<- e]; exact hd))]
 ·rfl
theorem k0A(st:St)(R:Rec)(id:Nat)(h:¬wrO R id):lku (B7 st R).o id=lku st.o id:=by
 simp only[B7];exact m0p (fun x hx e=>h ⟨x,hx,e⟩)
theorem k0B{st st':St}{R:Rec}{t:Nat}(h:lku st.e t=lku st'.e t):lku (B7 st R).e t=lku (B7 st' R).e t:=by
 simp only[B7,t0c];split
 ·rw[lK,lK,h]
 ·exact h
theorem u0M{β:Type}{l m m':List (Nat×β)}{i:Nat}(h:lku m i=lku m' i):lku (l++m) i=lku (l++m') i:=by
 induction l with
 | nil=>exact h
 | cons x r ih =>
   obtain⟨d,v⟩:=x;rw[List.cons_append,List.cons_append,lK,lK,ih]
theorem k0z{st st':St}{R:Rec}{id:Nat}(h:lku st.o id=lku st'.o id):lku (B7 st R).o id=lku (B7 st' R).o id:=u0M h
theorem r0j{D D':Nat->Bool}{t:Nat}:∀{recs:List Rec} {i:Nat} {st st':St},(∀j R,recs[j]?=some R->wrS R t->D (i+j)=D' (i+j))->lku st.e t=lku st'.e t->lku (stD D i recs st).e t=lku (stD D' i recs st').e t
 | [],_,_,_,_,h=>h
 | R :: r,i,st,st',hD,h=>by
   simp only[stD];refine r0j (fun j R' hR hw=>by have:=hD (j+1) R' (by simpa using hR) hw; rwa [show i+(j+1)=i+1+j by omega] at this) ?_;by_cases hw:wrS R t
   ·have:=hD 0 R rfl hw;simp only[Nat.add_zero] at this;rw[this];split
    ·exact k0B h
    ·exact h
   ·have e1:=k0C st R t hw;have e2:=k0C st' R t hw;split <;> split <;> simp_all
theorem r0i{D D':Nat->Bool}{id:Nat}:∀{recs:List Rec} {i:Nat} {st st':St},(∀j R,recs[j]?=some R->wrO R id->D (i+j)=D' (i+j))->lku st.o id=lku st'.o id->lku (stD D i recs st).o id=lku (stD D' i recs st').o id
 | [],_,_,_,_,h=>h
 | R :: r,i,st,st',hD,h=>by
   simp only[stD];refine r0i (fun j R' hR hw=>by have:=hD (j+1) R' (by simpa using hR) hw; rwa [show i+(j+1)=i+1+j by omega] at this) ?_;by_cases hw:wrO R id
   ·have:=hD 0 R rfl hw;simp only[Nat.add_zero] at this;rw[this];split
    ·exact k0z h
    ·exact h
   ·have e1:=k0A st R id hw;have e2:=k0A st' R id hw;split <;> split <;> simp_all
theorem g0Q{D:Nat->Bool}{t:Nat}{R:Rec}:∀{recs:List Rec} {i j:Nat} {st st':St},recs[j]?=some R->wrS R t->R.av≠none->D (i+j)=true->(∀k R',j<k->recs[k]?=some R'->wrS R' t->D (i+k)=false)->lku (stD D i recs st).e t=lku (B7 st' R).e t
 | R0 :: r,i,0,st,st',hj,hw,hav,hD,hl=>by
   simp only[List.getElem?_cons_zero,oi] at hj; subst hj;simp only[Nat.add_zero] at hD;simp only[stD,hD,if_true];have h0:lku (stD D (i+1) r (B7 st R0)).e t=lku (B7 st R0).e t:=by
    have:∀{recs:List Rec} {i:Nat} {st:St},(∀k R',recs[k]?=some R'->wrS R' t->D (i+k)=false)->lku (stD D i recs st).e t=lku st.e t:=by
     intro recs
     induction recs with
     | nil=>intro i st _; rfl
     | cons R1 r1 ih =>
       intro i st h;simp only[stD];rw[ih (fun k R' hR hw'=>by have:=h (k+1) R' (by simpa using hR) hw'; rwa [show i+(k+1)=i+1+k by omega] at this)];split
       ·rename_i hD1;refine k0C st R1 t (fun hw'=>?_);have:=h 0 R1 rfl hw';simp only[Nat.add_zero] at this;rw[hD1] at this; cases this
       ·rfl
    exact this (fun k R' hR hw'=>by have:=hl (k+1) R' (by omega) (by simpa using hR) hw'; rwa [show i+(k+1)=i+1+k by omega] at this)
   rw[h0];unfold wrS at hw;simp only[B7,t0c,hw];cases h:R0.av with
   | none=>exact(hav h).elim
   | some a=>simp only[lK,if_true]
 | R0 :: r,i,j+1,st,st',hj,hw,hav,hD,hl=>by
   simp only[stD];exact g0Q (j:=j) (by simpa using hj) hw hav (by rwa [show i+1+j=i+(j+1) by omega]) (fun k R' hk hR hw'=>by have:=hl (k+1) R' (by omega) (by simpa using hR) hw'; rwa [show i+(k+1)=i+1+k by omega] at this)
theorem m0o{β:Type}{l m m':List (Nat×β)}{i:Nat}(h:∃x∈l,x.1=i):lku (l++m) i=lku (l++m') i:=by
 induction l with
 | nil=>obtain⟨x,hx,_⟩:=h; cases hx
 | cons x r ih =>
   obtain⟨d,v⟩:=x;rw[List.cons_append,List.cons_append,lK,lK];by_cases e:d=i
   ·rw[if_pos e,if_pos e]
   ·rw[if_neg e,if_neg e];obtain⟨y,hy,hyi⟩:=h;rcases List.mem_cons.1 hy with rfl | hy
    ·exact(e hyi).elim
    ·exact ih ⟨y,hy,hyi⟩
theorem g0P{D:Nat->Bool}{id:Nat}{R:Rec}:∀{recs:List Rec} {i j:Nat} {st st':St},recs[j]?=some R->wrO R id->D (i+j)=true->(∀k R',j<k->recs[k]?=some R'->wrO R' id->D (i+k)=false)->lku (stD D i recs st).o id=lku (B7 st' R).o id
 | R0 :: r,i,0,st,st',hj,hw,hD,hl=>by
   simp only[List.getElem?_cons_zero,oi] at hj; subst hj;simp only[Nat.add_zero] at hD;simp only[stD,hD,if_true];have h0:lku (stD D (i+1) r (B7 st R0)).o id=lku (B7 st R0).o id:=by
    have:∀{recs:List Rec} {i:Nat} {st:St},(∀k R',recs[k]?=some R'->wrO R' id->D (i+k)=false)->lku (stD D i recs st).o id=lku st.o id:=by
     intro recs
     induction recs with
     | nil=>intro i st _; rfl
     | cons R1 r1 ih =>
       intro i st h;simp only[stD];rw[ih (fun k R' hR hw'=>by have:=h (k+1) R' (by simpa using hR) hw'; rwa [show i+(k+1)=i+1+k by omega] at this)];split
       ·rename_i hD1;refine k0A st R1 id (fun hw'=>?_);have:=h 0 R1 rfl hw';simp only[Nat.add_zero] at this;rw[hD1] at this; cases this
       ·rfl
    exact this (fun k R' hR hw'=>by have:=hl (k+1) R' (by omega) (by simpa using hR) hw'; rwa [show i+(k+1)=i+1+k by omega] at this)
   rw[h0];exact m0o hw
 | R0 :: r,i,j+1,st,st',hj,hw,hD,hl=>by
   simp only[stD];exact g0P (j:=j) (by simpa using hj) hw (by rwa [show i+1+j=i+(j+1) by omega]) (fun k R' hk hR hw'=>by have:=hl (k+1) R' (by omega) (by simpa using hR) hw'; rwa [show i+(k+1)=i+1+k by omega] at this)
theorem m0c{D:Nat->Bool}:∀{recs:List Rec} {i:Nat} {st:St},(∀j,j<recs.length->D (i+j)=true)->stD D i recs st=recs.foldl B7 st
 | [],_,_,_=>rfl
 | R :: r,i,st,h=>by
   have h0:=h 0 (by simp);simp only[Nat.add_zero] at h0;simp only[stD,h0,if_true,List.foldl_cons];exact m0c (fun j hj=>by have:=h (j+1) (by simpa using hj); rwa [show i+(j+1)=i+1+j by omega] at this)
theorem r0s{Γ:m9}{T:List Ct}{all:List Oper}:∀{recs:List Rec} {i:Nat} {st:St} {j:Nat} {R:Rec},y0c Γ T all st recs->recs[j]?=some R ->
  ∃sj,sj=stD (fun k=>decide (k<i+j)) i recs st/\d0x all sj.e R.o=some R.p/\(∃q,T9 Γ T sj R.p R.o=some (q,R.av,R.obs,R.fp)/\(l0y sj.e R.p->q))/\(R.p=[]∨R.obs=[])
 | [],_,_,j,_,_,h=>by simp at h
 | R0 :: r,i,st,0,R,⟨h1,h2,h3,h4⟩,h=>by
   simp only[List.getElem?_cons_zero,oi] at h; subst h;have:∀{recs:List Rec} {i j:Nat} {st:St},i<=j->stD (fun k=>decide (k<i)) j recs st=st:=by
    intro recs
    induction recs with
    | nil=>intro i j st _; rfl
    | cons R r ih =>
      intro i j st hij;simp only[stD];rw[if_neg (by simp; omega)];exact ih (by omega)
   exact⟨_,rfl,by simpa only[Nat.add_zero,this (Nat.le_refl i)] using h1,by simpa only[Nat.add_zero,this (Nat.le_refl i)] using h2,h3⟩
 | R0 :: r,i,st,j+1,R,⟨h1,h2,h3,h4⟩,h=>by
   obtain⟨sj,e,k1,k2,k3⟩:=r0s (i:=i+1) (j:=j) h4 (by simpa using h);refine⟨sj,?_,k1,k2,k3⟩;rw[e];simp only[stD];rw[if_pos (by simp),show i+1+j=i+(j+1) by omega]
def Z5(o:Oper):List Nat:=o.after.toList.filterMap fun e=>bif Region.binds .any e then some e.on else none
def Z6:Nat->List Oper->Bool
 | _,[]=>true
 | i,o :: r=>(Z5 o).all (fun k=>Nat.blt k i)&&Z6 (i+1) r
def I5:List (List Nat)->List Oper->List (List Nat)
 | acc,[]=>acc
 | acc,o :: r=>I5 (acc++[Z5 o++(Z5 o).flatMap fun k=>(B5 acc k).getD []]) r
def inL(x:Nat):List Nat->Bool
 | []=>false
 | y :: r=>Nat.beq x y||inL x r
theorem K7{x:Nat}:∀{l:List Nat},inL x l=true↔x∈l
 | []=>by simp[inL]
 | y :: r=>by
   simp only[inL,Bool.or_eq_true,List.mem_cons,K7 (l:=r)];constructor
   ·rintro(h | h)
    ·exact .inl (nb h)
    ·exact .inr h
   ·rintro(rfl | h)
    ·exact .inl (Nat.beq_refl x)
    ·exact .inr h
theorem c0a{o:Oper}{k:Nat}:k∈Z5 o↔∃e∈o.after,Region.binds .any e=true/\e.on=k:=by
 unfold Z5;simp only[List.mem_filterMap,Array.mem_toList_iff,ce];constructor
 ·rintro⟨e,he,h⟩;split at h
  ·rename_i hb; cases h; exact⟨e,he,hb,rfl⟩
  ·cases h
 ·rintro⟨e,he,hb,rfl⟩;exact⟨e,he,by rw[if_pos hb]⟩
def o0T(D:Nat->Bool)(all:List Oper):Prop:=∀i o,all[i]?=some o->D i=true->∀k∈Z5 o,D k=true
theorem h0J{all:List Oper}:∀{rest:List Oper} {acc:List (List Nat)},(∀j:Nat,rest[j]?=all[acc.length+j]?)->Z6 acc.length rest=true ->
  (∀(i:Nat) (l:List Nat),acc[i]?=some l->(∀k∈l,k<i)/\∀D,o0T D all->∀o,all[i]?=some o->(∀k∈Z5 o,D k=true)->∀k∈l,D k=true) ->
  ∀(i:Nat) (l:List Nat),(I5 acc rest)[i]?=some l->(∀k∈l,k<i)/\∀D,o0T D all->∀o,all[i]?=some o->(∀k∈Z5 o,D k=true)->∀k∈l,D k=true
 | [],acc,_,_,h=>h
 | o :: r,acc,hall,hb,h=>by
   simp only[Z6,ba,List.all_eq_true] at hb;simp only[I5];refine h0J (fun j=>?_) (by simpa using hb.2) (fun i l hi=>?_)
   ·have:=hall (j+1);simp only[List.getElem?_cons_succ] at this;rw[this]; congr 1; simp; omega
   ·rcases Nat.lt_or_ge i acc.length with hlt | hge
    ·rw[List.getElem?_append_left hlt] at hi;exact h i l hi
    ·have hia:i=acc.length:=by
      rcases Nat.eq_or_lt_of_le hge with e | e
      ·exact e.symm
      ·rw[List.getElem?_eq_none (by simp; omega)] at hi; cases hi
     subst hia;simp only[List.getElem?_concat_length,oi] at hi;subst hi;have hk:∀k:Nat,k∈Z5 o->k<acc.length:=fun k hk=>by have:=hb.1 k hk; simpa using this
     refine⟨fun k hk'=>?_,fun D hD o' ho' hbk k hk'=>?_⟩
     ·rcases List.mem_append.1 hk' with h1 | h1
      ·exact hk k h1
      ·obtain⟨m,hm,h2⟩:=List.mem_flatMap.1 h1;rw[S9] at h2;have hm':=hk m hm;rw[List.getElem?_eq_getElem hm'] at h2;have:=(h m acc[m] (List.getElem?_eq_getElem hm')).1 k h2;omega
     ·have h0:=hall 0;simp only[List.getElem?_cons_zero,Nat.add_zero] at h0;rw[<- h0] at ho';cases ho';rcases List.mem_append.1 hk' with h1 | h1
      ·exact hbk k h1
      ·obtain⟨m,hm,h2⟩:=List.mem_flatMap.1 h1;rw[S9] at h2;have hm':=hk m hm;rw[List.getElem?_eq_getElem hm'] at h2;have hDm:=hbk m hm;obtain⟨om,hom⟩:∃om,all[m]?=some om:=by
        have hlt:acc.length<all.length:=by
         rcases Nat.lt_or_ge acc.length all.length with h' | h'
         ·exact h'
         ·rw[List.getElem?_eq_none h'] at h0; cases h0
        exact⟨all[m],List.getElem?_eq_getElem (by omega)⟩
       exact(h m acc[m] (List.getElem?_eq_getElem hm')).2 D hD om hom (fun k' hk''=>hD m om hom hDm k' hk'') k h2
theorem Sat.congr{X:Cx}{G:Gh}(S:Sat X G){o':List (Nat×Ob)}(h:∀i,lku o' i=lku G.o i):Sat X { G with o:=o' }/\GLe G { G with o:=o' }:=by
 have hle:GLe G { G with o:=o' }:=⟨rfl,fun k hk _=>⟨hk,rfl⟩,fun i T cs hi=>⟨rfl,T,cs,(h i).trans hi⟩,fun i T Te fr t xs hole hi=>⟨rfl,T,Te,fr,t,xs,hole,(h i).trans hi⟩,fun i T fr t xs ver hi=>⟨T,fr,t,xs,ver,(h i).trans hi,Nat.le_refl _,fun _=>rfl⟩⟩;have back:∀i o,lku o' i=some o->lku G.o i=some o:=fun i o hi=>(h i).symm.trans hi;refine⟨⟨S.base,S.os,S.tape,S.output,S.size,S.block,fun i o hi=>?_,fun i i' o o2 b hi hi'=>S.inj i i' o o2 b (back i o hi) (back i' o2 hi'),fun i o b hi=>S.imm i o b (back i o hi),fun i o b hi=>S.own i o b (back i o hi),S.klt,S.kfrom,fun i b hb hg=>?_,fun i v h=>(S.pin i v h).mono hle⟩,hle⟩
 rotate_right
 ·obtain⟨s1,s2,s3,s4⟩:=S.sep i b hb (by rw[<- h]; exact hg);exact⟨s1,s2,fun j o ho=>s3 j o (back j o ho),fun j hj hgj=>s4 j hj (by rw[<- h]; exact hgj)⟩
 have:=S.obs i o (back i o hi);cases o with
 | box T cs=>obtain⟨b,us,h1,h2,h3,h4⟩:=this; exact⟨b,us,h1,h2,h3,h4.mono hle⟩
 | arr T fr t xs ver=>exact this
 | grd T Te fr t xs hole =>
   obtain⟨vs,bs,h1,h2,h3⟩:=this;exact⟨vs,bs,h1,h2.up hle (fun _=>Iff.rfl) (WE.refl (g:=none) _) (fun _ _ h=>by cases h),h3⟩
theorem EnvR.congr{n:Nat}{G:Gh}{e e':List (Nat×Sl)}{a:Act}(h:EnvR n G e a)(he:∀t,lku e' t=lku e t):EnvR n G e' a :=
 ⟨h.defers,h.size,fun t s ht=>h.val t s (by rw[<- he t]; exact ht)⟩
theorem g0d{all:List Oper}{e e':List (Nat×Sl)}{o:Oper}{p:Pa}(h:d0x all e o=some p)(hs:∀x∈p,lku e x.1=lku e' x.1):d0x all e' o=some p:=by
 unfold d0x at h ⊢;split at h
 ·exact h
 ·split at h
  ·split at h
   ·rename_i dj hd;split at h
    ·rename_i q f x hq;have hp:=h;simp only[oi] at hp;have e1:lku e dj=lku e' dj:=hs (dj,_) (by rw[<- hp]; exact List.mem_cons_self);rw[hq] at e1;rw[<- e1];exact h
    ·cases h
   ·cases h
  ·cases h
theorem e0H{e e':List (Nat×Sl)}:∀{p:Pa},(∀x∈p,lku e x.1=lku e' x.1)->l0y e p->l0y e' p
 | [],_,_=>trivial
 | (s,b) :: r,h,⟨h1,h2⟩=>by
   refine⟨?_,e0H (fun x hx=>h x (by simp[hx])) h2⟩;have e1:=h (s,b) (by simp);simp only at e1;rw[<- e1];exact h1
def r0m(R:Rec):List Nat:=x0G R.o.op.operands.toList++R.p.map Prod.fst
def C0D(l m:List Nat):Bool:=l.all fun x=>!inL x m
def t0q(bs:List (List Nat))(i:Nat)(A:Rec)(k:Nat)(B:Rec):Bool :=
 (match A.o.dst with
   | some d=>(!inL d (r0m B)||(inL i ((B5 bs k).getD [])||inL k ((B5 bs i).getD [])))&&(!inL d (B.p.map Prod.fst)||inL i ((B5 bs k).getD []))
   | none=>true)&&(C0D (A.obs.map Prod.fst) (B.fp++B.obs.map Prod.fst)||(inL i ((B5 bs k).getD [])||inL k ((B5 bs i).getD [])))
def A0B(f:Nat->Rec->Bool):Nat->List Rec->Bool
 | _,[]=>true
 | i,R :: r=>f i R&&A0B f (i+1) r
theorem f0u{f:Nat->Rec->Bool}:∀{recs:List Rec} {i:Nat},A0B f i recs=true->∀j R,recs[j]?=some R->f (i+j) R=true
 | [],_,_,j,R,h=>by simp at h
 | R0 :: r,i,h,0,R,hj=>by
   simp only[A0B,ba] at h;simp only[List.getElem?_cons_zero,oi] at hj; subst hj;exact h.1
 | R0 :: r,i,h,j+1,R,hj=>by
   simp only[A0B,ba] at h;have:=f0u h.2 j R (by simpa using hj)
   rwa [show i+(j+1)=i+1+j by omega]
def r0p(A:Rec):Bool:=match A.o.dst with
 | some d=>!inL d (A.p.map Prod.fst)
 | none=>true
def z0M(bs:List (List Nat))(recs:List Rec):Bool:=A0B (fun i A=>r0p A&&A0B (fun k B=>Nat.beq i k||t0q bs i A k B) 0 recs) 0 recs
theorem c0G{bs:List (List Nat)}{recs:List Rec}(h:z0M bs recs=true){i k:Nat}{A B:Rec}(hi:recs[i]?=some A)(hk:recs[k]?=some B)(hne:i≠k):t0q bs i A k B=true:=by
 have h1:=f0u h i A hi;rw[ba] at h1;have h2:=f0u h1.2 k B hk;simp only[Nat.zero_add,Bool.or_eq_true] at h2;rcases h2 with h2 | h2
 ·exact(hne (nb h2)).elim
 ·exact h2
theorem g0V{n:Nat}:∀{l:List Oper} {i:Nat} {seen:List Nat},I3 n i seen l=true->(∀(j:Nat) (o:Oper) (d:Nat),l[j]?=some o->o.dst=some d->d<n/\d ∉ seen)/\(∀(j k:Nat) (o o':Oper) (d:Nat),l[j]?=some o->l[k]?=some o'->o.dst=some d->o'.dst=some d->j=k)
 | [],_,_,_=>⟨fun j o d h=>by simp at h,fun j k o o' d h=>by simp at h⟩
 | o0 :: r,i,seen,h=>by
   simp only[I3,ba] at h;obtain⟨⟨h1,_⟩,h3⟩:=h;obtain⟨g1,g2⟩:=g0V h3;have hin:∀d,d∈seen->d∈(match o0.dst with | some d=>d :: seen | none=>seen):=fun d hd=>by
    split
    ·exact List.mem_cons_of_mem _ hd
    ·exact hd
   have h0:∀d,o0.dst=some d->d<n/\d ∉ seen:=fun d hd=>by
    rw[hd] at h1;simp only[ba] at h1;exact⟨by simpa using h1.1,d0o h1.2⟩
   refine⟨fun j o d hj hd=>?_,fun j k o o' d hj hk hd hd'=>?_⟩
   ·cases j with
    | zero=>simp only[List.getElem?_cons_zero,oi] at hj; subst hj; exact h0 d hd
    | succ j=>have:=g1 j o d (by simpa using hj) hd; exact⟨this.1,fun h=>this.2 (hin d h)⟩
   ·cases j with
    | zero =>
      cases k with
      | zero=>rfl
      | succ k =>
        simp only[List.getElem?_cons_zero,oi] at hj; subst hj;have:=(g1 k o' d (by simpa using hk) hd').2;rw[hd] at this;simp at this
    | succ j =>
      cases k with
      | zero =>
        simp only[List.getElem?_cons_zero,oi] at hk; subst hk;have:=(g1 j o d (by simpa using hj) hd).2;rw[hd'] at this;simp at this
      | succ k=>rw[g2 j k o o' d (by simpa using hj) (by simpa using hk) hd hd']
theorem h0x{α:Type}{p p':α->Bool}:∀{l:List α},(∀x,p' x=true->p x=true)->(∃x∈l,p x=true/\p' x=false)->(l.filter p').length < (l.filter p).length
 | [],_,⟨x,hx,_⟩=>by cases hx
 | y :: r,h,⟨x,hx,h1,h2⟩=>by
   have hle:∀l:List α,(l.filter p').length<=(l.filter p).length:=fun l=>by
    induction l with
    | nil=>exact Nat.le_refl _
    | cons z s ih =>
      simp only[List.filter_cons];by_cases hz:p' z=true
      ·rw[if_pos hz,if_pos (h z hz)]; simp only[List.length_cons]; omega
      ·rw[if_neg hz];split
       ·simp only[List.length_cons]; omega
       ·exact ih
   rcases List.mem_cons.1 hx with rfl | hx
   ·simp only[List.filter_cons,h1,h2,if_true];have:=hle r;simp only[List.length_cons,Bool.false_eq_true,if_false]; omega
   ·have ih:=h0x h ⟨x,hx,h1,h2⟩;simp only[List.filter_cons];by_cases hz:p' y=true
    ·rw[if_pos hz,if_pos (h y hz)]; simp only[List.length_cons]; omega
    ·rw[if_neg hz];split
     ·simp only[List.length_cons]; omega
     ·exact ih
theorem j0m{D:Nat->Bool}{t:Nat}{s:Sl}:∀{recs:List Rec} {i:Nat} {st:St},lku (stD D i recs st).e t=some s->lku st.e t=some s∨∃k R,recs[k]?=some R/\D (i+k)=true/\s.p=R.p
 | [],_,_,h=>.inl h
 | R :: r,i,st,h=>by
   simp only[stD] at h;rcases j0m h with h' | ⟨k,R',h1,h2,h3⟩
   ·by_cases hD:D i=true
    ·rw[if_pos hD] at h';simp only[B7,t0c] at h';split at h'
     ·rw[lK] at h';split at h'
      ·cases h';exact .inr ⟨0,R,rfl,hD,rfl⟩
      ·exact .inl h'
     ·exact .inl h'
    ·rw[if_neg hD] at h';exact .inl h'
   ·exact .inr ⟨k+1,R',by simpa using h1,by rwa [show i+(k+1)=i+1+k by omega],h3⟩
theorem t0e{Γ:m9}{T:List Ct}{st:St}{p:Pa}{o:Oper}{d:Nat}{q:Prop}{av:Option AV}{obs:List (Nat×Ob)}{fp:List Nat}(h:T9 Γ T st p o=some (q,av,obs,fp))(hd:o.dst=some d):av≠none:=by
 unfold T9 at h;rw[hd] at h;simp only[ce] at h;intro e;subst e;split at h
 ·split at h
  ·simp at h
  ·split at h <;> simp at h
 ·split at h
  ·split at h <;> simp at h
  ·split at h <;> simp at h
section
variable {X:Cx} {Γ:m9} {T:List Ct}
theorem v0x(hΓ:x6 X.P Γ)(hT:∀c∈T,Ok X.P c){l:List Oper}{recs:List Rec}{st:St}{Q:Exit->Act->World->Prop}(hl:recs.map (·.o)=l)(hrun:y0c Γ T l st recs)(hplain:∀t s,lku st.e t=some s->s.p=[])
  (hreg:I3 X.n 0 [] l=true) (hback:Z6 0 l=true) (hchk:z0M (I5 [] l) recs=true) (hK:∀G' a',Sat X G'->G'.o=(recs.foldl B7 st).o->EnvR X.n G' (recs.foldl B7 st).e a'->Q .normal a' G'.w) :
  ∀(fuel:Nat) (listed:Array Bool) (G:Gh) (a:Act),((List.range l.length).filter fun i=>!listed.getD i true).length<=fuel->listed.size=l.length->o0T (fun k=>listed.getD k false) l->Sat X G->(∀id,lku G.o id=lku (stD (fun k=>listed.getD k false) 0 recs st).o id) ->
   EnvR X.n G (stD (fun k=>listed.getD k false) 0 recs st).e a->wpAny X.P .any l.toArray Q fuel listed a G.w:=by
 have hrl:recs.length=l.length:=by rw[<- hl]; simp
 have hro:∀(j:Nat) (R:Rec),recs[j]?=some R->l[j]?=some R.o:=fun j R h=>by rw[<- hl,List.getElem?_map,h]; rfl
 have hor:∀(j:Nat) (o:Oper),l[j]?=some o->∃R,recs[j]?=some R/\R.o=o:=fun j o h=>by
  rw[<- hl,List.getElem?_map] at h;cases hr:recs[j]? with
  | none=>rw[hr] at h; cases h
  | some R=>rw[hr] at h; cases h; exact⟨R,rfl,rfl⟩
 have hbs:=h0J (all:=l) (rest:=l) (acc:=[]) (fun j=>by simp) hback (fun i m h=>by simp at h);have hdst:=g0V hreg;have hbk:∀(i:Nat) (o:Oper) (k:Nat),l[i]?=some o->k∈Z5 o->k<i:=by
  have:∀{m:List Oper} {i:Nat},Z6 i m=true->∀j o k,m[j]?=some o->k∈Z5 o->k<i+j:=by
   intro m
   induction m with
   | nil=>intro i _ j o k h; simp at h
   | cons o0 r ih =>
     intro i h j o k hj hk;simp only[Z6,ba,List.all_eq_true] at h;cases j with
     | zero=>simp only[List.getElem?_cons_zero,oi] at hj; subst hj; have:=h.1 k hk; simpa using this
     | succ j=>have:=ih h.2 j o k (by simpa using hj) hk; omega
  intro i o k h1 h2;have:=this hback i o k h1 h2; omega
 -- all is done: the end
 have hend:∀(listed:Array Bool) (G:Gh) (a:Act),(∀i,i<l.length->listed.getD i false=true)->Sat X G->(∀id,lku G.o id=lku (stD (fun k=>listed.getD k false) 0 recs st).o id)->EnvR X.n G (stD (fun k=>listed.getD k false) 0 recs st).e a->Q .normal a G.w:=by
  intro listed G a hall S hO hE;rw[m0c (fun j hj=>by rw[Nat.zero_add]; exact hall j (by omega))] at hO hE;obtain⟨S',L'⟩:=S.congr (o':=(recs.foldl B7 st).o) (fun i=>(hO i).symm);exact hK ⟨G.ρ,G.γ,G.K,G.w,(recs.foldl B7 st).o,G.B,G.δ⟩ a S' rfl (hE.mono L')
 intro fuel
 induction fuel with
 | zero =>
   intro listed G a hf hsz hcl S hO hE;have hnil:(List.range l.length).filter (fun i=>!listed.getD i true)=[]:=List.eq_nil_of_length_eq_zero (by omega);have hall:∀i,i<l.length->listed.getD i true=true:=fun i hi=>by
    cases h:listed.getD i true with
    | true=>rfl
    | false =>
      have:i∈(List.range l.length).filter (fun i=>!listed.getD i true):=List.mem_filter.2 ⟨List.mem_range.2 hi,by simp only[h]; rfl⟩;rw[hnil] at this; cases this
   refine⟨?_,hend listed G a (fun i hi=>?_) S hO hE⟩
   ·cases hr:Region.ready .any l.toArray listed with
    | nil=>rfl
    | cons i r =>
      have hi:i∈Region.ready .any l.toArray listed:=by rw[hr]; simp
      obtain⟨h1,o,h2,_⟩:=mem_ready.1 hi;have hlt:i<l.length:=by
       rcases Nat.lt_or_ge i l.length with h | h
       ·exact h
       ·rw[List.getElem?_toArray,List.getElem?_eq_none h] at h2; cases h2
      rw[hall i hlt] at h1; cases h1
   ·have:=hall i hi;have hs:i<listed.size:=by omega
    rw[Array.getD_eq_getD_getElem?,Array.getElem?_eq_getElem hs] at this ⊢;exact this
 | succ fuel ih =>
   intro listed G a hf hsz hcl S hO hE;refine⟨fun hr=>hend listed G a ?_ S hO hE,fun i hi=>?_⟩
   · -- nothing is ready: all is done
     intro i
     induction i using Nat.strongRecOn with
     | ind i ihi =>
       intro hi;cases h:listed.getD i false with
       | true=>rfl
       | false =>
         have:i∈Region.ready .any l.toArray listed:=mem_ready.2 ⟨by
          have hs:i<listed.size:=by omega
          rw[Array.getD_eq_getD_getElem?,Array.getElem?_eq_getElem hs] at h ⊢;exact h,l[i],by simp[hi],fun e he hb=>ihi e.on (hbk i l[i] e.on (List.getElem?_eq_getElem hi) (c0a.2 ⟨e,he,hb,rfl⟩)) (by have:=hbk i l[i] e.on (List.getElem?_eq_getElem hi) (c0a.2 ⟨e,he,hb,rfl⟩); omega)⟩
         rw[hr] at this; cases this
   ·obtain⟨hun,o,ho,hed⟩:=mem_ready.1 hi;rw[List.getElem?_toArray] at ho;obtain⟨R,hR,rfl⟩:=hor i o ho;have hilt:i<l.length:=by
     rcases Nat.lt_or_ge i l.length with h | h
     ·exact h
     ·rw[List.getElem?_eq_none h] at ho; cases ho
    have hDi:listed.getD i false=false:=by
     have hs:i<listed.size:=by omega
     rw[Array.getD_eq_getD_getElem?,Array.getElem?_eq_getElem hs] at hun ⊢;exact hun
    -- what stands ahead of i is done
    have hbi:∀k∈((B5 (I5 [] l) i).getD []),k<i/\listed.getD k false=true:=by
     intro k hk;rw[S9] at hk;cases hb:(I5 [] l)[i]? with
     | none=>rw[hb] at hk; cases hk
     | some m =>
       rw[hb] at hk;obtain⟨g1,g2⟩:=hbs i m hb;exact⟨g1 k hk,g2 _ hcl R.o ho (fun k' hk'=>by obtain⟨e,he,hb',rfl⟩:=c0a.1 hk'; exact hed e he hb') k hk⟩
    have hbD:∀k,listed.getD k false=true->k<l.length->∀m∈((B5 (I5 [] l) k).getD []),m<k/\listed.getD m false=true:=by
     intro k hk hkl m hm;rw[S9] at hm;cases hb:(I5 [] l)[k]? with
     | none=>rw[hb] at hm; cases hm
     | some b =>
       rw[hb] at hm;obtain⟨g1,g2⟩:=hbs k b hb;exact⟨g1 m hm,g2 _ hcl l[k] (List.getElem?_eq_getElem hkl) (fun k' hk'=>hcl k l[k] (List.getElem?_eq_getElem hkl) hk k' hk') m hm⟩
    have hbs2:∀k,k<l.length->∀m∈((B5 (I5 [] l) k).getD []),m<k:=by
     intro k hkl m hm;rw[S9] at hm;cases hb:(I5 [] l)[k]? with
     | none=>rw[hb] at hm; cases hm
     | some b=>rw[hb] at hm; exact(hbs k b hb).1 m hm
    -- ordered with i: done exactly if earlier in the text
    have hord:∀k,k<l.length->k≠i->(inL k ((B5 (I5 [] l) i).getD [])||inL i ((B5 (I5 [] l) k).getD []))=true->listed.getD k false=decide (k<i):=by
     intro k hkl hne h;rw[Bool.or_eq_true] at h;rcases h with h | h
     ·obtain⟨h1,h2⟩:=hbi k (K7.1 h);rw[h2]; simp[h1]
     ·have h1:=hbs2 k hkl i (K7.1 h);cases hk:listed.getD k false with
      | true=>rw[(hbD k hk hkl i (K7.1 h)).2] at hDi; cases hDi
      | false=>simp; omega
    obtain⟨sj,hsj,hpj,⟨q,hab,hq⟩,hg⟩:=r0s (i:=0) hrun hR;rw[Nat.zero_add] at hsj
    -- the slots and objects that i looks at are as in the text's order
    have hse:∀t,t∈r0m R->lku sj.e t=lku (stD (fun k=>listed.getD k false) 0 recs st).e t:=by
     intro t ht;rw[hsj];refine r0j (fun k R' hk hw=>?_) rfl;rw[Nat.zero_add];by_cases hki:k=i
     ·subst hki; simp only[Nat.lt_irrefl,decide_false]; rw[hDi]
     ·have hc:=c0G hchk hk hR hki;have hkl:k<l.length:=by
       rcases Nat.lt_or_ge k l.length with h | h
       ·exact h
       ·rw[List.getElem?_eq_none (by omega)] at hk; cases hk
      simp only[t0q,ba] at hc;have hw:R'.o.dst=some t:=hw;rw[hw] at hc;simp only[ba] at hc;have h1:=hc.1.1;rw[Bool.or_eq_true] at h1;rcases h1 with h1 | h1
      ·rw[K7.2 ht] at h1; cases h1
      ·exact(hord k hkl hki (by rw[Bool.or_comm] at h1; rw[Bool.or_comm]; exact Bool.or_comm _ _ ▸ h1)).symm
    have hso:∀id,id∈R.fp++R.obs.map Prod.fst->lku sj.o id=lku G.o id:=by
     intro id hid;rw[hO,hsj];refine r0i (fun k R' hk hw=>?_) rfl;rw[Nat.zero_add];by_cases hki:k=i
     ·subst hki; simp only[Nat.lt_irrefl,decide_false]; rw[hDi]
     ·have hc:=c0G hchk hk hR hki;have hkl:k<l.length:=by
       rcases Nat.lt_or_ge k l.length with h | h
       ·exact h
       ·rw[List.getElem?_eq_none (by omega)] at hk; cases hk
      simp only[t0q,ba] at hc;have h1:=hc.2;rw[Bool.or_eq_true] at h1;obtain⟨y,hy,hyi⟩:=hw;rcases h1 with h1 | h1
      ·simp only[C0D,List.all_eq_true] at h1;have:=h1 id (by rw[<- hyi]; exact List.mem_map_of_mem hy);rw[K7.2 hid] at this; cases this
      ·exact(hord k hkl hki (Bool.or_comm _ _ ▸ h1)).symm
    have hps:∀x∈R.p,lku sj.e x.1=lku (stD (fun k=>listed.getD k false) 0 recs st).e x.1:=fun x hx=>hse x.1 (List.mem_append.2 (.inr (List.mem_map_of_mem hx)));have hp':=g0d hpj hps;have hab':T9 Γ T ⟨(stD (fun k=>listed.getD k false) 0 recs st).e,G.o⟩ R.p R.o=some (q,R.av,R.obs,R.fp) :=
     j0b (e:=sj.e) (o:=sj.o) (fun t ht=>hse t (List.mem_append.2 (.inl (l0b ht)))) hab (fun id hid=>hso id (List.mem_append.2 (.inl hid)))
    have hd:∀d,R.o.dst=some d->d<X.n/\(∀x∈R.p,x.1≠d)/\∀t s,lku (stD (fun k=>listed.getD k false) 0 recs st).e t=some s->∀x∈s.p,x.1≠d:=by
     intro d hd;refine⟨(hdst.1 i R.o d ho hd).1,fun x hx e=>?_,fun t s ht x hx e=>?_⟩
     ·have h1:=f0u hchk i R hR;rw[Nat.zero_add,ba] at h1;have h2:=h1.1;simp only[r0p,hd] at h2;rw[K7.2 (List.mem_map.2 ⟨x,hx,e⟩)] at h2;cases h2
     ·rcases j0m ht with h | ⟨k,Rk,hk,hDk,hsp⟩
      ·rw[hplain t s h] at hx; cases hx
      ·rw[Nat.zero_add] at hDk;have hki:i≠k:=fun e'=>by subst e'; rw[hDi] at hDk; cases hDk
       have hkl:k<l.length:=by
        rcases Nat.lt_or_ge k l.length with h | h
        ·exact h
        ·rw[List.getElem?_eq_none (by omega)] at hk; cases hk
       have hc:=c0G hchk hR hk hki;simp only[t0q,ba,hd] at hc;have h2:=hc.1.2;rw[Bool.or_eq_true] at h2;rcases h2 with h2 | h2
       ·rw[K7.2 (List.mem_map.2 ⟨x,by rw[<- hsp]; exact hx,e⟩)] at h2; cases h2
       ·rw[(hbD k hDk hkl i (K7.1 h2)).2] at hDi; cases hDi
    have hset:∀k,(listed.setIfInBounds i true).getD k false=if k=i then true else listed.getD k false:=fun k=>by
     by_cases hki:k=i
     ·subst hki;have hs:k<listed.size:=by omega
      simp[hs]
     ·rw[if_neg hki]; exact getD_set_ne false (Ne.symm hki)
    have key:=r0C (st:=⟨(stD (fun k=>listed.getD k false) 0 recs st).e,G.o⟩) (K:=wpAny X.P .any l.toArray Q fuel (listed.setIfInBounds i true)) hΓ hT (ops:=l.toArray) (all:=l) rfl (Q:=Q) S rfl hE hp' hab' (fun hc=>hq (e0H (fun x hx=>(hps x hx).symm) hc)) hg hd (fun a' G' S' _ hO' hE'=>by
     refine ih (listed.setIfInBounds i true) G' a' ?_ (by simpa using hsz) ?_ S' ?_ ?_
     ·have:((List.range l.length).filter fun j=>!(listed.setIfInBounds i true).getD j true).length < ((List.range l.length).filter fun j=>!listed.getD j true).length:=by
       refine h0x (fun j hj=>?_) ⟨i,List.mem_range.2 hilt,by simp only[hun]; rfl,?_⟩
       ·by_cases hji:i=j
        ·subst hji;have hs:i<listed.size:=by omega
         simp[hs] at hj
        ·rwa [getD_set_ne true hji] at hj
       ·have hs:i<listed.size:=by omega
        simp[hs]
      omega
     ·intro k o hk hDk m hm;simp only[hset] at hDk ⊢;by_cases hmi:m=i
      ·rw[if_pos hmi]
      ·rw[if_neg hmi];by_cases hki:k=i
       ·subst hki;rw[ho] at hk;cases hk;obtain⟨e,he,hb',rfl⟩:=c0a.1 hm;exact hed e he hb'
       ·rw[if_neg hki] at hDk;exact hcl k o hk hDk m hm
     ·intro id;rw[hO'];by_cases hw:wrO R id
      ·rw[g0P (D:=fun k=>(listed.setIfInBounds i true).getD k false) (st':=⟨[],G.o⟩) hR hw (by simp only[Nat.zero_add,hset,if_true]) (fun k Rk hik hk hwk=>?_)]
       ·rfl
       ·rw[Nat.zero_add];simp only[hset,if_neg (show k≠i by omega)];have hkl:k<l.length:=by
         rcases Nat.lt_or_ge k l.length with h | h
         ·exact h
         ·rw[List.getElem?_eq_none (by omega)] at hk; cases hk
        have hc:=c0G hchk hk hR (show k≠i by omega);simp only[t0q,ba] at hc;have h1:=hc.2;rw[Bool.or_eq_true] at h1;obtain⟨y,hy,hyi⟩:=hwk;obtain⟨z,hz,hzi⟩:=hw;rcases h1 with h1 | h1
        ·simp only[C0D,List.all_eq_true] at h1;have:=h1 id (by rw[<- hyi]; exact List.mem_map_of_mem hy);rw[K7.2 (List.mem_append.2 (.inr (by rw[<- hzi]; exact List.mem_map_of_mem hz)))] at this; cases this
        ·rw[hord k hkl (show k≠i by omega) (Bool.or_comm _ _ ▸ h1)]; simp; omega
      ·have e1:=k0A ⟨[],G.o⟩ R id hw;simp only[B7] at e1;rw[e1,hO];refine r0i (fun k Rk hk hwk=>?_) rfl;rw[Nat.zero_add];simp only[hset];rw[if_neg (fun e=>by subst e; rw[hR] at hk; cases hk; exact hw hwk)]
     ·refine hE'.congr (fun t=>?_);by_cases hw:wrS R t
      ·have hav:=t0e hab hw;rw[g0Q (D:=fun k=>(listed.setIfInBounds i true).getD k false) (st':=⟨(stD (fun k=>listed.getD k false) 0 recs st).e,G.o⟩) hR hw hav (by simp only[Nat.zero_add,hset,if_true]) (fun k Rk hik hk hwk=>by
        have:=hdst.2 i k R.o Rk.o t ho (hro k Rk hk) hw hwk;omega)]
       rfl
      ·have e1:=k0C ⟨(stD (fun k=>listed.getD k false) 0 recs st).e,G.o⟩ R t hw;simp only[B7] at e1;rw[e1];refine r0j (fun k Rk hk hwk=>?_) rfl;rw[Nat.zero_add];simp only[hset];rw[if_neg (fun e=>by subst e; rw[hR] at hk; cases hk; exact hw hwk)])
    unfold wpOp;rw[List.getElem?_toArray,ho];unfold N5 at key;simp only;split
    ·rename_i hw; rw[if_pos hw] at key; exact .inl key
    ·rename_i hw; rw[if_neg hw] at key; exact key
end
def VX(X:Cx)(st:St)(c:Code)(Q:Exit->Act->World->Prop):Prop:=∀G a,Sat X G->G.o=st.o->EnvR X.n G st.e a->c.wp X.P Q a G.w
def FX(X:Cx)(st:St)(x:Exit)(Q:Exit->Act->World->Prop):Prop:=∀G a,Sat X G->G.o=st.o->EnvR X.n G st.e a->Q x a G.w
def r0Z(e:List (Nat×Sl)):List Nat->List (Nat×Sl)
 | []=>[]
 | t :: r=>match lku e t with
   | some ⟨[],a⟩=>(t,⟨[],a⟩) :: r0Z e r
   | _=>r0Z e r
def C0m:List Nat->List (Nat×Ob)->List (Nat×Ob)
 | _,[]=>[]
 | seen,(i,b) :: r=>bif inL i seen then C0m seen r else(i,b) :: C0m (i :: seen) r
def cut(keep:List Nat)(st:St):St:=⟨r0Z st.e keep,C0m [] st.o⟩
theorem j0M{e:List (Nat×Sl)}:∀{keep:List Nat} {t:Nat} {s:Sl},lku (r0Z e keep) t=some s->lku e t=some s/\s.p=[]
 | [],t,s,h=>by cases h
 | k :: r,t,s,h=>by
   unfold r0Z at h;split at h
   ·rename_i a hk;rw[lK] at h;split at h
    ·rename_i e'; subst e'; cases h; exact⟨hk,rfl⟩
    ·exact j0M h
   ·exact j0M h
theorem m0m:∀{o:List (Nat×Ob)} {seen:List Nat} {i:Nat},i ∉ seen->lku (C0m seen o) i=lku o i
 | [],_,_,_=>rfl
 | (j,b) :: r,seen,i,h=>by
   unfold C0m;rw[ce,lK];split
   ·rename_i hj;have:¬j=i:=fun e=>h (by rw[<- e]; exact K7.1 hj);rw[if_neg this];exact m0m h
   ·rw[lK];split
    ·rfl
    ·rename_i hji;exact m0m (by simp only[List.mem_cons,not_or]; exact⟨fun e=>hji e.symm,h⟩)
theorem h0B{X:Cx}{st:St}{G:Gh}{a:Act}(keep:List Nat)(S:Sat X G)(ho:G.o=st.o)(hE:EnvR X.n G st.e a):∃G',Sat X G'/\G'.o=(cut keep st).o/\G'.w=G.w/\EnvR X.n G' (cut keep st).e a:=by
 obtain⟨S',L'⟩:=S.congr (o':=(cut keep st).o) (fun i=>by rw[ho]; exact m0m (by simp));refine⟨_,S',rfl,rfl,hE.defers,hE.size,fun t s ht=>?_⟩;obtain⟨h1,_⟩:=j0M ht;have:=(hE.mono L').val t s h1;exact this
def I9(e:List (Nat×Sl)):Bool:=e.all fun x=>h0n x.2.p
theorem Z7{e:List (Nat×Sl)}(h:I9 e=true):∀t s,lku e t=some s->s.p=[]:=by
 intro t s ht;have:∃x∈e,x.2=s:=by
  induction e with
  | nil=>cases ht
  | cons y r ih =>
    obtain⟨d,v⟩:=y;rw[lK] at ht;split at ht
    ·cases ht; exact⟨_,List.mem_cons_self,rfl⟩
    ·obtain⟨x,hx,e⟩:=ih (by unfold I9 at h ⊢; simp only[List.all_cons,ba] at h; exact h.2) ht;exact⟨x,List.mem_cons_of_mem _ hx,e⟩
 obtain⟨x,hx,rfl⟩:=this;unfold I9 at h;simp only[List.all_eq_true] at h;exact e0g (h x hx)
section
variable {X:Cx} {st:St} {Q:Exit->Act->World->Prop}
theorem vQ{x y:Code}(h:VX X st x (D0D X.P y Q)):VX X st (.seq x y) Q:=fun G a S ho hE=>wp_seq (h G a S ho hE)
theorem vB{id:Nat}{c:Code}(h:VX X st c (D0V id Q)):VX X st (.block id c) Q:=fun G a S ho hE=>wp_block (h G a S ho hE)
theorem vK(h:FX X st .normal Q):VX X st .skip Q:=fun G a S ho hE=>wp_skip (h G a S ho hE)
theorem vTT(h:FX X st .ret Q):VX X st .ret Q:=fun G a S ho hE=>wp_ret (h G a S ho hE)
theorem vE{id:Nat}(h:FX X st (.exit id) Q):VX X st (.exit id) Q:=fun G a S ho hE=>wp_exit (h G a S ho hE)
theorem l0V{c:Operand}{x y:Code}{f b:Bool}(hc:rd st [] c=some (.d f .bool b))(ht:b=true->VX X st x Q)(hf:b=false->VX X st y Q):VX X st (.cond c x y) Q:=fun G a S ho hE=>by
 have e:=b0x (B9 hE (p:=[]) (fun _ h=>by cases h) hc);exact wp_cond_split e (fun h=>ht h G a S ho hE) (fun h=>hf h G a S ho hE)
theorem q0i{c:Operand}{x y:Code}{f:Bool}(hc:rd st [] c=some (.d f .bool true))(ht:VX X st x Q):VX X st (.cond c x y) Q:=l0V hc (fun _=>ht) (fun h=>by cases h)
theorem q0j{c:Operand}{x y:Code}{f:Bool}(hc:rd st [] c=some (.d f .bool false))(ht:VX X st y Q):VX X st (.cond c x y) Q:=l0V hc (fun h=>by cases h) (fun _=>ht)
theorem fQ{y:Code}(h:VX X st y Q):FX X st .normal (D0D X.P y Q):=fun G a S ho hE=>h G a S ho hE
theorem fE{y:Code}{id:Nat}(h:FX X st (.exit id) Q):FX X st (.exit id) (D0D X.P y Q):=fun G a S ho hE=>h G a S ho hE
theorem fR{y:Code}(h:FX X st .ret Q):FX X st .ret (D0D X.P y Q):=fun G a S ho hE=>h G a S ho hE
theorem fK{id:Nat}(h:FX X st .normal Q):FX X st .normal (D0V id Q):=fun G a S ho hE=>h G a S ho hE
theorem fDD{id:Nat}(h:FX X st .ret Q):FX X st .ret (D0V id Q):=fun G a S ho hE=>h G a S ho hE
theorem fX{id id':Nat}(hid:Nat.beq id' id=true)(h:FX X st .normal Q):FX X st (.exit id') (D0V id Q):=fun G a S ho hE=>by
 have:id'=id:=by simpa using hid
 show(if id'=id then Q .normal a G.w else Q (.exit id') a G.w);rw[if_pos this]; exact h G a S ho hE
theorem v0L{Γ:m9}{T:List Ct}(hΓ:x6 X.P Γ)(hT:∀c∈T,Ok X.P c){id:Nat}{l:List Oper}(keep:List Nat)(hreg:I3 X.n 0 [] l=true)(hpl:I9 st.e=true)
  (h:m0w Γ T l l st [] fun st' _=>FX X (cut keep st') .normal Q):VX X st (.region id l.toArray false) Q:=by
 intro G a S ho hE;obtain⟨recs,e1,e2,e3⟩:=Z4 h;refine wp_region_lit ?_;have:=y0N hΓ hT (ops:=l.toArray) (all:=l) rfl (Q:=Q) recs 0 [] st G a (fun j=>by rw[Nat.zero_add,<- e1,List.getElem?_map]) (by rw[e1]; exact hreg) (fun j oj dj hj=>by omega) (fun t s ht x hx=>by rw[Z7 hpl t s ht] at hx; cases hx) e2 S ho hE
  (fun G' a' S' ho' hE'=>by
    obtain⟨G2,S2,ho2,hw2,hE2⟩:=h0B keep S' ho' hE';have:=e3 G2 a' S2 ho2 hE2
    rwa [hw2] at this)
 rwa [e1] at this
theorem y0j{Γ:m9}{T:List Ct}(hΓ:x6 X.P Γ)(hT:∀c∈T,Ok X.P c)[hm:K1 X.P]{id:Nat}{l:List Oper}(keep:List Nat)(hreg:(I3 X.n 0 [] l&&Z6 0 l)=true)(hpl:I9 st.e=true)
  (h:m0w Γ T l l st [] fun st' rs=>z0M (I5 [] l) rs.reverse=true/\FX X (cut keep st') .normal Q):VX X st (.region id l.toArray true) Q:=by
 intro G a S ho hE;rw[ba] at hreg;obtain⟨recs,e1,e2,e3,e4⟩:=Z4 h;rw[List.append_nil,List.reverse_reverse] at e3;refine wp_region_any hm.h ?_;have hext:Ext G.w { G.w with drawn:=G.w.drawn+1 }:=(Below.refl _ _).drew;obtain⟨S1,L1⟩:=S.ext hext;have:=v0x hΓ hT (Q:=Q) (l:=l) (recs:=recs) (st:=st) e1 e2 (Z7 hpl) hreg.1 hreg.2 e3 (fun G' a' S' ho' hE'=>by
   obtain⟨G2,S2,ho2,hw2,hE2⟩:=h0B keep S' ho' hE';have:=e4 G2 a' S2 ho2 hE2
   rwa [hw2] at this) l.length (Array.replicate l.length false) { G with w:={ G.w with drawn:=G.w.drawn+1 } } a
  (by refine Nat.le_trans (List.length_filter_le _ _) ?_; simp) (by simp) (fun i o _ hD=>by
    by_cases hi:i<l.length
    ·simp[hi] at hD
    ·simp[hi] at hD) S1 (fun id=>by
    have:∀{recs:List Rec} {i:Nat} {st:St},(∀j,(Array.replicate l.length false).getD j false=false)->stD (fun k=>(Array.replicate l.length false).getD k false) i recs st=st:=by
     intro recs
     induction recs with
     | nil=>intro i st _; rfl
     | cons R r ih=>intro i st h; simp only[stD,h i,Bool.false_eq_true,if_false]; exact ih h
    rw[this (fun j=>by by_cases hj:j<l.length <;> simp[hj])];simp only[ho]) (by
    have:∀{recs:List Rec} {i:Nat} {st:St},(∀j,(Array.replicate l.length false).getD j false=false)->stD (fun k=>(Array.replicate l.length false).getD k false) i recs st=st:=by
     intro recs
     induction recs with
     | nil=>intro i st _; rfl
     | cons R r ih=>intro i st h; simp only[stD,h i,Bool.false_eq_true,if_false]; exact ih h
    rw[this (fun j=>by by_cases hj:j<l.length <;> simp[hj])];exact hE.mono L1)
 simpa using this
end
def l0e:Option Ob->Nat->Prop
 | some (.arr _ _ _ _ v),ver=>v=ver
 | _,_=>False
theorem j0N{b:Option Ob}{ver:Nat}(h:l0e b ver):∃T fr t xs,b=some (.arr T fr t xs ver):=by
 unfold l0e at h;split at h
 ·subst h; exact⟨_,_,_,_,rfl⟩
 ·exact h.elim
def s0d:Option Ob->Prop
 | some (.box _ _)=>True
 | _=>False
theorem o0l{b:Option Ob}(h:s0d b):∃T cs,b=some (.box T cs):=by
 unfold s0d at h;split at h
 ·exact⟨_,_,rfl⟩
 ·exact h.elim
def o0k:Option Ob->Prop
 | none=>True
 | _=>False
theorem s0c{b:Option Ob}(h:o0k b):b=none:=by
 unfold o0k at h;split at h
 ·rfl
 ·exact h.elim
def h0m:Value->Prop
 | .slice none 0 0=>True
 | _=>False
theorem h0l{u:Value}(h:h0m u):u=.slice none 0 0:=by
 unfold h0m at h;split at h
 ·rfl
 ·exact h.elim
def E0L:(t:Ty)->den t->Prop
 | .sl _,x=>x=[]
 | _,_=>False
theorem z0a{K:Nat->Prop}{w:World}:∀{t:Ty} {x:den t},E0L t x->RT K w t [.slice none 0 0] x
 | .sl _,x,h=>by
   have h:x=[]:=h;subst h;exact⟨none,0,rfl,Nat.le_refl _,by omega,.inl rfl⟩
def s0b:Option Ob->Prop
 | some (.grd ..)=>True
 | _=>False
theorem s0a{b:Option Ob}(h:s0b b):∃T Te fr t xs hole,b=some (.grd T Te fr t xs hole):=by
 unfold s0b at h;split at h
 ·exact⟨_,_,_,_,_,_,rfl⟩
 ·exact h.elim
def r0J:Option Nat->Prop
 | none=>True
 | some _=>False
theorem k0W{h:Option Nat}(k:r0J h):h=none:=by
 cases h with
 | none=>rfl
 | some _=>exact k.elim
/- The first value may be taken for the second one. -/
mutual
def cvA(o o':List (Nat×Ob)):AV->AV->Prop
 | .d fr t x,b=>match b with
   | .d fr' t' y=>(fr'=true->fr=true)/\S8 t t' x=some y
   | _=>False
 | .v x,b=>match b with
   | .v y=>x=y
   | .os id ver=>h0m x/\o0k (lku o id)/\l0e (lku o' id) ver
   | .d _ t y=>h0m x/\E0L t y
   | _=>False
 | .os id ver,b=>match b with
   | .os id' ver'=>id=id'/\l0e (lku o id) ver/\l0e (lku o' id) ver'
   | _=>False
 | .ptr id off,b=>match b with
   | .ptr id' off'=>id=id'/\off=off'/\s0d (lku o' id)
   | _=>False
 | .agg xs,b=>match b with
   | .agg ys=>s0F o o' xs ys
   | _=>False
 | .tup xs,b=>match b with
   | .tup ys=>s0F o o' xs ys
   | _=>False
 | .fn f xs,b=>match b with
   | .fn g ys=>f=g/\s0F o o' xs ys
   | _=>False
 | .og id,b=>match b with
   | .og id'=>id=id'/\s0b (lku o' id)
   | _=>False
 | _,_=>False
def s0F(o o':List (Nat×Ob)):List AV->List AV->Prop
 | [],ys=>match ys with
   | []=>True
   | _=>False
 | a :: r,ys=>match ys with
   | b :: s=>cvA o o' a b/\s0F o o' r s
   | _=>False
end
def cvO(o o':List (Nat×Ob)):Option Ob->Ob->Prop
 | some (.box T cs),.box T' cs'=>T=T'/\s0F o o' cs cs'
 | some (.arr T fr t xs _),.arr T' fr' t' ys _=>T=T'/\(fr'=true->fr=true)/\S8 (.sl t) (.sl t') xs=some ys
 | none,.arr _ _ _ ys _=>ys=[]
 | some (.grd T Te fr t xs h),.grd T' Te' fr' t' ys h'=>T=T'/\Te=Te'/\r0J h/\r0J h'/\(fr'=true->fr=true)/\S8 (.sl (.sl t)) (.sl (.sl t')) xs=some ys
 | _,_=>False
def E0Z(o o':List (Nat×Ob))(b:AV):Option Sl->Prop
 | some ⟨[],a⟩=>cvA o o' a b
 | _=>False
def cvP:Pa->Prop
 | []=>True
 | _=>False
theorem C0G{q:Pa}(h:cvP q):q=[]:=by
 unfold cvP at h;split at h
 ·rfl
 ·exact h.elim
def D0S(o o':List (Nat×Ob))(e:List (Nat×Sl)):List (Nat×Sl)->Prop
 | []=>True
 | (t,s) :: r=>cvP s.p/\E0Z o o' s.a (lku e t)/\D0S o o' e r
def C0H(o o':List (Nat×Ob)):List (Nat×Ob)->Prop
 | []=>True
 | (i,b) :: r=>cvO o o' (lku o i) b/\C0H o o' r
def pins(o':List (Nat×Ob)):List (Nat×Ob)->Prop
 | []=>True
 | (i,.box _ _) :: r=>(bif Nat.ble 500000 i then s0d (lku o' i) else True)/\pins o' r
 | (_,.arr ..) :: r=>pins o' r
 | (_,.grd ..) :: r=>pins o' r
def D0g(st st':St):Prop:=D0S st.o st'.o st.e st'.e/\C0H st.o st'.o st'.o/\pins st'.o st.o
def V0(G:Gh)(o':List (Nat×Ob)):Gh :=
 ⟨fun i=>match lku G.o i with | some _=>G.ρ i | none=>.slice none 0 0,fun i=>match lku G.o i with | some _=>G.γ i | none=>none,G.K,G.w,o',G.B,G.δ⟩
theorem e0z{G:Gh}{o':List (Nat×Ob)}{i:Nat}{b:Ob}(h:lku G.o i=some b):(V0 G o').ρ i=G.ρ i:=by simp only[V0,h]
theorem j0P{G:Gh}{o':List (Nat×Ob)}{i:Nat}{b:Ob}(h:lku G.o i=some b):(V0 G o').γ i=G.γ i:=by simp only[V0,h]
theorem o0m{G:Gh}{o':List (Nat×Ob)}{i:Nat}(h:lku G.o i=none):(V0 G o').ρ i=.slice none 0 0:=by simp only[V0,h]
theorem j0O{G:Gh}{o':List (Nat×Ob)}{i:Nat}(h:lku G.o i=none):(V0 G o').γ i=none:=by simp only[V0,h]
mutual
theorem l0w{G:Gh}{o':List (Nat×Ob)}:∀{a b:AV} {u:Value},cvA G.o o' a b->AVR G a u->AVR (V0 G o') b u
 | .d fr t x,b,u,h,hu=>by
   unfold cvA at h;split at h
   ·obtain⟨h1,h2⟩:=h;obtain⟨e,rfl⟩:=c0k h2;subst e;exact RT.up hu (fun k hk=>⟨hk.1,fun e=>hk.2 (h1 e)⟩)
   ·exact h.elim
 | .v x,b,u,h,hu=>by
   have hu:u=x:=hu;unfold cvA at h;split at h
   ·exact hu.trans h
   ·obtain⟨h0,h1,h2⟩:=h;have h0:=h0l h0;have h1:=s0c h1;obtain⟨T,fr,t,xs,h2⟩:=j0N h2;subst hu;subst h0;exact⟨rfl,T,fr,t,xs,_,h2,Nat.le_refl _,fun _=>(o0m h1).symm⟩
   ·obtain⟨h0,h1⟩:=h;have h0:=h0l h0;subst hu;subst h0;exact z0a h1
   ·exact h.elim
 | .os id ver,b,u,h,⟨h0,T,fr,t,xs,ver',k1,k2,k3⟩=>by
   unfold cvA at h;split at h
   ·obtain⟨rfl,h1,h2⟩:=h;obtain⟨T1,fr1,t1,xs1,h1⟩:=j0N h1;obtain⟨T2,fr2,t2,xs2,h2⟩:=j0N h2;rw[k1] at h1;cases h1;exact⟨h0,_,_,_,_,_,h2,Nat.le_refl _,fun _=>(k3 rfl).trans (e0z k1).symm⟩
   ·exact h.elim
 | .ptr id off,b,u,h,⟨⟨T,cs,k1⟩,b',k2,k3⟩=>by
   unfold cvA at h;split at h
   ·obtain⟨rfl,rfl,h2⟩:=h;exact⟨o0l h2,b',(e0z k1).trans k2,k3⟩
   ·exact h.elim
 | .agg xs,b,u,h,⟨us,e,hu⟩=>by
   unfold cvA at h;split at h
   ·exact⟨us,e,d0b h hu⟩
   ·exact h.elim
 | .tup xs,b,u,h,⟨us,e,hu⟩=>by
   unfold cvA at h;split at h
   ·exact⟨us,e,d0b h hu⟩
   ·exact h.elim
 | .fn f xs,b,u,h,⟨us,e,hu⟩=>by
   unfold cvA at h;split at h
   ·obtain⟨rfl,h⟩:=h;exact⟨us,e,d0b h hu⟩
   ·exact h.elim
 | .pel _ _ _ _ _,b,u,h,hu=>by unfold cvA at h; exact h.elim
 | .gel _ _,b,u,h,hu=>by unfold cvA at h; exact h.elim
 | .og id,b,u,h,⟨h0,⟨T,Te,fr,t,xs,hole,k1⟩,k2⟩=>by
   unfold cvA at h;split at h
   ·obtain⟨rfl,h2⟩:=h;exact⟨h0,s0a h2,k2.trans (e0z k1).symm⟩
   ·exact h.elim
 | .ow _ _ _ _,b,u,h,hu=>hu.elim
 | .ob _ _,b,u,h,hu=>hu.elim
theorem d0b{G:Gh}{o':List (Nat×Ob)}:∀{as' bs:List AV} {us:List Value},s0F G.o o' as' bs->AVRs G as' us->AVRs (V0 G o') bs us
 | [],bs,us,h,hu=>by
   unfold s0F at h;split at h
   ·exact hu
   ·exact h.elim
 | a :: r,bs,us,h,⟨u,us',e,k1,k2⟩=>by
   unfold s0F at h;split at h
   ·exact⟨u,us',e,l0w h.1 k1,d0b h.2 k2⟩
   ·exact h.elim
end
theorem m0G{o o':List (Nat×Ob)}:∀{l:List (Nat×Ob)} {i:Nat} {b:Ob},C0H o o' l->lku l i=some b->cvO o o' (lku o i) b
 | [],_,_,_,h=>by cases h
 | (j,c) :: r,i,b,h,hl=>by
   rw[lK] at hl;split at hl
   ·rename_i e; subst e; cases hl; exact h.1
   ·exact m0G h.2 hl
theorem s0E{o o':List (Nat×Ob)}{e:List (Nat×Sl)}:∀{l:List (Nat×Sl)} {t:Nat} {s:Sl},D0S o o' e l->lku l t=some s->s.p=[]/\E0Z o o' s.a (lku e t)
 | [],_,_,_,h=>by cases h
 | (j,c) :: r,t,s,h,hl=>by
   rw[lK] at hl;split at hl
   ·rename_i e; subst e; cases hl; exact⟨C0G h.1,h.2.1⟩
   ·exact s0E h.2.2 hl
theorem j0x{o':List (Nat×Ob)}:∀{l:List (Nat×Ob)} {i:Nat} {T:TypeId} {cs:List AV},pins o' l->lku l (500000+i)=some (.box T cs)->s0d (lku o' (500000+i))
 | [],_,_,_,_,h=>by cases h
 | (j,.arr ..) :: r,i,_,_,h,hl=>by
   rw[lK] at hl;split at hl
   ·cases hl
   ·exact j0x (l:=r) h hl
 | (j,.grd ..) :: r,i,_,_,h,hl=>by
   rw[lK] at hl;split at hl
   ·cases hl
   ·exact j0x (l:=r) h hl
 | (j,.box ..) :: r,i,_,_,h,hl=>by
   rw[lK] at hl;split at hl
   ·rename_i e; subst e;have:=h.1
    rwa [show Nat.ble 500000 (500000+i)=true from Nat.ble_eq_true_of_le (by omega)] at this
   ·exact j0x h.2 hl
theorem v0g{X:Cx}{G:Gh}{o':List (Nat×Ob)}(S:Sat X G)(h:C0H G.o o' o')(hpin:pins o' G.o):Sat X (V0 G o'):=by
 have hγ:∀{i:Nat} {b:Nat},(V0 G o').γ i=some b->(∃c,lku G.o i=some c)/\G.γ i=some b:=fun {i b} hb=>by
  cases hl:lku G.o i with
  | none=>rw[j0O hl] at hb; cases hb
  | some c=>rw[j0P hl] at hb; exact⟨⟨c,rfl⟩,hb⟩
 have hgb:∀i,H5 (lku o' i)=true->H5 (lku G.o i)=true:=fun i hg=>by
  obtain⟨T,Te,fr,t,xs,hole,e⟩:=f0m hg;have hc:=m0G h e;cases hl:lku G.o i with
  | none=>rw[hl] at hc; exact hc.elim
  | some c =>
    rw[hl] at hc;cases c with
    | box T cs=>exact hc.elim
    | arr T fr t xs ver=>exact hc.elim
    | grd T Te fr t xs hole=>rfl
 refine⟨S.base,S.os,S.tape,S.output,S.size,S.block,?_,?_,?_,?_,S.klt,S.kfrom,fun i b hb hg=>?_,fun i v hv=>?_⟩
 rotate_right
 rotate_right
 ·obtain⟨s1,s2,s3,s4⟩:=S.sep i b hb (hgb i hg);exact⟨s1,s2,fun j o ho hj=>by obtain⟨⟨c,hc⟩,hj⟩:=hγ hj; exact s3 j c hc hj,fun j hj hgj=>s4 j hj (hgb j hgj)⟩
 ·obtain⟨⟨T,cs,h1⟩,b,h2,h3⟩:=S.pin i v hv;exact⟨o0l (j0x hpin h1),b,(e0z h1).trans h2,h3⟩
 ·intro id o ho;have hc:=m0G h ho;cases hl:lku G.o id with
  | none =>
    rw[hl] at hc;cases o with
    | box T cs=>exact hc.elim
    | grd T Te fr t xs hole=>exact hc.elim
    | arr T fr t xs ver =>
      have hx:xs=[]:=hc;subst hx;refine⟨[],?_,rfl,fun b hb=>by rw[j0O hl] at hb; cases hb⟩;rw[j0O hl,o0m hl];exact .inl ⟨rfl,rfl,rfl,none,rfl⟩
  | some c =>
    rw[hl] at hc;have:=S.obs id c hl;cases c with
    | box T cs =>
      cases o with
      | arr T' fr t xs ver=>exact hc.elim
      | grd T Te fr t xs hole=>exact hc.elim
      | box T' cs' =>
        obtain⟨rfl,hc⟩:=hc;obtain⟨b,us,h1,h2,h3,h4⟩:=this;exact⟨b,us,(j0P hl).trans h1,(e0z hl).trans h2,h3,d0b hc h4⟩
    | arr T fr t xs ver =>
      cases o with
      | box T' cs'=>exact hc.elim
      | arr T' fr' t' ys ver' =>
        obtain⟨rfl,h1,h2⟩:=hc;obtain⟨e,rfl⟩:=c0k h2;cases e;obtain⟨cs,k1,k2,k3⟩:=this;refine⟨cs,?_,k2.mapR (fun c x hr=>RT.up hr (fun k hk=>⟨hk.1,fun e=>hk.2 (h1 e)⟩)),fun b hb=>k3 b (hγ hb).2⟩;rw[j0P hl,e0z hl];exact k1
      | grd T Te fr t xs hole=>exact hc.elim
    | grd T Te fr t xs hole =>
      cases o with
      | box T' cs'=>exact hc.elim
      | arr T' fr' t' ys ver'=>exact hc.elim
      | grd T' Te' fr' t' ys hole' =>
        obtain⟨rfl,rfl,e1,e2,h1,h2⟩:=hc;have e1:=k0W e1;have e2:=k0W e2;subst e1; subst e2;obtain⟨e,rfl⟩:=c0k h2;cases e;obtain⟨vs,bs,k1,k2,k3⟩:=this;refine⟨vs,bs,by rw[j0P hl,e0z hl]; exact k1,⟨k2.len,k2.blk,k2.inj,fun k hk hh=>?_,k2.one⟩,fun b hb=>k3 b (hγ hb).2⟩;obtain⟨cs,r1,r2,r3⟩:=k2.row k hk hh;exact⟨cs,r1,r2.mapR (fun c x hr=>RT.up hr (fun k hk=>⟨hk.1,fun e=>hk.2 (h1 e)⟩)),r3⟩
 ·intro i i' o1 o2 b h1 h2 h3 h4;obtain⟨⟨c,hc⟩,h3⟩:=hγ h3;obtain⟨⟨c',hc'⟩,h4⟩:=hγ h4;exact S.inj i i' c c' b hc hc' h3 h4
 ·intro i o1 b h1 h2;obtain⟨⟨c,hc⟩,h2⟩:=hγ h2;exact S.imm i c b hc h2
 ·intro i o1 b h1 h2;obtain⟨⟨c,hc⟩,h2⟩:=hγ h2;exact S.own i c b hc h2
theorem m0t{X:Cx}{G:Gh}{st st':St}{a:Act}(h:D0g st st')(S:Sat X G)(ho:G.o=st.o)(hE:EnvR X.n G st.e a):∃G',Sat X G'/\G'.o=st'.o/\G'.w=G.w/\EnvR X.n G' st'.e a:=by
 obtain⟨h1,h2,h3⟩:=h;rw[<- ho] at h1 h2 h3;refine⟨V0 G st'.o,v0g S h2 h3,rfl,rfl,hE.defers,hE.size,fun t s ht=>?_⟩;obtain⟨hp,hc⟩:=s0E h1 ht;rw[hp];refine⟨fun _=>?_,fun hn=>(hn (fun _ h=>by cases h)).elim⟩;unfold E0Z at hc;split at hc
 ·rename_i a0 hl;exact l0w hc ((hE.val t _ hl).1 (fun _ h=>by cases h))
 ·exact hc.elim
section
variable {X:Cx} {st:St} {Q:Exit->Act->World->Prop}
def u0L(X:Cx){σ:Type}(E:σ->St)(J:σ->Prop)(μ:σ->Nat)(s:σ)(Q:Exit->Act->World->Prop):Exit->Act->World->Prop
 | .normal,a,w=>∃s',μ s'<μ s/\J s'/\∃G,Sat X G/\G.o=(E s').o/\G.w=w/\EnvR X.n G (E s').e a
 | e,a,w=>Q e a w
theorem y0i{c:Code}(st':St)(h:D0g st st')(k:VX X st' c Q):VX X st c Q:=fun G a S ho hE=>by
 obtain⟨G',S',ho',hw',hE'⟩:=m0t h S ho hE;have:=k G' a S' ho' hE'
 rwa [hw'] at this
theorem y0h{body:Code}{σ:Type}(E:σ->St)(J:σ->Prop)(μ:σ->Nat)(s0:σ)(h0:J s0)(hs0:D0g st (E s0))
  (round:∀s,J s->VX X (E s) body (u0L X E J μ s Q)):VX X st (.loop body) Q:=by
 intro G a S ho hE;obtain⟨G0,S0,ho0,hw0,hE0⟩:=m0t hs0 S ho hE;refine wp_loop_ghost (fun m a w=>∃s,μ s=m/\J s/\∃G,Sat X G/\G.o=(E s).o/\G.w=w/\EnvR X.n G (E s).e a) (μ s0) ⟨s0,rfl,h0,G0,S0,ho0,hw0,hE0⟩ ?_;rintro m a w ⟨s,rfl,hJ,G,S,ho,rfl,hE⟩;refine wp_mono (round s hJ G a S ho hE) ?_;intro x a' w' hx;cases x with
 | normal =>
   obtain⟨s',h1,h2,h3⟩:=hx;exact⟨μ s',h1,s',rfl,h2,h3⟩
 | _=>exact hx
theorem z0y{σ:Type}{E:σ->St}{J:σ->Prop}{μ:σ->Nat}{s:σ}(s':σ)(hJ:J s')(hμ:μ s'<μ s)(hs:D0g st (E s')):FX X st .normal (u0L X E J μ s Q):=fun G a S ho hE=>by
 obtain⟨G',S',ho',hw',hE'⟩:=m0t hs S ho hE;exact⟨s',hμ,hJ,G',S',ho',hw',hE'⟩
theorem l0n{σ:Type}{E:σ->St}{J:σ->Prop}{μ:σ->Nat}{s:σ}{id:Nat}(h:FX X st (.exit id) Q):FX X st (.exit id) (u0L X E J μ s Q):=fun G a S ho hE=>h G a S ho hE
theorem m0z{σ:Type}{E:σ->St}{J:σ->Prop}{μ:σ->Nat}{s:σ}(h:FX X st .ret Q):FX X st .ret (u0L X E J μ s Q):=fun G a S ho hE=>h G a S ho hE
end
def O8:Nat->(ps:List Par)->w9 ps->List (Nat×Sl)
 | _,[],_=>[]
 | i,.dat t :: r,x=>(i,⟨[],.d false t x.1⟩) :: O8 (i+1) r x.2
 | i,.agg t :: r,x=>(i,⟨[],.agg (u1 false t x.1)⟩) :: O8 (i+1) r x.2
 | i,.fn f c :: r,x=>(i,⟨[],.fn f (u1 false c x.1)⟩) :: O8 (i+1) r x.2
 | i,.nof f :: r,x=>(i,⟨[],.fn f []⟩) :: O8 (i+1) r x.2
 | i,.io _ _ :: r,x=>(i,⟨[],.ptr (500000+i) 0⟩) :: O8 (i+1) r x.2
 | i,.os _ _ :: r,x=>(i,⟨[],.os (500000+i) 0⟩) :: O8 (i+1) r x.2
def I1:Nat->(ps:List Par)->w9 ps->List (Nat×Ob)
 | _,[],_=>[]
 | i,.io T t :: _,x=>[(500000+i,.box T (u1 false t x.1))]
 | i,.os E t :: _,x=>[(500000+i,.arr E true t x.1 0)]
 | i,.dat _ :: r,x=>I1 (i+1) r x.2
 | i,.agg _ :: r,x=>I1 (i+1) r x.2
 | i,.fn _ _ :: r,x=>I1 (i+1) r x.2
 | i,.nof _ :: r,x=>I1 (i+1) r x.2
def q9:Nat->List Par->Option Nat->Option (Nat×Value)
 | _,[],_=>none
 | i,.io _ _ :: _,some b=>some (i,.pointer (some ⟨b,0,none⟩))
 | _,.os _ _ :: _,_=>none
 | i,_ :: r,go=>q9 (i+1) r go
def t0m:List Par->Bool
 | []=>true
 | .io _ _ :: _=>false
 | .os _ _ :: _=>false
 | .dat _ :: r=>t0m r
 | .agg _ :: r=>t0m r
 | .fn _ _ :: r=>t0m r
 | .nof _ :: r=>t0m r
def Z8:List Par->Bool
 | []=>true
 | .io _ _ :: r=>t0m r
 | .os _ _ :: r=>t0m r
 | .dat _ :: r=>Z8 r
 | .agg _ :: r=>Z8 r
 | .fn _ _ :: r=>Z8 r
 | .nof _ :: r=>Z8 r
theorem c0N:∀{ps:List Par} {i:Nat} {x:w9 ps},t0m ps=true->I1 i ps x=[]
 | [],_,_,_=>rfl
 | .io _ _ :: _,_,_,h=>by cases h
 | .os _ _ :: _,_,_,h=>by cases h
 | .dat _ :: r,i,x,h=>c0N (ps:=r) (i:=i+1) h
 | .agg _ :: r,i,x,h=>c0N (ps:=r) (i:=i+1) h
 | .fn _ _ :: r,i,x,h=>c0N (ps:=r) (i:=i+1) h
 | .nof _ :: r,i,x,h=>c0N (ps:=r) (i:=i+1) h
theorem l0f{K:Nat->Prop}{w:World}{go:Option Nat}:∀{ps:List Par} {z:IOT ps},t0m ps=true->IOR K w go ps z
 | [],_,_=>trivial
 | .io _ _ :: _,_,h=>by cases h
 | .os _ _ :: _,_,h=>by cases h
 | .dat _ :: r,z,h=>l0f (ps:=r) h
 | .agg _ :: r,z,h=>l0f (ps:=r) h
 | .fn _ _ :: r,z,h=>l0f (ps:=r) h
 | .nof _ :: r,z,h=>l0f (ps:=r) h
theorem l0m:∀{ps:List Par},t0m ps=true->¬giv ps=true
 | [],_=>fun e=>by cases e
 | .io _ _ :: _,h=>by cases h
 | .os _ _ :: _,h=>by cases h
 | .dat _ :: r,h=>l0m (ps:=r) h
 | .agg _ :: r,h=>l0m (ps:=r) h
 | .fn _ _ :: r,h=>l0m (ps:=r) h
 | .nof _ :: r,h=>l0m (ps:=r) h
theorem h0o{K:Nat->Prop}{w:World}{go:Option Nat}:∀{ps:List Par} {z:IOT ps},Z8 ps=true->giv ps=true->IOR K w go ps z
 | [],_,_,_=>trivial
 | .io _ _ :: r,_,h,g=>(l0m (ps:=r) h g).elim
 | .os _ _ :: r,_z,h,_=>l0f (ps:=r) h
 | .dat _ :: r,_z,h,g=>h0o (ps:=r) h g
 | .agg _ :: r,_z,h,g=>h0o (ps:=r) h g
 | .fn _ _ :: r,_z,h,g=>h0o (ps:=r) h g
 | .nof _ :: r,_z,h,g=>h0o (ps:=r) h g
theorem e0c:∀{ps:List Par},t0m ps=true->Z8 ps=true
 | [],_=>rfl
 | .io _ _ :: _,h=>by cases h
 | .os _ _ :: _,h=>by cases h
 | .dat _ :: r,h=>e0c (ps:=r) h
 | .agg _ :: r,h=>e0c (ps:=r) h
 | .fn _ _ :: r,h=>e0c (ps:=r) h
 | .nof _ :: r,h=>e0c (ps:=r) h
def X7:List Par->List Value->Value
 | .io _ _ :: _,v :: _=>v
 | .os _ _ :: _,v :: _=>v
 | _ :: r,_ :: us=>X7 r us
 | _,_=>undef
def GhS(K:Nat->Prop)(w:World)(go:Option Nat)(r0:Value)(B:Nat)(o:List (Nat×Ob)):Gh:=⟨fun _=>r0,fun _=>go,K,w,o,B,fun _ _=>False⟩
@[reducible] def cx (P:Program) (n:Nat) (y:World×(Nat->Prop)×(Nat->Prop)×Option (Nat×Value)×Nat):Cx:=⟨P,n,y.1,y.2.1,y.2.2.1,y.2.2.2.1,y.2.2.2.2⟩
def J4(ps:List Par)(w:World):Nat:=bif giv ps then 0 else w.heap.size
theorem h0K{ps:List Par}{w:World}(h:¬giv ps=true):J4 ps w=w.heap.size:=by
 unfold J4;rw[Bool.eq_false_iff.2 h]; rfl
theorem i0Z{ps:List Par}{w:World}(h:giv ps=true):J4 ps w=0:=by
 unfold J4;rw[h]; rfl
theorem s0V(ps:List Par)(w:World):J4 ps w<=w.heap.size:=by
 by_cases h:giv ps=true
 ·rw[i0Z h]; exact Nat.zero_le _
 ·rw[h0K h]; exact Nat.le_refl _
theorem g0B{K:Nat->Prop}{w:World}{go:Option Nat}{r0:Value}{B:Nat}{o:List (Nat×Ob)}{t:Ty}{us:List Value}{x:den t}(h:RT K w t us x):RT (rg (GhS K w go r0 B o) false) (GhS K w go r0 B o).w t us x :=
 RT.up h (fun _ hk=>⟨hk,fun e=>by cases e⟩)
theorem c0p{K:Nat->Prop}{w:World}:∀{ps:List Par} {i:Nat} {x:w9 ps} {vs:List Value} {go:Option Nat},ArgsR K w go ps x vs ->
  (I1 i ps x=[]/\go=none/\q9 i ps go=none/\¬giv ps=true)∨(∃j b T t z cs,I1 i ps x=[(500000+j,.box T (u1 false t z))]/\go=some b/\q9 i ps go=some (j,.pointer (some ⟨b,0,none⟩))/\X7 ps vs=.pointer (some ⟨b,0,none⟩)/\Blk w b cs T/\RT K w t cs z/\¬K b) ∨
    ∃j E t,∃xs:List (den t),∃cs,I1 i ps x=[(500000+j,.arr E true t xs 0)]/\q9 i ps go=none/\(X7 ps vs).oneCell'=true/\Own w E (sz t) go (X7 ps vs) xs.length cs/\AllR (RT K w t) cs xs/\(∀b,go=some b->¬K b)/\giv ps=true
 | [],i,x,vs,go,h=>.inl ⟨rfl,h.2,rfl,fun e=>by cases e⟩
 | .dat t :: r,i,x,vs,go,⟨v,us,e,_,h⟩=>by
   subst e;have:=c0p (i:=i+1) h;cases go <;> exact this
 | .agg t :: r,i,x,vs,go,⟨v,us,e,_,h⟩=>by
   subst e;have:=c0p (i:=i+1) h;cases go <;> exact this
 | .fn f t :: r,i,x,vs,go,⟨v,us,e,_,h⟩=>by
   subst e;have:=c0p (i:=i+1) h;cases go <;> exact this
 | .nof f :: r,i,x,vs,go,⟨us,e,h⟩=>by
   subst e;have:=c0p (i:=i+1) h;cases go <;> exact this
 | .io T t :: r,i,x,vs,go,⟨b,cs,us,e,hgo,h1,h2,h3,h⟩=>by
   subst hgo;subst e;exact .inr (.inl ⟨i,b,T,t,x.1,cs,rfl,rfl,rfl,rfl,h2,h3,h1⟩)
 | .os E t :: r,i,x,vs,go,⟨v,cs,us,e,h1,h2,h3,h4,h⟩=>by
   subst e;exact .inr (.inr ⟨i,E,t,x.1,cs,rfl,(by cases go <;> rfl),h2,h3,h4,h1,rfl⟩)
theorem b0Y{K:Nat->Prop}{w:World}{o:List (Nat×Ob)}{g0:Option Nat}{r0:Value}{B:Nat}:∀{ps:List Par} {i:Nat} {x:w9 ps} {vs:List Value} {go:Option Nat},Z8 ps=true->ArgsR K w go ps x vs->(I1 i ps x≠[]->X7 ps vs=r0)->(∀z∈I1 i ps x,lku o z.1=some z.2) ->
  ∀t s,lku (O8 i ps x) t=some s->i<=t/\s.p=[]/\∃u,vs[t-i]?=some u/\AVR (GhS K w g0 r0 B o) s.a u
 | [],i,x,vs,go,_,h,_,_,t,s,ht=>by cases ht
 | .dat ty :: r,i,x,vs,go,hn,⟨v,us,e,h1,h⟩,hg,hz,t,s,ht=>by
   subst e;unfold O8 at ht;rw[lK] at ht;split at ht
   ·rename_i e; subst e; cases ht; exact⟨Nat.le_refl _,rfl,v,by simp,g0B h1⟩
   ·obtain⟨a1,a2,u,a3,a4⟩:=b0Y (ps:=r) (i:=i+1) hn h hg hz t s ht;exact⟨by omega,a2,u,by rw[show t-i=(t-(i+1))+1 by omega,List.getElem?_cons_succ]; exact a3,a4⟩
 | .agg ty :: r,i,x,vs,go,hn,⟨v,us,e,h1,h⟩,hg,hz,t,s,ht=>by
   subst e;unfold O8 at ht;rw[lK] at ht;split at ht
   ·rename_i e; subst e; cases ht; exact⟨Nat.le_refl _,rfl,_,by simp,v,rfl,a0Z (g0B h1)⟩
   ·obtain⟨a1,a2,u,a3,a4⟩:=b0Y (ps:=r) (i:=i+1) hn h hg hz t s ht;exact⟨by omega,a2,u,by rw[show t-i=(t-(i+1))+1 by omega,List.getElem?_cons_succ]; exact a3,a4⟩
 | .fn f ty :: r,i,x,vs,go,hn,⟨v,us,e,h1,h⟩,hg,hz,t,s,ht=>by
   subst e;unfold O8 at ht;rw[lK] at ht;split at ht
   ·rename_i e; subst e; cases ht; exact⟨Nat.le_refl _,rfl,_,by simp,v,rfl,a0Z (g0B h1)⟩
   ·obtain⟨a1,a2,u,a3,a4⟩:=b0Y (ps:=r) (i:=i+1) hn h hg hz t s ht;exact⟨by omega,a2,u,by rw[show t-i=(t-(i+1))+1 by omega,List.getElem?_cons_succ]; exact a3,a4⟩
 | .nof f :: r,i,x,vs,go,hn,⟨us,e,h⟩,hg,hz,t,s,ht=>by
   subst e;unfold O8 at ht;rw[lK] at ht;split at ht
   ·rename_i e; subst e; cases ht; exact⟨Nat.le_refl _,rfl,_,by simp,[],rfl,rfl⟩
   ·obtain⟨a1,a2,u,a3,a4⟩:=b0Y (ps:=r) (i:=i+1) hn h hg hz t s ht;exact⟨by omega,a2,u,by rw[show t-i=(t-(i+1))+1 by omega,List.getElem?_cons_succ]; exact a3,a4⟩
 | .io T ty :: r,i,x,vs,go,hn,⟨b,cs,us,e,hgo,h1,h2,h3,h⟩,hg,hz,t,s,ht=>by
   subst e;have hr0:Value.pointer (some ⟨b,0,none⟩)=r0:=hg (fun e=>by cases e);unfold O8 at ht;rw[lK] at ht;split at ht
   ·rename_i e; subst e; cases ht;exact⟨Nat.le_refl _,rfl,_,by simp,⟨_,_,hz _ (List.mem_singleton.2 rfl)⟩,b,hr0.symm,rfl⟩
   ·have hno:I1 (i+1) r x.2=[]:=c0N hn;obtain⟨a1,a2,u,a3,a4⟩:=b0Y (ps:=r) (i:=i+1) (e0c hn) h (fun e=>(e hno).elim) (fun z hz'=>by rw[hno] at hz'; cases hz') t s ht;exact⟨by omega,a2,u,by rw[show t-i=(t-(i+1))+1 by omega,List.getElem?_cons_succ]; exact a3,a4⟩
 | .os E ty :: r,i,x,vs,go,hn,⟨v,cs,us,e,h1,h2,h3,h4,h⟩,hg,hz,t,s,ht=>by
   subst e;have hr0:v=r0:=hg (fun e=>by cases e);unfold O8 at ht;rw[lK] at ht;split at ht
   ·rename_i e; subst e; cases ht;exact⟨Nat.le_refl _,rfl,_,by simp,h2,_,_,_,_,_,hz _ (List.mem_singleton.2 rfl),Nat.le_refl _,fun _=>hr0⟩
   ·have hno:I1 (i+1) r x.2=[]:=c0N hn;obtain⟨a1,a2,u,a3,a4⟩:=b0Y (ps:=r) (i:=i+1) (e0c hn) h (fun e=>(e hno).elim) (fun z hz'=>by rw[hno] at hz'; cases hz') t s ht;exact⟨by omega,a2,u,by rw[show t-i=(t-(i+1))+1 by omega,List.getElem?_cons_succ]; exact a3,a4⟩
theorem ArgsR.len{K:Nat->Prop}{w:World}:∀{ps:List Par} {x:w9 ps} {vs:List Value} {go:Option Nat},ArgsR K w go ps x vs->vs.length=ps.length
 | [],x,vs,go,h=>by rw[h.1]; rfl
 | .dat t :: r,x,vs,go,⟨v,us,e,_,h⟩=>by rw[e,List.length_cons,h.len]; rfl
 | .agg t :: r,x,vs,go,⟨v,us,e,_,h⟩=>by rw[e,List.length_cons,h.len]; rfl
 | .fn f t :: r,x,vs,go,⟨v,us,e,_,h⟩=>by rw[e,List.length_cons,h.len]; rfl
 | .nof f :: r,x,vs,go,⟨us,e,h⟩=>by rw[e,List.length_cons,h.len]; rfl
 | .io T t :: r,x,vs,go,⟨b,cs,us,e,_,_,_,_,h⟩=>by rw[e,List.length_cons,h.len]; rfl
 | .os E t :: r,x,vs,go,⟨v,cs,us,e,_,_,_,_,h⟩=>by rw[e,List.length_cons,h.len]; rfl
theorem k0D{P:Program}{n:Nat}{K:Nat->Prop}{w:World}{ps:List Par}{x:w9 ps}{vs:List Value}{go:Option Nat}(hK:∀k,K k->k<w.heap.size)(h:ArgsR K w go ps x vs) :
  Sat (cx P n ⟨w,fun k=>go=some k,K,q9 0 ps go,J4 ps w⟩) (GhS K w go (X7 ps vs) (J4 ps w) (I1 0 ps x)):=by
 have hK:∀k,K k->UFg w w.heap.size k:=fun k hk=>⟨hK k hk,fun h=>absurd (hK k hk) (Nat.not_lt.2 h)⟩;have hγ:∀i,(GhS K w go (X7 ps vs) (J4 ps w) (I1 0 ps x)).γ i=go:=fun _=>rfl;have hbl:=s0V ps w;rcases c0p (i:=0) h with ⟨h0,hg,hp,_⟩ | ⟨j,b,T,t,z,cs,h0,hg,hp,hr,h1,h2,h3⟩ | ⟨j,E,t,xs,cs,h0,hp,h1,h2,h3,h4,hv⟩
 ·have hlk:∀i o,lku (GhS K w go (X7 ps vs) (J4 ps w) (I1 0 ps x)).o i=some o->False:=fun i o e=>by
   have:lku (I1 0 ps x) i=some o:=e;rw[h0] at this; cases this
  refine⟨⟨rfl,hbl⟩,rfl,rfl,rfl,Nat.le_refl _,fun _ _ _=>rfl,fun i o e=>(hlk i o e).elim,fun i _ o _ _ e=>(hlk i o e).elim,fun i o _ e=>(hlk i o e).elim,fun i o _ e=>(hlk i o e).elim,hK,fun k hk=>.inl hk,fun _ _ h=>h.elim,fun i v e=>?_⟩;have:q9 0 ps go=some (i,v):=e;rw[hp] at this; cases this
 ·subst hg;have hlk:∀i o,lku (GhS K w (some b) (X7 ps vs) (J4 ps w) (I1 0 ps x)).o i=some o->i=500000+j/\o=.box T (u1 false t z):=fun i o e=>by
   have:lku (I1 0 ps x) i=some o:=e;rw[h0,lK] at this;split at this
   ·rename_i hj; cases this; exact⟨hj.symm,rfl⟩
   ·cases this
  refine⟨⟨rfl,hbl⟩,rfl,rfl,rfl,Nat.le_refl _,fun _ _ _=>rfl,fun i o e=>?_,fun i i' o o' _ e e' _ _=>(hlk i o e).1.trans (hlk i' o' e').1.symm,fun i o b' e e' hk=>?_,fun i o b' e e'=>.inr (by rw[<- hγ i]; exact e'),hK,fun k hk=>.inl hk,fun _ _ h=>h.elim,fun i v e=>?_⟩
  ·obtain⟨rfl,rfl⟩:=hlk i o e;exact⟨b,cs,rfl,hr,h1,a0Z (g0B h2)⟩
  ·rw[hγ] at e'; cases e'; exact h3 hk
  ·have:q9 0 ps (some b)=some (i,v):=e;rw[hp] at this;cases this;refine⟨⟨T,u1 false t z,?_⟩,b,hr,rfl⟩;show lku (I1 0 ps x) _=_;rw[h0,lK,if_pos rfl]
 ·have hlk:∀i o,lku (GhS K w go (X7 ps vs) (J4 ps w) (I1 0 ps x)).o i=some o->i=500000+j/\o=.arr E true t xs 0:=fun i o e=>by
   have:lku (I1 0 ps x) i=some o:=e;rw[h0,lK] at this;split at this
   ·rename_i hj; cases this; exact⟨hj.symm,rfl⟩
   ·cases this
  have hb0:=i0Z (w:=w) hv;refine⟨⟨rfl,hbl⟩,rfl,rfl,rfl,Nat.le_refl _,fun _ _ _=>rfl,fun i o e=>?_,fun i i' o o' _ e e' _ _=>(hlk i o e).1.trans (hlk i' o' e').1.symm,fun i o b' e e' hk=>?_,fun i o b' e e'=>.inr (by rw[<- hγ i]; exact e'),hK,fun k hk=>.inl hk,fun _ _ h=>h.elim,fun i v e=>?_⟩
  ·obtain⟨rfl,rfl⟩:=hlk i o e;exact⟨cs,h2,h3.mapR (fun c x hx=>RT.up hx (fun k hk=>⟨hk,fun _=>by show J4 ps w<=k; rw[hb0]; exact Nat.zero_le _⟩)),fun b _=>by show J4 ps w<=b; rw[hb0]; exact Nat.zero_le _⟩
  ·rw[hγ] at e'; exact h4 b' e' hk
  ·have:q9 0 ps go=some (i,v):=e;rw[hp] at this;cases this
/- A value as the wanted result: on what condition, the rows handed over, the objects that become data. -/
mutual
def K8(o:List (Nat×Ob)):AV->AV->Option (Prop×List (Option Nat)×List Nat)
 | a,.ow T fr t xs=>match a with
   | .os id ver=>match lku o id with
     | some (.arr T' fr' t' ys ver')=>bif Nat.beq ver ver'&&Nat.beq T' T then some ((fr=true->fr'=true)/\S8 (.sl t') (.sl t) ys=some xs,[some id],[]) else none
     | _=>none
   | .v x=>some (h0m x/\xs=[],[none],[])
   | _=>none
 | a,.d fr t x=>match H6 o 24 t [a] with
   | some (y,l,fl)=>some ((fr=true->fl=true)/\y=x,[],l)
   | none=>none
 | a,.ob T rs=>match a with
   | .ptr id 0=>match lku o id with
     | some (.box T' cs)=>bif Nat.beq T' T then(match h0X o cs rs with
       | some (q,m,f)=>some (q,some id :: m,f)
       | none=>none) else none
     | _=>none
   | _=>none
 | a,.v x=>match a with
   | .v y=>some (y=x,[],[])
   | _=>none
 | a,.agg rs=>match a with
   | .agg as'=>h0X o as' rs
   | _=>none
 | a,.tup rs=>match a with
   | .tup as'=>h0X o as' rs
   | _=>none
 | _,_=>none
def h0X(o:List (Nat×Ob)):List AV->List AV->Option (Prop×List (Option Nat)×List Nat)
 | as',[]=>match as' with
   | []=>some (True,[],[])
   | _=>none
 | as',r :: rs=>match as' with
   | a :: t=>match K8 o a r with
     | some (q,m,f)=>match h0X o t rs with
       | some (q',m',f')=>some (q/\q',m++m',f++f')
       | none=>none
     | none=>none
   | []=>none
end
def U0(G:Gh)(mv:List (Option Nat)):List (Option Nat):=mv.map fun o=>o.bind G.γ
def z0Z(G:Gh)(mv:List (Option Nat)):Prop:=∀id,some id∈mv->∃o,lku G.o id=some o
mutual
theorem d0Z{X:Cx}{G:Gh}(S:Sat X G){K':Nat->Prop}(hK:∀k,G.K k->K' k){Kf:Bool->Nat->Prop}(hf:∀fr k,rk G K' fr k->Kf fr k):∀{a r:AV} {u:Value} {q:Prop} {mv:List (Option Nat)} {fz:List Nat},K8 G.o a r=some (q,mv,fz)->q->(∀id∈fz,(∃o,lku G.o id=some o)->∀b,G.γ id=some b->K' b)->AVR G a u ->
  ResR Kf G.w r u (U0 G mv)/\z0Z G mv
 | a,.ow T fr t xs,u,q,mv,fz,h,hq,hz,hu=>by
   unfold K8 at h;split at h
   ·rename_i id ver;split at h
    ·rename_i T' fr' t' ys ver' ho;rw[ce] at h;split at h
     ·rename_i hv;simp only[ba] at hv;have hv1:=nb hv.1;have hv2:=nb hv.2;subst hv1; subst hv2;simp only[oi,pj] at h;obtain⟨rfl,rfl,rfl⟩:=h;obtain⟨h1,h2⟩:=hq;obtain⟨e,rfl⟩:=c0k h2;cases e;obtain⟨h0,T1,fr1,t1,xs1,ver1,k1,k2,k3⟩:=hu;rw[ho] at k1;cases k1;have hu:=k3 rfl;subst hu;obtain⟨cs,g1,g2,g3⟩:=S.obs id _ ho;exact⟨⟨G.γ id,cs,rfl,h0,g1,g2.mapR (fun c x hr=>RT.up hr (fun k hk=>hf fr k ⟨hK k hk.1,fun e=>hk.2 (h1 e)⟩))⟩,fun i hi=>by
       cases List.mem_singleton.1 hi; exact⟨_,ho⟩⟩
     ·cases h
    ·cases h
   ·rename_i x;simp only[oi,pj] at h;obtain⟨rfl,rfl,rfl⟩:=h;obtain⟨h1,rfl⟩:=hq;have h1:=h0l h1;have hu:u=x:=hu;subst hu;subst h1;exact⟨⟨none,[],rfl,rfl,.inl ⟨rfl,rfl,rfl,none,rfl⟩,rfl⟩,fun i hi=>by cases List.mem_singleton.1 hi⟩
   ·cases h
 | a,.d fr t x,u,q,mv,fz,h,hq,hz,hu=>by
   unfold K8 at h;split at h
   ·rename_i y l fl hd;simp only[oi,pj] at h;obtain⟨rfl,rfl,rfl⟩:=h;obtain⟨h1,rfl⟩:=hq;exact⟨⟨RT.up (b0O S hK 24 hd (fun id hid=>hz id hid (c0F 24 hd id hid)) ⟨u,[],rfl,hu,rfl⟩) (fun k hk=>hf fr k ⟨hk.1,fun e=>hk.2 (h1 e)⟩),rfl⟩,fun i hi=>by cases hi⟩
   ·cases h
 | a,.ob T rs,u,q,mv,fz,h,hq,hz,hu=>by
   unfold K8 at h;split at h
   ·rename_i id;split at h
    ·rename_i T' cs ho;rw[ce] at h;split at h
     ·rename_i hT;have hT:=nb hT;subst hT;split at h
      ·rename_i q1 m1 f1 h1;simp only[oi,pj] at h;obtain⟨rfl,rfl,rfl⟩:=h;obtain⟨_,b,hb,rfl⟩:=hu;obtain⟨b',us,g1,g2,g3,g4⟩:=S.obs id _ ho;rw[hb] at g2;cases g2;obtain⟨a1,a2⟩:=d0n S hK hf h1 hq hz g4;refine⟨⟨b,us,U0 G m1,by simp[U0,g1],rfl,g3,a1⟩,fun i hi=>?_⟩;rcases List.mem_cons.1 hi with e | hi
       ·cases e; exact⟨_,ho⟩
       ·exact a2 i hi
      ·cases h
     ·cases h
    ·cases h
   ·cases h
 | a,.v x,u,q,mv,fz,h,hq,hz,hu=>by
   unfold K8 at h;split at h
   ·simp only[oi,pj] at h;obtain⟨rfl,rfl,rfl⟩:=h;exact⟨⟨(show u=_ from hu).trans hq,rfl⟩,fun i hi=>by cases hi⟩
   ·cases h
 | a,.agg rs,u,q,mv,fz,h,hq,hz,hu=>by
   unfold K8 at h;split at h
   ·obtain⟨us,e,hu⟩:=hu;obtain⟨h1,h2⟩:=d0n S hK hf h hq hz hu;exact⟨⟨us,e,h1⟩,h2⟩
   ·cases h
 | a,.tup rs,u,q,mv,fz,h,hq,hz,hu=>by
   unfold K8 at h;split at h
   ·obtain⟨us,e,hu⟩:=hu;obtain⟨h1,h2⟩:=d0n S hK hf h hq hz hu;exact⟨⟨us,e,h1⟩,h2⟩
   ·cases h
 | a,.ptr _ _,u,q,mv,fz,h,hq,hz,hu=>by unfold K8 at h; cases h
 | a,.pel _ _ _ _ _,u,q,mv,fz,h,hq,hz,hu=>by unfold K8 at h; cases h
 | a,.os _ _,u,q,mv,fz,h,hq,hz,hu=>by unfold K8 at h; cases h
 | a,.fn _ _,u,q,mv,fz,h,hq,hz,hu=>by unfold K8 at h; cases h
 | a,.gel _ _,u,q,mv,fz,h,hq,hz,hu=>by unfold K8 at h; cases h
 | a,.og _,u,q,mv,fz,h,hq,hz,hu=>by unfold K8 at h; cases h
theorem d0n{X:Cx}{G:Gh}(S:Sat X G){K':Nat->Prop}(hK:∀k,G.K k->K' k){Kf:Bool->Nat->Prop}(hf:∀fr k,rk G K' fr k->Kf fr k):∀{as' rs:List AV} {us:List Value} {q:Prop} {mv:List (Option Nat)} {fz:List Nat},h0X G.o as' rs=some (q,mv,fz)->q->(∀id∈fz,(∃o,lku G.o id=some o)->∀b,G.γ id=some b->K' b)->AVRs G as' us ->
  ResRs Kf G.w rs us (U0 G mv)/\z0Z G mv
 | as',[],us,q,mv,fz,h,hq,hz,hu=>by
   unfold h0X at h;split at h
   ·simp only[oi,pj] at h;obtain⟨rfl,rfl,rfl⟩:=h;exact⟨⟨hu,rfl⟩,fun i hi=>by cases hi⟩
   ·cases h
 | as',r :: rs,us,q,mv,fz,h,hq,hz,hu=>by
   unfold h0X at h;split at h
   ·rename_i a t;split at h
    ·rename_i q1 m1 f1 h1;split at h
     ·rename_i q2 m2 f2 h2;simp only[oi,pj] at h;obtain⟨rfl,rfl,rfl⟩:=h;obtain⟨u,us',e,hu1,hu2⟩:=hu;obtain⟨a1,a2⟩:=d0Z S hK hf h1 hq.1 (fun id hid=>hz id (by simp[hid])) hu1;obtain⟨b1,b2⟩:=d0n S hK hf h2 hq.2 (fun id hid=>hz id (by simp[hid])) hu2;refine⟨⟨u,us',U0 G m1,U0 G m2,e,by simp[U0],a1,b1⟩,fun i hi=>?_⟩;rcases List.mem_append.1 hi with h | h
      ·exact a2 i h
      ·exact b2 i h
     ·cases h
    ·cases h
   ·cases h
end
def ioA(o:List (Nat×Ob)):Nat->(ps:List Par)->IOT ps->Option (Prop×List Nat×Option Nat)
 | _,[],_=>some (True,[],none)
 | i,.io T t :: _,z=>match lku o (500000+i) with
   | some (.box T' cs)=>bif Nat.beq T' T then(match H6 o 24 t cs with
     | some (y,l,_)=>some (y=z,l,some (500000+i))
     | none=>none) else none
   | _=>none
 | i,.dat _ :: r,z=>ioA o (i+1) r z
 | i,.agg _ :: r,z=>ioA o (i+1) r z
 | i,.fn _ _ :: r,z=>ioA o (i+1) r z
 | i,.nof _ :: r,z=>ioA o (i+1) r z
 | i,.os _ _ :: r,z=>ioA o (i+1) r z
def B0Y(Γ:m9)(st:St):ResultVar->Option (Prop×AV)
 | .tmp t=>match lku st.e t with
   | some ⟨[],a⟩=>some (True,a)
   | _=>none
 | .cell t ty=>match lku st.e t with
   | some ⟨[],p⟩=>match T8 st.o p with
     | some (cs,_)=>match lku Γ ty with
       | some ti=>match ldA ti cs with
         | some a=>some (d0S st.o p,a)
         | none=>none
       | none=>none
     | none=>none
   | _=>none
def m0i(Γ:m9)(st:St):List ResultVar->Option (Prop×List AV)
 | []=>some (True,[])
 | r :: rs=>match B0Y Γ st r with
   | some (q,a)=>match m0i Γ st rs with
     | some (q',l)=>some (q/\q',a :: l)
     | none=>none
   | none=>none
def y0P(tmps:Array Value):ResultVar->Sem Value
 | .tmp t=>pure (tmps.getD t undef)
 | .cell a t=>do loadVar t (<- asAddr (tmps.getD a undef))
theorem p0q{X:Cx}{Γ:m9}(hΓ:x6 X.P Γ){G:Gh}{st:St}{a:Act}(S:Sat X G)(ho:G.o=st.o)(hE:EnvR X.n G st.e a){r:ResultVar}{q:Prop}{b:AV}(h:B0Y Γ st r=some (q,b))(hq:q) :
  ∃v,(y0P a.tmps r).run X.P G.w=.ok v G.w/\AVR G b v:=by
 unfold B0Y at h;split at h
 ·rename_i t;split at h
  ·rename_i a0 hl;simp only[oi,pj] at h;obtain⟨rfl,rfl⟩:=h;exact⟨_,rfl,(hE.val t _ hl).1 (fun _ h=>by cases h)⟩
  ·cases h
 ·rename_i t ty;split at h
  ·rename_i p hl;split at h
   ·rename_i cs l hd;split at h
    ·rename_i ti hti;split at h
     ·rename_i av hld;simp only[oi,pj] at h;obtain⟨rfl,rfl⟩:=h;rw[<- ho] at hd hq;obtain⟨bk,o,us,hp,hat,hA⟩:=e0C S hd hq ((hE.val t _ hl).1 (fun _ h=>by cases h));obtain⟨hi,hl',_,_,hk⟩:=hΓ _ _ hti;have hk:=x0S hk;have key:∀v,(loadVar ty ⟨bk,o,none⟩).run X.P G.w=.ok v G.w->(y0P a.tmps (.cell t ty)).run X.P G.w=.ok v G.w:=fun v hv=>by
       have hp':a.tmps[t]?.getD undef=.pointer (some ⟨bk,o,none⟩):=by rw[<- hp,Array.getD_eq_getD_getElem?]
       simp[y0P,hp',asAddr,hv]
      unfold ldA at hld;rw[ce] at hld;split at hld
      ·rename_i hg;rw[ce] at hld;split at hld
       ·rename_i hle;simp only[oi] at hld; subst hld;have hle:=Nat.le_of_ble_eq_true hle
        haveI:E0d X.P ty:=⟨hk.1 hg⟩
        haveI:Info X.P ty ti.size ti.bytes ti.zero:=⟨hi⟩
        have hlen:=hA.len;exact⟨_,key _ (h0j (by rw[List.length_take]; omega) (m0N hat ti.size)),us.take ti.size,rfl,(hA.take _).1⟩
       ·cases hld
      ·rename_i hg;split at hld
       ·rename_i c r;simp only[oi] at hld; subst hld
        haveI:o0S X.P ty:=⟨hk.2 (by simpa using hg)⟩
        obtain⟨u,us',rfl,hu,_⟩:=hA;exact⟨u,key _ (h0i (by simpa using hat 0 u rfl)),hu⟩
       ·cases hld
     ·cases h
    ·cases h
   ·cases h
  ·cases h
theorem g0U{X:Cx}{Γ:m9}(hΓ:x6 X.P Γ){G:Gh}{st:St}{a:Act}(S:Sat X G)(ho:G.o=st.o)(hE:EnvR X.n G st.e a):∀{rs:List ResultVar} {q:Prop} {bs:List AV},m0i Γ st rs=some (q,bs)->q ->
  ∃vs,(rs.mapM (y0P a.tmps)).run X.P G.w=.ok vs G.w/\AVRs G bs vs/\vs.length=rs.length
 | [],q,bs,h,hq=>by
   simp only[m0i,oi,pj] at h;obtain⟨rfl,rfl⟩:=h;exact⟨[],rfl,rfl,rfl⟩
 | r :: rs,q,bs,h,hq=>by
   unfold m0i at h;split at h
   ·rename_i q1 b h1;split at h
    ·rename_i q2 l h2;simp only[oi,pj] at h;obtain⟨rfl,rfl⟩:=h;obtain⟨v,e1,hv⟩:=p0q hΓ S ho hE h1 hq.1;obtain⟨vs,e2,hvs,hl⟩:=g0U hΓ S ho hE h2 hq.2;exact⟨v :: vs,by simp[List.mapM_cons,e1,e2,Result.andThen],⟨v,vs,rfl,hv,hvs⟩,by simp[hl]⟩
    ·cases h
   ·cases h
def y0W:List AV->AV
 | [a]=>a
 | as'=>.tup as'
def F0C:List Value->Value
 | [v]=>v
 | vs=>.tuple vs.toArray
theorem e0y{G:Gh}{as':List AV}{vs:List Value}(h:AVRs G as' vs):AVR G (y0W as') (F0C vs):=by
 match as',vs,h with
 | [],vs,h=>have h:vs=[]:=h; subst h; exact⟨[],rfl,rfl⟩
 | [a],vs,⟨u,us,e,h1,h2⟩=>have h2:us=[]:=h2; subst h2; subst e; exact h1
 | a :: b :: r,vs,⟨u,us,e,h1,u2,us2,e2,h2,h3⟩=>subst e2; subst e; exact⟨u :: u2 :: us2,rfl,u,_,rfl,h1,u2,us2,rfl,h2,h3⟩
theorem g0T{fn:Func}{rs:List ResultVar}(hr:fn.results=rs.toArray){P:Program}{tmps:Array Value}{w:World}{vs:List Value}(h:(rs.mapM (y0P tmps)).run P w=.ok vs w):(results fn tmps).run P w=.ok (F0C vs) w:=by
 have hm:results fn tmps=(do
   let vs <- Array.mapM (y0P tmps) rs.toArray
   pure (if h:vs.size=1 then vs[0] else .tuple vs)):=by
  unfold results;rw[hr];congr 1
 have:(Array.mapM (y0P tmps) rs.toArray).run P w=.ok vs.toArray w:=by
  rw[List.mapM_toArray];simp[h,Result.andThen]
 rw[hm];simp only[Sem.run_bind,this,Result.andThen]
 match vs with
 | []=>rfl
 | [v]=>rfl
 | v :: u :: r=>rfl
def onceN:List (Option Nat)->Bool
 | []=>true
 | none :: r=>onceN r
 | some i :: r=>notInS i r&&onceN r
where notInS (i:Nat):List (Option Nat)->Bool
 | []=>true
 | none :: r=>notInS i r
 | some j :: r=>!(Nat.beq i j)&&notInS i r
def t0a(mv:List (Option Nat)):List Nat->Bool
 | []=>true
 | i :: r=>onceN.notInS i mv&&t0a mv r
theorem d0M{i:Nat}:∀{l:List (Option Nat)},onceN.notInS i l=true->some i ∉ l
 | [],_=>by simp
 | none :: r,h=>by
   have:=d0M (l:=r) h;simpa using this
 | some j :: r,h=>by
   simp only[onceN.notInS,ba,Bool.not_eq_true'] at h;have:=d0M h.2;simp only[List.mem_cons,oi,not_or];exact⟨fun e=>by subst e; simp at h,this⟩
theorem o0N{mv:List (Option Nat)}:∀{l:List Nat},t0a mv l=true->∀i∈l,some i ∉ mv
 | j :: r,h,i,hi=>by
   simp only[t0a,ba] at h;rcases List.mem_cons.1 hi with rfl | hi
   ·exact d0M h.1
   ·exact o0N h.2 i hi
theorem g0E{X:Cx}{G:Gh}(S:Sat X G):∀{mv:List (Option Nat)},onceN mv=true->z0Z G mv->i0g (U0 G mv)
 | [],_,_=>trivial
 | none :: r,h,ha=>⟨(fun b e=>by cases e),g0E S (mv:=r) h (fun i hi=>ha i (List.mem_cons_of_mem _ hi))⟩
 | some i :: r,h,ha=>by
   simp only[onceN,ba] at h;refine⟨fun b e hb=>?_,g0E S h.2 (fun i hi=>ha i (List.mem_cons_of_mem _ hi))⟩;have e:G.γ i=some b:=e;obtain⟨o,ho,hob⟩:=List.mem_map.1 hb;cases o with
   | none=>cases hob
   | some j =>
     have hob:G.γ j=some b:=hob;obtain⟨_,h1⟩:=ha i (by simp);obtain⟨_,h2⟩:=ha j (List.mem_cons_of_mem _ ho);have:=S.inj i j _ _ b h1 h2 e hob;subst this;exact d0M h.1 ho
def o0c(f:Nat->Bool):Option Nat->Bool
 | none=>true
 | some i=>f i
/- Data that lead nowhere. -/
mutual
def kfR:AV->Bool
 | .d _ t _=>D8 t
 | .ow _ _ t _=>D8 t
 | .ob _ xs=>A0v xs
 | .agg xs=>A0v xs
 | .tup xs=>A0v xs
 | _=>true
def A0v:List AV->Bool
 | []=>true
 | a :: r=>kfR a&&A0v r
end
mutual
theorem ResR.kf{K K':Bool->Nat->Prop}{w:World}:∀{a:AV} {u:Value} {gs:List (Option Nat)},kfR a=true->ResR K w a u gs->ResR K' w a u gs
 | .v _,_,_,_,h=>h
 | .d fr t x,u,gs,hf,⟨h,e⟩=>⟨RT.free (by simpa only[kfR] using hf) h,e⟩
 | .ow T fr t xs,u,gs,hf,⟨g,cs,h1,h2,h3,h4⟩=>⟨g,cs,h1,h2,h3,h4.mapR (fun c x h=>RT.free (by simpa only[kfR] using hf) h)⟩
 | .agg xs,u,gs,hf,⟨us,e,h⟩=>⟨us,e,ResRs.kf (by simpa only[kfR] using hf) h⟩
 | .ob T xs,u,gs,hf,⟨b,us,gs',e1,e2,h1,h⟩=>⟨b,us,gs',e1,e2,h1,ResRs.kf (by simpa only[kfR] using hf) h⟩
 | .tup xs,u,gs,hf,⟨us,e,h⟩=>⟨us,e,ResRs.kf (by simpa only[kfR] using hf) h⟩
theorem ResRs.kf{K K':Bool->Nat->Prop}{w:World}:∀{as':List AV} {us:List Value} {gs:List (Option Nat)},A0v as'=true->ResRs K w as' us gs->ResRs K' w as' us gs
 | [],_,_,_,h=>h
 | a :: r,us,gs,hf,⟨u,us',g1,g2,e1,e2,h1,h2⟩=>by
   simp only[A0v,ba] at hf;exact⟨u,us',g1,g2,e1,e2,ResR.kf hf.1 h1,ResRs.kf hf.2 h2⟩
end
def x0W(Γ:m9)(st:St)(rs:List ResultVar)(r:AV)(ps:List Par)(z:IOT ps):Prop :=
 match m0i Γ st rs with
 | some (q0,as')=>match K8 st.o (y0W as') r with
   | some (q,mv,fz)=>match ioA st.o 0 ps z with
     | some (q',fz',pin)=>bif onceN mv&&t0a mv (fz++fz')&&o0c (fun i=>k0U i (fz++fz')) pin&&(!giv ps||kfR r)&&o0c (fun i=>onceN.notInS i mv) pin then q0/\q/\q' else False
     | none=>False
   | none=>False
 | none=>False
def p0T(c:Ct)(x:w9 c.ps)(w:World)(go:Option Nat)(K:Nat->Prop)(en:Ending)(w':World):Prop :=
 ∃v gs,en=.returned v/\WE go w w'/\i0g gs/\(∀b,some b∈gs->w.heap.size<=b∨(giv c.ps=true/\go=some b))/\ResR (fun fr=>D0e fr K w w' gs) w' (c.res x).r v gs /\
  IOR (fun k=>(K k∨w.heap.size<=k)/\UFg w' w.heap.size k/\some k ∉ gs/\go≠some k) w' go c.ps (c.res x).z
theorem c0V{X:Cx}{G:Gh}(S:Sat X G){K' Kf:Nat->Prop}(hK:∀k,G.K k->K' k)(hf:∀k,K' k->Kf k){go:Option Nat}:∀{ps:List Par} {i:Nat} {z:IOT ps} {q:Prop} {fz:List Nat} {pin:Option Nat},¬giv ps=true->ioA G.o i ps z=some (q,fz,pin)->q->X.pin=q9 i ps go->((∃b,go=some b)∨pin=none) ->
  (∀id∈fz,(∃o,lku G.o id=some o)->∀b,G.γ id=some b->K' b)->IOR Kf G.w go ps z/\∀id,pin=some id->∃T cs,lku G.o id=some (.box T cs)/\G.γ id=go
 | .os _ _ :: _,_,_,_,_,_,hv,_,_,_,_,_=>(hv rfl).elim
 | [],i,z,q,fz,pin,_,h,hq,_,_,_=>by
   simp only[ioA,oi,pj] at h;obtain⟨_,_,rfl⟩:=h;exact⟨trivial,fun _ e=>by cases e⟩
 | .io T t :: r,i,z,q,fz,pin,_,h,hq,hp,hg,hz=>by
   unfold ioA at h;split at h
   ·rename_i T' cs ho;rw[ce] at h;split at h
    ·rename_i hT;have hT:=nb hT;subst hT;split at h
     ·rename_i y l fl hd;simp only[oi,pj] at h;obtain⟨rfl,rfl,rfl⟩:=h;obtain rfl:=hq;rcases hg with ⟨b,rfl⟩ | hg
      ·obtain⟨_,b',k1,k2⟩:=S.pin i _ hp;cases k2;obtain⟨b2,us,g1,g2,g3,g4⟩:=S.obs _ _ ho;rw[k1] at g2;cases g2;exact⟨⟨b,us,rfl,g3,RT.up (b0O S hK 24 hd (fun id hid=>hz id hid (c0F 24 hd id hid)) g4) (fun k hk=>hf k hk.1)⟩,fun id e=>by cases e; exact⟨_,_,ho,g1⟩⟩
      ·cases hg
     ·cases h
    ·cases h
   ·cases h
 | .dat t :: r,i,z,q,fz,pin,hv,h,hq,hp,hg,hz=>c0V (ps:=r) (i:=i+1) S hK hf hv h hq (by cases go <;> exact hp) hg hz
 | .agg t :: r,i,z,q,fz,pin,hv,h,hq,hp,hg,hz=>c0V (ps:=r) (i:=i+1) S hK hf hv h hq (by cases go <;> exact hp) hg hz
 | .fn f t :: r,i,z,q,fz,pin,hv,h,hq,hp,hg,hz=>c0V (ps:=r) (i:=i+1) S hK hf hv h hq (by cases go <;> exact hp) hg hz
 | .nof f :: r,i,z,q,fz,pin,hv,h,hq,hp,hg,hz=>c0V (ps:=r) (i:=i+1) S hK hf hv h hq (by cases go <;> exact hp) hg hz
theorem s0e{K:Nat->Prop}{w:World}{o:List (Nat×Ob)}:∀{ps:List Par} {i:Nat} {x:w9 ps} {vs:List Value} {go:Option Nat} {z:IOT ps} {q:Prop} {fz:List Nat} {pin:Option Nat},¬giv ps=true->ArgsR K w go ps x vs->ioA o i ps z=some (q,fz,pin)->(go=none/\pin=none)∨∃b j,go=some b/\pin=some j
 | .os _ _ :: _,_,_,_,_,_,_,_,_,hv,_,_=>(hv rfl).elim
 | [],i,x,vs,go,z,q,fz,pin,_,ha,h=>by
   simp only[ioA,oi,pj] at h;exact .inl ⟨ha.2,h.2.2.symm⟩
 | .io T t :: r,i,x,vs,go,z,q,fz,pin,_,⟨b,_,_,_,hg,_⟩,h=>by
   unfold ioA at h;split at h
   ·rw[ce] at h;split at h
    ·split at h
     ·simp only[oi,pj] at h;exact .inr ⟨b,_,hg,h.2.2.symm⟩
     ·cases h
    ·cases h
   ·cases h
 | .dat t :: r,i,x,vs,go,z,q,fz,pin,hv,⟨_,_,_,_,ha⟩,h=>s0e (ps:=r) (i:=i+1) hv ha h
 | .agg t :: r,i,x,vs,go,z,q,fz,pin,hv,⟨_,_,_,_,ha⟩,h=>s0e (ps:=r) (i:=i+1) hv ha h
 | .fn f t :: r,i,x,vs,go,z,q,fz,pin,hv,⟨_,_,_,_,ha⟩,h=>s0e (ps:=r) (i:=i+1) hv ha h
 | .nof f :: r,i,x,vs,go,z,q,fz,pin,hv,⟨_,_,ha⟩,h=>s0e (ps:=r) (i:=i+1) hv ha h
theorem s0x{P:Program}{n:Nat}{Γ:m9}(hΓ:x6 P Γ){c:Ct}{x:w9 c.ps}{w:World}{K:Nat->Prop}{go:Option Nat}{vs:List Value}(hob:Z8 c.ps=true)(ha:ArgsR K w go c.ps x vs)
  {fn:Func} {rs:List ResultVar} (hr:fn.results=rs.toArray) {st:St} (h:x0W Γ st rs (c.res x).r c.ps (c.res x).z) :
  ∀G a,Sat (cx P n ⟨w,fun k=>go=some k,K,q9 0 c.ps go,J4 c.ps w⟩) G->G.o=st.o->EnvR n G st.e a->a.defers=[]/\∃v,(results fn a.tmps).run P G.w=.ok v G.w/\p0T c x w go K (.returned v) G.w:=by
 intro G a S ho hE;unfold x0W at h;split at h
 ·rename_i q0 as' h0;split at h
  ·rename_i q mv fz h1;split at h
   ·rename_i q' fz' pin h2;rw[ce] at h;split at h
    ·rename_i hb;simp only[ba] at hb;obtain⟨⟨⟨⟨hb1,hb2⟩,hb3⟩,hb4⟩,hb5⟩:=hb;obtain⟨hq0,hq,hq'⟩:=h;obtain⟨us,e1,hu,_⟩:=g0U (X:=cx P n ⟨w,fun k=>go=some k,K,q9 0 c.ps go,J4 c.ps w⟩) hΓ S ho hE h0 hq0;rw[<- ho] at h1 h2;have hap:=o0N hb2;obtain⟨_,har⟩:=d0Z (K':=fun _=>True) (Kf:=fun _ _=>True) S (fun _ _=>trivial) (fun _ _ _=>trivial) h1 hq (fun _ _ _ _ _=>trivial) (e0y hu);have hgs:∀k,some k∈U0 G mv->∃id,some id∈mv/\G.γ id=some k:=fun k hk=>by
      obtain⟨o,h1,h2⟩:=List.mem_map.1 hk;cases o with
      | none=>cases h2
      | some id=>exact⟨id,h1,h2⟩
     by_cases hgv:giv c.ps=true
     ·obtain⟨hR,_⟩:=d0Z (K':=fun _=>True) (Kf:=fun _ _=>True) S (fun _ _=>trivial) (fun _ _ _=>trivial) h1 hq (fun _ _ _ _ _=>trivial) (e0y hu);rw[hgv,Bool.not_true,Bool.false_or] at hb4;refine⟨hE.defers,_,g0T hr e1,_,U0 G mv,rfl,⟨S.os,S.tape,S.output,S.size,fun k hk hg=>S.block k hk hg⟩,g0E S hb1 har,fun b hb=>?_,ResR.kf hb4 hR,h0o hob hgv⟩;obtain⟨j,j1,j2⟩:=hgs b hb;obtain⟨_,j3⟩:=har j j1;rcases S.own j _ b j3 j2 with h | h
      ·exact .inl h
      ·exact .inr ⟨hgv,h⟩
     have hb0:=h0K (w:=w) hgv;have hio:=s0e hgv ha h2;obtain⟨_,hpin⟩:=c0V (K':=fun _=>True) (Kf:=fun _=>True) (go:=go) S (fun _ _=>trivial) (fun _ _=>trivial) hgv h2 hq' rfl (by
      rcases hio with ⟨_,h⟩ | ⟨b,j,h,_⟩
      ·exact .inr h
      ·exact .inl ⟨b,h⟩) (fun _ _ _ _ _=>trivial)
     have hfz:∀id∈fz++fz',∀o,lku G.o id=some o->∀k,G.γ id=some k->w.heap.size<=k/\UFg G.w w.heap.size k/\some k ∉ U0 G mv/\go≠some k:=fun id hid o ho' k hk=>by
      have hgo:go≠some k:=fun e=>by
       rcases hio with ⟨h,_⟩ | ⟨b,j,h,hj⟩
       ·rw[h] at e; cases e
       ·obtain⟨T,cs,k1,k2⟩:=hpin j hj;have:=S.inj id j _ _ k ho' k1 hk (k2.trans e);subst this;rw[hj] at hb3;exact d0o hb3 hid
      refine⟨?_,?_,?_,hgo⟩
      ·rcases S.own id o k ho' hk with h | h
       ·exact h
       ·exact(hgo h).elim
      ·have:=S.obs id o ho';cases o with
       | box T cs=>obtain⟨b',us,h1,h2,h3,h4⟩:=this; rw[hk] at h1; cases h1; exact(s0U h3).g
       | arr T fr t xs ver=>obtain⟨cs,h1,h2,_⟩:=this; rw[hk] at h1; exact(g0f h1).g
       | grd T Te fr t xs hole=>obtain⟨vs,bs,h1,_⟩:=this; rw[hk] at h1; exact(g0f h1).g
      ·intro hm;obtain⟨j,j1,j2⟩:=hgs k hm;obtain⟨_,j3⟩:=har j j1;have:=S.inj id j _ _ k ho' j3 hk j2;subst this;exact hap id hid j1
     have hKk:∀k,G.K k->(K k∨w.heap.size<=k)/\UFg G.w w.heap.size k/\some k ∉ U0 G mv/\go≠some k:=fun k hk=>by
      refine⟨by
       have h:K k∨J4 c.ps w<=k:=S.kfrom k hk
       rwa [hb0] at h,S.klt k hk,fun hm=>?_,fun e=>?_⟩
      ·obtain⟨j,j1,j2⟩:=hgs k hm;obtain⟨_,j3⟩:=har j j1;exact S.imm j _ k j3 j2 hk
      ·rcases hio with ⟨h,_⟩ | ⟨b,j,h,hj⟩
       ·rw[h] at e; cases e
       ·obtain⟨T,cs,k1,k2⟩:=hpin j hj;exact S.imm j _ k k1 (k2.trans e) hk
     let K':Nat->Prop:=fun k=>G.K k∨∃id∈fz++fz',G.γ id=some k/\∃o,lku G.o id=some o
     have hK'f:∀k,K' k->(K k∨w.heap.size<=k)/\UFg G.w w.heap.size k/\some k ∉ U0 G mv/\go≠some k:=fun k hk=>by
      rcases hk with hk | ⟨id,hid,hk,o,ho'⟩
      ·exact hKk k hk
      ·obtain⟨a1,a2⟩:=hfz id hid o ho' k hk;exact⟨.inr a1,a2⟩
     obtain⟨hR,_⟩:=d0Z (K':=K') (Kf:=fun fr=>D0e fr K w G.w (U0 G mv)) S (fun _ h=>.inl h) (fun fr k hk=>by
      obtain⟨a1,a2,a3,_⟩:=hK'f k hk.1;refine⟨?_,a2,a3⟩;cases fr with
      | false =>
        rcases a1 with h | h
        ·exact .inl ⟨rfl,h⟩
        ·exact .inr h
      | true=>exact .inr (by
        have h:G.B<=k:=hk.2 rfl;have e:G.B=J4 c.ps w:=S.base.1;rw[e,hb0] at h;exact h)) h1 hq (fun id hid ⟨o,ho'⟩ b hb=>.inr ⟨id,by simp[hid],hb,o,ho'⟩) (e0y hu)
     obtain⟨hI,_⟩:=c0V (K':=K') (Kf:=fun k=>(K k∨w.heap.size<=k)/\UFg G.w w.heap.size k/\some k ∉ U0 G mv/\go≠some k) (go:=go) S (fun _ h=>.inl h) hK'f hgv h2 hq' rfl (by
      rcases hio with ⟨_,h⟩ | ⟨b,j,h,_⟩
      ·exact .inr h
      ·exact .inl ⟨b,h⟩) (fun id hid ⟨o,ho'⟩ b hb=>.inr ⟨id,by simp[hid],hb,o,ho'⟩)
     refine⟨hE.defers,_,g0T hr e1,_,U0 G mv,rfl,⟨S.os,S.tape,S.output,S.size,fun k hk hg=>S.block k hk hg⟩,g0E S hb1 har,fun b hb=>?_,hR,hI⟩;obtain⟨j,j1,j2⟩:=hgs b hb;obtain⟨_,j3⟩:=har j j1;rcases S.own j _ b j3 j2 with h | h
     ·exact .inl h
     ·have h:go=some b:=h;rcases hio with ⟨h',_⟩ | ⟨b',i',h',hj⟩
      ·rw[h'] at h; cases h
      ·obtain⟨T,cs,k1,k2⟩:=hpin i' hj;have:=S.inj i' j _ _ b k1 j3 (k2.trans h) j2;subst this;rw[hj] at hb5;exact(d0M hb5 j1).elim
    ·exact h.elim
   ·exact h.elim
  ·exact h.elim
 ·exact h.elim
def wfs:(ps:List Par)->w9 ps->Prop
 | [],_=>True
 | .dat t :: r,x=>wf t x.1/\wfs r x.2
 | .agg t :: r,x=>wf t x.1/\wfs r x.2
 | .fn _ c :: r,x=>wf c x.1/\wfs r x.2
 | .nof _ :: r,x=>wfs r x.2
 | .io _ t :: r,x=>wf t x.1/\wfs r x.2
 | .os _ t :: r,x=>wf (.sl t) x.1/\wfs r x.2
theorem x0J{K:Nat->Prop}{w:World}{E s:Nat}{t:Ty}{g:Option Nat}{v:Value}{cs:List Value}{xs:List (den t)}(h:Own w E s g v xs.length cs)(hA:AllR (RT K w t) cs xs):wf (.sl t) xs:=by
 refine⟨?_,fun x hx=>?_⟩
 ·rcases h with ⟨_,h,_⟩ | ⟨b,o,cap,cur,_,_,_,h1,h2,_⟩
  ·rw[h]; exact Nat.zero_le _
  ·simp only[maxLen] at h2;exact Nat.le_trans h1 h2
 ·obtain⟨c,hc⟩:=hA.mem x hx;exact RT.wf hc
theorem ArgsR.wfs{K:Nat->Prop}{w:World}:∀{ps:List Par} {x:w9 ps} {vs:List Value} {go:Option Nat},ArgsR K w go ps x vs->Xv.wfs ps x
 | [],_x,_vs,_go,_h=>trivial
 | .dat _t :: _r,_x,_vs,_go,⟨_v,_us,_e,h1,h⟩=>⟨RT.wf h1,ArgsR.wfs h⟩
 | .agg _t :: _r,_x,_vs,_go,⟨_v,_us,_e,h1,h⟩=>⟨RT.wf h1,ArgsR.wfs h⟩
 | .fn _f _t :: _r,_x,_vs,_go,⟨_v,_us,_e,h1,h⟩=>⟨RT.wf h1,ArgsR.wfs h⟩
 | .nof _f :: r,_x,_vs,_go,⟨_us,_e,h⟩=>ArgsR.wfs (ps:=r) h
 | .io _T _t :: _r,_x,_vs,_go,⟨_b,_cs,_us,_e,_,_,_,h1,h⟩=>⟨RT.wf h1,ArgsR.wfs h⟩
 | .os _E _t :: _r,_x,_vs,_go,⟨_v,_cs,_us,_e,_,_,h1,h2,h⟩=>⟨x0J h1 h2,ArgsR.wfs h⟩
theorem E0u{P:Program}{Γ:m9}(hΓ:x6 P Γ){c:Ct}{fn:Func}{code:Code}{n:Nat}(rs:List ResultVar)(hf:P.funcs[c.f]?=some fn)(hn:fn.ntmps=n)(hb:fn.body=some code)(hr:fn.results=rs.toArray)(he:d0Q P c.f=true)(hle:(Nat.ble c.ps.length n&&Z8 c.ps)=true)
  (h:∀y x,(c.res x).q->Xv.wfs c.ps x->∀Q,(∀st,x0W Γ st rs (c.res x).r c.ps (c.res x).z->FX (cx P n y) st .normal Q/\FX (cx P n y) st .ret Q)->VX (cx P n y) ⟨O8 0 c.ps x,I1 0 c.ps x⟩ code Q):Ok P c:=by
 refine⟨he,fun x hq w vs go K hK ha=>?_⟩;rw[ba] at hle;obtain⟨hle,hob⟩:=hle;have hle:=Nat.le_of_ble_eq_true hle;have hlen:=ha.len;refine calls_of_wp hf hb ?_;have:=h ⟨w,fun k=>go=some k,K,q9 0 c.ps go,J4 c.ps w⟩ x hq ha.wfs (bodyPost P fn (p0T c x w go K)) (fun st hst=>?_) (GhS K w go (X7 c.ps vs) (J4 c.ps w) (I1 0 c.ps x)) { tmps:=vs.toArray++Array.replicate (fn.ntmps-vs.toArray.size) undef,defers:=[] } (k0D hK ha) rfl ⟨rfl,by simp[hn]; omega,fun t s ht=>?_⟩
 ·exact this
 ·exact⟨fun G a S ho hE=>s0x hΓ hob ha hr hst G a S ho hE,fun G a S ho hE=>s0x hΓ hob ha hr hst G a S ho hE⟩
 ·obtain⟨_,a2,u,a3,a4⟩:=b0Y (i:=0) (o:=I1 0 c.ps x) (r0:=X7 c.ps vs) (B:=J4 c.ps w) (g0:=go) hob ha (fun _=>rfl) (fun z hz=>by
   rcases c0p (i:=0) ha with ⟨h0,_⟩ | ⟨j,b,T,t,z',cs,h0,_⟩ | ⟨j,E,t,xs,cs,h0,_⟩
   ·rw[h0] at hz; cases hz
   ·rw[h0] at hz ⊢;cases List.mem_singleton.1 hz;rw[lK,if_pos rfl]
   ·rw[h0] at hz ⊢;cases List.mem_singleton.1 hz;rw[lK,if_pos rfl]) t s ht
  rw[a2];refine⟨fun _=>?_,fun hn=>(hn (fun _ h=>by cases h)).elim⟩;have hlt:t<vs.length:=by
   rcases Nat.lt_or_ge t vs.length with h' | h'
   ·exact h'
   ·rw[List.getElem?_eq_none (by omega)] at a3; cases a3
  rw[Array.getD_eq_getD_getElem?,Array.getElem?_append_left (by simpa using hlt)];simp only[Nat.sub_zero] at a3;simpa [a3] using a4
end Go.Proofs.Xv
end
