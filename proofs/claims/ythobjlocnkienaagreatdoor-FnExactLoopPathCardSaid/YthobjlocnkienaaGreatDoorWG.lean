/- Graphs that have a node; the links to a node: both ways. -/
import Derived.Test.YthobjlocnkienaaGreatDoorWF
import Derived.Test.YthobjlocnkienaaGreatDoorWC
import Derived.Test.YthobjlocnkienaaGreatDoorFn23c
section
namespace Go.Proofs.YthobjlocnkienaaGreatDoor
open Go Go.Proofs Go.Proofs.Sv Go.Proofs.Xv Go.Proofs.Xl Go.Proofs.Xd
def codeN (b:Y46) (br:List Int) (a:Int):Int:=if codeG b br=0 then (if inB a 0 ((nodN b:Int) - 1)=true then 0 else 4) else codeG b br
theorem codeN_ok {b:Y46} {br:List Int} {a:Int} (h:codeN b br a=0):codeG b br=0/\inB a 0 ((nodN b:Int) - 1)=true:=by
 unfold codeN at h
 split at h
 ·rename_i hc
  split at h
  ·rename_i hr; exact ⟨hc,hr⟩
  ·cases h
 ·contradiction
theorem r58 (b:Y46) (hw:wf y46 b) (hm:cnt y46 b<=1048576) (br:List Int) (hl:br.length<=1048576) (a:Int):u58 b br a=some (codeN b br a):=by
 unfold u58 codeN
 rw [r53 b hw hm br hl,vS,gP ⟨rfl,trivial⟩,lE]
 by_cases h:codeG b br=0
 ·obtain ⟨hb,hr⟩:=codeG_ok h
  have hN:=nod_le b hb
  rw [h]
  refine (if_neg (by decide)).trans ?_
  rw [r61 b hw hb,vS,r102]
  refine (gP ⟨rfl,oo,rfl,trivial⟩).trans ?_
  rw [vS,if_pos rfl]
  cases inB a 0 ((nodN b:Int) - 1) <;> rfl
 ·rw [if_neg h]
  exact if_pos (by simp [h])
theorem r85 {b:Y46} (hb:blockOk b=true) (a:Int):u85 (viewV b) a=some (inB a 0 ((nodN b:Int) - 1)):=by
 have hN:=nod_le b hb
 unfold u85
 rw [r86 b hb,vS]
 refine (gP ⟨rfl,oo,rfl,trivial⟩).trans ?_
 rw [r138,vS]
theorem r42 (b:Y46) (hw:wf y46 b) (hm:cnt y46 b<=1048576) (br:List Int) (hl:br.length<=1048576) (a:Int):u42 b br a=some (if codeN b br a=0 then .inr ((viewV b,liveV (lV b).length br),0) else .inl (codeN b br a)):=by
 unfold u42 codeN
 rw [r56 b hw hm br hl]
 by_cases h:codeG b br=0
 ·obtain ⟨hb,hr⟩:=codeG_ok h
  rw [if_pos h,if_pos h]
  refine (if_neg (by simp [isL])).trans ((gP ⟨rfl,trivial⟩).trans ?_)
  show gd (((((0:Int)==0)=true/\True->(u85 (viewV b) a).isSome=true)/\True)) (if (((0:Int)==0)&&!vl (u85 (viewV b) a))=true then _ else _)=_
  rw [r85 hb,vS]
  refine (gP ⟨fun _=>rfl,trivial⟩).trans ?_
  cases inB a 0 ((nodN b:Int) - 1) <;> rfl
 ·rw [if_neg h,if_neg h]
  refine (if_pos rfl).trans ((gP ⟨rfl,trivial⟩).trans ?_)
  refine (if_neg (by show ¬ ((codeG b br==0)=true); simp [h])).trans ?_
  rw [if_neg h]
  rfl
section
variable {b:Y46}
theorem r126c182 (hb:blockOk b=true) {lv:List Bool} (hlv:lv.length=(lV b).length) (a:Nat):u126c182 (viewV b,lv) (a:Int)=some (idxV (fun i=>lv.getD i false&&toN b i==a) (lV b).length):=by
 have hM:=links_len hb
 refine (lF (n:=(lV b).length) (by omega) (fun i (s:List Int)=>(s,(i:Int))) (fun i s=>if (lv.getD i false&&toN b i==a)=true then s++[(i:Int)] else s) (fun i s=>s.length<=i) (J:=fun s=>some s) (F:=u126c182L1 (viewV b,lv) (a:Int)) (fun g i s hi hs=>?_) (fun i s _ hs=>?_) (fun g s _=>if_neg (by simp [viewV])) [] (Nat.le_refl _)).trans (congrArg some (idxV_fold _ _))
 ·have e3:((i:Int)).toNat=i:=rfl
  have hx:ix (i:Int) (viewV b).2.2.1.length:=⟨by omega,by show (i:Int) < ((lV b).length:Int); omega⟩
  refine (if_pos (decide_eq_true hx.2)).trans ((gP ⟨hx,trivial⟩).trans ?_)
  rw [lE]
  refine (gP ⟨⟨by omega,by show (i:Int) < (lv.length:Int); omega⟩,(fun _=>rfl),trivial⟩).trans ?_
  obtain ⟨_,f2,_⟩:=frto b hb hi
  have ef:(((lV b).getD i (dflt y107)).2.1==(a:Int))=(toN b i==a):=by
   rw [f2,Bool.eq_iff_iff,beq_iff_eq,beq_iff_eq]; omega
  show (if (lv.getD i false&&(((lV b).getD i (dflt y107)).2.1==(a:Int)))=true then _ else _)=_
  rw [ef]
  by_cases h:(lv.getD i false&&toN b i==a)=true
  ·rw [if_pos h,if_pos h]
   refine (gP ⟨⟨by simp only [List.length_singleton]; omega,by simp only [List.length_singleton]; omega⟩,trivial⟩).trans ?_
   exact gP ⟨oo,trivial⟩
  ·rw [if_neg h,if_neg h]
   exact gP ⟨oo,trivial⟩
 ·show (if (lv.getD i false&&toN b i==a)=true then s++[(i:Int)] else s).length<=i+1
  split
  ·rw [List.length_append,List.length_singleton]; omega
  ·omega
theorem r151 (hb:blockOk b=true) {lv:List Bool} (hlv:lv.length=(lV b).length) (a:Nat):u151 (viewV b,lv) (a:Int)=some (idxV (fun i=>lv.getD i false&&toN b i==a) (lV b).length):=by
 unfold u151
 rw [r126c182 hb hlv,vS,gP ⟨rfl,trivial⟩,lE]
end
theorem nat_of {a x:Int} (h:inB a 0 x=true):a=(a.toNat:Int):=by
 unfold inB at h
 simp only [ba,dq] at h
 omega
end Go.Proofs.YthobjlocnkienaaGreatDoor
end
section
namespace Go.Proofs.Xd
open Go.Proofs.Xl
inductive Rch (M:Nat) (fr to:Nat->Nat) (lv:Nat->Bool) (s:Nat):Nat->Prop
 | refl:Rch M fr to lv s s
 | step {i:Nat}:Rch M fr to lv s (fr i)->i < M->lv i=true->Rch M fr to lv s (to i)
theorem Rch.trans {M:Nat} {fr to:Nat->Nat} {lv:Nat->Bool} {a b c:Nat} (h:Rch M fr to lv a b) (k:Rch M fr to lv b c):Rch M fr to lv a c:=by
 induction k with
 | refl=>exact h
 | step _ hi hl ih=>exact ih.step hi hl
theorem Rch.one {M:Nat} {fr to:Nat->Nat} {lv:Nat->Bool} {i:Nat} (hi:i < M) (hl:lv i=true):Rch M fr to lv (fr i) (to i):=Rch.refl.step hi hl
theorem Rch.head {M:Nat} {fr to:Nat->Nat} {lv:Nat->Bool} {i c:Nat} (hi:i < M) (hl:lv i=true) (k:Rch M fr to lv (to i) c):Rch M fr to lv (fr i) c:=(Rch.one hi hl).trans k
theorem Rch.back {M:Nat} {fr to:Nat->Nat} {lv:Nat->Bool} {a b:Nat} (h:Rch M fr to lv a b):Rch M to fr lv b a:=by
 induction h with
 | refl=>exact .refl
 | step _ hi hl ih=>exact Rch.head hi hl ih
theorem Rch.lt {M N:Nat} {fr to:Nat->Nat} {lv:Nat->Bool} (ht:∀ i,i < M->to i < N) {a b:Nat} (h:Rch M fr to lv a b) (ha:a < N):b < N:=by
 cases h with
 | refl=>exact ha
 | step _ hi _=>exact ht _ hi
section
variable (M N:Nat) (fr to:Nat->Nat) (lv:Nat->Bool)
def RB (s:Nat) (L:List Bool):Prop:=L.length=N/\∀ v,v < N->(L.getD v false=true↔Rch M fr to lv s v)
structure RI (s:Nat) (r:List Bool):Prop where
 len:r.length=N
 src:r.getD s false=true
 snd:∀ v,r.getD v false=true->Rch M fr to lv s v
theorem RI.done {M N:Nat} {fr to:Nat->Nat} {lv:Nat->Bool} {s:Nat} {r:List Bool} (h:RI M N fr to lv s r) (hc:∀ i,i < M->lv i=true->r.getD (fr i) false=true->r.getD (to i) false=true):RB M N fr to lv s r :=
 ⟨h.len,fun v hv=>⟨h.snd v,fun hr=>by
   clear hv
   induction hr with
   | refl=>exact h.src
   | step _ hi hl ih=>exact hc _ hi hl ih⟩⟩
def cntU (r:List Bool):Nat:=(List.range M).countP fun i=>lv i&&!r.getD (fr i) false
structure QI (s:Nat) (q:List Int×List Bool):Prop where
 len:q.2.length=N
 mem:∀ x∈q.1,0<=x/\x.toNat < N/\Rch M fr to lv s x.toNat
 snd:∀ v,q.2.getD v false=true->Rch M fr to lv s v
 src:q.2.getD s false=true∨(s:Int)∈q.1
 cls:∀ i,i < M->lv i=true->q.2.getD (fr i) false=true->q.2.getD (to i) false=true∨(to i:Int)∈q.1
 cnt:q.1.length+cntU M fr lv q.2<=M+1
end
theorem fold_filter {σ:Type} (g:σ->Nat->σ) (p:Nat->Bool) (s:σ):∀ m,fN (fun i s=>if p i=true then g s i else s) m s=((List.range m).filter p).foldl g s
 | 0=>rfl
 | m+1=>by
   show (if p m=true then g (fN _ m s) m else fN _ m s)=_
   rw [fold_filter g p s m,List.range_succ,List.filter_append,List.foldl_append]
   by_cases h:p m=true
   ·simp [h]
   ·simp [h]
theorem setI_get {o:List Int} {i v:Nat} (x:Int) (hi:i < o.length):(o.set i x).getD v 0=if v=i then x else o.getD v 0:=by
 by_cases h:v=i
 ·subst h; simp [hi]
 ·rw [if_neg h]; simp [gq,List.getElem?_set_ne (Ne.symm h)]
def cntS (d:List Int):Nat:=d.countP fun x=>decide (0<=x)
theorem cntS_set {d:List Int} {i:Nat} {x:Int} (hi:i < d.length) (h:d.getD i 0 < 0) (hx:0<=x):cntS (d.set i x)=cntS d+1:=by
 induction d generalizing i with
 | nil=>simp at hi
 | cons a t ih =>
   cases i with
   | zero =>
     simp only [List.getD_cons_zero] at h
     have ha:decide (0<=a)=false:=decide_eq_false (by omega)
     have hx':decide (0<=x)=true:=decide_eq_true hx
     unfold cntS
     rw [List.set_cons_zero,List.countP_cons,List.countP_cons,ha,hx']
     simp
   | succ i =>
     have:=ih (i:=i) (by simpa using hi) (by simpa using h)
     unfold cntS at this ⊢
     rw [List.set_cons_succ,List.countP_cons,List.countP_cons,this]
     omega
theorem cntS_le (d:List Int):cntS d<=d.length:=List.countP_le_length
section
variable (M N:Nat) (fr to:Nat->Nat) (lv:Nat->Bool)
structure DI (s:Nat) (o d:List Int):Prop where
 len:d.length=N
 src:d.getD s 0=0
 lo:∀ v,v < N -> -1<=d.getD v 0
 zero:∀ v,v < N->d.getD v 0=0->v=s
 mem:∀ x∈o,0<=x/\x.toNat < N/\0<=d.getD x.toNat 0
 top:∀ x∈o,∀ v,v < N->d.getD v 0<=d.getD x.toNat 0+1
 srt:o.Pairwise fun x y=>d.getD x.toNat 0<=d.getD y.toNat 0
 cls:∀ i,i < M->lv i=true->0<=d.getD (to i) 0->(to i:Int)∈o∨(0<=d.getD (fr i) 0/\d.getD (fr i) 0<=d.getD (to i) 0+1)
 pre:∀ v,v < N->0 < d.getD v 0->∃ i,i < M/\lv i=true/\fr i=v/\d.getD (to i) 0=d.getD v 0 - 1
 bd:∀ v,v < N->d.getD v 0 < (cntS d:Int)
def dE (x:Nat) (s:List Int×List Int) (i:Nat):List Int×List Int:=if s.2.getD (fr i) 0 < 0 then (s.1++[(fr i:Int)],s.2.set (fr i) (s.2.getD x 0+1)) else s
theorem DI.step {M N:Nat} {fr to:Nat->Nat} {lv:Nat->Bool} (hf:∀ i,i < M->fr i < N) {s:Nat} (hs:s < N) {x:Nat} {t d:List Int} (h:DI M N fr to lv s ((x:Int) :: t) d) {i:Nat} (hi:i < M) (hl:lv i=true) (hx:to i=x) :
  ∃ t',(dE fr x ((x:Int) :: t,d) i).1=(x:Int) :: t'/\DI M N fr to lv s ((x:Int) :: t') (dE fr x ((x:Int) :: t,d) i).2 /\
    t'.length+1+(N - cntS (dE fr x ((x:Int) :: t,d) i).2)<=t.length+1+(N - cntS d) /\
    0<=(dE fr x ((x:Int) :: t,d) i).2.getD (fr i) 0/\∀ v,0<=d.getD v 0->(dE fr x ((x:Int) :: t,d) i).2.getD v 0=d.getD v 0:=by
 unfold dE
 show ∃ t',(if d.getD (fr i) 0 < 0 then _ else _:List Int×List Int).1=_/\_
 by_cases hd:d.getD (fr i) 0 < 0
 ·rw [if_pos hd]
  have hv:fr i < d.length:=by rw [h.len]; exact hf i hi
  have hg:=fun w=>setI_get (v:=w) (d.getD x 0+1) hv
  obtain ⟨_,m2,m3⟩:=h.mem (x:Int) (by simp)
  rw [Int.toNat_natCast] at m2 m3
  have hc:=cntS_set hv hd (x:=d.getD x 0+1) (by omega)
  have hcl:cntS (d.set (fr i) (d.getD x 0+1))<=N:=by
   have:=cntS_le (d.set (fr i) (d.getD x 0+1))
   rwa [List.length_set,h.len] at this
  have old:∀ w,0<=d.getD w 0->(d.set (fr i) (d.getD x 0+1)).getD w 0=d.getD w 0:=fun w hw=>by
   rw [hg,if_neg (fun e=>by rw [e] at hw; omega)]
  have hxo:=old x m3
  have hTop:=h.top (x:Int) (by simp)
  rw [Int.toNat_natCast] at hTop
  refine ⟨t++[(fr i:Int)],rfl,⟨by rw [List.length_set]; exact h.len,?_,fun v hv=>?_,fun v hv hz=>?_,fun y hy=>?_,fun y hy v hv=>?_,?_,fun j hj hlj hz=>?_,fun v hv hp=>?_,fun v hv=>?_⟩,?_,?_,old⟩
  ·rw [old s (by rw [h.src]; omega)]; exact h.src
  ·show -1<=(d.set (fr i) (d.getD x 0+1)).getD v 0
   rw [hg]; split
   ·omega
   ·exact h.lo v hv
  ·have hz:(d.set (fr i) (d.getD x 0+1)).getD v 0=0:=hz
   rw [hg] at hz
   split at hz
   ·omega
   ·exact h.zero v hv hz
  ·show 0<=y/\y.toNat < N/\0<=(d.set (fr i) (d.getD x 0+1)).getD y.toNat 0
   have hy:y∈((x:Int) :: t)++[(fr i:Int)]:=hy
   rcases List.mem_append.1 hy with hy | hy
   ·obtain ⟨a1,a2,a3⟩:=h.mem y hy
    exact ⟨a1,a2,by rw [old _ a3]; exact a3⟩
   ·rw [List.mem_singleton.1 hy,Int.toNat_natCast,hg,if_pos rfl]
    exact ⟨by omega,hf i hi,by omega⟩
  ·show (d.set (fr i) (d.getD x 0+1)).getD v 0<=(d.set (fr i) (d.getD x 0+1)).getD y.toNat 0+1
   have hy:y∈((x:Int) :: t)++[(fr i:Int)]:=hy
   have key:(d.set (fr i) (d.getD x 0+1)).getD v 0<=d.getD x 0+1:=by
    rw [hg]; split
    ·omega
    ·exact hTop v hv
   rcases List.mem_append.1 hy with hy | hy
   ·obtain ⟨a1,a2,a3⟩:=h.mem y hy
    rw [old _ a3]
    have hle:d.getD x 0<=d.getD y.toNat 0:=by
     rcases List.mem_cons.1 hy with e | e
     ·rw [e,Int.toNat_natCast]; omega
     ·have:=(List.pairwise_cons.1 h.srt).1 y e
      rwa [Int.toNat_natCast] at this
    omega
   ·rw [List.mem_singleton.1 hy,Int.toNat_natCast,show (d.set (fr i) (d.getD x 0+1)).getD (fr i) 0=d.getD x 0+1 by rw [hg,if_pos rfl]]
    omega
  ·show (((x:Int) :: t)++[(fr i:Int)]).Pairwise fun a b=>(d.set (fr i) (d.getD x 0+1)).getD a.toNat 0<=(d.set (fr i) (d.getD x 0+1)).getD b.toNat 0
   rw [List.pairwise_append]
   refine ⟨h.srt.imp_of_mem (fun ha hb hab=>?_),List.pairwise_singleton _ _,fun a ha b hb=>?_⟩
   ·rw [old _ (h.mem _ ha).2.2,old _ (h.mem _ hb).2.2]; exact hab
   ·rw [List.mem_singleton.1 hb,Int.toNat_natCast,show (d.set (fr i) (d.getD x 0+1)).getD (fr i) 0=d.getD x 0+1 by rw [hg,if_pos rfl]]
    obtain ⟨a1,a2,a3⟩:=h.mem a ha
    rw [old _ a3]
    exact hTop _ a2
  ·show (to j:Int)∈((x:Int) :: t)++[(fr i:Int)]∨_
   have hz:0<=(d.set (fr i) (d.getD x 0+1)).getD (to j) 0:=hz
   by_cases e:to j=fr i
   ·left; rw [e]; exact List.mem_append_right _ (by simp)
   ·rw [hg,if_neg e] at hz
    rcases h.cls j hj hlj hz with h' | ⟨b1,b2⟩
    ·exact .inl (List.mem_append_left _ h')
    ·right
     show 0<=(d.set (fr i) (d.getD x 0+1)).getD (fr j) 0/\(d.set (fr i) (d.getD x 0+1)).getD (fr j) 0<=(d.set (fr i) (d.getD x 0+1)).getD (to j) 0+1
     rw [old _ b1,old _ hz]; exact ⟨b1,b2⟩
  ·have hp:0 < (d.set (fr i) (d.getD x 0+1)).getD v 0:=hp
   show ∃ j,j < M/\lv j=true/\fr j=v/\(d.set (fr i) (d.getD x 0+1)).getD (to j) 0=(d.set (fr i) (d.getD x 0+1)).getD v 0 - 1
   by_cases e:v=fr i
   ·refine ⟨i,hi,hl,e.symm,?_⟩
    rw [hx,hxo,hg,if_pos e]; omega
   ·rw [hg,if_neg e] at hp ⊢
    obtain ⟨j,j1,j2,j3,j4⟩:=h.pre v hv hp
    exact ⟨j,j1,j2,j3,by rw [old _ (by omega)]; exact j4⟩
  ·show (d.set (fr i) (d.getD x 0+1)).getD v 0 < (cntS (d.set (fr i) (d.getD x 0+1)):Int)
   rw [hc,hg]
   have b1:=h.bd x m2
   split
   ·omega
   ·have:=h.bd v hv; omega
  ·show (t++[(fr i:Int)]).length+1+(N - cntS (d.set (fr i) (d.getD x 0+1)))<=_
   rw [hc] at hcl ⊢
   rw [List.length_append,List.length_singleton]
   omega
  ·show 0<=(d.set (fr i) (d.getD x 0+1)).getD (fr i) 0
   rw [hg,if_pos rfl]; omega
 ·rw [if_neg hd]
  exact ⟨t,rfl,h,Nat.le_refl _,by show 0<=d.getD (fr i) 0; omega,fun _ _=>rfl⟩
def inL (x:Nat):List Nat:=(List.range M).filter fun i=>lv i&&to i==x
theorem mem_inL {x i:Nat}:i∈inL M to lv x↔i < M/\lv i=true/\to i=x:=by
 unfold inL
 rw [List.mem_filter,List.mem_range]
 simp
theorem DI.steps {M N:Nat} {fr to:Nat->Nat} {lv:Nat->Bool} (hf:∀ i,i < M->fr i < N) {s:Nat} (hs:s < N) {x:Nat}:∀ (l:List Nat) {t d:List Int},(∀ i∈l,i < M/\lv i=true/\to i=x)->DI M N fr to lv s ((x:Int) :: t) d ->
  ∃ t',(l.foldl (dE fr x) ((x:Int) :: t,d)).1=(x:Int) :: t'/\DI M N fr to lv s ((x:Int) :: t') (l.foldl (dE fr x) ((x:Int) :: t,d)).2 /\
    t'.length+1+(N - cntS (l.foldl (dE fr x) ((x:Int) :: t,d)).2)<=t.length+1+(N - cntS d)/\(∀ i∈l,0<=(l.foldl (dE fr x) ((x:Int) :: t,d)).2.getD (fr i) 0) /\
    ∀ v,0<=d.getD v 0->(l.foldl (dE fr x) ((x:Int) :: t,d)).2.getD v 0=d.getD v 0:=by
 intro l
 induction l with
 | nil=>intro t d _ h; exact ⟨t,rfl,h,Nat.le_refl _,(fun i hi=>nomatch hi),fun _ _=>rfl⟩
 | cons i l ih =>
   intro t d hl h
   obtain ⟨h1,h2,h3⟩:=hl i (by simp)
   obtain ⟨t1,e1,g1,g2,g3,g4⟩:=h.step hf hs h1 h2 h3
   rw [List.foldl_cons]
   have e:dE fr x ((x:Int) :: t,d) i=((x:Int) :: t1,(dE fr x ((x:Int) :: t,d) i).2):=by rw [<- e1]
   rw [e]
   obtain ⟨t2,k1,k2,k3,k4,k5⟩:=ih (fun j hj=>hl j (List.mem_cons_of_mem _ hj)) g1
   refine ⟨t2,k1,k2,by omega,fun j hj=>?_,fun v hv=>(k5 v (by rw [g4 v hv]; exact hv)).trans (g4 v hv)⟩
   rcases List.mem_cons.1 hj with rfl | hj
   ·rw [k5 _ g3]; exact g3
   ·exact k4 j hj
theorem DI.drop {M N:Nat} {fr to:Nat->Nat} {lv:Nat->Bool} {s x:Nat} {t d:List Int} (h:DI M N fr to lv s ((x:Int) :: t) d) (ha:∀ i,i < M->lv i=true->to i=x->0<=d.getD (fr i) 0) (hf:∀ i,i < M->fr i < N):DI M N fr to lv s t d:=by
 refine ⟨h.len,h.src,h.lo,h.zero,fun y hy=>h.mem y (List.mem_cons_of_mem _ hy),fun y hy=>h.top y (List.mem_cons_of_mem _ hy),(List.pairwise_cons.1 h.srt).2,fun i hi hl hz=>?_,h.pre,h.bd⟩
 rcases h.cls i hi hl hz with h' | h'
 ·rcases List.mem_cons.1 h' with e | e
  ·right
   have e:to i=x:=by omega
   have:=h.top (x:Int) (by simp) (fr i) (hf i hi)
   rw [Int.toNat_natCast] at this
   rw [e]
   exact ⟨ha i hi hl e,this⟩
  ·exact .inl e
 ·exact .inr h'
def disN (q:List Int×List Int):List Int×List Int:=((((inL M to lv (q.1.getD 0 0).toNat).foldl (dE fr (q.1.getD 0 0).toNat) q).1).drop 1,((inL M to lv (q.1.getD 0 0).toNat).foldl (dE fr (q.1.getD 0 0).toNat) q).2)
theorem dis_step (hf:∀ i,i < M->fr i < N) {s:Nat} (hs:s < N) {q:List Int×List Int} (h:DI M N fr to lv s q.1 q.2) (hq:0 < q.1.length):DI M N fr to lv s (disN M fr to lv q).1 (disN M fr to lv q).2 /\
  (disN M fr to lv q).1.length+(N - cntS (disN M fr to lv q).2) < q.1.length+(N - cntS q.2):=by
 obtain ⟨o,d⟩:=q
 cases o with
 | nil=>simp at hq
 | cons x0 t =>
   obtain ⟨a1,a2,_⟩:=h.mem x0 (by simp)
   obtain ⟨x,rfl⟩:=Int.eq_ofNat_of_zero_le a1
   rw [Int.toNat_natCast] at a2
   obtain ⟨t',k1,k2,k3,k4,k5⟩:=DI.steps hf hs (inL M to lv x) (fun i hi=>(mem_inL M to lv).1 hi) h
   unfold disN
   simp only [List.getD_cons_zero,Int.toNat_natCast]
   rw [k1]
   refine ⟨k2.drop (fun i hi hl hx=>k4 i ((mem_inL M to lv).2 ⟨hi,hl,hx⟩)) hf,?_⟩
   show t'.length+(N - cntS (List.foldl (dE fr x) ((x:Int) :: t,d) (inL M to lv x)).2) < ((x:Int) :: t).length+(N - cntS d)
   have k3':t'.length+1+(N - cntS (List.foldl (dE fr x) ((x:Int) :: t,d) (inL M to lv x)).2)<=t.length+1+(N - cntS d):=k3
   rw [List.length_cons]
   omega
structure FarOk (s:Nat) (d:List Int):Prop where
 len:d.length=N
 src:d.getD s 0=0
 lo:∀ v,v < N -> -1<=d.getD v 0/\d.getD v 0 < (N:Int)
 zero:∀ v,v < N->d.getD v 0=0->v=s
 cls:∀ i,i < M->lv i=true->0<=d.getD (to i) 0->0<=d.getD (fr i) 0/\d.getD (fr i) 0<=d.getD (to i) 0+1
 pre:∀ v,v < N->0 < d.getD v 0->∃ i,i < M/\lv i=true/\fr i=v/\d.getD (to i) 0=d.getD v 0 - 1
theorem DI.far {M N:Nat} {fr to:Nat->Nat} {lv:Nat->Bool} {s:Nat} {d:List Int} (h:DI M N fr to lv s [] d):FarOk M N fr to lv s d :=
 ⟨h.len,h.src,fun v hv=>⟨h.lo v hv,by have h1:=h.bd v hv; have h2:=cntS_le d; rw [h.len] at h2; omega⟩,h.zero,fun i hi hl hz=>(h.cls i hi hl hz).resolve_left (fun h=>by cases h),h.pre⟩
def dis0 (s:Nat):List Int:=(List.replicate N (-1)).set s 0
theorem cnt_rep:∀ n,cntS (List.replicate n (-1))=0
 | 0=>rfl
 | n+1=>by
   have:=cnt_rep n
   unfold cntS at this ⊢
   rw [List.replicate_succ,List.countP_cons,this]
   rfl
theorem dis0_ok (ht:∀ i,i < M->to i < N) {s:Nat} (hs:s < N):DI M N fr to lv s [(s:Int)] (dis0 N s):=by
 have hl:s < (List.replicate N (-1:Int)).length:=by rw [List.length_replicate]; exact hs
 have hg:∀ v,v < N->(dis0 N s).getD v 0=if v=s then 0 else -1:=fun v hv=>by
  unfold dis0
  rw [setI_get 0 hl]
  split
  ·rfl
  ·simp [gq,List.getElem?_replicate,hv]
 have hc:cntS (dis0 N s)=1:=by
  unfold dis0
  rw [cntS_set hl (by simp [gq,List.getElem?_replicate,hs]) (by omega),cnt_rep]
 refine ⟨by unfold dis0; rw [List.length_set,List.length_replicate],by rw [hg s hs,if_pos rfl],fun v hv=>?_,fun v hv hz=>?_,fun x hx=>?_,fun x hx v hv=>?_,List.pairwise_singleton _ _,fun i hi hl hz=>?_,fun v hv hp=>?_,fun v hv=>?_⟩
 ·rw [hg v hv]; split <;> omega
 ·rw [hg v hv] at hz
  split at hz
  ·assumption
  ·cases hz
 ·rw [List.mem_singleton.1 hx,Int.toNat_natCast,hg s hs,if_pos rfl]
  exact ⟨by omega,hs,by omega⟩
 ·rw [List.mem_singleton.1 hx,Int.toNat_natCast,hg s hs,if_pos rfl,hg v hv]
  split <;> omega
 ·left
  rw [hg _ (ht i hi)] at hz
  split at hz
  ·rename_i e; rw [e]; simp
  ·omega
 ·rw [hg v hv] at hp
  split at hp <;> omega
 ·rw [hg v hv,hc]
  split <;> omega
def disGo:Nat->List Int×List Int->List Int
 | 0,q=>q.2
 | n+1,q=>if q.1.length=0 then q.2 else disGo n (disN M fr to lv q)
def farV (s:Nat):List Int:=disGo M fr to lv (N+1) ([(s:Int)],dis0 N s)
theorem disGo_ok (hf:∀ i,i < M->fr i < N) {s:Nat} (hs:s < N):∀ (n:Nat) (q:List Int×List Int),DI M N fr to lv s q.1 q.2->q.1.length+(N - cntS q.2)<=n->DI M N fr to lv s [] (disGo M fr to lv n q):=by
 intro n
 induction n with
 | zero =>
   intro q h hm
   have:q.1=[]:=List.eq_nil_of_length_eq_zero (by omega)
   rw [this] at h
   exact h
 | succ n ih =>
   intro q h hm
   show DI M N fr to lv s [] (if q.1.length=0 then q.2 else disGo M fr to lv n (disN M fr to lv q))
   by_cases hq:q.1.length=0
   ·rw [if_pos hq]
    rw [List.eq_nil_of_length_eq_zero hq] at h
    exact h
   ·rw [if_neg hq]
    obtain ⟨h1,h2⟩:=dis_step M N fr to lv hf hs h (by omega)
    exact ih _ h1 (by omega)
theorem far_ok (hf:∀ i,i < M->fr i < N) (ht:∀ i,i < M->to i < N) {s:Nat} (hs:s < N):FarOk M N fr to lv s (farV M N fr to lv s):=by
 have h0:=dis0_ok M N fr to lv ht hs
 refine (disGo_ok M N fr to lv hf hs (N+1) _ h0 ?_).far
 show 1+(N - cntS (dis0 N s))<=N+1
 omega
theorem dis_lp {ρ τ:Type} (hf:∀ i,i < M->fr i < N) (ht:∀ i,i < M->to i < N) (hN:N<=1000000) {s:Nat} (hs:s < N) (St:τ->List Int×List Int->Prop) {F:(τ->Option ρ)->τ->Option ρ} {J:List Int->Option ρ}
  (hF:∀ g t q,St t q->DI M N fr to lv s q.1 q.2->q.1.length+(N - cntS q.2)<=N+1->(0 < q.1.length->∃ t',St t' (disN M fr to lv q)/\F g t=g t')/\(q.1.length=0->F g t=J q.2)) {t0:τ} (h0:St t0 ([(s:Int)],dis0 N s)):lp F t0=J (farV M N fr to lv s):=by
 have key:∀ (n:Nat) (t:τ) (q:List Int×List Int),St t q->DI M N fr to lv s q.1 q.2->q.1.length+(N - cntS q.2)<=n->n<=N+1->∀ k,itF F (k+(n+1)) t=J (disGo M fr to lv n q):=by
  intro n
  induction n with
  | zero =>
    intro t q ht' h hm hn k
    rw [show k+(0+1)=k+1 from rfl,itF_succ]
    exact (hF _ t q ht' h (by omega)).2 (by omega)
  | succ n ih =>
    intro t q ht' h hm hn k
    rw [show k+(n+1+1)=(k+(n+1))+1 by omega,itF_succ]
    show _=J (if q.1.length=0 then q.2 else disGo M fr to lv n (disN M fr to lv q))
    obtain ⟨k1,k2⟩:=hF (itF F (k+(n+1))) t q ht' h (by omega)
    by_cases hq:q.1.length=0
    ·rw [if_pos hq]; exact k2 hq
    ·rw [if_neg hq]
     obtain ⟨t',e1,e2⟩:=k1 (by omega)
     obtain ⟨h1,h2⟩:=dis_step M N fr to lv hf hs h (by omega)
     rw [e2]
     exact ih t' _ e1 h1 (by omega) (by omega) k
 have hd:=dis0_ok M N fr to lv ht hs
 refine lp_of (N+1+1) (by omega) fun n=>?_
 exact key (N+1) t0 _ h0 hd (by show 1+(N - cntS (dis0 N s))<=N+1; omega) (Nat.le_refl _) n
end
def nbS (f:Nat->Int) (b:Int) (i:Nat):Int:=if (decide (0<=f i)&&(decide (b < 0)||decide (f i < f b.toNat)))=true then (i:Int) else b
theorem nb_fold (p:Nat->Bool) (f:Nat->Int):∀ m,(fN (fun i b=>if p i=true then nbS f b i else b) m (-1) = -1/\∀ i,i < m->p i=true->f i < 0) ∨
  ∃ k,k < m/\fN (fun i b=>if p i=true then nbS f b i else b) m (-1)=(k:Int)/\p k=true/\0<=f k/\(∀ j,j < m->p j=true->0<=f j->f k<=f j)/\∀ j,j < k->p j=true->f j≠f k
 | 0=>.inl ⟨rfl,fun i hi=>by omega⟩
 | m+1=>by
   have ih:=nb_fold p f m
   show ((if p m=true then nbS f (fN (fun i b=>if p i=true then nbS f b i else b) m (-1)) m else fN (fun i b=>if p i=true then nbS f b i else b) m (-1)) = -1/\_)∨∃ k,k < m+1/\(if p m=true then nbS f (fN (fun i b=>if p i=true then nbS f b i else b) m (-1)) m else fN (fun i b=>if p i=true then nbS f b i else b) m (-1))=(k:Int)/\_
   generalize fN (fun i b=>if p i=true then nbS f b i else b) m (-1)=b at ih
   by_cases hp:p m=true
   ·rw [if_pos hp]
    unfold nbS
    by_cases hf:0<=f m
    ·rcases ih with ⟨e,h⟩ | ⟨k,h1,e,h2,h3,h4,h5⟩
     ·subst e
      rw [if_pos (by simp [hf])]
      refine .inr ⟨m,by omega,rfl,hp,hf,fun j hj hpj hfj=>?_,fun j hj hpj e=>?_⟩
      ·rcases Nat.lt_or_ge j m with h' | h'
       ·have:=h j h' hpj; omega
       ·have:j=m:=by omega
        subst this; omega
      ·have:=h j hj hpj; omega
     ·subst e
      by_cases hlt:f m < f k
      ·rw [if_pos (by simp [hf,hlt])]
       refine .inr ⟨m,by omega,rfl,hp,hf,fun j hj hpj hfj=>?_,fun j hj hpj e=>?_⟩
       ·rcases Nat.lt_or_ge j m with h' | h'
        ·have:=h4 j h' hpj hfj; omega
        ·have:j=m:=by omega
         subst this; omega
       ·have:=h4 j hj hpj (by omega); omega
      ·rw [if_neg (by simp [hlt])]
       refine .inr ⟨k,by omega,rfl,h2,h3,fun j hj hpj hfj=>?_,h5⟩
       rcases Nat.lt_or_ge j m with h' | h'
       ·exact h4 j h' hpj hfj
       ·have:j=m:=by omega
        subst this; omega
    ·rw [if_neg (by simp [hf])]
     rcases ih with ⟨e,h⟩ | ⟨k,h1,e,h2,h3,h4,h5⟩
     ·refine .inl ⟨e,fun i hi hpi=>?_⟩
      rcases Nat.lt_or_ge i m with h' | h'
      ·exact h i h' hpi
      ·have:i=m:=by omega
       subst this; omega
     ·refine .inr ⟨k,by omega,e,h2,h3,fun j hj hpj hfj=>?_,h5⟩
      rcases Nat.lt_or_ge j m with h' | h'
      ·exact h4 j h' hpj hfj
      ·have:j=m:=by omega
       subst this; omega
   ·rw [if_neg hp]
    rcases ih with ⟨e,h⟩ | ⟨k,h1,e,h2,h3,h4,h5⟩
    ·refine .inl ⟨e,fun i hi hpi=>?_⟩
     rcases Nat.lt_or_ge i m with h' | h'
     ·exact h i h' hpi
     ·have:i=m:=by omega
      subst this; exact (hp hpi).elim
    ·refine .inr ⟨k,by omega,e,h2,h3,fun j hj hpj hfj=>?_,h5⟩
     rcases Nat.lt_or_ge j m with h' | h'
     ·exact h4 j h' hpj hfj
     ·have:j=m:=by omega
      subst this; exact (hp hpj).elim
def lfS (f:Nat->Int) (l:Int) (i:Nat):Int:=if (decide (0<=f i)&&(decide (l < 0)||decide (f i+1 < l)))=true then f i+1 else l
theorem lf_fold (p:Nat->Bool) (f:Nat->Int):∀ m,(fN (fun i b=>if p i=true then nbS f b i else b) m (-1) = -1/\fN (fun i b=>if p i=true then lfS f b i else b) m (-1) = -1)∨∃ k:Nat,fN (fun i b=>if p i=true then nbS f b i else b) m (-1)=(k:Int)/\0<=f k/\fN (fun i b=>if p i=true then lfS f b i else b) m (-1)=f k+1
 | 0=>.inl ⟨rfl,rfl⟩
 | m+1=>by
   have ih:=lf_fold p f m
   show ((if p m=true then nbS f (fN (fun i b=>if p i=true then nbS f b i else b) m (-1)) m else fN (fun i b=>if p i=true then nbS f b i else b) m (-1)) = -1/\(if p m=true then lfS f (fN (fun i b=>if p i=true then lfS f b i else b) m (-1)) m else fN (fun i b=>if p i=true then lfS f b i else b) m (-1)) = -1)∨∃ k:Nat,(if p m=true then nbS f (fN (fun i b=>if p i=true then nbS f b i else b) m (-1)) m else fN (fun i b=>if p i=true then nbS f b i else b) m (-1))=(k:Int)/\0<=f k/\(if p m=true then lfS f (fN (fun i b=>if p i=true then lfS f b i else b) m (-1)) m else fN (fun i b=>if p i=true then lfS f b i else b) m (-1))=f k+1
   generalize fN (fun i b=>if p i=true then nbS f b i else b) m (-1)=b at ih
   generalize fN (fun i b=>if p i=true then lfS f b i else b) m (-1)=l at ih
   by_cases hp:p m=true
   ·rw [if_pos hp,if_pos hp]
    unfold nbS lfS
    by_cases hf:0<=f m
    ·rcases ih with ⟨e,h⟩ | ⟨k,e,h2,h3⟩
     ·subst e; subst h
      rw [if_pos (by simp [hf]),if_pos (by simp [hf])]
      exact .inr ⟨m,rfl,hf,rfl⟩
     ·subst e; subst h3
      by_cases hlt:f m < f k
      ·rw [if_pos (by simp [hf,hlt]),if_pos (by simp [hf]; omega)]
       exact .inr ⟨m,rfl,hf,rfl⟩
      ·rw [if_neg (by simp [hlt]),if_neg (by simp; omega)]
       exact .inr ⟨k,rfl,h2,rfl⟩
    ·rw [if_neg (by simp [hf]),if_neg (by simp [hf])]
     exact ih
   ·rw [if_neg hp,if_neg hp]; exact ih
theorem find_first {p:Nat->Bool} {M k:Nat} (hk:k < M) (hp:p k=true) (h:∀ j,j < k->p j=false):(List.range M).find? p=some k:=by
 rw [List.find?_range_eq_some]
 exact ⟨hp,List.mem_range.2 hk,fun j hj=>by simp [h j hj]⟩
section
variable (M N:Nat) (fr to:Nat->Nat) (lv:Nat->Bool) (d:List Int)
def pthGo:Nat->Nat->List Int
 | 0,_=>[]
 | k+1,a=>match (List.range M).find? (fun i=>lv i&&fr i==a&&d.getD (to i) 0==(k:Int)) with
   | some i=>(i:Int) :: pthGo k (to i)
   | none=>pthGo k a
def nearV (a:Nat):Int:=fN (fun i b=>if (lv i&&fr i==a)=true then nbS (fun i=>d.getD (to i) 0) b i else b) M (-1)
def leftV (a:Nat):Int:=fN (fun i b=>if (lv i&&fr i==a)=true then lfS (fun i=>d.getD (to i) 0) b i else b) M (-1)
def pathV (s:Nat):List Int:=pthGo M fr to lv d (leftV M fr to lv d s).toNat s
theorem near_ok {a:Nat} {k:Nat} (h1:nearV M fr to lv d a=(k:Int)):k < M/\lv k=true/\fr k=a/\0<=d.getD (to k) 0/\leftV M fr to lv d a=d.getD (to k) 0+1/\(∀ j,j < M->lv j=true->fr j=a->0<=d.getD (to j) 0->d.getD (to k) 0<=d.getD (to j) 0) /\
  (List.range M).find? (fun i=>lv i&&fr i==a&&d.getD (to i) 0==d.getD (to k) 0)=some k:=by
 rcases nb_fold (fun i=>lv i&&fr i==a) (fun i=>d.getD (to i) 0) M with ⟨e,_⟩ | ⟨k',g1,e,g2,g3,g4,g5⟩
 ·have e:nearV M fr to lv d a = -1:=e
  omega
 ·have e:nearV M fr to lv d a=(k':Int):=e
  have:k'=k:=by omega
  subst this
  simp only [ba,beq_iff_eq] at g2
  refine ⟨g1,g2.1,g2.2,g3,?_,fun j hj hl hf hz=>g4 j hj (by simp [hl,hf]) hz,find_first g1 (by simp [g2.1,g2.2]) fun j hj=>?_⟩
  ·rcases lf_fold (fun i=>lv i&&fr i==a) (fun i=>d.getD (to i) 0) M with ⟨e',_⟩ | ⟨k2,e',_,e2⟩
   ·have e':nearV M fr to lv d a = -1:=e'
    omega
   ·have e':nearV M fr to lv d a=(k2:Int):=e'
    have:k2=k':=by omega
    subst this
    exact e2
  ·cases hp:(lv j&&fr j==a) with
   | false=>rfl
   | true =>
     have:=g5 j hj hp
     simpa using this
theorem near_no {a:Nat} (h1:nearV M fr to lv d a < 0):nearV M fr to lv d a = -1/\leftV M fr to lv d a = -1/\∀ i,i < M->lv i=true->fr i=a->d.getD (to i) 0 < 0:=by
 rcases nb_fold (fun i=>lv i&&fr i==a) (fun i=>d.getD (to i) 0) M with ⟨e,h⟩ | ⟨k',_,e,_⟩
 ·refine ⟨e,?_,fun i hi hl hf=>h i hi (by simp [hl,hf])⟩
  rcases lf_fold (fun i=>lv i&&fr i==a) (fun i=>d.getD (to i) 0) M with ⟨_,e2⟩ | ⟨k2,e',_,_⟩
  ·exact e2
  ·have e':nearV M fr to lv d a=(k2:Int):=e'
   omega
 ·have e:nearV M fr to lv d a=(k':Int):=e
  omega
theorem FarOk.near {M N:Nat} {fr to:Nat->Nat} {lv:Nat->Bool} {d:List Int} {s:Nat} (h:FarOk M N fr to lv s d) {a k:Nat} (ha:a < N) (hk:d.getD a 0=(k:Int)+1):∃ i,i < M/\nearV M fr to lv d a=(i:Int)/\d.getD (to i) 0=(k:Int)/\fr i=a/\lv i=true/\pthGo M fr to lv d (k+1) a=(i:Int) :: pthGo M fr to lv d k (to i):=by
 obtain ⟨j,j1,j2,j3,j4⟩:=h.pre a ha (by omega)
 rcases Int.lt_or_le (nearV M fr to lv d a) 0 with hn | hn
 ·have:=(near_no M fr to lv d hn).2.2 j j1 j2 j3
  omega
 ·obtain ⟨i,hi⟩:=Int.eq_ofNat_of_zero_le hn
  obtain ⟨g1,g2,g3,g4,_,g6,g7⟩:=near_ok M fr to lv d hi
  have h1:=g6 j j1 j2 j3 (by omega)
  have h2:=h.cls i g1 g2 g4
  rw [g3] at h2
  have e:d.getD (to i) 0=(k:Int):=by omega
  refine ⟨i,g1,hi,e,g3,g2,?_⟩
  rw [e] at g7
  show (match (List.range M).find? (fun i=>lv i&&fr i==a&&d.getD (to i) 0==(k:Int)) with | some i=>(i:Int) :: pthGo M fr to lv d k (to i) | none=>pthGo M fr to lv d k a)=_
  rw [g7]
theorem walk_lp {ρ:Type} {M N:Nat} {fr to:Nat->Nat} {lv:Nat->Bool} {d:List Int} {s:Nat} (h:FarOk M N fr to lv s d) (hs:s < N) (ht:∀ i,i < M->to i < N) (hN:N<=1000000) {F:(Int×List Int->Option ρ)->Int×List Int->Option ρ} {J:List Int->Option ρ} {E:Option ρ}
  (hF:∀ g (a:Nat) (l:List Int),a < N->l.length<=N->F g ((a:Int),l)=if nearV M fr to lv d a < 0 then E else if (to (nearV M fr to lv d a).toNat:Int)=(s:Int) then J (l++[nearV M fr to lv d a]) else g ((to (nearV M fr to lv d a).toNat:Int),l++[nearV M fr to lv d a])) :
  lp F ((s:Int),[])=if nearV M fr to lv d s < 0 then E else J (pathV M fr to lv d s):=by
 have key:∀ (k:Nat) (a:Nat) (l:List Int),a < N->d.getD a 0=(k:Int)+1->l.length+k+1<=N->∀ n,itF F (n+(k+1)) ((a:Int),l)=J (l++pthGo M fr to lv d (k+1) a):=by
  intro k
  induction k with
  | zero =>
    intro a l ha hk hl n
    obtain ⟨i,i1,i2,i3,i4,i5,i6⟩:=h.near ha hk
    rw [show n+(0+1)=n+1 from rfl,itF_succ,hF _ a l ha (by omega),i2,if_neg (by omega),Int.toNat_natCast]
    have e:=h.zero (to i) (ht i i1) (by omega)
    rw [if_pos (by rw [e]),i6]
    rfl
  | succ k ih =>
    intro a l ha hk hl n
    obtain ⟨i,i1,i2,i3,i4,i5,i6⟩:=h.near ha (k:=k+1) (by omega)
    rw [show n+(k+1+1)=(n+(k+1))+1 by omega,itF_succ,hF _ a l ha (by omega),i2,if_neg (by omega),Int.toNat_natCast]
    rw [if_neg (fun e=>by
     have e:to i=s:=by omega
     rw [e,h.src] at i3
     omega)]
    rw [ih (to i) _ (ht i i1) (by omega) (by rw [List.length_append,List.length_singleton]; omega) n,i6,List.append_assoc]
    rfl
 rcases Int.lt_or_le (nearV M fr to lv d s) 0 with hn | hn
 ·rw [if_pos hn]
  refine lp_of 1 (by omega) fun n=>?_
  rw [itF_succ,hF _ s [] hs (by simp),if_pos hn]
 ·rw [if_neg (by omega)]
  obtain ⟨i,hi⟩:=Int.eq_ofNat_of_zero_le hn
  obtain ⟨g1,g2,g3,g4,g5,_,g7⟩:=near_ok M fr to lv d hi
  obtain ⟨m,hm⟩:=Int.eq_ofNat_of_zero_le g4
  have hmN:=(h.lo (to i) (ht i g1)).2
  have hp:pathV M fr to lv d s=(i:Int) :: pthGo M fr to lv d m (to i):=by
   unfold pathV
   rw [g5,hm,show ((m:Int)+1).toNat=m+1 by omega]
   rw [hm] at g7
   show (match (List.range M).find? (fun i=>lv i&&fr i==s&&d.getD (to i) 0==(m:Int)) with | some i=>(i:Int) :: pthGo M fr to lv d m (to i) | none=>pthGo M fr to lv d m s)=_
   rw [g7]
  refine lp_of (m+1) (by omega) fun n=>?_
  rw [show n+(m+1)=(n+m)+1 by omega,itF_succ,hF _ s [] hs (by simp),hi,if_neg (by omega),Int.toNat_natCast,hp]
  cases m with
  | zero =>
    have e:=h.zero (to i) (ht i g1) (by omega)
    rw [if_pos (by rw [e])]
    rfl
  | succ m =>
    rw [if_neg (fun e=>by
     have e:to i=s:=by omega
     rw [e,h.src] at hm
     omega)]
    exact key m (to i) [(i:Int)] (ht i g1) (by omega) (by simp; omega) n
end
end Go.Proofs.Xd
end
section
namespace Go.Proofs.YthobjlocnkienaaGreatDoor
open Go Go.Proofs Go.Proofs.Sv Go.Proofs.Xv Go.Proofs.Xl Go.Proofs.Xd
theorem neg_fold (N:Nat):∀ m,m<=N->(fN (fun k (s:List Int)=>s.set k (-1)) m (List.replicate N 0)).length=N/\∀ v,v < m->(fN (fun k (s:List Int)=>s.set k (-1)) m (List.replicate N 0)).getD v 0 = -1
 | 0,_=>⟨List.length_replicate,fun v hv=>by omega⟩
 | m+1,h=>by
   obtain ⟨h1,h2⟩:=neg_fold N m (by omega)
   refine ⟨by show (List.set _ _ _).length=_; rw [List.length_set,h1],fun v hv=>?_⟩
   show ((fN (fun k (s:List Int)=>s.set k (-1)) m (List.replicate N 0)).set m (-1)).getD v 0 = -1
   rw [setI_get (-1) (by omega)]
   by_cases e:v=m
   ·rw [if_pos e]
   ·rw [if_neg e]; exact h2 v (by omega)
theorem neg_all (N:Nat):fN (fun k (s:List Int)=>s.set k (-1)) N (List.replicate N 0)=List.replicate N (-1):=by
 obtain ⟨h1,h2⟩:=neg_fold N N (Nat.le_refl _)
 refine list_eq 0 (by rw [h1,List.length_replicate]) fun i hi=>?_
 rw [h1] at hi
 rw [h2 i hi]
 simp [gq,List.getElem?_replicate,hi]
theorem inL_take {M:Nat} {to:Nat->Nat} {lv:Nat->Bool} {x k:Nat}:∀ i∈(inL M to lv x).take k,i < M/\lv i=true/\to i=x:=fun i hi=>(mem_inL M to lv).1 (List.mem_of_mem_take hi)
section
variable {b:Y46}
theorem r111 (hb:blockOk b=true) {lv:List Bool} (hlv:lv.length=(lV b).length) {s:Nat} (hs:s < nodN b):u111 (viewV b,lv) (s:Int)=some (farV (lV b).length (nodN b) (frN b) (toN b) (fun i=>lv.getD i false) s):=by
 have hM:=links_len hb
 have hN:=nod_le b hb
 have e0:((nodN b:Int)).toNat=nodN b:=rfl
 have en:u86 ((viewV b,lv):Y113×List Bool).1=some (nodN b:Int):=r86 b hb
 have hf:∀ i,i < (lV b).length->frN b i < nodN b:=fun i hi=>(frto b hb hi).2.2.1
 have ht:∀ i,i < (lV b).length->toN b i < nodN b:=fun i hi=>(frto b hb hi).2.2.2
 unfold u111
 rw [en,vS,gP ⟨rfl,⟨by omega,rfl,by rw [e0]; omega,by omega⟩,trivial⟩,lE,e0]
 refine (lF (n:=nodN b) (by omega) (fun (k:Nat) (l:List Int)=>((k:Int),l)) (fun k (l:List Int)=>l.set k (-1)) (fun _ l=>l.length=nodN b) (J:=fun l=>u111J0 (viewV b,lv) (s:Int) l) (F:=u111L1 (viewV b,lv) (s:Int) (nodN b:Int)) (fun g k l hk hI=>?_) (fun k l hk hI=>by rw [List.length_set]; exact hI) (fun g l _=>?_) (List.replicate (nodN b) 0) List.length_replicate).trans ?_
 ·have hI:l.length=nodN b:=hI
  refine (if_pos (by rw [e0,List.length_replicate]; exact decide_eq_true (by omega))).trans ?_
  refine (gP ⟨oo,by show k < _; omega,trivial⟩).trans ?_
  exact gP ⟨oo,trivial⟩
 ·exact if_neg (by rw [e0,List.length_replicate,dq]; omega)
 rw [neg_all]
 have e1:((s:Int)).toNat=s:=rfl
 show gd (ix (s:Int) (List.replicate (nodN b) (-1:Int)).length/\((s:Int)).toNat < (List.replicate (nodN b) (-1:Int)).length/\True) (lp (u111L3 (viewV b,lv)) ([(s:Int)],(List.replicate (nodN b) (-1)).set ((s:Int)).toNat 0))=_
 rw [gP ⟨by rw [List.length_replicate]; exact oo,by rw [List.length_replicate]; exact hs,trivial⟩]
 refine dis_lp (lV b).length (nodN b) (frN b) (toN b) (fun i=>lv.getD i false) hf ht hN hs (fun t q=>t=q) (F:=u111L3 (viewV b,lv)) (J:=fun d=>some d) (fun g t q hq h hle=>?_) (t0:=([(s:Int)],dis0 (nodN b) s)) rfl
 subst hq
 obtain ⟨o,d⟩:=t
 have hle:o.length+(nodN b - cntS d)<=nodN b+1:=hle
 refine ⟨fun h0=>⟨_,rfl,?_⟩,fun h0=>?_⟩
 ·cases o with
  | nil=>simp at h0
  | cons x0 t =>
    obtain ⟨a1,a2,_⟩:=h.mem x0 (by simp)
    obtain ⟨a,rfl⟩:=Int.eq_ofNat_of_zero_le a1
    rw [Int.toNat_natCast] at a2
    have eto:u151 (viewV b,lv) (((a:Int) :: t).getD (Int.toNat (0:Int)) (0:Int))=some (idxV (fun i=>lv.getD i false&&toN b i==a) (lV b).length):=r151 hb hlv a
    obtain ⟨il1,il2⟩:=idxV_len (fun i=>lv.getD i false&&toN b i==a) (lV b).length
    refine (if_pos (decide_eq_true (by simp))).trans ?_
    rw [eto,vS]
    refine (gP ⟨⟨by omega,by simp⟩,by simp,rfl,trivial⟩).trans ?_
    rw [lE]
    have hlen:(inL (lV b).length (toN b) (fun i=>lv.getD i false) a).length=(idxV (fun i=>lv.getD i false&&toN b i==a) (lV b).length).length:=il2.symm
    refine (lF (n:=(inL (lV b).length (toN b) (fun i=>lv.getD i false) a).length) (by omega) (fun (k:Nat) (q:List Int×List Int)=>((k:Int),q.1,q.2)) (fun k q=>dE (frN b) a q ((inL (lV b).length (toN b) (fun i=>lv.getD i false) a).getD k 0)) (fun k q=>q=((inL (lV b).length (toN b) (fun i=>lv.getD i false) a).take k).foldl (dE (frN b) a) ((a:Int) :: t,d)) (J:=fun q=>u111J4 g (q.1,q.2)) (F:=u111L5 (viewV b,lv) (idxV (fun i=>lv.getD i false&&toN b i==a) (lV b).length) g) (fun g' k q hk hI=>?_) (fun k q hk hI=>?_) (fun g' q hI=>?_) ((a:Int) :: t,d) rfl).trans ?_
    ·obtain ⟨t',k1,k2,k3,k4,k5⟩:=DI.steps hf hs ((inL (lV b).length (toN b) (fun i=>lv.getD i false) a).take k) inL_take h
     rw [<- hI] at k1 k2 k3
     obtain ⟨q1,q2⟩:=q
     have k1:q1=(a:Int) :: t':=k1
     subst k1
     have k2:DI (lV b).length (nodN b) (frN b) (toN b) (fun i=>lv.getD i false) s ((a:Int) :: t') q2:=k2
     have k3:t'.length+1+(nodN b - cntS q2)<=t.length+1+(nodN b - cntS d):=k3
     obtain ⟨m1,m2,m3⟩:=(mem_inL (lV b).length (toN b) (fun i=>lv.getD i false)).1 (getD_mem (d:=0) hk)
     have eg:=idxV_get (fun i=>lv.getD i false&&toN b i==a) (lV b).length k
     have eg:(idxV (fun i=>lv.getD i false&&toN b i==a) (lV b).length).getD k 0=(((inL (lV b).length (toN b) (fun i=>lv.getD i false) a).getD k 0:Nat):Int):=eg
     generalize (inL (lV b).length (toN b) (fun i=>lv.getD i false) a).getD k 0=i at m1 m2 m3 eg ⊢
     obtain ⟨f1,f2,f3,f4⟩:=frto b hb m1
     have e3:((k:Int)).toNat=k:=rfl
     have e4:((i:Int)).toNat=i:=rfl
     have e5:((frN b i:Int)).toNat=frN b i:=rfl
     have b1:=k2.bd a (by omega)
     have b2:=k2.lo a (by omega)
     have b3:=cntS_le q2
     have b4:=k2.len
     have hlen2:((a:Int) :: t').length=t'.length+1:=rfl
     have hlen3:((a:Int) :: t).length=t.length+1:=rfl
     refine (if_pos (decide_eq_true (by omega))).trans ?_
     rw [e3,eg]
     refine (gP ⟨oo,by omega,trivial⟩).trans ?_
     rw [e4]
     refine (gP ⟨⟨by omega,by show (i:Int) < ((lV b).length:Int); omega⟩,trivial⟩).trans ?_
     rw [lE]
     have f1':((((viewV b,lv):Y113×List Bool).1.2.2.1).getD i (dflt y107)).1=(frN b i:Int):=f1
     rw [f1',e5]
     refine (gP ⟨⟨by omega,by show (frN b i:Int) < (q2.length:Int); omega⟩,by show frN b i < q2.length; omega,trivial⟩).trans ?_
     unfold dE
     show _=g' (((k+1:Nat):Int),(if q2.getD (frN b i) 0 < 0 then (((a:Int) :: t')++[(frN b i:Int)],q2.set (frN b i) (q2.getD a 0+1)) else ((a:Int) :: t',q2)).1,(if q2.getD (frN b i) 0 < 0 then (((a:Int) :: t')++[(frN b i:Int)],q2.set (frN b i) (q2.getD a 0+1)) else ((a:Int) :: t',q2)).2)
     by_cases hd:q2.getD (frN b i) 0 < 0
     ·rw [if_pos hd]
      refine (if_pos (decide_eq_true hd)).trans ?_
      refine (gP ⟨⟨by omega,by show (0:Int) < ((((a:Int) :: t').length:Nat):Int); omega⟩,by simp,⟨by show 0<=(a:Int); omega,by show (a:Int) < (q2.length:Int); omega⟩,by show a < q2.length; omega,⟨by show -9223372036854775808<=q2.getD a 0+1; omega,by show q2.getD a 0+1<=9223372036854775807; omega⟩,⟨by show 0<=(frN b i:Int); omega,by show (frN b i:Int) < (q2.length:Int); omega⟩,by show frN b i < q2.length; omega,trivial⟩).trans ?_
      rw [lE]
      refine (gP ⟨⟨by show t'.length+1+1<=_; omega,by show (t'.length+1+1)*8<=_; omega⟩,trivial⟩).trans ?_
      refine (gP (V:=in64 ((k:Int)+1)/\True) ⟨oo,trivial⟩).trans ?_
      rfl
     ·rw [if_neg hd]
      refine (if_neg (by rw [dq]; exact hd)).trans ?_
      refine (gP (V:=in64 ((k:Int)+1)/\True) ⟨oo,trivial⟩).trans ?_
      rfl
    ·rw [hI,List.take_succ_eq_append_getElem hk,List.foldl_append]
     show dE _ _ _ _=dE _ _ _ _
     congr 1
     rw [gq,List.getElem?_eq_getElem hk]
     rfl
    ·refine (if_neg ?_)
     rw [dq,hlen]
     omega
    ·have hfold:=foldN_foldl (dE (frN b) a) (inL (lV b).length (toN b) (fun i=>lv.getD i false) a) ((a:Int) :: t,d)
     rw [hfold]
     obtain ⟨t',k1,k2,k3,k4,k5⟩:=DI.steps hf hs (inL (lV b).length (toN b) (fun i=>lv.getD i false) a) (fun i hi=>(mem_inL (lV b).length (toN b) (fun i=>lv.getD i false)).1 hi) h
     have hl1:1<=((inL (lV b).length (toN b) (fun i=>lv.getD i false) a).foldl (dE (frN b) a) ((a:Int) :: t,d)).1.length:=by rw [k1]; simp
     exact gP ⟨⟨by omega,by omega,by omega⟩,trivial⟩
 ·exact if_neg (by have h0:o.length=0:=h0; rw [dq]; show ¬ (0:Int) < (o.length:Int); omega)
end
def inF (b:Y46) (lv:List Bool) (a k:Nat) (q:List Int×List Int):List Int×List Int:=if (lv.getD k false&&toN b k==a)=true then dE (frN b) a q k else q
def sdSt (N:Nat) (t:Int×List Int×List Int) (q:List Int×List Int):Prop:=∃ m:Nat,∃ pre:List Int,t=((m:Int),pre++q.1,q.2)/\pre.length=m/\m+(q.1.length+(N - cntS q.2))<=N+1
section
variable {b:Y46}
theorem r108 (hb:blockOk b=true) {lv:List Bool} (hlv:lv.length=(lV b).length) {s:Nat} (hs:s < nodN b):u108 (nodN b:Int) (lV b) lv (s:Int)=some (farV (lV b).length (nodN b) (frN b) (toN b) (fun i=>lv.getD i false) s):=by
 have hM:=links_len hb
 have hN:=nod_le b hb
 have e0:((nodN b:Int)).toNat=nodN b:=rfl
 have hf:∀ i,i < (lV b).length->frN b i < nodN b:=fun i hi=>(frto b hb hi).2.2.1
 have ht:∀ i,i < (lV b).length->toN b i < nodN b:=fun i hi=>(frto b hb hi).2.2.2
 unfold u108
 rw [gP ⟨⟨by omega,rfl,by rw [e0]; omega,by omega⟩,trivial⟩,e0]
 refine (lF (n:=nodN b) (by omega) (fun (k:Nat) (l:List Int)=>((k:Int),l)) (fun k (l:List Int)=>l.set k (-1)) (fun _ l=>l.length=nodN b) (J:=fun l=>u108J0 (lV b) lv (s:Int) l) (F:=u108L1 (lV b) lv (s:Int) (nodN b:Int)) (fun g k l hk hI=>?_) (fun k l hk hI=>by rw [List.length_set]; exact hI) (fun g l _=>aE) (List.replicate (nodN b) 0) List.length_replicate).trans ?_
 ·have hI:l.length=nodN b:=hI
  refine (if_pos (decide_eq_true (by omega))).trans ?_
  refine (gP ⟨oo,by show k < _; omega,trivial⟩).trans ?_
  exact gP ⟨oo,trivial⟩
 rw [neg_all]
 show gd (ix (s:Int) (List.replicate (nodN b) (-1:Int)).length/\((s:Int)).toNat < (List.replicate (nodN b) (-1:Int)).length/\True) (lp (u108L3 (lV b) lv) (0,[(s:Int)],(List.replicate (nodN b) (-1)).set ((s:Int)).toNat 0))=_
 rw [gP ⟨by rw [List.length_replicate]; exact oo,by rw [List.length_replicate]; exact hs,trivial⟩]
 refine dis_lp (lV b).length (nodN b) (frN b) (toN b) (fun i=>lv.getD i false) hf ht hN hs (sdSt (nodN b)) (F:=u108L3 (lV b) lv) (J:=fun d=>some d) (fun g t q hq h hle=>?_) (t0:=((0:Int),[(s:Int)],dis0 (nodN b) s)) ⟨0,[],rfl,rfl,by show 0+(1+(nodN b - cntS (dis0 (nodN b) s)))<=_; omega⟩
 obtain ⟨m,pre,rfl,hpre,hsum⟩:=hq
 obtain ⟨o,d⟩:=q
 have hle:o.length+(nodN b - cntS d)<=nodN b+1:=hle
 have hsum:m+(o.length+(nodN b - cntS d))<=nodN b+1:=hsum
 refine ⟨fun h0=>?_,fun h0=>?_⟩
 ·cases o with
  | nil=>simp at h0
  | cons x0 t =>
    obtain ⟨a1,a2,_⟩:=h.mem x0 (by simp)
    obtain ⟨a,rfl⟩:=Int.eq_ofNat_of_zero_le a1
    rw [Int.toNat_natCast] at a2
    have hlen3:((a:Int) :: t).length=t.length+1:=rfl
    have hff:∀ k,fN (inF b lv a) k ((a:Int) :: t,d)=((List.range k).filter fun i=>lv.getD i false&&toN b i==a).foldl (dE (frN b) a) ((a:Int) :: t,d):=fun k=>fold_filter (dE (frN b) a) (fun i=>lv.getD i false&&toN b i==a) _ k
    have hmem:∀ k,k<=(lV b).length->∀ i∈(List.range k).filter (fun i=>lv.getD i false&&toN b i==a),i < (lV b).length/\lv.getD i false=true/\toN b i=a:=fun k hk i hi=>by
     rw [List.mem_filter,List.mem_range] at hi
     simp only [ba,beq_iff_eq] at hi
     exact ⟨by omega,hi.2.1,hi.2.2⟩
    obtain ⟨t1,z1,z2,z3,_,_⟩:=DI.steps hf hs _ (hmem _ (Nat.le_refl _)) h
    have z1:(fN (inF b lv a) (lV b).length ((a:Int) :: t,d)).1=(a:Int) :: t1:=by rw [hff]; exact z1
    have z3:t1.length+1+(nodN b - cntS (fN (inF b lv a) (lV b).length ((a:Int) :: t,d)).2)<=t.length+1+(nodN b - cntS d):=by rw [hff]; exact z3
    have zd:disN (lV b).length (frN b) (toN b) (fun i=>lv.getD i false) ((a:Int) :: t,d)=(t1,(fN (inF b lv a) (lV b).length ((a:Int) :: t,d)).2):=by
     have hz:fN (inF b lv a) (lV b).length ((a:Int) :: t,d)=(inL (lV b).length (toN b) (fun i=>lv.getD i false) a).foldl (dE (frN b) a) ((a:Int) :: t,d):=hff _
     rw [hz] at z1 ⊢
     show (((inL (lV b).length (toN b) (fun i=>lv.getD i false) a).foldl (dE (frN b) a) ((a:Int) :: t,d)).1.drop 1,_)=_
     rw [z1]
     rfl
    refine ⟨(((m+1:Nat):Int),pre++(fN (inF b lv a) (lV b).length ((a:Int) :: t,d)).1,(fN (inF b lv a) (lV b).length ((a:Int) :: t,d)).2),⟨m+1,pre++[(a:Int)],?_,by rw [List.length_append,hpre]; rfl,?_⟩,?_⟩
    ·rw [zd,z1,List.append_assoc]
     rfl
    ·rw [zd]
     show m+1+(t1.length+(nodN b - cntS (fN (inF b lv a) (lV b).length ((a:Int) :: t,d)).2))<=_
     omega
    ·have hpl:(pre++((a:Int) :: t,d).1).length=m+(t.length+1):=by rw [List.length_append,hpre]; rfl
     have em:((m:Int)).toNat=m:=rfl
     refine (if_pos (decide_eq_true (by omega))).trans ?_
     refine lF (n:=(lV b).length) (by omega) (fun (k:Nat) (q:List Int×List Int)=>((k:Int),pre++q.1,q.2)) (inF b lv a) (fun k q=>q=fN (inF b lv a) k ((a:Int) :: t,d)) (J:=fun q=>g (((m+1:Nat):Int),pre++q.1,q.2)) (F:=u108L5 (lV b) (m:Int) lv g) (fun g' k q hk hI=>?_) (fun k q hk hI=>by rw [hI]; rfl) (fun g' q hI=>?_) ((a:Int) :: t,d) rfl
     ·obtain ⟨t',k1,k2,k3,k4,k5⟩:=DI.steps hf hs _ (hmem k (by omega)) h
      rw [<- hff,<- hI] at k1 k2 k3
      obtain ⟨q1,q2⟩:=q
      have k1:q1=(a:Int) :: t':=k1
      subst k1
      have k2:DI (lV b).length (nodN b) (frN b) (toN b) (fun i=>lv.getD i false) s ((a:Int) :: t') q2:=k2
      have k3:t'.length+1+(nodN b - cntS q2)<=t.length+1+(nodN b - cntS d):=k3
      obtain ⟨f1,f2,f3,f4⟩:=frto b hb hk
      have e3:((k:Int)).toNat=k:=rfl
      have e5:((frN b k:Int)).toNat=frN b k:=rfl
      have b1:=k2.bd a (by omega)
      have b2:=k2.lo a (by omega)
      have b3:=cntS_le q2
      have b4:=k2.len
      have hpl2:(pre++((a:Int) :: t')).length=m+(t'.length+1):=by rw [List.length_append,hpre]; rfl
      have hget:(pre++((a:Int) :: t')).getD m 0=(a:Int):=by
       rw [gq,List.getElem?_append_right (by omega),hpre,Nat.sub_self]
       rfl
      have eb:(((toN b k:Nat):Int)==((a:Nat):Int))=(toN b k==a):=by
       rw [Bool.eq_iff_iff,beq_iff_eq,beq_iff_eq]
       omega
      refine (if_pos (decide_eq_true (by omega))).trans ?_
      have hget':(pre++((((a:Int) :: t',q2):List Int×List Int).1)).getD m 0=(a:Int):=hget
      rw [e3,em,f1,f2,hget',eb,e5]
      refine (gP ⟨oo,(fun _=>oo),(fun _=>⟨by omega,by show (m:Int) < ((pre++((a:Int) :: t')).length:Int); omega⟩),(fun _=>by show m < (pre++((a:Int) :: t')).length; omega),(fun _=>oo),(fun _=>⟨by omega,by show (frN b k:Int) < (q2.length:Int); omega⟩),(fun _=>by show frN b k < q2.length; omega),trivial⟩).trans ?_
      show _=g' (((k+1:Nat):Int),pre++(if (lv.getD k false&&toN b k==a)=true then (if q2.getD (frN b k) 0 < 0 then (((a:Int) :: t')++[(frN b k:Int)],q2.set (frN b k) (q2.getD a 0+1)) else ((a:Int) :: t',q2)) else ((a:Int) :: t',q2)).1,(if (lv.getD k false&&toN b k==a)=true then (if q2.getD (frN b k) 0 < 0 then (((a:Int) :: t')++[(frN b k:Int)],q2.set (frN b k) (q2.getD a 0+1)) else ((a:Int) :: t',q2)) else ((a:Int) :: t',q2)).2)
      by_cases hp:(lv.getD k false&&toN b k==a)=true
      ·rw [if_pos hp]
       by_cases hd:q2.getD (frN b k) 0 < 0
       ·rw [if_pos hd]
        refine (if_pos (by rw [hp,Bool.true_and]; exact decide_eq_true hd)).trans ?_
        refine (gP ⟨oo,⟨by omega,by show (m:Int) < ((pre++((a:Int) :: t')).length:Int); omega⟩,by show m < (pre++((a:Int) :: t')).length; omega,⟨by omega,by show (a:Int) < (q2.length:Int); omega⟩,by show a < q2.length; omega,⟨by show -9223372036854775808<=q2.getD a 0+1; omega,by show q2.getD a 0+1<=9223372036854775807; omega⟩,⟨by omega,by show (frN b k:Int) < (q2.length:Int); omega⟩,by show frN b k < q2.length; omega,trivial⟩).trans ?_
        rw [lE]
        refine (gP ⟨oo,⟨by show (pre++((a:Int) :: t')).length+1<=_; omega,by show ((pre++((a:Int) :: t')).length+1)*8<=_; omega⟩,trivial⟩).trans ?_
        refine (gP (V:=in64 ((k:Int)+1)/\True) ⟨oo,trivial⟩).trans ?_
        rw [<- List.append_assoc]
        rfl
       ·rw [if_neg hd]
        refine (if_neg (by rw [hp,Bool.true_and,dq]; exact hd)).trans ?_
        refine (gP (V:=in64 ((k:Int)+1)/\True) ⟨oo,trivial⟩).trans ?_
        rfl
      ·rw [if_neg hp]
       refine (if_neg (by rw [ba]; exact fun h=>hp h.1)).trans ?_
       refine (gP (V:=in64 ((k:Int)+1)/\True) ⟨oo,trivial⟩).trans ?_
       rfl
     ·refine (if_neg (by rw [dq]; omega)).trans ?_
      exact gP ⟨oo,trivial⟩
 ·refine if_neg ?_
  have h0:o.length=0:=h0
  rw [dq,List.length_append,hpre]
  show ¬ (m:Int) < ((m+o.length:Nat):Int)
  omega
end
end Go.Proofs.YthobjlocnkienaaGreatDoor
end
