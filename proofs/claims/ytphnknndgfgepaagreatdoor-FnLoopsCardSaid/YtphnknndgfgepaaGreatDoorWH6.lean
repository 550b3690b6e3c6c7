/- Where there is a loop there is a cell's link in the first one. -/
import Derived.Test.YtphnknndgfgepaaGreatDoorWG6
import Derived.Test.YtphnknndgfgepaaGreatDoorF76d
import Derived.Test.YtphnknndgfgepaaGreatDoorWF6
section
namespace Go.Proofs.YtphnknndgfgepaaGreatDoor
open Go Go.Proofs Go.Proofs.Sv Go.Proofs.Xv Go.Proofs.Xl Go.Proofs.Xd
section
variable {b:Y34}
def kdN(b:Y34)(i:Nat):Int:=((lV b).getD i (d6 y48)).2.2.1
end
end Go.Proofs.YtphnknndgfgepaaGreatDoor
namespace Go.Proofs.Xd
open Go.Proofs.Xl
theorem n0M{M:Nat}{fr to:Nat->Nat}{lv:Nat->Bool}{a c:Nat}(h:Rch M fr to lv a c):a=c∨∃i,i<M/\lv i=true/\fr i=a/\Rch M fr to lv (to i) c:=by
 induction h with
 | refl=>exact .inl rfl
 | @step j hr hj hl ih =>
   rcases ih with e | ⟨i,h1,h2,h3,h4⟩
   ·exact .inr ⟨j,hj,hl,e.symm,.refl⟩
   ·exact .inr ⟨i,h1,h2,h3,h4.step hj hl⟩
theorem v0r{N:Nat}{p:Nat->Bool}{v:Nat}(h:1 < ((List.range N).filter p).length):∃w,w<N/\p w=true/\w≠v:=by
 have hn:((List.range N).filter p).Nodup:=List.nodup_range.filter _;have hmem:∀x∈(List.range N).filter p,x<N/\p x=true:=fun x hx=>by
  rw[List.mem_filter,List.mem_range] at hx; exact hx
 generalize (List.range N).filter p=l at h hn hmem
 match l,h with
 | x :: y :: r,_ =>
   have hxy:x≠y:=fun e=>by
    rw[e,List.nodup_cons] at hn;exact hn.1 (by simp)
   by_cases e:x=v
   ·exact⟨y,(hmem y (by simp)).1,(hmem y (by simp)).2,fun e'=>hxy (by rw[e,e'])⟩
   ·exact⟨x,(hmem x (by simp)).1,(hmem x (by simp)).2,e⟩
end Go.Proofs.Xd
namespace Go.Proofs.YtphnknndgfgepaaGreatDoor
open Go Go.Proofs Go.Proofs.Sv Go.Proofs.Xv Go.Proofs.Xl Go.Proofs.Xd
section
variable {b:Y34}
abbrev Tj(b:Y34)(lv:List Bool)(v w:Nat):Prop:=Rch (lV b).length (frN b) (toN b) (fun i=>lv.getD i false) v w
theorem Qz(hb:A7 b=true){lv:List Bool}(hlv:lv.length=(lV b).length){v w:Nat}(hv:v<l5 b)(hw:w<l5 b):clP b lv v w=true↔Tj b lv v w/\Tj b lv w v:=by
 unfold clP;rw[ba,(Nz hb hlv hv).1.2 w hw,(Nz hb hlv hw).1.2 v hv]
theorem z0J(hb:A7 b=true){lv:List Bool}(hlv:lv.length=(lV b).length){v:Nat}(hv:v<l5 b):U9 b lv v=true↔∃i,i < (lV b).length/\lv.getD i false=true/\frN b i=v/\Tj b lv (toN b i) v:=by
 unfold U9;rw[Bool.or_eq_true,dq];have hs:Pz b lv v=true↔∃i,i < (lV b).length/\lv.getD i false=true/\frN b i=v/\toN b i=v:=by
  unfold Pz;rw[<- o0P,List.any_eq_true];constructor
  ·rintro⟨i,h1,h2⟩;simp only[ba,beq_iff_eq] at h2;exact⟨i,List.mem_range.1 h1,h2.1,h2.2.1,h2.2.2⟩
  ·rintro⟨i,h1,h2,h3,h4⟩;exact⟨i,List.mem_range.2 h1,by simp only[ba,beq_iff_eq]; exact⟨h2,h3,h4⟩⟩
 have hl:(clV b lv v).length=((List.range (l5 b)).filter (clP b lv v)).length:=(Mz _ _).2;constructor
 ·rintro(h | h)
  ·obtain⟨w,hw,pw,hne⟩:=v0r (v:=v) (show 1 < ((List.range (l5 b)).filter (clP b lv v)).length by omega);obtain⟨r1,r2⟩:=(Qz hb hlv hv hw).1 pw;rcases n0M r1 with e | ⟨i,h1,h2,h3,h4⟩
   ·exact absurd e.symm hne
   ·exact⟨i,h1,h2,h3,h4.trans r2⟩
  ·obtain⟨i,h1,h2,h3,h4⟩:=hs.1 h;exact⟨i,h1,h2,h3,by rw[h4]; exact .refl⟩
 ·rintro⟨i,h1,h2,h3,h4⟩;by_cases e:toN b i=v
  ·exact .inr (hs.2 ⟨i,h1,h2,h3,e⟩)
  ·left;obtain⟨_,_,_,f4⟩:=M4 b hb h1;have pt:clP b lv v (toN b i)=true:=(Qz hb hlv hv f4).2 ⟨by have:=Rch.one (M:=(lV b).length) (fr:=frN b) (to:=toN b) (lv:=fun i=>lv.getD i false) h1 h2; rw[h3] at this; exact this,h4⟩;rcases Nat.lt_or_ge ((List.range (l5 b)).filter (clP b lv v)).length 2 with h | h
   ·exact absurd (o0t h hv (o0E hb hlv hv) f4 pt) e
   ·omega
def G0w(b:Y34)(lv:List Bool):List Int:=(J8 b lv).getD 0 []
def qB(b:Y34)(lv:List Bool)(k:Nat):Bool:=lv.getD k false&&(kdN b k==1&&B6 (G0w b lv) (frN b k:Int)&&B6 (G0w b lv) (toN b k:Int))
end
theorem v0j(p:Nat->Bool)(M:Nat):(J3 p M).Pairwise fun x y=>x<y:=by
 unfold J3;rw[List.pairwise_map];refine(List.pairwise_lt_range.filter p).imp ?_;intro a c h;omega
theorem v0k{p:Nat->Bool}{M:Nat}{x:Int}:x∈J3 p M↔∃k,k<M/\p k=true/\x=(k:Int):=by
 unfold J3;rw[List.mem_map];constructor
 ·rintro⟨k,h,e⟩;rw[List.mem_filter,List.mem_range] at h;exact⟨k,h.1,h.2,e.symm⟩
 ·rintro⟨k,h1,h2,e⟩;exact⟨k,List.mem_filter.2 ⟨List.mem_range.2 h1,h2⟩,e.symm⟩
section
variable {b:Y34}
end
end Go.Proofs.YtphnknndgfgepaaGreatDoor
end
section
namespace Go.Proofs.Xd
open Go.Proofs.Xl
theorem h0w{σ:Type}(g:σ->Nat->σ)(p:Nat->Bool)(s:σ):∀m,fN (fun i s=>if p i=true then g s i else s) m s=((List.range m).filter p).foldl g s
 | 0=>rfl
 | m+1=>by
   show(if p m=true then g (fN _ m s) m else fN _ m s)=_;rw[h0w g p s m,List.range_succ,List.filter_append,List.foldl_append];by_cases h:p m=true
   ·simp[h]
   ·simp[h]
theorem Wy{o:List Int}{i v:Nat}(x:Int)(hi:i<o.length):(o.set i x).getD v 0=if v=i then x else o.getD v 0:=by
 by_cases h:v=i
 ·subst h; simp[hi]
 ·rw[if_neg h]; simp[List.getElem?_set_ne (Ne.symm h)]
def H9(d:List Int):Nat:=d.countP fun x=>decide (0<=x)
theorem o0A{d:List Int}{i:Nat}{x:Int}(hi:i<d.length)(h:d.getD i 0<0)(hx:0<=x):H9 (d.set i x)=H9 d+1:=by
 induction d generalizing i with
 | nil=>simp at hi
 | cons a t ih =>
   cases i with
   | zero =>
     simp only[List.getD_cons_zero] at h;have ha:decide (0<=a)=false:=decide_eq_false (by omega);have hx':decide (0<=x)=true:=decide_eq_true hx;unfold H9;rw[List.set_cons_zero,List.countP_cons,List.countP_cons,ha,hx'];simp
   | succ i =>
     have:=ih (i:=i) (by simpa using hi) (by simpa using h);unfold H9 at this ⊢;rw[List.set_cons_succ,List.countP_cons,List.countP_cons,this];omega
theorem Xy(d:List Int):H9 d<=d.length:=List.countP_le_length
section
variable (M N:Nat) (fr to:Nat->Nat) (lv:Nat->Bool)
structure DI(s:Nat)(o d:List Int):Prop where
 len:d.length=N
 src:d.getD s 0=0
 lo:∀v,v<N -> -1<=d.getD v 0
 zero:∀v,v<N->d.getD v 0=0->v=s
 mem:∀x∈o,0<=x/\x.toNat<N/\0<=d.getD x.toNat 0
 top:∀x∈o,∀v,v<N->d.getD v 0<=d.getD x.toNat 0+1
 srt:o.Pairwise fun x y=>d.getD x.toNat 0<=d.getD y.toNat 0
 cls:∀i,i<M->lv i=true->0<=d.getD (to i) 0->(to i:Int)∈o∨(0<=d.getD (fr i) 0/\d.getD (fr i) 0<=d.getD (to i) 0+1)
 pre:∀v,v<N->0<d.getD v 0->∃i,i<M/\lv i=true/\fr i=v/\d.getD (to i) 0=d.getD v 0-1
 bd:∀v,v<N->d.getD v 0 < (H9 d:Int)
def dE(x:Nat)(s:List Int×List Int)(i:Nat):List Int×List Int:=if s.2.getD (fr i) 0<0 then(s.1++[(fr i:Int)],s.2.set (fr i) (s.2.getD x 0+1)) else s
theorem DI.step{M N:Nat}{fr to:Nat->Nat}{lv:Nat->Bool}(hf:∀i,i<M->fr i<N){s:Nat}(hs:s<N){x:Nat}{t d:List Int}(h:DI M N fr to lv s ((x:Int) :: t) d){i:Nat}(hi:i<M)(hl:lv i=true)(hx:to i=x) :
  ∃t',(dE fr x ((x:Int) :: t,d) i).1=(x:Int) :: t'/\DI M N fr to lv s ((x:Int) :: t') (dE fr x ((x:Int) :: t,d) i).2 /\
   t'.length+1+(N-H9 (dE fr x ((x:Int) :: t,d) i).2)<=t.length+1+(N-H9 d) /\
   0<=(dE fr x ((x:Int) :: t,d) i).2.getD (fr i) 0/\∀v,0<=d.getD v 0->(dE fr x ((x:Int) :: t,d) i).2.getD v 0=d.getD v 0:=by
 unfold dE;show ∃t',(if d.getD (fr i) 0<0 then _ else _:List Int×List Int).1=_/\_;by_cases hd:d.getD (fr i) 0<0
 ·rw[if_pos hd];have hv:fr i<d.length:=by rw[h.len]; exact hf i hi
  have hg:=fun w=>Wy (v:=w) (d.getD x 0+1) hv;obtain⟨_,m2,m3⟩:=h.mem (x:Int) (by simp);rw[Int.toNat_natCast] at m2 m3;have hc:=o0A hv hd (x:=d.getD x 0+1) (by omega);have hcl:H9 (d.set (fr i) (d.getD x 0+1))<=N:=by
   have:=Xy (d.set (fr i) (d.getD x 0+1))
   rwa [List.length_set,h.len] at this
  have old:∀w,0<=d.getD w 0->(d.set (fr i) (d.getD x 0+1)).getD w 0=d.getD w 0:=fun w hw=>by
   rw[hg,if_neg (fun e=>by rw[e] at hw; omega)]
  have hxo:=old x m3;have hTop:=h.top (x:Int) (by simp);rw[Int.toNat_natCast] at hTop;refine⟨t++[(fr i:Int)],rfl,⟨by rw[List.length_set]; exact h.len,?_,fun v hv=>?_,fun v hv hz=>?_,fun y hy=>?_,fun y hy v hv=>?_,?_,fun j hj hlj hz=>?_,fun v hv hp=>?_,fun v hv=>?_⟩,?_,?_,old⟩
  ·rw[old s (by rw[h.src]; omega)]; exact h.src
  ·show -1<=(d.set (fr i) (d.getD x 0+1)).getD v 0;rw[hg]; split
   ·omega
   ·exact h.lo v hv
  ·have hz:(d.set (fr i) (d.getD x 0+1)).getD v 0=0:=hz;rw[hg] at hz;split at hz
   ·omega
   ·exact h.zero v hv hz
  ·show 0<=y/\y.toNat<N/\0<=(d.set (fr i) (d.getD x 0+1)).getD y.toNat 0;have hy:y∈((x:Int) :: t)++[(fr i:Int)]:=hy;rcases List.mem_append.1 hy with hy | hy
   ·obtain⟨a1,a2,a3⟩:=h.mem y hy;exact⟨a1,a2,by rw[old _ a3]; exact a3⟩
   ·rw[List.mem_singleton.1 hy,Int.toNat_natCast,hg,if_pos rfl];exact⟨by omega,hf i hi,by omega⟩
  ·show(d.set (fr i) (d.getD x 0+1)).getD v 0<=(d.set (fr i) (d.getD x 0+1)).getD y.toNat 0+1;have hy:y∈((x:Int) :: t)++[(fr i:Int)]:=hy;have key:(d.set (fr i) (d.getD x 0+1)).getD v 0<=d.getD x 0+1:=by
    rw[hg]; split
    ·omega
    ·exact hTop v hv
   rcases List.mem_append.1 hy with hy | hy
   ·obtain⟨a1,a2,a3⟩:=h.mem y hy;rw[old _ a3];have hle:d.getD x 0<=d.getD y.toNat 0:=by
     rcases List.mem_cons.1 hy with e | e
     ·rw[e,Int.toNat_natCast]; omega
     ·have:=(List.pairwise_cons.1 h.srt).1 y e
      rwa [Int.toNat_natCast] at this
    omega
   ·rw[List.mem_singleton.1 hy,Int.toNat_natCast,show(d.set (fr i) (d.getD x 0+1)).getD (fr i) 0=d.getD x 0+1 by rw[hg,if_pos rfl]];omega
  ·show(((x:Int) :: t)++[(fr i:Int)]).Pairwise fun a b=>(d.set (fr i) (d.getD x 0+1)).getD a.toNat 0<=(d.set (fr i) (d.getD x 0+1)).getD b.toNat 0;rw[List.pairwise_append];refine⟨h.srt.imp_of_mem (fun ha hb hab=>?_),List.pairwise_singleton _ _,fun a ha b hb=>?_⟩
   ·rw[old _ (h.mem _ ha).2.2,old _ (h.mem _ hb).2.2]; exact hab
   ·rw[List.mem_singleton.1 hb,Int.toNat_natCast,show(d.set (fr i) (d.getD x 0+1)).getD (fr i) 0=d.getD x 0+1 by rw[hg,if_pos rfl]];obtain⟨a1,a2,a3⟩:=h.mem a ha;rw[old _ a3];exact hTop _ a2
  ·show(to j:Int)∈((x:Int) :: t)++[(fr i:Int)]∨_;have hz:0<=(d.set (fr i) (d.getD x 0+1)).getD (to j) 0:=hz;by_cases e:to j=fr i
   ·left; rw[e]; exact List.mem_append_right _ (by simp)
   ·rw[hg,if_neg e] at hz;rcases h.cls j hj hlj hz with h' | ⟨b1,b2⟩
    ·exact .inl (List.mem_append_left _ h')
    ·right;show 0<=(d.set (fr i) (d.getD x 0+1)).getD (fr j) 0/\(d.set (fr i) (d.getD x 0+1)).getD (fr j) 0<=(d.set (fr i) (d.getD x 0+1)).getD (to j) 0+1;rw[old _ b1,old _ hz]; exact⟨b1,b2⟩
  ·have hp:0 < (d.set (fr i) (d.getD x 0+1)).getD v 0:=hp;show ∃j,j<M/\lv j=true/\fr j=v/\(d.set (fr i) (d.getD x 0+1)).getD (to j) 0=(d.set (fr i) (d.getD x 0+1)).getD v 0-1;by_cases e:v=fr i
   ·refine⟨i,hi,hl,e.symm,?_⟩;rw[hx,hxo,hg,if_pos e]; omega
   ·rw[hg,if_neg e] at hp ⊢;obtain⟨j,j1,j2,j3,j4⟩:=h.pre v hv hp;exact⟨j,j1,j2,j3,by rw[old _ (by omega)]; exact j4⟩
  ·show(d.set (fr i) (d.getD x 0+1)).getD v 0 < (H9 (d.set (fr i) (d.getD x 0+1)):Int);rw[hc,hg];have b1:=h.bd x m2;split
   ·omega
   ·have:=h.bd v hv; omega
  ·show(t++[(fr i:Int)]).length+1+(N-H9 (d.set (fr i) (d.getD x 0+1)))<=_;rw[hc] at hcl ⊢;rw[List.length_append,List.length_singleton];omega
  ·show 0<=(d.set (fr i) (d.getD x 0+1)).getD (fr i) 0;rw[hg,if_pos rfl]; omega
 ·rw[if_neg hd];exact⟨t,rfl,h,Nat.le_refl _,by show 0<=d.getD (fr i) 0; omega,fun _ _=>rfl⟩
def inL(x:Nat):List Nat:=(List.range M).filter fun i=>lv i&&to i==x
theorem Uw{x i:Nat}:i∈inL M to lv x↔i<M/\lv i=true/\to i=x:=by
 unfold inL;rw[List.mem_filter,List.mem_range];simp
theorem DI.steps{M N:Nat}{fr to:Nat->Nat}{lv:Nat->Bool}(hf:∀i,i<M->fr i<N){s:Nat}(hs:s<N){x:Nat}:∀(l:List Nat) {t d:List Int},(∀i∈l,i<M/\lv i=true/\to i=x)->DI M N fr to lv s ((x:Int) :: t) d ->
  ∃t',(l.foldl (dE fr x) ((x:Int) :: t,d)).1=(x:Int) :: t'/\DI M N fr to lv s ((x:Int) :: t') (l.foldl (dE fr x) ((x:Int) :: t,d)).2 /\
   t'.length+1+(N-H9 (l.foldl (dE fr x) ((x:Int) :: t,d)).2)<=t.length+1+(N-H9 d)/\(∀i∈l,0<=(l.foldl (dE fr x) ((x:Int) :: t,d)).2.getD (fr i) 0) /\
   ∀v,0<=d.getD v 0->(l.foldl (dE fr x) ((x:Int) :: t,d)).2.getD v 0=d.getD v 0:=by
 intro l
 induction l with
 | nil=>intro t d _ h; exact⟨t,rfl,h,Nat.le_refl _,(fun i hi=>nomatch hi),fun _ _=>rfl⟩
 | cons i l ih =>
   intro t d hl h;obtain⟨h1,h2,h3⟩:=hl i (by simp);obtain⟨t1,e1,g1,g2,g3,g4⟩:=h.step hf hs h1 h2 h3;rw[List.foldl_cons];have e:dE fr x ((x:Int) :: t,d) i=((x:Int) :: t1,(dE fr x ((x:Int) :: t,d) i).2):=by rw[<- e1]
   rw[e];obtain⟨t2,k1,k2,k3,k4,k5⟩:=ih (fun j hj=>hl j (List.mem_cons_of_mem _ hj)) g1;refine⟨t2,k1,k2,by omega,fun j hj=>?_,fun v hv=>(k5 v (by rw[g4 v hv]; exact hv)).trans (g4 v hv)⟩;rcases List.mem_cons.1 hj with rfl | hj
   ·rw[k5 _ g3]; exact g3
   ·exact k4 j hj
theorem DI.drop{M N:Nat}{fr to:Nat->Nat}{lv:Nat->Bool}{s x:Nat}{t d:List Int}(h:DI M N fr to lv s ((x:Int) :: t) d)(ha:∀i,i<M->lv i=true->to i=x->0<=d.getD (fr i) 0)(hf:∀i,i<M->fr i<N):DI M N fr to lv s t d:=by
 refine⟨h.len,h.src,h.lo,h.zero,fun y hy=>h.mem y (List.mem_cons_of_mem _ hy),fun y hy=>h.top y (List.mem_cons_of_mem _ hy),(List.pairwise_cons.1 h.srt).2,fun i hi hl hz=>?_,h.pre,h.bd⟩;rcases h.cls i hi hl hz with h' | h'
 ·rcases List.mem_cons.1 h' with e | e
  ·right;have e:to i=x:=by omega
   have:=h.top (x:Int) (by simp) (fr i) (hf i hi);rw[Int.toNat_natCast] at this;rw[e];exact⟨ha i hi hl e,this⟩
  ·exact .inl e
 ·exact .inr h'
def Rx(q:List Int×List Int):List Int×List Int:=((((inL M to lv (q.1.getD 0 0).toNat).foldl (dE fr (q.1.getD 0 0).toNat) q).1).drop 1,((inL M to lv (q.1.getD 0 0).toNat).foldl (dE fr (q.1.getD 0 0).toNat) q).2)
theorem o0x(hf:∀i,i<M->fr i<N){s:Nat}(hs:s<N){q:List Int×List Int}(h:DI M N fr to lv s q.1 q.2)(hq:0<q.1.length):DI M N fr to lv s (Rx M fr to lv q).1 (Rx M fr to lv q).2 /\
  (Rx M fr to lv q).1.length+(N-H9 (Rx M fr to lv q).2)<q.1.length+(N-H9 q.2):=by
 obtain⟨o,d⟩:=q;cases o with
 | nil=>simp at hq
 | cons x0 t =>
   obtain⟨a1,a2,_⟩:=h.mem x0 (by simp);obtain⟨x,rfl⟩:=Int.eq_ofNat_of_zero_le a1;rw[Int.toNat_natCast] at a2;obtain⟨t',k1,k2,k3,k4,k5⟩:=DI.steps hf hs (inL M to lv x) (fun i hi=>(Uw M to lv).1 hi) h;unfold Rx;simp only[List.getD_cons_zero,Int.toNat_natCast];rw[k1];refine⟨k2.drop (fun i hi hl hx=>k4 i ((Uw M to lv).2 ⟨hi,hl,hx⟩)) hf,?_⟩;show t'.length+(N-H9 (List.foldl (dE fr x) ((x:Int) :: t,d) (inL M to lv x)).2) < ((x:Int) :: t).length+(N-H9 d);have k3':t'.length+1+(N-H9 (List.foldl (dE fr x) ((x:Int) :: t,d) (inL M to lv x)).2)<=t.length+1+(N-H9 d):=k3;rw[List.length_cons];omega
structure FarOk(s:Nat)(d:List Int):Prop where
 len:d.length=N
 src:d.getD s 0=0
 lo:∀v,v<N -> -1<=d.getD v 0/\d.getD v 0 < (N:Int)
 zero:∀v,v<N->d.getD v 0=0->v=s
 cls:∀i,i<M->lv i=true->0<=d.getD (to i) 0->0<=d.getD (fr i) 0/\d.getD (fr i) 0<=d.getD (to i) 0+1
 pre:∀v,v<N->0<d.getD v 0->∃i,i<M/\lv i=true/\fr i=v/\d.getD (to i) 0=d.getD v 0-1
theorem DI.far{M N:Nat}{fr to:Nat->Nat}{lv:Nat->Bool}{s:Nat}{d:List Int}(h:DI M N fr to lv s [] d):FarOk M N fr to lv s d :=
 ⟨h.len,h.src,fun v hv=>⟨h.lo v hv,by have h1:=h.bd v hv; have h2:=Xy d; rw[h.len] at h2; omega⟩,h.zero,fun i hi hl hz=>(h.cls i hi hl hz).resolve_left (fun h=>by cases h),h.pre⟩
def Xq(s:Nat):List Int:=(List.replicate N (-1)).set s 0
theorem s0H:∀n,H9 (List.replicate n (-1))=0
 | 0=>rfl
 | n+1=>by
   have:=s0H n;unfold H9 at this ⊢;rw[List.replicate_succ,List.countP_cons,this];rfl
theorem s0A(ht:∀i,i<M->to i<N){s:Nat}(hs:s<N):DI M N fr to lv s [(s:Int)] (Xq N s):=by
 have hl:s < (List.replicate N (-1:Int)).length:=by rw[List.length_replicate]; exact hs
 have hg:∀v,v<N->(Xq N s).getD v 0=if v=s then 0 else -1:=fun v hv=>by
  unfold Xq;rw[Wy 0 hl];split
  ·rfl
  ·simp[gq,List.getElem?_replicate,hv]
 have hc:H9 (Xq N s)=1:=by
  unfold Xq;rw[o0A hl (by simp[gq,List.getElem?_replicate,hs]) (by omega),s0H]
 refine⟨by unfold Xq; rw[List.length_set,List.length_replicate],by rw[hg s hs,if_pos rfl],fun v hv=>?_,fun v hv hz=>?_,fun x hx=>?_,fun x hx v hv=>?_,List.pairwise_singleton _ _,fun i hi hl hz=>?_,fun v hv hp=>?_,fun v hv=>?_⟩
 ·rw[hg v hv]; split <;> omega
 ·rw[hg v hv] at hz;split at hz
  ·assumption
  ·cases hz
 ·rw[List.mem_singleton.1 hx,Int.toNat_natCast,hg s hs,if_pos rfl];exact⟨by omega,hs,by omega⟩
 ·rw[List.mem_singleton.1 hx,Int.toNat_natCast,hg s hs,if_pos rfl,hg v hv];split <;> omega
 ·left;rw[hg _ (ht i hi)] at hz;split at hz
  ·rename_i e; rw[e]; simp
  ·omega
 ·rw[hg v hv] at hp;split at hp <;> omega
 ·rw[hg v hv,hc];split <;> omega
def Uj:Nat->List Int×List Int->List Int
 | 0,q=>q.2
 | n+1,q=>if q.1.length=0 then q.2 else Uj n (Rx M fr to lv q)
def Yq(s:Nat):List Int:=Uj M fr to lv (N+1) ([(s:Int)],Xq N s)
theorem v0z(hf:∀i,i<M->fr i<N){s:Nat}(hs:s<N):∀(n:Nat) (q:List Int×List Int),DI M N fr to lv s q.1 q.2->q.1.length+(N-H9 q.2)<=n->DI M N fr to lv s [] (Uj M fr to lv n q):=by
 intro n
 induction n with
 | zero =>
   intro q h hm;have:q.1=[]:=List.eq_nil_of_length_eq_zero (by omega);rw[this] at h;exact h
 | succ n ih =>
   intro q h hm;show DI M N fr to lv s [] (if q.1.length=0 then q.2 else Uj M fr to lv n (Rx M fr to lv q));by_cases hq:q.1.length=0
   ·rw[if_pos hq];rw[List.eq_nil_of_length_eq_zero hq] at h;exact h
   ·rw[if_neg hq];obtain⟨h1,h2⟩:=o0x M N fr to lv hf hs h (by omega);exact ih _ h1 (by omega)
theorem Yy(hf:∀i,i<M->fr i<N)(ht:∀i,i<M->to i<N){s:Nat}(hs:s<N):FarOk M N fr to lv s (Yq M N fr to lv s):=by
 have h0:=s0A M N fr to lv ht hs;refine(v0z M N fr to lv hf hs (N+1) _ h0 ?_).far;show 1+(N-H9 (Xq N s))<=N+1;omega
theorem C0E{ρ τ:Type}(hf:∀i,i<M->fr i<N)(ht:∀i,i<M->to i<N)(hN:N<=1000000){s:Nat}(hs:s<N)(St:τ->List Int×List Int->Prop){F:(τ->Option ρ)->τ->Option ρ}{J:List Int->Option ρ}
  (hF:∀g t q,St t q->DI M N fr to lv s q.1 q.2->q.1.length+(N-H9 q.2)<=N+1->(0<q.1.length->∃t',St t' (Rx M fr to lv q)/\F g t=g t')/\(q.1.length=0->F g t=J q.2)) {t0:τ} (h0:St t0 ([(s:Int)],Xq N s)):lp F t0=J (Yq M N fr to lv s):=by
 have key:∀(n:Nat) (t:τ) (q:List Int×List Int),St t q->DI M N fr to lv s q.1 q.2->q.1.length+(N-H9 q.2)<=n->n<=N+1->∀k,itF F (k+(n+1)) t=J (Uj M fr to lv n q):=by
  intro n
  induction n with
  | zero =>
    intro t q ht' h hm hn k;rw[show k+(0+1)=k+1 from rfl,e0f];exact(hF _ t q ht' h (by omega)).2 (by omega)
  | succ n ih =>
    intro t q ht' h hm hn k;rw[show k+(n+1+1)=(k+(n+1))+1 by omega,e0f];show _=J (if q.1.length=0 then q.2 else Uj M fr to lv n (Rx M fr to lv q));obtain⟨k1,k2⟩:=hF (itF F (k+(n+1))) t q ht' h (by omega);by_cases hq:q.1.length=0
    ·rw[if_pos hq]; exact k2 hq
    ·rw[if_neg hq];obtain⟨t',e1,e2⟩:=k1 (by omega);obtain⟨h1,h2⟩:=o0x M N fr to lv hf hs h (by omega);rw[e2];exact ih t' _ e1 h1 (by omega) (by omega) k
 have hd:=s0A M N fr to lv ht hs;refine Fv (N+1+1) (by omega) fun n=>?_;exact key (N+1) t0 _ h0 hd (by show 1+(N-H9 (Xq N s))<=N+1; omega) (Nat.le_refl _) n
end
def nbS(f:Nat->Int)(b:Int)(i:Nat):Int:=if(decide (0<=f i)&&(decide (b<0)||decide (f i<f b.toNat)))=true then(i:Int) else b
theorem Zy(p:Nat->Bool)(f:Nat->Int):∀m,(fN (fun i b=>if p i=true then nbS f b i else b) m (-1) = -1/\∀i,i<m->p i=true->f i<0) ∨
  ∃k,k<m/\fN (fun i b=>if p i=true then nbS f b i else b) m (-1)=(k:Int)/\p k=true/\0<=f k/\(∀j,j<m->p j=true->0<=f j->f k<=f j)/\∀j,j<k->p j=true->f j≠f k
 | 0=>.inl ⟨rfl,fun i hi=>by omega⟩
 | m+1=>by
   have ih:=Zy p f m;show((if p m=true then nbS f (fN (fun i b=>if p i=true then nbS f b i else b) m (-1)) m else fN (fun i b=>if p i=true then nbS f b i else b) m (-1)) = -1/\_)∨∃k,k<m+1/\(if p m=true then nbS f (fN (fun i b=>if p i=true then nbS f b i else b) m (-1)) m else fN (fun i b=>if p i=true then nbS f b i else b) m (-1))=(k:Int)/\_;generalize fN (fun i b=>if p i=true then nbS f b i else b) m (-1)=b at ih;by_cases hp:p m=true
   ·rw[if_pos hp];unfold nbS;by_cases hf:0<=f m
    ·rcases ih with ⟨e,h⟩ | ⟨k,h1,e,h2,h3,h4,h5⟩
     ·subst e;rw[if_pos (by simp[hf])];refine .inr ⟨m,by omega,rfl,hp,hf,fun j hj hpj hfj=>?_,fun j hj hpj e=>?_⟩
      ·rcases Nat.lt_or_ge j m with h' | h'
       ·have:=h j h' hpj; omega
       ·have:j=m:=by omega
        subst this; omega
      ·have:=h j hj hpj; omega
     ·subst e;by_cases hlt:f m<f k
      ·rw[if_pos (by simp[hf,hlt])];refine .inr ⟨m,by omega,rfl,hp,hf,fun j hj hpj hfj=>?_,fun j hj hpj e=>?_⟩
       ·rcases Nat.lt_or_ge j m with h' | h'
        ·have:=h4 j h' hpj hfj; omega
        ·have:j=m:=by omega
         subst this; omega
       ·have:=h4 j hj hpj (by omega); omega
      ·rw[if_neg (by simp[hlt])];refine .inr ⟨k,by omega,rfl,h2,h3,fun j hj hpj hfj=>?_,h5⟩;rcases Nat.lt_or_ge j m with h' | h'
       ·exact h4 j h' hpj hfj
       ·have:j=m:=by omega
        subst this; omega
    ·rw[if_neg (by simp[hf])];rcases ih with ⟨e,h⟩ | ⟨k,h1,e,h2,h3,h4,h5⟩
     ·refine .inl ⟨e,fun i hi hpi=>?_⟩;rcases Nat.lt_or_ge i m with h' | h'
      ·exact h i h' hpi
      ·have:i=m:=by omega
       subst this; omega
     ·refine .inr ⟨k,by omega,e,h2,h3,fun j hj hpj hfj=>?_,h5⟩;rcases Nat.lt_or_ge j m with h' | h'
      ·exact h4 j h' hpj hfj
      ·have:j=m:=by omega
       subst this; omega
   ·rw[if_neg hp];rcases ih with ⟨e,h⟩ | ⟨k,h1,e,h2,h3,h4,h5⟩
    ·refine .inl ⟨e,fun i hi hpi=>?_⟩;rcases Nat.lt_or_ge i m with h' | h'
     ·exact h i h' hpi
     ·have:i=m:=by omega
      subst this; exact(hp hpi).elim
    ·refine .inr ⟨k,by omega,e,h2,h3,fun j hj hpj hfj=>?_,h5⟩;rcases Nat.lt_or_ge j m with h' | h'
     ·exact h4 j h' hpj hfj
     ·have:j=m:=by omega
      subst this; exact(hp hpj).elim
def lfS(f:Nat->Int)(l:Int)(i:Nat):Int:=if(decide (0<=f i)&&(decide (l<0)||decide (f i+1<l)))=true then f i+1 else l
theorem Ag(p:Nat->Bool)(f:Nat->Int):∀m,(fN (fun i b=>if p i=true then nbS f b i else b) m (-1) = -1/\fN (fun i b=>if p i=true then lfS f b i else b) m (-1) = -1)∨∃k:Nat,fN (fun i b=>if p i=true then nbS f b i else b) m (-1)=(k:Int)/\0<=f k/\fN (fun i b=>if p i=true then lfS f b i else b) m (-1)=f k+1
 | 0=>.inl ⟨rfl,rfl⟩
 | m+1=>by
   have ih:=Ag p f m;show((if p m=true then nbS f (fN (fun i b=>if p i=true then nbS f b i else b) m (-1)) m else fN (fun i b=>if p i=true then nbS f b i else b) m (-1)) = -1/\(if p m=true then lfS f (fN (fun i b=>if p i=true then lfS f b i else b) m (-1)) m else fN (fun i b=>if p i=true then lfS f b i else b) m (-1)) = -1)∨∃k:Nat,(if p m=true then nbS f (fN (fun i b=>if p i=true then nbS f b i else b) m (-1)) m else fN (fun i b=>if p i=true then nbS f b i else b) m (-1))=(k:Int)/\0<=f k/\(if p m=true then lfS f (fN (fun i b=>if p i=true then lfS f b i else b) m (-1)) m else fN (fun i b=>if p i=true then lfS f b i else b) m (-1))=f k+1;generalize fN (fun i b=>if p i=true then nbS f b i else b) m (-1)=b at ih;generalize fN (fun i b=>if p i=true then lfS f b i else b) m (-1)=l at ih;by_cases hp:p m=true
   ·rw[if_pos hp,if_pos hp];unfold nbS lfS;by_cases hf:0<=f m
    ·rcases ih with ⟨e,h⟩ | ⟨k,e,h2,h3⟩
     ·subst e; subst h;rw[if_pos (by simp[hf]),if_pos (by simp[hf])];exact .inr ⟨m,rfl,hf,rfl⟩
     ·subst e; subst h3;by_cases hlt:f m<f k
      ·rw[if_pos (by simp[hf,hlt]),if_pos (by simp[hf]; omega)];exact .inr ⟨m,rfl,hf,rfl⟩
      ·rw[if_neg (by simp[hlt]),if_neg (by simp; omega)];exact .inr ⟨k,rfl,h2,rfl⟩
    ·rw[if_neg (by simp[hf]),if_neg (by simp[hf])];exact ih
   ·rw[if_neg hp,if_neg hp]; exact ih
theorem Nv{p:Nat->Bool}{M k:Nat}(hk:k<M)(hp:p k=true)(h:∀j,j<k->p j=false):(List.range M).find? p=some k:=by
 rw[List.find?_range_eq_some];exact⟨hp,List.mem_range.2 hk,fun j hj=>by simp[h j hj]⟩
section
variable (M N:Nat) (fr to:Nat->Nat) (lv:Nat->Bool) (d:List Int)
def O0:Nat->Nat->List Int
 | 0,_=>[]
 | k+1,a=>match(List.range M).find? (fun i=>lv i&&fr i==a&&d.getD (to i) 0==(k:Int)) with
   | some i=>(i:Int) :: O0 k (to i)
   | none=>O0 k a
def H3(a:Nat):Int:=fN (fun i b=>if(lv i&&fr i==a)=true then nbS (fun i=>d.getD (to i) 0) b i else b) M (-1)
def Bg(a:Nat):Int:=fN (fun i b=>if(lv i&&fr i==a)=true then lfS (fun i=>d.getD (to i) 0) b i else b) M (-1)
def Jx(s:Nat):List Int:=O0 M fr to lv d (Bg M fr to lv d s).toNat s
theorem Vj{a:Nat}{k:Nat}(h1:H3 M fr to lv d a=(k:Int)):k<M/\lv k=true/\fr k=a/\0<=d.getD (to k) 0/\Bg M fr to lv d a=d.getD (to k) 0+1/\(∀j,j<M->lv j=true->fr j=a->0<=d.getD (to j) 0->d.getD (to k) 0<=d.getD (to j) 0) /\
  (List.range M).find? (fun i=>lv i&&fr i==a&&d.getD (to i) 0==d.getD (to k) 0)=some k:=by
 rcases Zy (fun i=>lv i&&fr i==a) (fun i=>d.getD (to i) 0) M with ⟨e,_⟩ | ⟨k',g1,e,g2,g3,g4,g5⟩
 ·have e:H3 M fr to lv d a = -1:=e;omega
 ·have e:H3 M fr to lv d a=(k':Int):=e;have:k'=k:=by omega
  subst this;simp only[ba,beq_iff_eq] at g2;refine⟨g1,g2.1,g2.2,g3,?_,fun j hj hl hf hz=>g4 j hj (by simp[hl,hf]) hz,Nv g1 (by simp[g2.1,g2.2]) fun j hj=>?_⟩
  ·rcases Ag (fun i=>lv i&&fr i==a) (fun i=>d.getD (to i) 0) M with ⟨e',_⟩ | ⟨k2,e',_,e2⟩
   ·have e':H3 M fr to lv d a = -1:=e';omega
   ·have e':H3 M fr to lv d a=(k2:Int):=e';have:k2=k':=by omega
    subst this;exact e2
  ·cases hp:(lv j&&fr j==a) with
   | false=>rfl
   | true =>
     have:=g5 j hj hp;simpa using this
theorem r0M{a:Nat}(h1:H3 M fr to lv d a<0):H3 M fr to lv d a = -1/\Bg M fr to lv d a = -1/\∀i,i<M->lv i=true->fr i=a->d.getD (to i) 0<0:=by
 rcases Zy (fun i=>lv i&&fr i==a) (fun i=>d.getD (to i) 0) M with ⟨e,h⟩ | ⟨k',_,e,_⟩
 ·refine⟨e,?_,fun i hi hl hf=>h i hi (by simp[hl,hf])⟩;rcases Ag (fun i=>lv i&&fr i==a) (fun i=>d.getD (to i) 0) M with ⟨_,e2⟩ | ⟨k2,e',_,_⟩
  ·exact e2
  ·have e':H3 M fr to lv d a=(k2:Int):=e';omega
 ·have e:H3 M fr to lv d a=(k':Int):=e;omega
theorem FarOk.near{M N:Nat}{fr to:Nat->Nat}{lv:Nat->Bool}{d:List Int}{s:Nat}(h:FarOk M N fr to lv s d){a k:Nat}(ha:a<N)(hk:d.getD a 0=(k:Int)+1):∃i,i<M/\H3 M fr to lv d a=(i:Int)/\d.getD (to i) 0=(k:Int)/\fr i=a/\lv i=true/\O0 M fr to lv d (k+1) a=(i:Int) :: O0 M fr to lv d k (to i):=by
 obtain⟨j,j1,j2,j3,j4⟩:=h.pre a ha (by omega);rcases Int.lt_or_le (H3 M fr to lv d a) 0 with hn | hn
 ·have:=(r0M M fr to lv d hn).2.2 j j1 j2 j3;omega
 ·obtain⟨i,hi⟩:=Int.eq_ofNat_of_zero_le hn;obtain⟨g1,g2,g3,g4,_,g6,g7⟩:=Vj M fr to lv d hi;have h1:=g6 j j1 j2 j3 (by omega);have h2:=h.cls i g1 g2 g4;rw[g3] at h2;have e:d.getD (to i) 0=(k:Int):=by omega
  refine⟨i,g1,hi,e,g3,g2,?_⟩;rw[e] at g7;show(match(List.range M).find? (fun i=>lv i&&fr i==a&&d.getD (to i) 0==(k:Int)) with | some i=>(i:Int) :: O0 M fr to lv d k (to i) | none=>O0 M fr to lv d k a)=_;rw[g7]
theorem y0f{ρ:Type}{M N:Nat}{fr to:Nat->Nat}{lv:Nat->Bool}{d:List Int}{s:Nat}(h:FarOk M N fr to lv s d)(hs:s<N)(ht:∀i,i<M->to i<N)(hN:N<=1000000){F:(Int×List Int->Option ρ)->Int×List Int->Option ρ}{J:List Int->Option ρ}{E:Option ρ}
  (hF:∀g (a:Nat) (l:List Int),a<N->l.length<=N->F g ((a:Int),l)=if H3 M fr to lv d a<0 then E else if(to (H3 M fr to lv d a).toNat:Int)=(s:Int) then J (l++[H3 M fr to lv d a]) else g ((to (H3 M fr to lv d a).toNat:Int),l++[H3 M fr to lv d a])) :
  lp F ((s:Int),[])=if H3 M fr to lv d s<0 then E else J (Jx M fr to lv d s):=by
 have key:∀(k:Nat) (a:Nat) (l:List Int),a<N->d.getD a 0=(k:Int)+1->l.length+k+1<=N->∀n,itF F (n+(k+1)) ((a:Int),l)=J (l++O0 M fr to lv d (k+1) a):=by
  intro k
  induction k with
  | zero =>
    intro a l ha hk hl n;obtain⟨i,i1,i2,i3,i4,i5,i6⟩:=h.near ha hk;rw[show n+(0+1)=n+1 from rfl,e0f,hF _ a l ha (by omega),i2,if_neg (by omega),Int.toNat_natCast];have e:=h.zero (to i) (ht i i1) (by omega);rw[if_pos (by rw[e]),i6];rfl
  | succ k ih =>
    intro a l ha hk hl n;obtain⟨i,i1,i2,i3,i4,i5,i6⟩:=h.near ha (k:=k+1) (by omega);rw[show n+(k+1+1)=(n+(k+1))+1 by omega,e0f,hF _ a l ha (by omega),i2,if_neg (by omega),Int.toNat_natCast];rw[if_neg (fun e=>by
     have e:to i=s:=by omega
     rw[e,h.src] at i3;omega)]
    rw[ih (to i) _ (ht i i1) (by omega) (by rw[List.length_append,List.length_singleton]; omega) n,i6,List.append_assoc];rfl
 rcases Int.lt_or_le (H3 M fr to lv d s) 0 with hn | hn
 ·rw[if_pos hn];refine Fv 1 (by omega) fun n=>?_;rw[e0f,hF _ s [] hs (by simp),if_pos hn]
 ·rw[if_neg (by omega)];obtain⟨i,hi⟩:=Int.eq_ofNat_of_zero_le hn;obtain⟨g1,g2,g3,g4,g5,_,g7⟩:=Vj M fr to lv d hi;obtain⟨m,hm⟩:=Int.eq_ofNat_of_zero_le g4;have hmN:=(h.lo (to i) (ht i g1)).2;have hp:Jx M fr to lv d s=(i:Int) :: O0 M fr to lv d m (to i):=by
   unfold Jx;rw[g5,hm,show((m:Int)+1).toNat=m+1 by omega];rw[hm] at g7;show(match(List.range M).find? (fun i=>lv i&&fr i==s&&d.getD (to i) 0==(m:Int)) with | some i=>(i:Int) :: O0 M fr to lv d m (to i) | none=>O0 M fr to lv d m s)=_;rw[g7]
  refine Fv (m+1) (by omega) fun n=>?_;rw[show n+(m+1)=(n+m)+1 by omega,e0f,hF _ s [] hs (by simp),hi,if_neg (by omega),Int.toNat_natCast,hp];cases m with
  | zero =>
    have e:=h.zero (to i) (ht i g1) (by omega);rw[if_pos (by rw[e])];rfl
  | succ m =>
    rw[if_neg (fun e=>by
     have e:to i=s:=by omega
     rw[e,h.src] at hm;omega)]
    exact key m (to i) [(i:Int)] (ht i g1) (by omega) (by simp; omega) n
end
end Go.Proofs.Xd
end
section
namespace Go.Proofs.YtphnknndgfgepaaGreatDoor
open Go Go.Proofs Go.Proofs.Sv Go.Proofs.Xv Go.Proofs.Xl Go.Proofs.Xd
theorem o0g(N:Nat):∀m,m<=N->(fN (fun k (s:List Int)=>s.set k (-1)) m (List.replicate N 0)).length=N/\∀v,v<m->(fN (fun k (s:List Int)=>s.set k (-1)) m (List.replicate N 0)).getD v 0 = -1
 | 0,_=>⟨List.length_replicate,fun v hv=>by omega⟩
 | m+1,h=>by
   obtain⟨h1,h2⟩:=o0g N m (by omega);refine⟨by show(List.set _ _ _).length=_; rw[List.length_set,h1],fun v hv=>?_⟩;show((fN (fun k (s:List Int)=>s.set k (-1)) m (List.replicate N 0)).set m (-1)).getD v 0 = -1;rw[Wy (-1) (by omega)];by_cases e:v=m
   ·rw[if_pos e]
   ·rw[if_neg e]; exact h2 v (by omega)
theorem z0b(N:Nat):fN (fun k (s:List Int)=>s.set k (-1)) N (List.replicate N 0)=List.replicate N (-1):=by
 obtain⟨h1,h2⟩:=o0g N N (Nat.le_refl _);refine d0N 0 (by rw[h1,List.length_replicate]) fun i hi=>?_;rw[h1] at hi;rw[h2 i hi];simp[gq,List.getElem?_replicate,hi]
theorem v0i{M:Nat}{to:Nat->Nat}{lv:Nat->Bool}{x k:Nat}:∀i∈(inL M to lv x).take k,i<M/\lv i=true/\to i=x:=fun i hi=>(Uw M to lv).1 (List.mem_of_mem_take hi)
section
variable {b:Y34}
theorem H0n(hb:A7 b=true){lv:List Bool}(hlv:lv.length=(lV b).length){s:Nat}(hs:s<l5 b):B0N (r5 b,lv) (s:Int)=some (Yq (lV b).length (l5 b) (frN b) (toN b) (fun i=>lv.getD i false) s):=by
 have hM:=P9 hb;have hN:=Pq b hb;have e0:((l5 b:Int)).toNat=l5 b:=rfl;have en:B1 ((r5 b,lv):y9×List Bool).1=some (l5 b:Int):=Pv b hb;have hf:∀i,i < (lV b).length->frN b i<l5 b:=fun i hi=>(M4 b hb hi).2.2.1;have ht:∀i,i < (lV b).length->toN b i<l5 b:=fun i hi=>(M4 b hb hi).2.2.2;unfold B0N;rw[en,vS,gP ⟨rfl,⟨by omega,rfl,by rw[e0]; omega,by omega⟩,trivial⟩,lE,e0];refine(lF (n:=l5 b) (by omega) (fun(k:Nat) (l:List Int)=>((k:Int),l)) (fun k (l:List Int)=>l.set k (-1)) (fun _ l=>l.length=l5 b) (J:=fun l=>q0N (r5 b,lv) (s:Int) l) (F:=w0O (r5 b,lv) (s:Int) (l5 b:Int)) (fun g k l hk hI=>?_) (fun k l hk hI=>by rw[List.length_set]; exact hI) (fun g l _=>?_) (List.replicate (l5 b) 0) List.length_replicate).trans ?_
 ·have hI:l.length=l5 b:=hI;refine(if_pos (by rw[e0,List.length_replicate]; exact decide_eq_true (by omega))).trans ?_;refine(gP ⟨oo,by show k<_; omega,trivial⟩).trans ?_;exact gP ⟨oo,trivial⟩
 ·exact if_neg (by rw[e0,List.length_replicate,dq]; omega)
 rw[z0b];have e1:((s:Int)).toNat=s:=rfl;show gd (ix (s:Int) (List.replicate (l5 b) (-1:Int)).length/\((s:Int)).toNat < (List.replicate (l5 b) (-1:Int)).length/\True) (lp (q0K (r5 b,lv)) ([(s:Int)],(List.replicate (l5 b) (-1)).set ((s:Int)).toNat 0))=_;rw[gP ⟨by rw[List.length_replicate]; exact oo,by rw[List.length_replicate]; exact hs,trivial⟩];refine C0E (lV b).length (l5 b) (frN b) (toN b) (fun i=>lv.getD i false) hf ht hN hs (fun t q=>t=q) (F:=q0K (r5 b,lv)) (J:=fun d=>some d) (fun g t q hq h hle=>?_) (t0:=([(s:Int)],Xq (l5 b) s)) rfl;subst hq;obtain⟨o,d⟩:=t;have hle:o.length+(l5 b-H9 d)<=l5 b+1:=hle;refine⟨fun h0=>⟨_,rfl,?_⟩,fun h0=>?_⟩
 ·cases o with
  | nil=>simp at h0
  | cons x0 t =>
    obtain⟨a1,a2,_⟩:=h.mem x0 (by simp);obtain⟨a,rfl⟩:=Int.eq_ofNat_of_zero_le a1;rw[Int.toNat_natCast] at a2;have eto:u74 (r5 b,lv) (((a:Int) :: t).getD (Int.toNat (0:Int)) (0:Int))=some (J3 (fun i=>lv.getD i false&&toN b i==a) (lV b).length):=r74 hb hlv a;obtain⟨il1,il2⟩:=Mz (fun i=>lv.getD i false&&toN b i==a) (lV b).length;refine(if_pos (decide_eq_true (by simp))).trans ?_;rw[eto,vS];refine(gP ⟨⟨by omega,by simp⟩,by simp,rfl,trivial⟩).trans ?_;rw[lE];have hlen:(inL (lV b).length (toN b) (fun i=>lv.getD i false) a).length=(J3 (fun i=>lv.getD i false&&toN b i==a) (lV b).length).length:=il2.symm;refine(lF (n:=(inL (lV b).length (toN b) (fun i=>lv.getD i false) a).length) (by omega) (fun(k:Nat) (q:List Int×List Int)=>((k:Int),q.1,q.2)) (fun k q=>dE (frN b) a q ((inL (lV b).length (toN b) (fun i=>lv.getD i false) a).getD k 0)) (fun k q=>q=((inL (lV b).length (toN b) (fun i=>lv.getD i false) a).take k).foldl (dE (frN b) a) ((a:Int) :: t,d)) (J:=fun q=>q0M g (q.1,q.2)) (F:=w0N (r5 b,lv) (J3 (fun i=>lv.getD i false&&toN b i==a) (lV b).length) g) (fun g' k q hk hI=>?_) (fun k q hk hI=>?_) (fun g' q hI=>?_) ((a:Int) :: t,d) rfl).trans ?_
    ·obtain⟨t',k1,k2,k3,k4,k5⟩:=DI.steps hf hs ((inL (lV b).length (toN b) (fun i=>lv.getD i false) a).take k) v0i h;rw[<- hI] at k1 k2 k3;obtain⟨q1,q2⟩:=q;have k1:q1=(a:Int) :: t':=k1;subst k1;have k2:DI (lV b).length (l5 b) (frN b) (toN b) (fun i=>lv.getD i false) s ((a:Int) :: t') q2:=k2;have k3:t'.length+1+(l5 b-H9 q2)<=t.length+1+(l5 b-H9 d):=k3;obtain⟨m1,m2,m3⟩:=(Uw (lV b).length (toN b) (fun i=>lv.getD i false)).1 (X1 (d:=0) hk);have eg:=Ry (fun i=>lv.getD i false&&toN b i==a) (lV b).length k;have eg:(J3 (fun i=>lv.getD i false&&toN b i==a) (lV b).length).getD k 0=(((inL (lV b).length (toN b) (fun i=>lv.getD i false) a).getD k 0:Nat):Int):=eg;generalize (inL (lV b).length (toN b) (fun i=>lv.getD i false) a).getD k 0=i at m1 m2 m3 eg ⊢;obtain⟨f1,f2,f3,f4⟩:=M4 b hb m1;have e3:((k:Int)).toNat=k:=rfl;have e4:((i:Int)).toNat=i:=rfl;have e5:((frN b i:Int)).toNat=frN b i:=rfl;have b1:=k2.bd a (by omega);have b2:=k2.lo a (by omega);have b3:=Xy q2;have b4:=k2.len;have hlen2:((a:Int) :: t').length=t'.length+1:=rfl;have hlen3:((a:Int) :: t).length=t.length+1:=rfl;refine(if_pos (decide_eq_true (by omega))).trans ?_;rw[e3,eg];refine(gP ⟨oo,by omega,trivial⟩).trans ?_;rw[e4];refine(gP ⟨⟨by omega,by show(i:Int) < ((lV b).length:Int); omega⟩,trivial⟩).trans ?_;rw[lE];have f1':((((r5 b,lv):y9×List Bool).1.2.2.1).getD i (d6 y48)).1=(frN b i:Int):=f1;rw[f1',e5];refine(gP ⟨⟨by omega,by show(frN b i:Int) < (q2.length:Int); omega⟩,by show frN b i<q2.length; omega,trivial⟩).trans ?_;unfold dE;show _=g' (((k+1:Nat):Int),(if q2.getD (frN b i) 0<0 then(((a:Int) :: t')++[(frN b i:Int)],q2.set (frN b i) (q2.getD a 0+1)) else((a:Int) :: t',q2)).1,(if q2.getD (frN b i) 0<0 then(((a:Int) :: t')++[(frN b i:Int)],q2.set (frN b i) (q2.getD a 0+1)) else((a:Int) :: t',q2)).2);by_cases hd:q2.getD (frN b i) 0<0
     ·rw[if_pos hd];refine(if_pos (decide_eq_true hd)).trans ?_;refine(gP ⟨⟨by omega,by show(0:Int) < ((((a:Int) :: t').length:Nat):Int); omega⟩,by simp,⟨by show 0<=(a:Int); omega,by show(a:Int) < (q2.length:Int); omega⟩,by show a<q2.length; omega,⟨by show -9223372036854775808<=q2.getD a 0+1; omega,by show q2.getD a 0+1<=9223372036854775807; omega⟩,⟨by show 0<=(frN b i:Int); omega,by show(frN b i:Int) < (q2.length:Int); omega⟩,by show frN b i<q2.length; omega,trivial⟩).trans ?_;rw[lE];refine(gP ⟨⟨by show t'.length+1+1<=_; omega,by show(t'.length+1+1)*8<=_; omega⟩,trivial⟩).trans ?_;refine(gP (V:=l3 ((k:Int)+1)/\True) ⟨oo,trivial⟩).trans ?_;rfl
     ·rw[if_neg hd];refine(if_neg (by rw[dq]; exact hd)).trans ?_;refine(gP (V:=l3 ((k:Int)+1)/\True) ⟨oo,trivial⟩).trans ?_;rfl
    ·rw[hI,List.take_succ_eq_append_getElem hk,List.foldl_append];show dE _ _ _ _=dE _ _ _ _;congr 1;rw[gq,List.getElem?_eq_getElem hk];rfl
    ·refine(if_neg ?_);rw[dq,hlen];omega
    ·have hfold:=Qy (dE (frN b) a) (inL (lV b).length (toN b) (fun i=>lv.getD i false) a) ((a:Int) :: t,d);rw[hfold];obtain⟨t',k1,k2,k3,k4,k5⟩:=DI.steps hf hs (inL (lV b).length (toN b) (fun i=>lv.getD i false) a) (fun i hi=>(Uw (lV b).length (toN b) (fun i=>lv.getD i false)).1 hi) h;have hl1:1<=((inL (lV b).length (toN b) (fun i=>lv.getD i false) a).foldl (dE (frN b) a) ((a:Int) :: t,d)).1.length:=by rw[k1]; simp
     exact gP ⟨⟨by omega,by omega,by omega⟩,trivial⟩
 ·exact if_neg (by have h0:o.length=0:=h0; rw[dq]; show ¬(0:Int) < (o.length:Int); omega)
end
section
variable {b:Y34}
end
theorem C0r{σ τ ρ:Type}(mk:σ->τ){F:(τ->Option ρ)->τ->Option ρ}{G:(σ->Option ρ)->σ->Option ρ}(h:∀g s,F g (mk s)=G (fun s=>g (mk s)) s)(s:σ):lp F (mk s)=lp G s:=by
 have key:∀n s,itF F n (mk s)=itF G n s:=by
  intro n
  induction n with
  | zero=>intro s; rfl
  | succ n ih =>
    intro s;show F (itF F n) (mk s)=G (itF G n) s;rw[h];congr 1;exact funext fun s=>ih s
 exact key _ s
theorem C0n(f:Nat->Int)(M:Nat){s:Int}{i:Nat}(hi:i<M)(h : -1<=s/\s < (M:Int)) : -1<=nbS f s i/\nbS f s i < (M:Int):=by
 unfold nbS;split
 ·omega
 ·exact h
section
variable {b:Y34}
theorem H0m(hb:A7 b=true){lv:List Bool}(hlv:lv.length=(lV b).length){d:List Int}(hd:d.length=l5 b)(a:Nat):B0M (a:Int) (r5 b,lv) d=some (H3 (lV b).length (frN b) (toN b) (fun i=>lv.getD i false) d a,decide (0<=H3 (lV b).length (frN b) (toN b) (fun i=>lv.getD i false) d a)):=by
 have hM:=P9 hb;have hN:=Pq b hb;obtain⟨il1,il2⟩:=Mz (fun i=>lv.getD i false&&frN b i==a) (lV b).length;unfold B0M;rw[r73 hb hlv,vS,gP ⟨rfl,trivial⟩,lE];have hfin:H3 (lV b).length (frN b) (toN b) (fun i=>lv.getD i false) d a=fN (fun k s=>nbS (fun i=>d.getD (toN b i) 0) s (((List.range (lV b).length).filter fun i=>lv.getD i false&&frN b i==a).getD k 0)) ((List.range (lV b).length).filter fun i=>lv.getD i false&&frN b i==a).length (-1):=by
  rw[Qy (nbS fun i=>d.getD (toN b i) 0)];exact h0w (nbS fun i=>d.getD (toN b i) 0) (fun i=>lv.getD i false&&frN b i==a) (-1) _
 rw[hfin];refine lF (n:=((List.range (lV b).length).filter fun i=>lv.getD i false&&frN b i==a).length) (by omega) (fun(k:Nat) (s:Int)=>(s,(k:Int))) (fun k s=>nbS (fun i=>d.getD (toN b i) 0) s (((List.range (lV b).length).filter fun i=>lv.getD i false&&frN b i==a).getD k 0)) (fun _ s => -1<=s/\s < ((lV b).length:Int)) (J:=fun s=>some (s,decide (0<=s))) (F:=w0L (J3 (fun i=>lv.getD i false&&frN b i==a) (lV b).length) d (r5 b,lv)) (fun g k s hk hI=>?_) (fun k s hk hI=>?_) (fun g s _=>?_) (-1) oo
 ·have hI : -1<=s/\s < ((lV b).length:Int):=hI;have hi:=Sy hk;have eg:=Ry (fun i=>lv.getD i false&&frN b i==a) (lV b).length k;generalize ((List.range (lV b).length).filter fun i=>lv.getD i false&&frN b i==a).getD k 0=i at hi eg ⊢;obtain⟨f1,f2,f3,f4⟩:=M4 b hb hi;have e3:((k:Int)).toNat=k:=rfl;have e4:((i:Int)).toNat=i:=rfl;have e5:((toN b i:Int)).toNat=toN b i:=rfl;have f2':((((r5 b,lv):y9×List Bool).1.2.2.1).getD i (d6 y48)).2.1=(toN b i:Int):=f2;refine(if_pos (decide_eq_true (by omega))).trans ?_;rw[e3,eg];refine(gP ⟨oo,by omega,trivial⟩).trans ?_;rw[e4,f2',e5];refine(gP ⟨⟨by omega,by show(i:Int) < ((lV b).length:Int); omega⟩,oo,trivial⟩).trans ?_;rw[lE];by_cases hs:s<0
  ·have hs1:decide (s<0)=true:=decide_eq_true hs;refine(gP ⟨fun h=>(by rw[hs1] at h; exact absurd h.1 (by simp)),fun h=>(by rw[hs1] at h; exact absurd h.1 (by simp)),trivial⟩).trans ?_;unfold nbS;rw[hs1,Bool.true_or,Bool.true_or,Bool.and_true];show(if decide (0<=d.getD (toN b i) 0)=true then _ else _)=g (if decide (0<=d.getD (toN b i) 0)=true then _ else _,_);by_cases hz:decide (0<=d.getD (toN b i) 0)=true
   ·rw[if_pos hz,if_pos hz];exact gP ⟨oo,trivial⟩
   ·rw[if_neg hz,if_neg hz];exact gP ⟨oo,trivial⟩
  ·obtain⟨j,rfl⟩:=Int.eq_ofNat_of_zero_le (show 0<=s by omega);have hj:j < (lV b).length:=by omega
   obtain⟨g1,g2,g3,g4⟩:=M4 b hb hj;have g2':((((r5 b,lv):y9×List Bool).1.2.2.1).getD ((j:Int)).toNat (d6 y48)).2.1=(toN b j:Int):=g2;have e6:((toN b j:Int)).toNat=toN b j:=rfl;rw[g2',e6];refine(gP ⟨fun _=>⟨by omega,by show(j:Int) < ((lV b).length:Int); omega⟩,fun _=>oo,trivial⟩).trans ?_;unfold nbS;show(if(decide (0<=d.getD (toN b i) 0)&&(decide ((j:Int)<0)||decide (d.getD (toN b i) 0<d.getD (toN b j) 0)))=true then _ else _)=g (if(decide (0<=d.getD (toN b i) 0)&&(decide ((j:Int)<0)||decide (d.getD (toN b i) 0<d.getD (toN b j) 0)))=true then _ else _,_);by_cases hz:(decide (0<=d.getD (toN b i) 0)&&(decide ((j:Int)<0)||decide (d.getD (toN b i) 0<d.getD (toN b j) 0)))=true
   ·rw[if_pos hz,if_pos hz];exact gP ⟨oo,trivial⟩
   ·rw[if_neg hz,if_neg hz];exact gP ⟨oo,trivial⟩
 ·exact C0n _ _ (Sy hk) hI
 ·refine(if_neg ?_).trans rfl;rw[dq];omega
theorem r83(hb:A7 b=true){lv:List Bool}(hlv:lv.length=(lV b).length){s:Nat}(hs:s<l5 b):u83 (r5 b,lv) (s:Int)=if H3 (lV b).length (frN b) (toN b) (fun i=>lv.getD i false) (Yq (lV b).length (l5 b) (frN b) (toN b) (fun i=>lv.getD i false) s) s<0 then some (.inl ()) else
  some (.inr (Jx (lV b).length (frN b) (toN b) (fun i=>lv.getD i false) (Yq (lV b).length (l5 b) (frN b) (toN b) (fun i=>lv.getD i false) s) s)):=by
 have hM:=P9 hb;have hN:=Pq b hb;have hf:∀i,i < (lV b).length->frN b i<l5 b:=fun i hi=>(M4 b hb hi).2.2.1;have ht:∀i,i < (lV b).length->toN b i<l5 b:=fun i hi=>(M4 b hb hi).2.2.2;have hfar:=Yy (lV b).length (l5 b) (frN b) (toN b) (fun i=>lv.getD i false) hf ht hs;unfold u83;rw[H0n hb hlv hs,vS,gP ⟨rfl,trivial⟩,lE];generalize Yq (lV b).length (l5 b) (frN b) (toN b) (fun i=>lv.getD i false) s=d at hfar ⊢;refine Eq.trans (C0r (fun q:Int×List Int=>(q.2,q.1)) (F:=o0W (s:Int) (r5 b,lv) d) (G:=fun g q=>o0W (s:Int) (r5 b,lv) d (fun t=>g (t.2,t.1)) (q.2,q.1)) (fun g q=>rfl) ((s:Int),[])) ?_;refine y0f hfar hs ht hN (F:=fun g q=>o0W (s:Int) (r5 b,lv) d (fun t=>g (t.2,t.1)) (q.2,q.1)) (J:=fun p=>some (.inr p)) (E:=some (.inl ())) fun g a l ha hl=>?_;show o0W (s:Int) (r5 b,lv) d (fun t=>g (t.2,t.1)) (l,(a:Int))=_;rw[o0W];rw[H0m hb hlv hfar.len,vS,gP ⟨rfl,trivial⟩,lE];by_cases hn:H3 (lV b).length (frN b) (toN b) (fun i=>lv.getD i false) d a<0
 ·rw[if_pos hn];refine if_pos ?_;show(!decide (0<=H3 (lV b).length (frN b) (toN b) (fun i=>lv.getD i false) d a))=true;rw[decide_eq_false (by omega)];rfl
 ·rw[if_neg hn];obtain⟨i,hi⟩:=Int.eq_ofNat_of_zero_le (show 0<=H3 (lV b).length (frN b) (toN b) (fun i=>lv.getD i false) d a by omega);obtain⟨g1,_⟩:=Vj (lV b).length (frN b) (toN b) (fun i=>lv.getD i false) d hi;obtain⟨f1,f2,f3,f4⟩:=M4 b hb g1;rw[hi];have e4:((i:Int)).toNat=i:=rfl;refine(if_neg (by show ¬(!decide ((0:Int)<=(i:Int)))=true; rw[decide_eq_true (by omega)]; simp)).trans ?_;refine(gP ⟨⟨by show l.length+1<=_; omega,by show(l.length+1)*8<=_; omega⟩,trivial⟩).trans ?_;refine(gP ⟨⟨by show 0<=(i:Int); omega,by show(i:Int) < ((lV b).length:Int); omega⟩,trivial⟩).trans ?_;rw[lE];have f2':((((r5 b,lv):y9×List Bool).1.2.2.1).getD ((i:Int)).toNat (d6 y48)).2.1=(toN b i:Int):=f2;show(if(((((r5 b,lv):y9×List Bool).1.2.2.1).getD ((i:Int)).toNat (d6 y48)).2.1==(s:Int))=true then some (.inr (l++[(i:Int)])) else g (((((r5 b,lv):y9×List Bool).1.2.2.1).getD ((i:Int)).toNat (d6 y48)).2.1,l++[(i:Int)]))=_;rw[f2',e4];by_cases he:(toN b i:Int)=(s:Int)
  ·rw[if_pos he,if_pos (beq_iff_eq.2 he)]
  ·rw[if_neg he,if_neg (fun h=>he (beq_iff_eq.1 h))]
end
end Go.Proofs.YtphnknndgfgepaaGreatDoor
end
