/- Plain facts on lifted functions: sizes, copies, comparisons. Over any program. -/
import Derived.Test.YtlfeppknkfknhaaGreatDoorXD
import Derived.Test.YtlfeppknkfknhaaGreatDoorXA
import Derived.Lib.SliceRun
import Derived.Sort.Grow
set_option maxHeartbeats 0
section
namespace Go.Proofs.Xd
open Go Go.Proofs.Xv Go.Proofs.Xl
theorem lE{α β:Type}{x:α}{f:α->β}:lt x f=f x:=rfl
theorem sz_c{o:Option Int}{m n:Nat}{l:Int}{k:Int->Option Int}(h:o=some (szN m l))(hk:∀v,0<=v->v<=l->k v=some (szN n v))(_:0<=l) :
  gd (o.isSome=true/\True) (lt (vl o) fun v=>if(decide (v<0))=true then some (-1) else k v)=some (szN (m+n) l):=by
 subst h;rw[gP ⟨rfl,trivial⟩];show(if(decide (szN m l<0))=true then some (-1) else k (szN m l))=_
 grind[szN]
theorem sz_s{s n:Nat}{l:Int}{k:Option Int}(hs:s<=9223372036854775807)(hl:0<=l)(hm:l<=9223372036854775807)(hk:0<=l-(s:Int)->k=some (szN n (l-(s:Int)))) :
  gd (in64 (l-(s:Int))/\True) (if(decide (l-(s:Int)<0))=true then some (-1) else k)=some (szN (s+n) l):=by
 rw[gP ⟨oo,trivial⟩];by_cases c:l-(s:Int)<0
 ·rw[if_pos (by grind),szM_neg c]
 ·rw[if_neg (by grind),hk (by omega),szM_pos (by omega)]
theorem sz_last{v:Int}(h:0<=v):some v=some (szN 0 v):=by rw[szN_zero h]
theorem sz_lp{T:Type}(xs:List T)(d:T)(c:T->Nat){F:(Int×Int->Option Int)->Int×Int->Option Int}{M:Int}
  (hF:∀g (v:Int) (i:Nat),i<xs.length->0<=v->v<=M->F g (v,(i:Int))=if szN (c (xs.getD i d)) v<0 then some (-1) else g (szN (c (xs.getD i d)) v,(i:Int)+1))
  (hE:∀g (v:Int) (i:Nat),xs.length<=i->F g (v,(i:Int))=some v):∀(n i:Nat) (v:Int),0<=v->v<=M->i<=xs.length->xs.length-i<n->itF F n (v,(i:Int))=some (szN ((xs.drop i).map c).sum v)
 | 0,i,v,_,_,_,h=>by omega
 | n+1,i,v,hv,hM,hi,hn=>by
   show F (itF F n) (v,(i:Int))=_;by_cases h:i<xs.length
   ·rw[hF _ _ _ h hv hM];have e:xs.drop i=xs.getD i d :: xs.drop (i+1):=by
     rw[List.drop_eq_getElem_cons h,gq,List.getElem?_eq_getElem h]; rfl
    rw[e,List.map_cons,List.sum_cons];split
    ·rename_i hc;rw[szN_neg hc]
    ·rename_i hc;rw[szN_pos (by omega)];have:=sz_lp xs d c hF hE n (i+1) (szN (c (xs.getD i d)) v) (by omega) (by have:=(szN_le (n:=c (xs.getD i d)) hv).2; omega) (by omega) (by omega)
     grind
   grind[List.drop_eq_nil_of_le,sz_last]
theorem sz_row{T:Type}{xs:List T}{d:T}{c:T->Nat}{F:(Int×Int->Option Int)->Int×Int->Option Int}{l:Int}(hx:xs.length<=9223372036854775807)(hl:0<=l)(hm:l<=9223372036854775807)
  (hF:∀g (v:Int) (i:Nat),i<xs.length->0<=v->v<=9223372036854775807->F g (v,(i:Int))=if szN (c (xs.getD i d)) v<0 then some (-1) else g (szN (c (xs.getD i d)) v,(i:Int)+1))
  (hE:∀g (v:Int) (i:Nat),xs.length<=i->F g (v,(i:Int))=some v) :
  gd (in64 (l-(xs.length:Int))/\True) (if(decide (l-(xs.length:Int)<0))=true then some (-1) else lp F (l-(xs.length:Int),0))=some (szN (xs.length+(xs.map c).sum) l):=by
 refine sz_s hx hl hm fun h=>?_;have:=sz_lp xs d c hF hE big 0 (l-(xs.length:Int)) h (by omega) (by omega) (by grind[big])
 grind[lp]
theorem sz_el{o:Option Int}{m i len:Nat}{v:Int}{g:Int×Int->Option Int}{k:Option Int}(h:o=some (szN m v))(hi:i<len)(hl:len<=9223372036854775807) :
  (if(decide ((i:Int) < (len:Int)))=true then gd (ix (i:Int) len/\o.isSome=true/\True) (lt (vl o) fun v3=>if(decide (v3<0))=true then some (-1) else gd (in64 ((i:Int)+1)/\True) (g (v3,(i:Int)+1))) else k) =
    if szN m v<0 then some (-1) else g (szN m v,(i:Int)+1):=by
 subst h;rw[if_pos (by grind),gP ⟨oo,rfl,trivial⟩];show(if(decide (szN m v<0))=true then some (-1) else gd (in64 ((i:Int)+1)/\True) (g (szN m v,(i:Int)+1)))=_;rw[gP ⟨oo,trivial⟩]
 grind
theorem sz_es{m i len:Nat}{v:Int}{g:Int×Int->Option Int}{k:Option Int}(hi:i<len)(hl:len<=9223372036854775807)(hm:m<=9223372036854775807)(hv:0<=v)(hM:v<=9223372036854775807) :
  (if(decide ((i:Int) < (len:Int)))=true then gd (ix (i:Int) len/\in64 (v-(m:Int))/\True) (lt (v-(m:Int)) fun v3=>if(decide (v3<0))=true then some (-1) else gd (in64 ((i:Int)+1)/\True) (g (v3,(i:Int)+1))) else k) =
    if szN m v<0 then some (-1) else g (szN m v,(i:Int)+1):=by
 rw[if_pos (by grind),gP ⟨oo,oo,trivial⟩];show(if(decide (v-(m:Int)<0))=true then some (-1) else gd (in64 ((i:Int)+1)/\True) (g (v-(m:Int),(i:Int)+1)))=_;rw[gP ⟨oo,trivial⟩];by_cases c:v-(m:Int)<0
 ·rw[if_pos (by grind),if_pos (by grind[szM_m1])]
 ·rw[if_neg (by grind),szM_eq (by omega),if_neg c]
theorem sz_end{len i:Nat}{a b:Option Int}(h:len<=i):(if(decide ((i:Int) < (len:Int)))=true then a else b)=b:=if_neg (by grind)
theorem to_c{α ρ:Type}[Inhabited α]{o:Option α}{x:α}{k:α->Option ρ}{r:Option ρ}(h:o=some x)(hk:k x=r):gd (o.isSome=true/\True) (lt (vl o) k)=r:=by
 subst h;rw[gP ⟨rfl,trivial⟩];exact hk
theorem fill_at{α:Type}(a:List α)(z _:α)(s:Nat)(h:s<a.length):(a.take s++List.replicate (a.length-s) z).length=a.length:=by
 grind
theorem to_lp{T:Type}(xs:List T)(z d:T){F:(Int×List T->Option (List T))->Int×List T->Option (List T)}
  (hF:∀g (i:Nat) (ys:List T),i<xs.length->ys.length=xs.length->F g ((i:Int),ys)=g ((i:Int)+1,ys.set i (xs.getD i d)))
  (hE:∀g (i:Nat) ys,xs.length<=i->F g ((i:Int),ys)=some ys):∀(n i:Nat),i<=xs.length->xs.length-i<n->itF F n ((i:Int),xs.take i++List.replicate (xs.length-i) z)=some xs
 | 0,i,_,h=>by omega
 | n+1,i,hi,hn=>by
   show F (itF F n) ((i:Int),_)=_;by_cases h:i<xs.length
   ·rw[hF _ _ _ h (fill_at xs z d i h),fill_step xs z d i h];have:=to_lp xs z d hF hE n (i+1) (by omega) (by omega)
    grind
   grind[fill_end]
theorem to_row{T:Type}{xs:List T}{z d:T}{F:(Int×List T->Option (List T))->Int×List T->Option (List T)}{b:Nat}(hx:xs.length<=1048576)(hb:b<=4096)
  (hF:∀g (i:Nat) (ys:List T),i<xs.length->ys.length=xs.length->F g ((i:Int),ys)=g ((i:Int)+1,ys.set i (xs.getD i d)))
  (hE:∀g (i:Nat) ys,xs.length<=i->F g ((i:Int),ys)=some ys) :
  gd ((0<=(xs.length:Int)/\(xs.length:Int)=(xs.length:Int)/\(xs.length:Int).toNat*b<=281474976710656/\(xs.length:Int)<=9223372036854775807)/\True) (lp F (0,List.replicate (xs.length:Int).toNat z))=some xs:=by
 have hm:xs.length*b<=1048576*4096:=Nat.mul_le_mul hx hb;rw[gP ⟨⟨by omega,rfl,by grind,by omega⟩,trivial⟩,Int.toNat_natCast];have:=to_lp xs z d hF hE big 0 (by omega) (by grind[big])
 grind[lp]
theorem to_el{T:Type}{o:Option T}[Inhabited T]{x:T}{i len:Nat}{ys:List T}{g:Int×List T->Option (List T)}{k:Option (List T)}(h:o=some x)(hi:i<len)(hl:len<=9223372036854775807)(hy:ys.length=len) :
  (if(decide ((i:Int) < (len:Int)))=true then gd (ix (i:Int) len/\o.isSome=true/\ix (i:Int) ys.length/\(i:Int).toNat<ys.length/\True) (lt (vl o) fun v4=>gd (in64 ((i:Int)+1)/\True) (g ((i:Int)+1,ys.set (i:Int).toNat v4))) else k)=g ((i:Int)+1,ys.set i x):=by
 subst h;rw[if_pos (by grind),gP ⟨oo,rfl,oo,by omega,trivial⟩];rw[lE,vS,gP ⟨oo,trivial⟩,Int.toNat_natCast]
theorem to_es{T:Type}{x:T}{i len:Nat}{ys:List T}{g:Int×List T->Option (List T)}{k:Option (List T)}(hi:i<len)(hl:len<=9223372036854775807)(hy:ys.length=len) :
  (if(decide ((i:Int) < (len:Int)))=true then gd (ix (i:Int) len/\ix (i:Int) ys.length/\(i:Int).toNat<ys.length/\True) (gd (in64 ((i:Int)+1)/\True) (g ((i:Int)+1,ys.set (i:Int).toNat x))) else k)=g ((i:Int)+1,ys.set i x):=by
 rw[if_pos (by grind),gP ⟨oo,oo,by omega,trivial⟩,gP ⟨oo,trivial⟩,Int.toNat_natCast]
theorem to_end{T:Type}{len i:Nat}{a b:Option T}(h:len<=i):(if(decide ((i:Int) < (len:Int)))=true then a else b)=b:=if_neg (by grind)
theorem eq_c{o:Option Bool}{k r:Option Bool}(h:o=some true)(hk:k=r):gd (o.isSome=true/\True) (if(!vl o)=true then some false else k)=r:=by
 subst h;rw[gP ⟨rfl,trivial⟩];exact hk
theorem eq_d{p:Prop}[Decidable p]{k r:Option Bool}(h:p)(hk:k=r):(if(!decide p)=true then some false else k)=r:=by
 grind
theorem eq_i{x:Int}{k r:Option Bool}(hk:k=r):(if(x != x)=true then some false else k)=r:=by
 grind
theorem eq_b{x:Bool}{k r:Option Bool}(hk:k=r):(if(x != x)=true then some false else k)=r:=by
 grind
theorem eq_b'{x:Bool}{k r:Option Bool}(hk:k=r):(if(!(x==x))=true then some false else k)=r:=by
 grind
theorem eq_lp(len:Nat){F:(Int->Option Bool)->Int->Option Bool}(hF:∀g (i:Nat),i<len->F g (i:Int)=g ((i:Int)+1))(hE:∀g (i:Nat),len<=i->F g (i:Int)=some true):∀(n i:Nat),i<=len->len-i<n->itF F n (i:Int)=some true
 | 0,i,_,h=>by omega
 | n+1,i,hi,hn=>by
   show F (itF F n) (i:Int)=_;by_cases h:i<len
   ·rw[hF _ _ h]
    exact_mod_cast eq_lp len hF hE n (i+1) (by omega) (by omega)
   grind
theorem eq_row{len:Nat}{F:(Int->Option Bool)->Int->Option Bool}(hl:len<=9223372036854775807)(hF:∀g (i:Nat),i<len->F g (i:Int)=g ((i:Int)+1))(hE:∀g (i:Nat),len<=i->F g (i:Int)=some true) :
  (if((len:Int) != (len:Int))=true then some false else lp F 0)=some true :=
 eq_i (eq_lp len hF hE big 0 (by omega) (by grind[big]))
theorem eq_el{o:Option Bool}{i len:Nat}{g:Int->Option Bool}{k:Option Bool}(h:o=some true)(hi:i<len)(hl:len<=9223372036854775807) :
  (if(decide ((i:Int) < (len:Int)))=true then gd (ix (i:Int) len/\ix (i:Int) len/\o.isSome=true/\True) (if(!vl o)=true then some false else gd (in64 ((i:Int)+1)/\True) (g ((i:Int)+1))) else k)=g ((i:Int)+1):=by
 subst h;rw[if_pos (by grind),gP ⟨oo,oo,rfl,trivial⟩,vS,if_neg (by simp),gP ⟨oo,trivial⟩]
theorem eq_es{b:Bool}{i len:Nat}{g:Int->Option Bool}{k:Option Bool}(h:b=false)(hi:i<len)(hl:len<=9223372036854775807) :
  (if(decide ((i:Int) < (len:Int)))=true then gd (ix (i:Int) len/\ix (i:Int) len/\True) (if b=true then some false else gd (in64 ((i:Int)+1)/\True) (g ((i:Int)+1))) else k)=g ((i:Int)+1):=by
 subst h;rw[if_pos (by grind),gP ⟨oo,oo,trivial⟩,if_neg (by simp),gP ⟨oo,trivial⟩]
theorem cnt_el{t:Ty}{a:List (den t)}{i:Nat}{d:den t}{m:Nat}(h:i<a.length)(hc:cnt (.sl t) a<=m):cnt t (a.getD i d)<=m:=by
 grind[cnt_sl,cnt_at]
theorem cnt_len{t:Ty}{a:List (den t)}{m:Nat}(hc:cnt (.sl t) a<=m):a.length<=m:=by
 grind[cnt_sl]
theorem cF{s t:Ty}{x:den (.pr s t)}{m:Nat}(h:cnt (.pr s t) x<=m):cnt s x.1<=m:=by
 grind[cnt_pr]
theorem cS{s t:Ty}{x:den (.pr s t)}{m:Nat}(h:cnt (.pr s t) x<=m):cnt t x.2<=m:=by
 grind[cnt_pr]
theorem wf_el{t:Ty}{a:List (den t)}{i:Nat}{d:den t}(h:i<a.length)(hw:wf (.sl t) a):wf t (a.getD i d):=by
 rw[gq,List.getElem?_eq_getElem h];exact hw.2 _ (List.getElem_mem h)
theorem dlt{i n:Nat}:decide ((i:Int) < (n:Int))=decide (i<n):=by
 grind
theorem big_gt{n:Nat}(h:n<=9223372036854775807):n+1<big:=by grind[big]
theorem lp_zero{σ ρ:Type}{F:(σ->Option ρ)->σ->Option ρ}{s:σ}{r:Option ρ}(h:∀n,0<n->itF F n s=r):lp F s=r:=h big (by grind[big])
theorem lp_run{σ τ ρ:Type}{n:Nat}(hn:n<=9223372036854775807)(mk:Nat->σ->τ)(f:Nat->σ->Option σ)(x:Nat->σ->Option ρ)(I:Nat->σ->Prop){J:σ->Option ρ}{F:(τ->Option ρ)->τ->Option ρ}
  (hF:∀g i s,i<n->I i s->F g (mk i s)=match f i s with | some s'=>g (mk (i+1) s') | none=>x i s) (hI:∀i s s',i<n->I i s->f i s=some s'->I (i+1) s') (hE:∀g s,I n s->F g (mk n s)=J s)
  (run:Nat->σ->Option ρ) (r0:∀s,I n s->run n s=J s) (r1:∀i s,i<n->I i s->run i s=match f i s with | some s'=>run (i+1) s' | none=>x i s) (k:Nat) (hk:k<=n) (s:σ) (hs:I k s):lp F (mk k s)=run k s:=by
 have key:∀(m i:Nat) (s:σ),i<=n->n-i<m->I i s->itF F m (mk i s)=run i s:=by
  intro m
  induction m with
  | zero=>omega
  | succ m ih =>
    grind[hi,itF]
 exact key big k s hk (by have:=big_gt hn; omega) hs
theorem lp_any{ρ:Type}{n:Nat}(hn:n<=9223372036854775807)(c:Nat->Bool)(x:Nat->Option ρ){e:Option ρ}{F:(Int->Option ρ)->Int->Option ρ}(k:Nat)(hk:k<=n)(hF:∀g (i:Nat),k<=i->i<n->F g (i:Int)=if c i=true then x i else g ((i:Int)+1))
  (hE:∀g,F g (n:Int)=e):lp F (k:Int)=match(List.range' k (n-k)).find? c with | some i=>x i | none=>e:=by
 have:=lp_run hn (fun i (_:Unit)=>(i:Int)) (fun i _=>if c i=true then none else some ()) (fun i _=>x i) (fun i _=>k<=i) (J:=fun _=>e) (F:=F)
  (fun g i s h hki=>by
    grind) (fun _ _ _ _ h _=>Nat.le_succ_of_le h) (fun g _ _=>hE g) (fun i _=>match(List.range' i (n-i)).find? c with | some i=>x i | none=>e) (fun _ _=>by simp) (fun i s h _=>by
    have e1:n-i=(n-(i+1))+1:=by omega
    grind[List.range'_succ]) k hk () (Nat.le_refl _)
 simpa using this
theorem lp_all{ρ:Type}{n:Nat}(hn:n<=9223372036854775807)(c:Nat->Bool)(x:Option ρ){e:Option ρ}{F:(Int->Option ρ)->Int->Option ρ}(hF:∀g (i:Nat),i<n->F g (i:Int)=if c i=true then x else g ((i:Int)+1))
  (hE:∀g,F g (n:Int)=e):lp F 0=if(List.range n).any c=true then x else e:=by
 have:=lp_any hn c (fun _=>x) 0 (Nat.zero_le _) (fun g i _ h=>hF g i h) hE;rw[Nat.sub_zero,<- List.range_eq_range'] at this;refine Eq.trans this ?_;cases h:(List.range n).find? c with
 | none =>
   rw[if_neg];rw[List.find?_eq_none] at h;intro hc;obtain⟨i,h1,h2⟩:=List.any_eq_true.1 hc;exact h i h1 h2
 | some i =>
   rw[if_pos];exact List.any_eq_true.2 ⟨i,List.mem_of_find?_eq_some h,List.find?_some h⟩
theorem lp_allK{ρ:Type}{n:Nat}(hn:n<=9223372036854775807)(c:Nat->Bool)(x:Option ρ){e:Option ρ}{F:(Int->Option ρ)->Int->Option ρ}(k:Nat)(hk:k<=n)(hF:∀g (i:Nat),k<=i->i<n->F g (i:Int)=if c i=true then x else g ((i:Int)+1))
  (hE:∀g,F g (n:Int)=e):lp F (k:Int)=if((List.range n).any fun i=>decide (k<=i)&&c i)=true then x else e:=by
 refine(lp_any hn c (fun _=>x) k hk hF hE).trans ?_
 grind
def fN{σ:Type}(f:Nat->σ->σ):Nat->σ->σ
 | 0,s=>s
 | n+1,s=>f n (fN f n s)
theorem lF{σ τ ρ:Type}{n:Nat}(hn:n<=9223372036854775807)(mk:Nat->σ->τ)(f:Nat->σ->σ)(I:Nat->σ->Prop){J:σ->Option ρ}{F:(τ->Option ρ)->τ->Option ρ}
  (hF:∀g i s,i<n->I i s->F g (mk i s)=g (mk (i+1) (f i s))) (hI:∀i s,i<n->I i s->I (i+1) (f i s)) (hE:∀g s,I n s->F g (mk n s)=J s) (s:σ) (hs:I 0 s):lp F (mk 0 s)=J (fN f n s):=by
 have key:∀(m i:Nat),i<=n->n-i<m->I i (fN f i s)->itF F m (mk i (fN f i s))=J (fN f n s):=by
  intro m
  induction m with
  | zero=>omega
  | succ m ih =>
    intro i hi hm hI';show F (itF F m) (mk i _)=_;by_cases h:i<n
    ·rw[hF _ _ _ h hI'];exact ih (i+1) (by omega) (by omega) (hI _ _ h hI')
    grind
 exact key big 0 (Nat.zero_le _) (by have:=big_gt hn; omega) hs
theorem lp_foldE{σ τ ρ:Type}{n:Nat}(hn:n<=9223372036854775807)(mk:Nat->σ->τ)(f:Nat->σ->σ)(c:Nat->Bool)(x:Option ρ)(I:Nat->σ->Prop){J:σ->Option ρ}{F:(τ->Option ρ)->τ->Option ρ}
  (hF:∀g i s,i<n->I i s->F g (mk i s)=if c i=true then x else g (mk (i+1) (f i s))) (hI:∀i s,i<n->I i s->c i=false->I (i+1) (f i s)) (hE:∀g s,I n s->F g (mk n s)=J s) (s:σ) (hs:I 0 s) :
  lp F (mk 0 s)=if(List.range n).any c=true then x else J (fN f n s):=by
 have key:∀(m i:Nat),i<=n->n-i<m->I i (fN f i s)->(∀j,j<i->c j=false)->itF F m (mk i (fN f i s))=if(List.range n).any c=true then x else J (fN f n s):=by
  intro m
  induction m with
  | zero=>omega
  | succ m ih =>
    intro i hi hm hI' hc;show F (itF F m) (mk i _)=_;by_cases h:i<n
    ·rw[hF _ _ _ h hI'];cases hci:c i with
     | true=>grind
     | false =>
       rw[if_neg (by simp)];refine ih (i+1) (by omega) (by omega) (hI _ _ h hI' hci) (fun j hj=>?_)
       grind
    grind
 exact key big 0 (Nat.zero_le _) (by have:=big_gt hn; omega) hs (fun j hj=>absurd hj (Nat.not_lt_zero j))
theorem any_or{n:Nat}(p q:Nat->Bool):((List.range n).any fun i=>p i||q i)=((List.range n).any p||(List.range n).any q):=by
 grind
theorem not_any{n:Nat}{c:Nat->Bool}:(!(List.range n).any c)=true↔∀i,i<n->c i=false:=by
 grind
theorem any_getD{α:Type}(l:List α)(d:α)(p:α->Bool):((List.range l.length).any fun i=>p (l.getD i d))=l.any p:=by
 rw[Bool.eq_iff_iff,List.any_eq_true,List.any_eq_true];constructor
 ·grind
 ·rintro⟨x,h1,h2⟩;obtain⟨i,h3,h4⟩:=List.getElem_of_mem h1;refine⟨i,List.mem_range.2 h3,?_⟩
  grind
theorem any_congr'{n:Nat}{p q:Nat->Bool}(h:∀i,i<n->p i=q i):(List.range n).any p=(List.range n).any q:=by
 grind
theorem all_el{ρ:Type}{i n:Nat}{V:Prop}[Decidable V]{c:Bool}{x e:Option ρ}{g:Int->Option ρ}(h:i<n)(hn:n<=9223372036854775807)(hV:V) :
  (if(decide ((i:Int) < (n:Int)))=true then gd V (if c=true then x else gd (in64 ((i:Int)+1)/\True) (g ((i:Int)+1))) else e)=if c=true then x else g ((i:Int)+1):=by
 rw[if_pos (by grind),gP hV,gP ⟨oo,trivial⟩]
theorem all_el2{ρ:Type}{i n:Nat}{V W:Prop}[Decidable V][Decidable W]{c:Bool}{x e:Option ρ}{g:Int->Option ρ}(h:i<n)(hn:n<=9223372036854775807)(hV:V)(hW:W) :
  (if(decide ((i:Int) < (n:Int)))=true then gd V (gd W (if c=true then x else gd (in64 ((i:Int)+1)/\True) (g ((i:Int)+1)))) else e)=if c=true then x else g ((i:Int)+1):=by
 rw[if_pos (by grind),gP hV,gP hW,gP ⟨oo,trivial⟩]
theorem aE{ρ:Type}{n:Nat}{a e:Option ρ}:(if(decide ((n:Int) < (n:Int)))=true then a else e)=e:=if_neg (by simp)
theorem idx_el{i n:Nat}{o:Option Bool}{g:Int->Option Int}{e:Option Int}{b:Bool}(h:i<n)(hn:n<=9223372036854775807)(ho:o=some b) :
  (if(decide ((i:Int) < (n:Int)))=true then gd (ix (i:Int) n/\o.isSome=true/\True) (if(vl o)=true then some (i:Int) else gd (in64 ((i:Int)+1)/\True) (g ((i:Int)+1))) else e)=if b=true then some (i:Int) else g ((i:Int)+1):=by
 subst ho;rw[if_pos (by grind),gP ⟨oo,rfl,trivial⟩,gP ⟨oo,trivial⟩,vS]
theorem idx_some{n:Nat}(hn:n<=9223372036854775807)(b:Nat->Bool){F:(Int->Option Int)->Int->Option Int}(hF:∀g (i:Nat),i<n->F g (i:Int)=if b i=true then some (i:Int) else g ((i:Int)+1))(hE:∀g,F g (n:Int)=some (-1)) :
  lp F 0=some (match(List.range n).find? b with | some i=>(i:Int) | none => -1):=by
 have:=lp_any hn b (fun i=>some (i:Int)) 0 (Nat.zero_le _) (fun g i _ h=>hF g i h) hE;rw[Nat.sub_zero,<- List.range_eq_range'] at this
 grind
theorem has_some{n:Nat}{b:Nat->Bool}{o:Option Int}(h:o=some (match(List.range n).find? b with | some i=>(i:Int) | none => -1)):gd (o.isSome=true/\True) (lt (vl o) fun v0=>some (decide (0<=v0)))=some ((List.range n).any b):=by
 subst h;rw[gP ⟨rfl,trivial⟩,lE,vS];cases h:(List.range n).find? b with
 | none =>
   grind
 | some i =>
   have:(List.range n).any b=true:=List.any_eq_true.2 ⟨i,List.mem_of_find?_eq_some h,List.find?_some h⟩;rw[this];simp
end Go.Proofs.Xd
end
section
namespace Go.Proofs.Xv
open Go Go.RowKit Go.Proofs.Sv
def opF(P:Program)(op:TypeId->Ty->Bool):Nat->List Field->Ty->Bool
 | _,[],_=>false
 | off,[f],y=>Nat.beq f.offset off&&Nat.beq (P.cellsOf f.type) (sz y)&&op f.type y
 | off,f :: r,.pr a b=>Nat.beq f.offset off&&Nat.beq (P.cellsOf f.type) (sz a)&&op f.type a&&opF P op (off+sz a) r b
 | _,_,_=>false
def opB(P:Program):Nat->TypeId->Ty->Bool
 | 0,_,_=>false
 | n+1,T,y=>match P.underlying T with
   | some (.int k)=>decide (y=.int k)
   | some .bool=>decide (y=.bool)
   | some .string=>decide (y=.str)
   | some (.slice E)=>match y with
     | .sl e=>opB P n E e
     | _=>false
   | some (.struct fs)=>Nat.beq (P.cellsOf T) (sz y)&&opF P (opB P n) 0 fs.toList y
   | _=>false
def inW(w:World)(k:Nat):Prop:=k<w.heap.size
theorem kind_min(k:IntKind):k.min=lo k/\k.max=hi k:=by cases k <;> exact⟨rfl,rfl⟩
theorem opens_row{P:Program}{E:TypeId}{e:Ty}{w:World}{H:Type}{enc:TypeId×Value->H}{sp:Nat->Bool}{hl:Bool}(hE:∀{fuel:Nat} {cs:List Value} {x:DataW H×List MemPlace},DataW.trod enc P w 0 sp hl fuel E cs=some x->∃z:den e,RT (inW w) w e cs z)
  {T:TypeId} {fuel:Nat} {cs:List Value} {x:DataW H×List MemPlace} (hT:P.underlying T=some (.slice E)) (h:DataW.trod enc P w 0 sp hl fuel T cs=some x):∃z:List (den e),RT (inW w) w (.sl e) cs z:=by
 rcases DataW.trod_slice hT h with ⟨rfl,_⟩ | ⟨a,len,cap,elems,rest,n,rfl,rfl,_,_,hlc,hcm,hel,hat,_,_⟩
 ·exact⟨[],none,0,rfl,Nat.le_refl _,by omega,.inl rfl⟩
 ·have hcap:cap<=9223372036854775807:=by unfold maxLen at hcm; omega
  have each:∀i,i<len->∃c:List Value,w.cells? 0 (a.add (i*P.cellsOf E)) (P.cellsOf E)=some c/\∃y:den e,RT (inW w) w e c y:=by
   intro i hi;have hi':=hat i hi;rw[List.getElem?_eq_getElem (by omega)] at hi';cases hc:w.cells? 0 (a.add (i*P.cellsOf E)) (P.cellsOf E) with
   | none=>rw[hc] at hi'; cases hi'
   | some c =>
     rw[hc] at hi';simp only[Option.bind_some] at hi';exact⟨c,rfl,hE hi'⟩
  by_cases h0:len=0
  ·subst h0;exact⟨[],some a,cap,rfl,Nat.zero_le _,hcap,.inl rfl⟩
  ·have hs:P.cellsOf E=sz e:=by
    obtain⟨c,hc,y,hy⟩:=each 0 (by omega);have:=(World.cells?_some hc).2.1;rw[<- this]; exact RT.len hy
   have hsp:0<P.cellsOf E:=by rw[hs]; exact sz_pos e
   obtain⟨b,o,rfl⟩:∃b o,a=⟨b,o,none⟩:=by
    obtain⟨c,hc,_⟩:=each 0 (by omega);have e0:a.add (0*P.cellsOf E)=a:=by simp[Addr.add]
    rw[e0] at hc;exact⟨a.block,a.off,(cells_at hsp hc).1⟩
   have hb:b<w.heap.size:=by
    obtain⟨c,hc,_⟩:=each 0 (by omega);have e0:(Addr.mk b o none).add (0*P.cellsOf E)=⟨b,o,none⟩:=by simp[Addr.add]
    rw[e0] at hc;have h1:=cells_at hsp hc;exact h1.2.2.lt (by rw[h1.2.1]; exact hsp)
   have build:∀k,k<=len->∃(cs:List Value) (xs:List (den e)),xs.length=k/\At w b o cs/\AllR (RT (inW w) w e) cs xs:=by
    intro k
    induction k with
    | zero=>exact fun _=>⟨[],[],rfl,at_nil,rfl⟩
    | succ k ih =>
      intro hk;obtain⟨cs,xs,h1,h2,h3⟩:=ih (by omega);obtain⟨c,hc,y,hy⟩:=each k (by omega);have hadd:(Addr.mk b o none).add (k*P.cellsOf E)=⟨b,o+k*P.cellsOf E,none⟩:=by
       unfold Addr.add;split
       ·rename_i h0; rw[h0]; rfl
       ·rfl
      rw[hadd] at hc;have h4:=(cells_at hsp hc).2.2;refine⟨cs++c,xs++[y],by simp[h1],h2.app ?_,AllR.app (AllR.one hy) h3⟩;have:cs.length=k*P.cellsOf E:=by rw[h3.len (fun c x h=>RT.len h),h1,hs]
      rw[this]; exact h4
   obtain⟨cs,xs,h1,h2,h3⟩:=build len (Nat.le_refl _);subst h1;exact⟨xs,some ⟨b,o,none⟩,cap,rfl,hlc,hcap,.inr ⟨b,o,cs,rfl,hb,h2,h3⟩⟩
theorem opens_parts{P:Program}{w:World}{H:Type}{enc:TypeId×Value->H}{sp:Nat->Bool}{hl:Bool}{op:TypeId->Ty->Bool}
  (hop:∀{T:TypeId} {y:Ty},op T y=true->∀{fuel:Nat} {cs:List Value} {x:DataW H×List MemPlace},DataW.trod enc P w 0 sp hl fuel T cs=some x->∃z:den y,RT (inW w) w y cs z) {cs:List Value} :
  ∀{fs:List Field} {off:Nat} {y:Ty},opF P op off fs y=true->cs.length=off+sz y->(∀f∈fs,∃n x,DataW.trod enc P w 0 sp hl n f.type ((cs.drop f.offset).take (P.cellsOf f.type))=some x)->∃z:den y,RT (inW w) w y (cs.drop off) z:=by
 intro fs
 induction fs with
 | nil=>grind[opF]
 | cons f r ih =>
   intro off y h hlen hf;cases r with
   | nil =>
     have h:(Nat.beq f.offset off&&Nat.beq (P.cellsOf f.type) (sz y)&&op f.type y)=true:=by
      cases y <;> exact h
     simp only[ba] at h;obtain⟨⟨h1,h2⟩,h3⟩:=h;have h1:=nb h1;have h2:=nb h2;obtain⟨n,x,hx⟩:=hf f (by simp)
     grind[List.take_of_length_le,List.length_drop]
   | cons g r' =>
     cases y with
     | pr a b =>
       simp only[opF,ba] at h;obtain⟨⟨⟨h1,h2⟩,h3⟩,h4⟩:=h;have h1:=nb h1;have h2:=nb h2;obtain⟨n,x,hx⟩:=hf f (by simp);rw[h1,h2] at hx;obtain⟨z1,hz1⟩:=hop h3 hx;have hlen':cs.length=off+sz a+sz b:=by rw[hlen]; simp only[sz]; omega
       obtain⟨z2,hz2⟩:=ih h4 hlen' (fun f' hf'=>hf f' (List.mem_cons_of_mem _ hf'));refine⟨(z1,z2),(cs.drop off).take (sz a),cs.drop (off+sz a),?_,hz1,hz2⟩
       grind[List.drop_drop,List.take_append_drop]
     | int k=>grind[opF]
     | bool=>grind[opF]
     | str=>grind[opF]
     | sl e=>grind[opF]
     | pt e=>grind[opF]
theorem opens_dat{P:Program}{w:World}{H:Type}{enc:TypeId×Value->H}{sp:Nat->Bool}{hl:Bool}:∀{n:Nat} {T:TypeId} {y:Ty},opB P n T y=true->∀{fuel:Nat} {cs:List Value} {x:DataW H×List MemPlace},DataW.trod enc P w 0 sp hl fuel T cs=some x->∃z:den y,RT (inW w) w y cs z:=by
 intro n
 induction n with
 | zero=>intro T y h; cases h
 | succ n ih =>
   intro T y h fuel cs x hx;unfold opB at h;split at h
   ·rename_i k hT;have hy:y=.int k:=by simpa using h
    subst hy;obtain⟨m,rfl,_,hw⟩:=DataW.trod_int hT hx;refine⟨m,rfl,?_⟩;simp only[Lit.wf,ba,dq] at hw
    grind[kind_min]
   ·rename_i hT;have hy:y=.bool:=by simpa using h
    subst hy;obtain⟨b,rfl,_⟩:=DataW.trod_bool hT hx;exact⟨b,rfl⟩
   ·rename_i hT;have hy:y=.str:=by simpa using h
    subst hy;obtain⟨s,rfl,_,hs⟩:=DataW.trod_string hT hx;exact⟨s,rfl,by grind[maxLen]⟩
   ·rename_i E hT;split at h
    ·exact opens_row (ih h) hT hx
    grind
   ·rename_i fs hT;rw[ba] at h;obtain⟨hlen,hf⟩:=opens_fields hT hx;have h1:=nb h.1;have:=opens_parts (cs:=cs) (fun h'=>ih h') h.2 (by omega) (fun f hfm=>by
     obtain⟨i,hi,rfl⟩:=List.getElem_of_mem hfm;exact hf i _ (by grind))
    grind
   grind
theorem argS{P:Program}{H:Type}{enc:TypeId×Value->H}{T:TypeId}{y:Ty}{n:Nat}(hy:opB P n T y=true){fs:Array Field}(hT:P.underlying T=some (.struct fs)){W:World}{r:Reach}{base:Nat}{v:Value}{d:DataW H}{p:List MemPlace}
  (hv:Value.okWide P W r base T v) (h:DataW.Trod enc P W 0 (fun _=>true) true T v d p):∃(cs:List Value) (x:den y),v=.agg cs.toArray/\RT (inW W) W y cs x:=by
 obtain⟨cs,rfl,_⟩:=WideShapes.okWide_struct hT hv;obtain⟨f,hf⟩:=h;obtain⟨x,hx⟩:=opens_dat hy hf;exact⟨cs.toList,x,by simp,hx⟩
theorem argL{P:Program}{H:Type}{enc:TypeId×Value->H}{T E:TypeId}{y:Ty}{n:Nat}(hy:opB P n T y=true)(hT:P.underlying T=some (.slice E)){W:World}{r:Reach}{base:Nat}{v:Value}{d:DataW H}{p:List MemPlace}
  (hv:Value.okWide P W r base T v) (h:DataW.Trod enc P W 0 (fun _=>true) true T v d p):∃x:den y,RT (inW W) W y [v] x:=by
 obtain⟨a,len,cap,rfl⟩:=WideShapes.okWide_slice hT hv;obtain⟨f,hf⟩:=h;obtain⟨x,hx⟩:=opens_dat hy hf;exact⟨x,hx⟩
theorem WE.below{w w':World}(h:WE none w w'):Below w.heap.size w w':=⟨h.os,h.tape,h.output,h.size,fun k hk=>h.block k hk (by simp)⟩
theorem wpList_of{P:Program}{ops:Array Oper}{Q:Exit->Act->World->Prop}{o:Oper}{r:List Oper}{a:Act}{w:World}(key:OpWp P ops Q o (wpList P ops Q r) a w):wpList P ops Q (o :: r) a w:=by
 grind[wpList,OpWp]
theorem runs_eqNil{P:Program}{n:Nat}{e:Env}{ty:TypeId}{w:World}{T T' E:TypeId}{x y:Operand}{q:Option Addr}{m c:Nat}(hU:P.underlying T=some (.slice E))(hx:Sv.ev e x=some (.slice q m c))(hy:Sv.ev e y=some (.slice none 0 0)) :
  RunsOp P n e (.binOp .eql T x y T') ty w (.bool q.isNone) w:=by
 intro a dst pos after g ha;have:=Lib.run_eql_slice_nil w T E q m c 0 0 hU;simp only[execOp,ha.ev hx,ha.ev hy];simp[eqGuard,this,Result.andThen]
theorem opWp_val{X:Cx}{G:Gh}{a:Act}{ops:Array Oper}{Q:Exit->Act->World->Prop}{d:Nat}{op:Op}{ty:TypeId}{pos:String}{after:Array Edge}{v:Value}{K:Act->World->Prop}
  (h:∀dst pos after g,(execOp a.eval ⟨dst,op,ty,pos,after,g⟩).run X.P G.w=.ok (.value v) G.w) (hK:K (a.put (some d) v) G.w):OpWp X.P ops Q ⟨some d,op,ty,pos,after,none⟩ K a G.w:=by
 unfold OpWp;have hw:Region.wanted ⟨some d,op,ty,pos,after,none⟩ (yielded ops a.tmps)=true:=rfl;rw[if_pos hw];unfold Oper.wp;rw[h (some d) pos after none];exact hK
theorem vx_isnil{X:Cx}{st:St}{Q:Exit->Act->World->Prop}{id T E t0 t3 t4:Nat}{ty3 ty4 T':TypeId}{pos3 pos4:String}{af3 af4:Array Edge}{f:Bool}{e:Ty}{xs:List (den e)}
  (hU:X.P.underlying T=some (.slice E)) (h0:lku st.e t0=some ⟨[],.d f (.sl e) xs⟩) (hpl:plainE st.e=true) (h3:Nat.blt t3 X.n=true) (h4:Nat.blt t4 X.n=true)
  (ht:xs=[]->FX X ⟨(t4,⟨[],.d true .bool true⟩) :: (t3,⟨[],.d f (.sl e) xs⟩) :: st.e,st.o⟩ .normal Q) (hf:FX X ⟨(t4,⟨[],.d true .bool false⟩) :: (t3,⟨[],.d f (.sl e) xs⟩) :: st.e,st.o⟩ .normal Q) :
  VX X st (.region id [⟨some t3,.move (.tmp t0),ty3,pos3,af3,none⟩,⟨some t4,.binOp .eql T (.tmp t3) (.const (.slice none 0 0)) T',ty4,pos4,af4,none⟩].toArray false) Q:=by
 intro G a S ho hE;have h3:t3<X.n:=by simpa using h3
 have h4:t4<X.n:=by simpa using h4
 refine wp_region_lit ?_;have hu:=(hE.val t0 _ h0).1 (fun _ h=>by cases h);have hu':=hu;obtain⟨q,cap,hv,hle,hmax,h4'⟩:=hu';simp only[List.cons.injEq,and_true] at hv;have hev:a.eval (.tmp t0)=a.tmps.getD t0 undef:=rfl;obtain⟨v,hrun,hv2⟩:Val X G a (.move (.tmp t0)) ty3 (.d f (.sl e) xs):=val_of hE [.tmp t0] (v:=a.eval (.tmp t0)) (runs_pure (by grind[pureV,cenv_ev])) (by grind);refine wpList_of (opWp_val hrun ?_);have hp0:∀(t:Nat) (s:Sl),lku st.e t=some s->∀d,∀x∈s.p,x.1≠d:=fun t s hs d x hx=>by grind[plainE_eq]
 have hE1:=EnvR.put (st:=st) (p:=[]) (r:=.d f (.sl e) xs) hE h3 (fun _ h=>by cases h) (fun t s hs=>hp0 t s hs t3) (v:=v) ⟨fun _=>hv2,fun h=>(h (fun _ h=>by cases h)).elim⟩;have hv2':=hv2;obtain⟨q,cap,hv,hle,hmax,h4'⟩:=hv2';simp only[List.cons.injEq,and_true] at hv;have he1:(a.put (some t3) v).eval (.tmp t3)=.slice q xs.length cap:=by
  show(a.put (some t3) v).tmps.getD t3 undef=_;rw[put_lt (by rw[hE.size]; exact h3),if_pos rfl,hv]
 have hx:Sv.ev (cenv (a.put (some t3) v) [.tmp t3]) (.tmp t3)=some (.slice q xs.length cap):=by rw[cenv_ev (by simp),he1]
 obtain⟨v2,hrun2,hv3⟩:Val X G (a.put (some t3) v) (.binOp .eql T (.tmp t3) (.const (.slice none 0 0)) T') ty4 (.d true .bool q.isNone):=val_of (st:=⟨(t3,⟨[],.d f (.sl e) xs⟩) :: st.e,st.o⟩) hE1 [.tmp t3] (runs_eqNil hU hx rfl) rfl;refine wpList_of (opWp_val hrun2 ?_);have hE2:∀b,q.isNone=b->EnvR X.n G ((t4,⟨[],.d true .bool b⟩) :: (t3,⟨[],.d f (.sl e) xs⟩) :: st.e) ((a.put (some t3) v).put (some t4) v2):=fun b hb=>EnvR.put (st:=⟨(t3,⟨[],.d f (.sl e) xs⟩) :: st.e,st.o⟩) (p:=[]) hE1 h4 (fun _ h=>by cases h) (fun t s hs x hx=>by
   grind[lK]) ⟨fun _=>hb ▸ hv3,fun h=>(h (fun _ h=>by cases h)).elim⟩
 show Q .normal _ G.w;cases hq:q with
 | none =>
   refine ht ?_ G _ S ho (hE2 true (by grind))
   grind
 | some ad=>exact hf G _ S ho (hE2 false (by grind))
end Go.Proofs.Xv
end
section
namespace Go.Proofs.Xv
open Go Go.RowKit Go.Proofs.Sv Go.Proofs.Xl
theorem allR_cells{K:Nat->Prop}{w:World}:∀{xs:List Int} {cs:List Value},AllR (RT K w (.int .i64)) cs xs->cs=xs.map (Value.int .i64)/\∀x∈xs,lo .i64<=x/\x<=hi .i64
 | [],cs,h=>⟨h,fun x hx=>nomatch hx⟩
 | x :: r,cs,⟨c,d,e,h1,h2⟩=>by
   obtain⟨k1,k2⟩:=allR_cells h2;subst e; subst k1;refine⟨by rw[h1.1]; rfl,fun y hy=>?_⟩;rcases List.mem_cons.1 hy with rfl | hy
   ·exact h1.2
   ·exact k2 y hy
end Go.Proofs.Xv
end
section
namespace Go.Proofs.Xl
end Go.Proofs.Xl
namespace Go.Proofs.Xv
open Go Go.RowKit Go.Proofs.Sv Go.Proofs.Xl
def OkE(P:Program)(f:FuncId)(ps:List Par){ζ:Type}(pre:denPs ps->Prop)(post:ζ->Prop)(res:ζ->denPs ps->Res ps):Prop:=enterB P f=true/\∀(x:denPs ps),pre x->∀(w:World) (vs:List Value) (go:Option Nat) (K:Nat->Prop),KW P w go K->ArgsR K w go ps x vs ->
 Calls P f vs.toArray w fun en w'=>∃z,post z/\PostC ⟨f,ps,res z⟩ x w go K en w'
abbrev kE(P:Program)(f:FuncId)(ps:List Par){ρ:Type}(pre:denPs ps->Prop)(post:ρ->Prop)(R:ρ->AV)(Z:ρ->IOT ps):Prop:=OkE P f ps pre post (fun(e:ρ) _=>⟨True,R e,Z e⟩)
/- What all data of a result are. -/
mutual
def wfA:AV->Prop
 | .d _ t x=>wf t x
 | .agg xs=>wfAs xs
 | .tup xs=>wfAs xs
 | .ow _ _ t xs=>wf (.sl t) xs
 | _=>True
def wfAs:List AV->Prop
 | []=>True
 | a :: r=>wfA a/\wfAs r
end
def wfZ:(ps:List Par)->IOT ps->Prop
 | [],_=>True
 | .io _ t :: _,z=>wf t z
 | .dat _ :: r,z=>wfZ r z
 | .agg _ :: r,z=>wfZ r z
 | .fn _ _ :: r,z=>wfZ r z
 | .nof _ :: r,z=>wfZ r z
 | .nil :: r,z=>wfZ r z
 | .os _ _ :: r,z=>wfZ r z
mutual
theorem ResR.wf{K:Bool->Nat->Prop}{w:World}:∀{a:AV} {u:Value} {gs:List (Option Nat)},ResR K w a u gs->wfA a
 | .v _,_,_,_=>trivial
 | .d _ _ _,_,_,h=>RT.wf h.1
 | .agg _,_,_,⟨_,_,h⟩=>ResRs.wf h
 | .tup _,_,_,⟨_,_,h⟩=>ResRs.wf h
 | .ow _ _ _ _,_,_,⟨_,_,_,_,h1,h2⟩=>own_wf h1 h2
 | .ob _ _,_,_,_=>trivial
 | .ptr _ _,_,_,_=>trivial
 | .pel ..,_,_,_=>trivial
 | .os _ _,_,_,_=>trivial
 | .fn _ _,_,_,_=>trivial
 | .gel _ _,_,_,_=>trivial
 | .og _,_,_,_=>trivial
theorem ResRs.wf{K:Bool->Nat->Prop}{w:World}:∀{as':List AV} {us:List Value} {gs:List (Option Nat)},ResRs K w as' us gs->wfAs as'
 | [],_,_,_=>trivial
 | _ :: _,_,_,⟨_,_,_,_,_,_,h1,h2⟩=>⟨ResR.wf h1,ResRs.wf h2⟩
end
theorem IOR.wf{K:Nat->Prop}{w:World}{go:Option Nat}:∀{ps:List Par} {z:IOT ps},IOR K w go ps z->wfZ ps z
 | [],_,_=>trivial
 | .io _ _ :: _,_,⟨_,_,_,_,h⟩=>RT.wf h
 | .dat _ :: r,_,h=>IOR.wf (ps:=r) h
 | .agg _ :: r,_,h=>IOR.wf (ps:=r) h
 | .fn _ _ :: r,_,h=>IOR.wf (ps:=r) h
 | .nof _ :: r,_,h=>IOR.wf (ps:=r) h
 | .nil :: r,_,h=>IOR.wf (ps:=r) h
 | .os _ _ :: r,_,h=>IOR.wf (ps:=r) h
section
variable {X:Cx} {Γ:Tab'} {T:List Ct}
end
end Go.Proofs.Xv
end
section
namespace Go.Proofs.Xv
open Go Go.RowKit Go.Proofs.Sv Go.Proofs.Xl
def AllS{α:Type}(R:α->α->Prop):List α->List α->Prop
 | [],ys=>ys=[]
 | x :: r,ys=>∃y r',ys=y :: r'/\R x y/\AllS R r r'
def shp:(t:Ty)->den t->den t->Prop
 | .int _,_,_=>True
 | .bool,x,y=>y=x
 | .str,x,y=>y=x
 | .sl e,x,y=>AllS (shp e) x y
 | .pt e,x,y=>shp e x y
 | .pr a b,x,y=>shp a x.1 y.1/\shp b x.2 y.2
theorem AllS.refl{α:Type}{R:α->α->Prop}(h:∀x,R x x):∀xs:List α,AllS R xs xs
 | []=>rfl
 | x :: r=>⟨x,r,rfl,h x,AllS.refl h r⟩
theorem shp_refl:∀(t:Ty) (x:den t),shp t x x
 | .int _,_=>trivial
 | .bool,_=>rfl
 | .str,_=>rfl
 | .sl e,x=>AllS.refl (shp_refl e) x
 | .pt e,x=>shp_refl e x
 | .pr a b,x=>⟨shp_refl a x.1,shp_refl b x.2⟩
theorem AllS.len{α:Type}{R:α->α->Prop}:∀{xs ys:List α},AllS R xs ys->ys.length=xs.length
 | [],_,h=>by rw[show _=[] from h]
 | _ :: _,_,⟨_,_,e,_,h⟩=>by rw[e,List.length_cons,List.length_cons,AllS.len h]
theorem AllS.all{α:Type}{R:α->α->Prop}{p q:α->Prop}(hpq:∀x y,R x y->p x->q y):∀{xs ys:List α},AllS R xs ys->(∀x∈xs,p x)->∀y∈ys,q y
 | [],_,h,_,y,hy=>by rw[show _=[] from h] at hy; cases hy
 | x :: r,_,⟨y',r',e,h1,h2⟩,hp,y,hy=>by
   subst e;rcases List.mem_cons.1 hy with rfl | hy
   ·grind
   ·exact AllS.all hpq h2 (fun x hx=>hp x (by grind)) y hy
def Sim(k:IntKind)(u u':Value):Prop:=u'=u∨∃x x',u=.int k x/\u'=.int k x'/\lo k<=x'/\x'<=hi k
def MSim(k:IntKind)(w w':World):Prop:=∀b o u,w.cell? ⟨b,o,none⟩=some u->∃u',w'.cell? ⟨b,o,none⟩=some u'/\Sim k u u'
def SimL(k:IntKind):List Value->List Value->Prop
 | [],vs=>vs=[]
 | u :: r,vs=>∃u' r',vs=u' :: r'/\Sim k u u'/\SimL k r r'
theorem SimL.refl{k:IntKind}:∀us:List Value,SimL k us us
 | []=>rfl
 | u :: r=>⟨u,r,rfl,.inl rfl,SimL.refl r⟩
theorem SimL.split{k:IntKind}{b:List Value}:∀{a cs:List Value},SimL k (a++b) cs->∃a' b',cs=a'++b'/\SimL k a a'/\SimL k b b'
 | [],cs,h=>⟨[],cs,rfl,rfl,h⟩
 | u :: r,cs,⟨u',r',e,h1,h2⟩=>by
   obtain⟨a',b',e2,h3,h4⟩:=SimL.split h2;exact⟨u' :: a',b',by grind,⟨u',a',rfl,h1,h3⟩,h4⟩
theorem At.sim{k:IntKind}{w w':World}(hM:MSim k w w'){b:Nat}:∀{ds:List Value} {o:Nat},At w b o ds->∃ds',At w' b o ds'/\SimL k ds ds'
 | [],o,_=>⟨[],fun i u h=>by grind,rfl⟩
 | d :: r,o,h=>by
   obtain⟨r',h1,h2⟩:=At.sim hM (At.tail h);obtain⟨d',h3,h4⟩:=hM b o d (h 0 d rfl);refine⟨d' :: r',fun i u hu=>?_,d',r',rfl,h4,h2⟩;cases i with
   | zero=>grind
   | succ i =>
     have:=h1 i u (by grind)
     rwa [show o+1+i=o+(i+1) by omega] at this
theorem AllR.sim{k:IntKind}{α:Type}{R R':List Value->α->Prop}{S:α->α->Prop}(hR:∀c c' x,SimL k c c'->R c x->∃x',R' c' x'/\S x x'):∀{cs cs':List Value} {xs:List α},SimL k cs cs'->AllR R cs xs->∃xs',AllR R' cs' xs'/\AllS S xs xs'
 | cs,cs',[],hs,h=>by
   rw[show cs=[] from h] at hs;exact⟨[],hs,rfl⟩
 | _,cs',x :: r,hs,⟨c,d,e,h1,h2⟩=>by
   subst e;obtain⟨c',d',rfl,h3,h4⟩:=hs.split;obtain⟨x',h5,h6⟩:=hR c c' x h3 h1;obtain⟨r',h7,h8⟩:=AllR.sim hR h4 h2;exact⟨x' :: r',⟨c',d',rfl,h5,h7⟩,x',r',rfl,h6,h8⟩
theorem sim_one{k:IntKind}{u:Value}{cs:List Value}(h:SimL k [u] cs)(hu:∀x,u≠.int k x):cs=[u]:=by
 obtain⟨u',r',rfl,h1,h2⟩:=h;rw[show r'=[] from h2];rcases h1 with rfl | ⟨x,_,rfl,_⟩
 ·rfl
 grind
theorem RT.sim{k:IntKind}{K:Nat->Prop}{w w':World}(hM:MSim k w w'):∀{t:Ty} {cs cs':List Value} {x:den t},SimL k cs cs'->RT K w t cs x->∃x',RT K w' t cs' x'/\shp t x x'
 | .int k0,cs,cs',x,hs,h=>by
   obtain⟨rfl,h1⟩:=h;obtain⟨u',r',rfl,h2,h3⟩:=hs;rw[show r'=[] from h3];rcases h2 with rfl | ⟨x0,x',e,rfl,h4,h5⟩
   ·exact⟨x,⟨rfl,h1⟩,trivial⟩
   ·cases e;exact⟨x',⟨rfl,h4,h5⟩,trivial⟩
 | .bool,cs,cs',x,hs,h=>by
   rw[show cs=_ from h] at hs;exact⟨x,sim_one hs (fun _ h=>by cases h),rfl⟩
 | .str,cs,cs',x,hs,h=>by
   rw[h.1] at hs;exact⟨x,⟨sim_one hs (fun _ h=>by cases h),h.2⟩,rfl⟩
 | .sl e,cs,cs',xs,hs,⟨p,cap,h1,h2,h3,h4⟩=>by
   rw[h1] at hs;have hc:=sim_one hs (fun _ h=>by cases h);rcases h4 with rfl | ⟨b,o,ds,hp,hb,hat,hall⟩
   ·exact⟨[],⟨p,cap,hc,h2,h3,.inl rfl⟩,rfl⟩
   ·obtain⟨ds',g1,g2⟩:=At.sim hM hat;obtain⟨xs',g3,g4⟩:=AllR.sim (fun c c' x hs hr=>RT.sim hM (t:=e) hs hr) g2 hall;exact⟨xs',⟨p,cap,by rw[hc,g4.len],by rw[g4.len]; exact h2,h3,.inr ⟨b,o,ds',hp,hb,g1,g3⟩⟩,g4⟩
 | .pt e,cs,cs',x,hs,⟨b,o,ds,h1,hb,hat,h2⟩=>by
   rw[h1] at hs;have hc:=sim_one hs (fun _ h=>by cases h);obtain⟨ds',g1,g2⟩:=At.sim hM hat;obtain⟨x',g3,g4⟩:=RT.sim hM (t:=e) g2 h2;exact⟨x',⟨b,o,ds',hc,hb,g1,g3⟩,g4⟩
 | .pr a b,cs,cs',x,hs,⟨c,d,h,h1,h2⟩=>by
   subst h;obtain⟨c',d',rfl,h3,h4⟩:=hs.split;obtain⟨x1,g1,g2⟩:=RT.sim hM (t:=a) h3 h1;obtain⟨x2,g3,g4⟩:=RT.sim hM (t:=b) h4 h2;exact⟨(x1,x2),⟨c',d',rfl,g1,g3⟩,g2,g4⟩
mutual
def HavA:AV->AV->Prop
 | .d fr t x,b=>bif kfree t then b=.d fr t x else ∃x',b=.d fr t x'/\shp t x x'/\(wf t x->wf t x')
 | .agg xs,b=>∃ys,b=.agg ys/\HavAs xs ys
 | .tup xs,b=>∃ys,b=.tup ys/\HavAs xs ys
 | .fn f xs,b=>∃ys,b=.fn f ys/\HavAs xs ys
 | a,b=>b=a
def HavAs:List AV->List AV->Prop
 | [],ys=>ys=[]
 | x :: r,ys=>∃y r',ys=y :: r'/\HavA x y/\HavAs r r'
end
def HavO:Ob->Ob->Prop
 | .box T cs,b=>∃ds,b=.box T ds/\HavAs cs ds
 | .arr T fr t xs v,b=>bif kfree t then b=.arr T fr t xs v else ∃xs',b=.arr T fr t xs' v/\AllS (shp t) xs xs'
 | a,b=>b=a
theorem havA_d{fr:Bool}{t:Ty}{x:den t}{b:AV}:HavA (.d fr t x) b=(bif kfree t then b=.d fr t x else ∃x',b=.d fr t x'/\shp t x x'/\(wf t x->wf t x')):=by grind[HavA]
theorem havO_a{T:TypeId}{fr:Bool}{t:Ty}{xs:List (den t)}{v:Nat}{b:Ob}:HavO (.arr T fr t xs v) b=(bif kfree t then b=.arr T fr t xs v else ∃xs',b=.arr T fr t xs' v/\AllS (shp t) xs xs'):=rfl
def HavE:List (Nat×Sl)->List (Nat×Sl)->Prop
 | [],ys=>ys=[]
 | (t,⟨p,a⟩) :: r,ys=>∃b r',ys=(t,⟨p,b⟩) :: r'/\HavA a b/\HavE r r'
def HavL:List (Nat×Ob)->List (Nat×Ob)->Prop
 | [],ys=>ys=[]
 | (i,a) :: r,ys=>∃b r',ys=(i,b) :: r'/\HavO a b/\HavL r r'
mutual
theorem HavA.refl:∀a,HavA a a
 | .d fr t x=>by
   simp only[havA_d,ce]
   grind[shp_refl]
 | .agg xs=>⟨xs,rfl,HavAs.refl xs⟩
 | .tup xs=>⟨xs,rfl,HavAs.refl xs⟩
 | .fn f xs=>⟨xs,rfl,HavAs.refl xs⟩
 | .v _ | .ptr .. | .pel .. | .os .. | .ow .. | .gel .. | .og .. | .ob ..=>by grind[HavA]
theorem HavAs.refl:∀as,HavAs as as
 | []=>by grind[HavAs]
 | a :: r=>by unfold HavAs; exact⟨a,r,rfl,HavA.refl a,HavAs.refl r⟩
end
theorem HavO.refl:∀a,HavO a a
 | .box T cs=>⟨cs,rfl,HavAs.refl cs⟩
 | .arr T fr t xs v=>by
   simp only[havO_a,ce]
   grind[AllS.refl,shp_refl]
 | .grd ..=>rfl
def kindO:Ob->Ob->Prop
 | .box T _,b=>∃ds,b=.box T ds
 | .arr T fr t _ v,b=>∃ys,b=.arr T fr t ys v
 | a,b=>b=a
theorem HavO.kind:∀{a b:Ob},HavO a b->kindO a b
 | .box _ _,_,⟨ds,h,_⟩=>⟨ds,h⟩
 | .arr _ _ _ xs _,b,h=>by
   rw[havO_a,ce] at h;split at h
   ·exact⟨xs,h⟩
   ·obtain⟨ys,h,_⟩:=h; exact⟨ys,h⟩
 | .grd ..,_,h=>h
theorem HavL.lk:∀{o o':List (Nat×Ob)},HavL o o'->∀i,(∀ob,lku o i=some ob->∃ob',lku o' i=some ob'/\HavO ob ob')/\(∀ob',lku o' i=some ob'->∃ob,lku o i=some ob/\HavO ob ob')
 | [],o',h,i=>by rw[show o'=[] from h]; exact⟨(fun _ h=>by cases h),fun _ h=>by cases h⟩
 | (j,a) :: r,_,⟨b,r',e,h1,h2⟩,i=>by
   subst e;rw[lK,lK];by_cases hj:j=i
   ·grind
   ·rw[if_neg hj,if_neg hj];exact HavL.lk h2 i
def up(G:Gh)(w':World)(o':List (Nat×Ob)):Gh:=⟨G.ρ,G.γ,G.K,w',o',G.B,G.δ⟩
section
variable {k:IntKind} {G:Gh} {w':World} (hM:MSim k G.w w')
include hM
mutual
theorem AVR.sim:∀{a:AV} {u:Value},AVR G a u->∃b,HavA a b/\∀o',HavL G.o o'->AVR (up G w' o') b u
 | .v x,u,h=>⟨.v x,rfl,fun _ _=>h⟩
 | .d fr t x,u,h=>by
   simp only[havA_d,ce];split
   ·rename_i hk;exact⟨.d fr t x,rfl,fun _ _=>RT.free hk h⟩
   ·obtain⟨x',h1,h2⟩:=RT.sim (K:=rg G fr) hM (SimL.refl [u]) h;exact⟨.d fr t x',⟨x',rfl,h2,fun _=>RT.wf h1⟩,fun _ _=>h1⟩
 | .agg xs,u,⟨us,e,h⟩=>by
   obtain⟨ys,h1,h2⟩:=AVRs.sim h;exact⟨.agg ys,⟨ys,rfl,h1⟩,fun o' ho=>⟨us,e,h2 o' ho⟩⟩
 | .tup xs,u,⟨us,e,h⟩=>by
   obtain⟨ys,h1,h2⟩:=AVRs.sim h;exact⟨.tup ys,⟨ys,rfl,h1⟩,fun o' ho=>⟨us,e,h2 o' ho⟩⟩
 | .fn f xs,u,⟨us,e,h⟩=>by
   obtain⟨ys,h1,h2⟩:=AVRs.sim h;exact⟨.fn f ys,⟨ys,rfl,h1⟩,fun o' ho=>⟨us,e,h2 o' ho⟩⟩
 | .ptr id off,u,⟨⟨T,cs,h1⟩,h2⟩=>⟨.ptr id off,rfl,fun o' ho=>by
    obtain⟨ob,g1,g2⟩:=(ho.lk id).1 _ h1;obtain⟨ds,rfl⟩:=g2.kind;exact⟨⟨T,ds,g1⟩,h2⟩⟩
 | .pel id ver kk s off,u,⟨h0,T,fr,t,xs,ver',h1,h2,h3⟩=>⟨.pel id ver kk s off,rfl,fun o' ho=>by
    obtain⟨ob,g1,g2⟩:=(ho.lk id).1 _ h1;obtain⟨ys,rfl⟩:=g2.kind;exact⟨h0,T,fr,t,ys,ver',g1,h2,h3⟩⟩
 | .os id ver,u,⟨h0,T,fr,t,xs,ver',h1,h2,h3⟩=>⟨.os id ver,rfl,fun o' ho=>by
    obtain⟨ob,g1,g2⟩:=(ho.lk id).1 _ h1;obtain⟨ys,rfl⟩:=g2.kind;exact⟨h0,T,fr,t,ys,ver',g1,h2,h3⟩⟩
 | .gel id kk,u,⟨⟨T,Te,fr,t,xs,hole,h1⟩,h2⟩=>⟨.gel id kk,rfl,fun o' ho=>by
    obtain⟨ob,g1,g2⟩:=(ho.lk id).1 _ h1;have:=g2.kind;rw[show ob=_ from this] at g1;exact⟨⟨T,Te,fr,t,xs,hole,g1⟩,h2⟩⟩
 | .og id,u,⟨h0,⟨T,Te,fr,t,xs,hole,h1⟩,h2⟩=>⟨.og id,rfl,fun o' ho=>by
    obtain⟨ob,g1,g2⟩:=(ho.lk id).1 _ h1;have:=g2.kind;rw[show ob=_ from this] at g1;exact⟨h0,⟨T,Te,fr,t,xs,hole,g1⟩,h2⟩⟩
 | .ow ..,_,h=>h.elim
 | .ob ..,_,h=>h.elim
theorem AVRs.sim:∀{as':List AV} {us:List Value},AVRs G as' us->∃bs,HavAs as' bs/\∀o',HavL G.o o'->AVRs (up G w' o') bs us
 | [],us,h=>⟨[],by grind[HavAs],fun _ _=>h⟩
 | a :: r,us,⟨u,us',e,h1,h2⟩=>by
   obtain⟨b,g1,g2⟩:=AVR.sim h1;obtain⟨bs,g3,g4⟩:=AVRs.sim h2;have:=hM;exact⟨b :: bs,by unfold HavAs; grind,fun o' ho=>⟨u,us',e,g2 o' ho,g4 o' ho⟩⟩
end
theorem ObR.sim{b:Nat}(hw:WE (some b) G.w w'){id:Nat}:∀{ob:Ob},ObR G id ob->isGrd (some ob)=false->G.γ id≠some b->∃ob',HavO ob ob'/\∀o',HavL G.o o'->ObR (up G w' o') id ob'
 | .box T cs,⟨b',us,h1,h2,h3,h4⟩,_,hb=>by
   obtain⟨ds,g1,g2⟩:=AVRs.sim hM h4;exact⟨.box T ds,⟨ds,rfl,g1⟩,fun o' ho=>⟨b',us,h1,h2,h3.we hw (fun i e h=>by grind),g2 o' ho⟩⟩
 | .arr T fr t xs v,⟨cs,h1,h2,h3⟩,_,hb=>by
   have h1':=h1.we hw (fun i e h=>by grind);simp only[havO_a,ce];split
   ·rename_i hk;exact⟨.arr T fr t xs v,rfl,fun o' _=>⟨cs,h1',h2.mapR (fun c x hr=>RT.free hk hr),h3⟩⟩
   ·obtain⟨xs',g1,g2⟩:=AllR.sim (k:=k) (R':=RT (rg G fr) w' t) (S:=shp t) (fun c c' x hs hr=>RT.sim hM hs hr) (SimL.refl cs) h2;exact⟨.arr T fr t xs' v,⟨xs',rfl,g2⟩,fun o' _=>⟨cs,by rw[g2.len]; exact h1',g1,h3⟩⟩
 | .grd ..,_,h,_=>by cases h
theorem obs_sim{b:Nat}(hw:WE (some b) G.w w')(hobs:∀id o,lku G.o id=some o->ObR G id o)(hg:∀id,isGrd (lku G.o id)=false)(hb:∀id o,lku G.o id=some o->G.γ id≠some b) :
  ∀l:List (Nat×Ob),∃l',HavL l l'/\∀i ob,lku l i=some ob->lku G.o i=some ob->∃ob',lku l' i=some ob'/\∀o',HavL G.o o'->ObR (up G w' o') i ob'
 | []=>⟨[],rfl,fun _ _ h=>by cases h⟩
 | (j,a) :: r=>by
   obtain⟨r',h1,h2⟩:=obs_sim hw hobs hg hb r;by_cases hv:lku G.o j=some a
   ·obtain⟨a',g1,g2⟩:=ObR.sim hM hw (hobs j a hv) (by grind) (hb j a hv);refine⟨(j,a') :: r',⟨a',r',rfl,g1,h1⟩,fun i ob hi hG=>?_⟩;rw[lK] at hi ⊢
    grind
   ·refine⟨(j,a) :: r',⟨a,r',rfl,HavO.refl a,h1⟩,fun i ob hi hG=>?_⟩;rw[lK] at hi ⊢
    grind
end
theorem Sat.hav{X:Cx}{G:Gh}(S:Sat X G){k:IntKind}{w':World}(hM:MSim k G.w w'){b:Nat}(hw:Wr b G.w w')(hK:G.K b)(hb:X.w0.heap.size<=b)(hu:UF w' b)(hg:∀id,isGrd (lku G.o id)=false){e:List (Nat×Sl)}{a:Act}(hE:EnvR X.n G e a) :
  ∃o' e',HavL G.o o'/\HavE e e'/\Sat X (up G w' o')/\EnvR X.n (up G w' o') e' a:=by
 have hwe:=WE.of_wr hw;have hne:∀id o,lku G.o id=some o->G.γ id≠some b:=fun id o ho h=>S.imm id o b ho h hK;obtain⟨o',h1,h2⟩:=obs_sim hM hwe S.obs hg hne G.o;have hlk:=h1.lk;have hg':∀id,isGrd (lku o' id)=false:=fun id=>by
  cases h:lku o' id with
  | none=>rfl
  | some ob =>
    obtain⟨ob0,g1,g2⟩:=(hlk id).2 ob h;have:=hg id;rw[g1] at this;cases ob0 with
    | box T cs=>obtain⟨ds,rfl⟩:=g2.kind; rfl
    | arr T fr t xs v=>obtain⟨ds,rfl⟩:=g2.kind; rfl
    | grd=>cases this
 have hS:Sat X (up G w' o'):=by
  refine⟨S.base,hwe.os.trans S.os,hwe.tape.trans S.tape,hwe.output.trans S.output,Nat.le_trans S.size hwe.size,fun i hi hio=>?_,fun id ob hob=>?_,fun id id' ob ob' c ho ho' hc hc'=>?_,fun id ob c ho hc=>?_,fun id ob c ho hc=>?_,fun i hi=>?_,S.kfrom,fun id c _ hgd=>?_,fun i v h=>?_⟩
  ·rw[<- S.block i hi hio];exact hw.block i (by omega)
  ·obtain⟨ob0,g1,g2⟩:=(hlk id).2 ob hob;obtain⟨ob',g3,g4⟩:=h2 id ob0 g1 g1;rw[show lku o' id=some ob from hob] at g3
   grind
  ·obtain⟨x,g1,_⟩:=(hlk id).2 ob ho;obtain⟨x',g2,_⟩:=(hlk id').2 ob' ho';exact S.inj id id' x x' c g1 g2 hc hc'
  ·obtain⟨x,g1,_⟩:=(hlk id).2 ob ho;exact S.imm id x c g1 hc
  ·obtain⟨x,g1,_⟩:=(hlk id).2 ob ho;exact S.own id x c g1 hc
  ·by_cases e:i=b
   ·subst e;exact hu.g
   ·exact(S.klt i hi).same hwe.size (hw.block i e)
  ·rw[show lku (up G w' o').o id=lku o' id from rfl,hg' id] at hgd;cases hgd
  ·obtain⟨bb,g1,g2⟩:=AVR.sim hM (S.pin i v h);rw[show bb=_ from g1] at g2
   grind
 have hEE:∀e:List (Nat×Sl),(∀t s,lku e t=some s->(PathP s.p a->AVR G s.a (a.tmps.getD t undef))/\(¬PathP s.p a->a.tmps.getD t undef=undef))->∃e',HavE e e'/\∀t s',lku e' t=some s'->(PathP s'.p a->AVR (up G w' o') s'.a (a.tmps.getD t undef))/\(¬PathP s'.p a->a.tmps.getD t undef=undef):=by
  intro e he
  -- the slots that are seen turn, the hidden ones stay
  have gen:∀l:List (Nat×Sl),∃l',HavE l l'/\∀t s,lku l t=some s->lku e t=some s->∃s',lku l' t=some s'/\(PathP s'.p a->AVR (up G w' o') s'.a (a.tmps.getD t undef))/\(¬PathP s'.p a->a.tmps.getD t undef=undef):=by
   intro l
   induction l with
   | nil=>exact⟨[],rfl,fun _ _ h=>by cases h⟩
   | cons x r ih =>
     obtain⟨t0,p0,a0⟩:=x;obtain⟨r',h3,h4⟩:=ih;by_cases hv:lku e t0=some ⟨p0,a0⟩/\PathP p0 a
     ·obtain⟨q1,q2⟩:=he t0 _ hv.1;obtain⟨a1,g1,g2⟩:=AVR.sim hM (q1 hv.2);refine⟨(t0,⟨p0,a1⟩) :: r',⟨a1,r',rfl,g1,h3⟩,fun t s hs hes=>?_⟩;rw[lK] at hs ⊢
      grind
     ·refine⟨(t0,⟨p0,a0⟩) :: r',⟨a0,r',rfl,HavA.refl a0,h3⟩,fun t s hs hes=>?_⟩;rw[lK] at hs ⊢
      grind
  obtain⟨e',h3,h4⟩:=gen e;refine⟨e',h3,fun t s' hs'=>?_⟩;have:∀{l l':List (Nat×Sl)},HavE l l'->∀{s'},lku l' t=some s'->∃s,lku l t=some s:=by
   intro l
   induction l with
   | nil=>intro l' hl s' h; rw[show l'=[] from hl] at h; cases h
   | cons x r ih =>
     obtain⟨t0,p0,a0⟩:=x;rintro l' ⟨b1,r',rfl,g1,g2⟩ s' h;rw[lK] at h ⊢
     grind
  obtain⟨s,hs⟩:=this h3 hs';obtain⟨s2,g1,g2⟩:=h4 t s hs hs;rw[hs'] at g1;cases g1;exact g2
 obtain⟨e',h3,h4⟩:=hEE e hE.val;exact⟨o',e',h1,h3,hS,hE.defers,hE.size,h4⟩
def grd(j:Nat)(b:Bool)(o:Oper):Oper:={ o with guard:=some (j,b) }
def nx(o:Option (Prop×St)):St:=match o with
 | some (_,s)=>s
 | none=>⟨[],[]⟩
theorem nx_of{o:Option (Prop×St)}{V:Prop}(h:o.map Prod.fst=some V):o=some (V,nx o):=by
 cases o with
 | none=>cases h
 | some x =>
   cases h;rfl
section
variable {P:Program} {n:Nat} {y:World×(Nat->Prop)×(Nat->Prop)×(Nat->Value->Prop)×Nat} {st:St} {Q:Exit->Act->World->Prop} {Γ:Tab'} {T:List Ct} {ρ:Type} {r:ρ}
theorem jA[hΓ:HG P Γ][hT:HT P T][hm:Mixed P](k:List Nat){id:Nat}{l:List Oper}{b:Bool}(hc:FX (cx P n y) (nx (regR b n Γ T l k st)) .normal Q)(h:(regR b n Γ T l k st).map Prod.fst=some True:=by kernel_rfl):VX (cx P n y) st (.region id l.toArray b) Q:=za hΓ.h hT.h _ _ (nx_of h) hc
theorem jB[hΓ:HG P Γ][hT:HT P T][hm:Mixed P](k:List Nat){V:Prop}[Decidable V]{e:Option ρ}{id:Nat}{l:List Oper}{b:Bool}(H:gd V e=some r)(hc:e=some r->FX (cx P n y) (nx (regR b n Γ T l k st)) .normal Q)(h:(regR b n Γ T l k st).map Prod.fst=some V:=by kernel_rfl):VX (cx P n y) st (.region id l.toArray b) Q:=zb hΓ.h hT.h _ _ H (nx_of h) hc
theorem iA[hΓ:HG P Γ][hT:HT P T][hm:Mixed P](k:List Nat){id:Nat}{l:List Oper}{b:Bool}{c:Code}(hc:VX (cx P n y) (nx (regR b n Γ T l k st)) c Q)(h:(regR b n Γ T l k st).map Prod.fst=some True:=by kernel_rfl):VX (cx P n y) st (.seq (.region id l.toArray b) c) Q:=qa hΓ.h hT.h _ _ (nx_of h) hc
theorem iB[hΓ:HG P Γ][hT:HT P T][hm:Mixed P](k:List Nat){V:Prop}[Decidable V]{e:Option ρ}{id:Nat}{l:List Oper}{b:Bool}{c:Code}(H:gd V e=some r)(hc:e=some r->VX (cx P n y) (nx (regR b n Γ T l k st)) c Q)(h:(regR b n Γ T l k st).map Prod.fst=some V:=by kernel_rfl):VX (cx P n y) st (.seq (.region id l.toArray b) c) Q:=qb hΓ.h hT.h _ _ H (nx_of h) hc
end
section
variable {P:Program} {Q:Exit->Act->World->Prop} {l:List Oper} {o:Oper}
end
section
variable {P:Program} {n:Nat} {y:World×(Nat->Prop)×(Nat->Prop)×(Nat->Value->Prop)×Nat} {st:St} {Q:Exit->Act->World->Prop} {Γ:Tab'} {T:List Ct} {ρ:Type} {r:ρ} {l:List Oper} {id i:Nat} {V:Prop} [Decidable V]
def n3{α β:Type}(o:Option (α×β×St)):St:=match o with
 | some (_,_,s)=>s
 | none=>⟨[],[]⟩
theorem okM{P:Program}{Γ:Tab'}[HG P Γ]{f:FuncId}{ps:List Par}{ρ:Type}[Inhabited ρ]{F:denPs ps->Option ρ}{R:ρ->AV}{Z:ρ->IOT ps}{fn:Func}{code:Code}(rs:List ResultVar)(hf:P.funcs[f]?=some fn)
 (h:∀y x r,F x=some r->∀Q,EndG (cx P fn.ntmps y) Γ rs ps R Z r .normal Q->EndG (cx P fn.ntmps y) Γ rs ps R Z r .ret Q->VX (cx P fn.ntmps y) ⟨start 0 ps x,startO 0 ps x⟩ code Q)
 (hb:fn.body=some code:=by rfl) (hr:fn.results=rs.toArray:=by kernel_rfl) (he:enterB P f=true:=by kernel_rfl) (hle:(Nat.ble ps.length fn.ntmps&&oneOb ps)=true:=by kernel_rfl):Ok P (lct f ps F R Z):=okL rs hf rfl hr h hb he hle
end
theorem hz{P:Program}{T:List Ct}(h:∀c∈T,Ok P c):HT P T:=⟨h⟩
instance (priority:=low){P:Program}:HT P []:=⟨@tn P⟩
def lcv(f:FuncId)(ps:List Par){ζ:Type}(R:ζ->AV)(Z:ζ->IOT ps)(v:ζ):Ct:=⟨f,ps,fun _=>⟨True,R v,Z v⟩⟩
section
variable {P:Program} {n:Nat} {y:World×(Nat->Prop)×(Nat->Prop)×(Nat->Value->Prop)×Nat} {st:St} {Q:Exit->Act->World->Prop} {Γ:Tab'} {T:List Ct} {ρ:Type} {r:ρ} {f:FuncId} {ps:List Par} {ζ:Type} [Inhabited ζ] {F:denPs ps->Option ζ} {R:ζ->AV} {Z:ζ->IOT ps} {V:Prop} [Decidable V] {x:ζ} {g:ζ->Option ρ} {id:Nat} {l:List Oper} {b:Bool}
theorem iD[hΓ:HG P Γ][hT:HT P T][hm:Mixed P](_:Ok P (lct f ps F R Z))(k:List Nat){c:Code}(H:gd V (lt x g)=some r)(hc:∀v,g v=some r->VX (cx P n y) (nx (regR b n Γ (lcv f ps R Z v :: T) l k st)) c Q)(h:(regR b n Γ T l k st).map Prod.fst=some V:=by kernel_rfl)(h2:nx (regR b n Γ T l k st)=nx (regR b n Γ (lcv f ps R Z x :: T) l k st):=by kernel_rfl):VX (cx P n y) st (.seq (.region id l.toArray b) c) Q :=
 qd hΓ.h hT.h k (fun v=>nx (regR b n Γ (lcv f ps R Z v :: T) l k st)) H ((nx_of h).trans (congrArg (fun s=>some (V,s)) h2)) hc
theorem jD[hΓ:HG P Γ][hT:HT P T][hm:Mixed P](_:Ok P (lct f ps F R Z))(k:List Nat)(H:gd V (lt x g)=some r)(hc:∀v,g v=some r->FX (cx P n y) (nx (regR b n Γ (lcv f ps R Z v :: T) l k st)) .normal Q)(h:(regR b n Γ T l k st).map Prod.fst=some V:=by kernel_rfl)(h2:nx (regR b n Γ T l k st)=nx (regR b n Γ (lcv f ps R Z x :: T) l k st):=by kernel_rfl):VX (cx P n y) st (.region id l.toArray b) Q :=
 zd hΓ.h hT.h k (fun v=>nx (regR b n Γ (lcv f ps R Z v :: T) l k st)) H ((nx_of h).trans (congrArg (fun s=>some (V,s)) h2)) hc
end
end Go.Proofs.Xv
end
