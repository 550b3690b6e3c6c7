/- Plain facts on lifted functions: sizes, copies, comparisons. Over any program. -/
import Derived.Test.YthobjlocnkienaaGreatDoorXE
import Derived.Test.YthobjlocnkienaaGreatDoorXA
import Derived.Lib.SliceRun
import Derived.Sort.Grow
section
namespace Go.Proofs.Xd
open Go Go.Proofs.Xv Go.Proofs.Xl
theorem lE{α β:Type}{x:α}{f:α->β}:lt x f=f x:=rfl
theorem sz_c{o:Option Int}{m n:Nat}{l:Int}{k:Int->Option Int}(h:o=some (szN m l))(hk:∀v,0<=v->v<=l->k v=some (szN n v))(hl:0<=l) :
  gd (o.isSome=true/\True) (lt (vl o) fun v=>if(decide (v<0))=true then some (-1) else k v)=some (szN (m+n) l):=by
 subst h;rw[gP ⟨rfl,trivial⟩];show(if(decide (szN m l<0))=true then some (-1) else k (szN m l))=_;by_cases c:szN m l<0
 ·rw[if_pos (by simpa using c),szN_neg c]
 ·rw[if_neg (by simpa using c),hk _ (by omega) (szN_le hl).2,szN_pos (by omega)]
theorem sz_s{s n:Nat}{l:Int}{k:Option Int}(hs:s<=9223372036854775807)(hl:0<=l)(hm:l<=9223372036854775807)(hk:0<=l-(s:Int)->k=some (szN n (l-(s:Int)))) :
  gd (in64 (l-(s:Int))/\True) (if(decide (l-(s:Int)<0))=true then some (-1) else k)=some (szN (s+n) l):=by
 rw[gP ⟨oo,trivial⟩];by_cases c:l-(s:Int)<0
 ·rw[if_pos (by simpa using c),szM_neg c]
 ·rw[if_neg (by simpa using c),hk (by omega),szM_pos (by omega)]
theorem sz_last{v:Int}(h:0<=v):some v=some (szN 0 v):=by rw[szN_zero h]
theorem sz_lp{T:Type}(xs:List T)(d:T)(c:T->Nat){F:(Int×Int->Option Int)->Int×Int->Option Int}{M:Int}
  (hF:∀g (v:Int) (i:Nat),i<xs.length->0<=v->v<=M->F g (v,(i:Int))=if szN (c (xs.getD i d)) v<0 then some (-1) else g (szN (c (xs.getD i d)) v,(i:Int)+1))
  (hE:∀g (v:Int) (i:Nat),xs.length<=i->F g (v,(i:Int))=some v):∀(n i:Nat) (v:Int),0<=v->v<=M->i<=xs.length->xs.length-i<n->itF F n (v,(i:Int))=some (szN ((xs.drop i).map c).sum v)
 | 0,i,v,_,_,_,h=>by omega
 | n+1,i,v,hv,hM,hi,hn=>by
   show F (itF F n) (v,(i:Int))=_;by_cases h:i<xs.length
   ·rw[hF _ _ _ h hv hM];have e:xs.drop i=xs.getD i d :: xs.drop (i+1):=by
     rw[List.drop_eq_getElem_cons h,gq,List.getElem?_eq_getElem h]; rfl
    rw[e,List.map_cons,List.sum_cons];split
    ·rename_i hc;rw[szN_neg hc]
    ·rename_i hc;rw[szN_pos (by omega)];have:=sz_lp xs d c hF hE n (i+1) (szN (c (xs.getD i d)) v) (by omega) (by have:=(szN_le (n:=c (xs.getD i d)) hv).2; omega) (by omega) (by omega);rw[<- this]
     norm_cast
   ·rw[hE _ _ _ (by omega),List.drop_eq_nil_of_le (by omega)];exact sz_last hv
theorem sz_row{T:Type}{xs:List T}{d:T}{c:T->Nat}{F:(Int×Int->Option Int)->Int×Int->Option Int}{l:Int}(hx:xs.length<=9223372036854775807)(hl:0<=l)(hm:l<=9223372036854775807)
  (hF:∀g (v:Int) (i:Nat),i<xs.length->0<=v->v<=9223372036854775807->F g (v,(i:Int))=if szN (c (xs.getD i d)) v<0 then some (-1) else g (szN (c (xs.getD i d)) v,(i:Int)+1))
  (hE:∀g (v:Int) (i:Nat),xs.length<=i->F g (v,(i:Int))=some v) :
  gd (in64 (l-(xs.length:Int))/\True) (if(decide (l-(xs.length:Int)<0))=true then some (-1) else lp F (l-(xs.length:Int),0))=some (szN (xs.length+(xs.map c).sum) l):=by
 refine sz_s hx hl hm fun h=>?_;have:=sz_lp xs d c hF hE big 0 (l-(xs.length:Int)) h (by omega) (by omega) (by simp only[big]; omega);unfold lp;simpa using this
theorem sz_el{o:Option Int}{m i len:Nat}{v:Int}{g:Int×Int->Option Int}{k:Option Int}(h:o=some (szN m v))(hi:i<len)(hl:len<=9223372036854775807) :
  (if(decide ((i:Int) < (len:Int)))=true then gd (ix (i:Int) len/\o.isSome=true/\True) (lt (vl o) fun v3=>if(decide (v3<0))=true then some (-1) else gd (in64 ((i:Int)+1)/\True) (g (v3,(i:Int)+1))) else k) =
    if szN m v<0 then some (-1) else g (szN m v,(i:Int)+1):=by
 subst h;rw[if_pos (by simpa using hi),gP ⟨oo,rfl,trivial⟩];show(if(decide (szN m v<0))=true then some (-1) else gd (in64 ((i:Int)+1)/\True) (g (szN m v,(i:Int)+1)))=_;rw[gP ⟨oo,trivial⟩];by_cases c:szN m v<0
 ·rw[if_pos (by simpa using c),if_pos c]
 ·rw[if_neg (by simpa using c),if_neg c]
theorem sz_es{m i len:Nat}{v:Int}{g:Int×Int->Option Int}{k:Option Int}(hi:i<len)(hl:len<=9223372036854775807)(hm:m<=9223372036854775807)(hv:0<=v)(hM:v<=9223372036854775807) :
  (if(decide ((i:Int) < (len:Int)))=true then gd (ix (i:Int) len/\in64 (v-(m:Int))/\True) (lt (v-(m:Int)) fun v3=>if(decide (v3<0))=true then some (-1) else gd (in64 ((i:Int)+1)/\True) (g (v3,(i:Int)+1))) else k) =
    if szN m v<0 then some (-1) else g (szN m v,(i:Int)+1):=by
 rw[if_pos (by simpa using hi),gP ⟨oo,oo,trivial⟩];show(if(decide (v-(m:Int)<0))=true then some (-1) else gd (in64 ((i:Int)+1)/\True) (g (v-(m:Int),(i:Int)+1)))=_;rw[gP ⟨oo,trivial⟩];by_cases c:v-(m:Int)<0
 ·rw[if_pos (by simpa using c),if_pos (by rw[szM_m1 c]; omega)]
 ·rw[if_neg (by simpa using c),szM_eq (by omega),if_neg c]
theorem sz_end{len i:Nat}{a b:Option Int}(h:len<=i):(if(decide ((i:Int) < (len:Int)))=true then a else b)=b:=if_neg (by simp; omega)
theorem to_c{α ρ:Type}[Inhabited α]{o:Option α}{x:α}{k:α->Option ρ}{r:Option ρ}(h:o=some x)(hk:k x=r):gd (o.isSome=true/\True) (lt (vl o) k)=r:=by
 subst h;rw[gP ⟨rfl,trivial⟩];exact hk
theorem fill_at{α:Type}(a:List α)(z _d:α)(s:Nat)(h:s<a.length):(a.take s++List.replicate (a.length-s) z).length=a.length:=by
 rw[List.length_append,List.length_take,List.length_replicate]; omega
theorem to_lp{T:Type}(xs:List T)(z d:T){F:(Int×List T->Option (List T))->Int×List T->Option (List T)}
  (hF:∀g (i:Nat) (ys:List T),i<xs.length->ys.length=xs.length->F g ((i:Int),ys)=g ((i:Int)+1,ys.set i (xs.getD i d)))
  (hE:∀g (i:Nat) ys,xs.length<=i->F g ((i:Int),ys)=some ys):∀(n i:Nat),i<=xs.length->xs.length-i<n->itF F n ((i:Int),xs.take i++List.replicate (xs.length-i) z)=some xs
 | 0,i,_,h=>by omega
 | n+1,i,hi,hn=>by
   show F (itF F n) ((i:Int),_)=_;by_cases h:i<xs.length
   ·rw[hF _ _ _ h (fill_at xs z d i h),fill_step xs z d i h];have:=to_lp xs z d hF hE n (i+1) (by omega) (by omega);rw[<- this]
    norm_cast
   ·rw[hE _ _ _ (by omega),fill_end xs z i (by omega)]
theorem to_row{T:Type}{xs:List T}{z d:T}{F:(Int×List T->Option (List T))->Int×List T->Option (List T)}{b:Nat}(hx:xs.length<=1048576)(hb:b<=4096)
  (hF:∀g (i:Nat) (ys:List T),i<xs.length->ys.length=xs.length->F g ((i:Int),ys)=g ((i:Int)+1,ys.set i (xs.getD i d)))
  (hE:∀g (i:Nat) ys,xs.length<=i->F g ((i:Int),ys)=some ys) :
  gd ((0<=(xs.length:Int)/\(xs.length:Int)=(xs.length:Int)/\(xs.length:Int).toNat*b<=281474976710656/\(xs.length:Int)<=9223372036854775807)/\True) (lp F (0,List.replicate (xs.length:Int).toNat z))=some xs:=by
 have hm:xs.length*b<=1048576*4096:=Nat.mul_le_mul hx hb;rw[gP ⟨⟨by omega,rfl,by rw[Int.toNat_natCast]; omega,by omega⟩,trivial⟩,Int.toNat_natCast];have:=to_lp xs z d hF hE big 0 (by omega) (by simp only[big]; omega);unfold lp;simpa using this
theorem to_el{T:Type}{o:Option T}[Inhabited T]{x:T}{i len:Nat}{ys:List T}{g:Int×List T->Option (List T)}{k:Option (List T)}(h:o=some x)(hi:i<len)(hl:len<=9223372036854775807)(hy:ys.length=len) :
  (if(decide ((i:Int) < (len:Int)))=true then gd (ix (i:Int) len/\o.isSome=true/\ix (i:Int) ys.length/\(i:Int).toNat<ys.length/\True) (lt (vl o) fun v4=>gd (in64 ((i:Int)+1)/\True) (g ((i:Int)+1,ys.set (i:Int).toNat v4))) else k)=g ((i:Int)+1,ys.set i x):=by
 subst h;rw[if_pos (by simpa using hi),gP ⟨oo,rfl,oo,by rw[Int.toNat_natCast]; omega,trivial⟩];rw[lE,vS,gP ⟨oo,trivial⟩,Int.toNat_natCast]
theorem to_es{T:Type}{x:T}{i len:Nat}{ys:List T}{g:Int×List T->Option (List T)}{k:Option (List T)}(hi:i<len)(hl:len<=9223372036854775807)(hy:ys.length=len) :
  (if(decide ((i:Int) < (len:Int)))=true then gd (ix (i:Int) len/\ix (i:Int) ys.length/\(i:Int).toNat<ys.length/\True) (gd (in64 ((i:Int)+1)/\True) (g ((i:Int)+1,ys.set (i:Int).toNat x))) else k)=g ((i:Int)+1,ys.set i x):=by
 rw[if_pos (by simpa using hi),gP ⟨oo,oo,by rw[Int.toNat_natCast]; omega,trivial⟩,gP ⟨oo,trivial⟩,Int.toNat_natCast]
theorem to_end{T:Type}{len i:Nat}{a b:Option T}(h:len<=i):(if(decide ((i:Int) < (len:Int)))=true then a else b)=b:=if_neg (by simp; omega)
theorem eq_c{o:Option Bool}{k r:Option Bool}(h:o=some true)(hk:k=r):gd (o.isSome=true/\True) (if(!vl o)=true then some false else k)=r:=by
 subst h;rw[gP ⟨rfl,trivial⟩];exact hk
theorem eq_d{p:Prop}[Decidable p]{k r:Option Bool}(h:p)(hk:k=r):(if(!decide p)=true then some false else k)=r:=by
 rw[decide_eq_true h];exact hk
theorem eq_i{x:Int}{k r:Option Bool}(hk:k=r):(if(x != x)=true then some false else k)=r:=by
 rw[bne_self_eq_false];exact hk
theorem eq_b{x:Bool}{k r:Option Bool}(hk:k=r):(if(x != x)=true then some false else k)=r:=by
 cases x <;> exact hk
theorem eq_b'{x:Bool}{k r:Option Bool}(hk:k=r):(if(!(x==x))=true then some false else k)=r:=by
 cases x <;> exact hk
theorem eq_lp(len:Nat){F:(Int->Option Bool)->Int->Option Bool}(hF:∀g (i:Nat),i<len->F g (i:Int)=g ((i:Int)+1))(hE:∀g (i:Nat),len<=i->F g (i:Int)=some true):∀(n i:Nat),i<=len->len-i<n->itF F n (i:Int)=some true
 | 0,i,_,h=>by omega
 | n+1,i,hi,hn=>by
   show F (itF F n) (i:Int)=_;by_cases h:i<len
   ·rw[hF _ _ h]
    exact_mod_cast eq_lp len hF hE n (i+1) (by omega) (by omega)
   ·exact hE _ _ (by omega)
theorem eq_row{len:Nat}{F:(Int->Option Bool)->Int->Option Bool}(hl:len<=9223372036854775807)(hF:∀g (i:Nat),i<len->F g (i:Int)=g ((i:Int)+1))(hE:∀g (i:Nat),len<=i->F g (i:Int)=some true) :
  (if((len:Int) != (len:Int))=true then some false else lp F 0)=some true :=
 eq_i (eq_lp len hF hE big 0 (by omega) (by simp only[big]; omega))
theorem eq_el{o:Option Bool}{i len:Nat}{g:Int->Option Bool}{k:Option Bool}(h:o=some true)(hi:i<len)(hl:len<=9223372036854775807) :
  (if(decide ((i:Int) < (len:Int)))=true then gd (ix (i:Int) len/\ix (i:Int) len/\o.isSome=true/\True) (if(!vl o)=true then some false else gd (in64 ((i:Int)+1)/\True) (g ((i:Int)+1))) else k)=g ((i:Int)+1):=by
 subst h;rw[if_pos (by simpa using hi),gP ⟨oo,oo,rfl,trivial⟩,vS,if_neg (by simp),gP ⟨oo,trivial⟩]
theorem eq_es{b:Bool}{i len:Nat}{g:Int->Option Bool}{k:Option Bool}(h:b=false)(hi:i<len)(hl:len<=9223372036854775807) :
  (if(decide ((i:Int) < (len:Int)))=true then gd (ix (i:Int) len/\ix (i:Int) len/\True) (if b=true then some false else gd (in64 ((i:Int)+1)/\True) (g ((i:Int)+1))) else k)=g ((i:Int)+1):=by
 subst h;rw[if_pos (by simpa using hi),gP ⟨oo,oo,trivial⟩,if_neg (by simp),gP ⟨oo,trivial⟩]
theorem cnt_el{t:Ty}{a:List (den t)}{i:Nat}{d:den t}{m:Nat}(h:i<a.length)(hc:cnt (.sl t) a<=m):cnt t (a.getD i d)<=m:=by
 rw[cnt_sl] at hc;have:=cnt_at (d:=d) h;omega
theorem cnt_len{t:Ty}{a:List (den t)}{m:Nat}(hc:cnt (.sl t) a<=m):a.length<=m:=by
 rw[cnt_sl] at hc; omega
theorem cF{s t:Ty}{x:den (.pr s t)}{m:Nat}(h:cnt (.pr s t) x<=m):cnt s x.1<=m:=by
 rw[cnt_pr] at h; omega
theorem cS{s t:Ty}{x:den (.pr s t)}{m:Nat}(h:cnt (.pr s t) x<=m):cnt t x.2<=m:=by
 rw[cnt_pr] at h; omega
theorem wf_el{t:Ty}{a:List (den t)}{i:Nat}{d:den t}(h:i<a.length)(hw:wf (.sl t) a):wf t (a.getD i d):=by
 rw[gq,List.getElem?_eq_getElem h];exact hw.2 _ (List.getElem_mem h)
theorem dlt{i n:Nat}:decide ((i:Int) < (n:Int))=decide (i<n):=by
 rw[decide_eq_decide]; omega
theorem big_gt{n:Nat}(h:n<=9223372036854775807):n+1<big:=by simp only[big]; omega
theorem lp_run{σ τ ρ:Type}{n:Nat}(hn:n<=9223372036854775807)(mk:Nat->σ->τ)(f:Nat->σ->Option σ)(x:Nat->σ->Option ρ)(I:Nat->σ->Prop){J:σ->Option ρ}{F:(τ->Option ρ)->τ->Option ρ}
  (hF:∀g i s,i<n->I i s->F g (mk i s)=match f i s with | some s'=>g (mk (i+1) s') | none=>x i s) (hI:∀i s s',i<n->I i s->f i s=some s'->I (i+1) s') (hE:∀g s,I n s->F g (mk n s)=J s)
  (run:Nat->σ->Option ρ) (r0:∀s,I n s->run n s=J s) (r1:∀i s,i<n->I i s->run i s=match f i s with | some s'=>run (i+1) s' | none=>x i s) (k:Nat) (hk:k<=n) (s:σ) (hs:I k s):lp F (mk k s)=run k s:=by
 have key:∀(m i:Nat) (s:σ),i<=n->n-i<m->I i s->itF F m (mk i s)=run i s:=by
  intro m
  induction m with
  | zero=>intro i s _ h; omega
  | succ m ih =>
    intro i s hi hm hI';show F (itF F m) (mk i s)=_;by_cases h:i<n
    ·rw[hF _ _ _ h hI',r1 _ _ h hI'];cases hf:f i s with
     | none=>rfl
     | some s'=>exact ih (i+1) s' (by omega) (by omega) (hI _ _ _ h hI' hf)
    ·have:i=n:=by omega
     subst this;rw[hE _ _ hI',r0 _ hI']
 exact key big k s hk (by have:=big_gt hn; omega) hs
theorem lp_any{ρ:Type}{n:Nat}(hn:n<=9223372036854775807)(c:Nat->Bool)(x:Nat->Option ρ){e:Option ρ}{F:(Int->Option ρ)->Int->Option ρ}(k:Nat)(hk:k<=n)(hF:∀g (i:Nat),k<=i->i<n->F g (i:Int)=if c i=true then x i else g ((i:Int)+1))
  (hE:∀g,F g (n:Int)=e):lp F (k:Int)=match(List.range' k (n-k)).find? c with | some i=>x i | none=>e:=by
 have:=lp_run hn (fun i (_:Unit)=>(i:Int)) (fun i _=>if c i=true then none else some ()) (fun i _=>x i) (fun i _=>k<=i) (J:=fun _=>e) (F:=F)
  (fun g i s h hki=>by
    rw[hF g i hki h];cases c i <;> rfl) (fun _ _ _ _ h _=>Nat.le_succ_of_le h) (fun g _ _=>hE g) (fun i _=>match(List.range' i (n-i)).find? c with | some i=>x i | none=>e) (fun _ _=>by simp) (fun i s h _=>by
    have e1:n-i=(n-(i+1))+1:=by omega
    rw[e1,List.range'_succ,List.find?_cons];cases hc:c i <;> simp) k hk () (Nat.le_refl _)
 simpa using this
theorem find_none{c:Nat->Bool}{k n:Nat}:(List.range' k (n-k)).find? c=none↔∀i,k<=i->i<n->c i=false:=by
 rw[List.find?_eq_none];constructor
 ·intro h i h1 h2;have:=h i (List.mem_range'_1.2 ⟨h1,by omega⟩);simpa using this
 ·intro h i hi;obtain⟨h1,h2⟩:=List.mem_range'_1.1 hi;rw[h i h1 (by omega)];simp
theorem lp_all{ρ:Type}{n:Nat}(hn:n<=9223372036854775807)(c:Nat->Bool)(x:Option ρ){e:Option ρ}{F:(Int->Option ρ)->Int->Option ρ}(hF:∀g (i:Nat),i<n->F g (i:Int)=if c i=true then x else g ((i:Int)+1))
  (hE:∀g,F g (n:Int)=e):lp F 0=if(List.range n).any c=true then x else e:=by
 have:=lp_any hn c (fun _=>x) 0 (Nat.zero_le _) (fun g i _ h=>hF g i h) hE;rw[Nat.sub_zero,<- List.range_eq_range'] at this;refine Eq.trans this ?_;cases h:(List.range n).find? c with
 | none =>
   rw[if_neg];rw[List.find?_eq_none] at h;intro hc;obtain⟨i,h1,h2⟩:=List.any_eq_true.1 hc;exact h i h1 h2
 | some i =>
   rw[if_pos];exact List.any_eq_true.2 ⟨i,List.mem_of_find?_eq_some h,List.find?_some h⟩
theorem lp_allK{ρ:Type}{n:Nat}(hn:n<=9223372036854775807)(c:Nat->Bool)(x:Option ρ){e:Option ρ}{F:(Int->Option ρ)->Int->Option ρ}(k:Nat)(hk:k<=n)(hF:∀g (i:Nat),k<=i->i<n->F g (i:Int)=if c i=true then x else g ((i:Int)+1))
  (hE:∀g,F g (n:Int)=e):lp F (k:Int)=if((List.range n).any fun i=>decide (k<=i)&&c i)=true then x else e:=by
 refine(lp_any hn c (fun _=>x) k hk hF hE).trans ?_;cases h:(List.range' k (n-k)).find? c with
 | none =>
   rw[if_neg];intro hc;obtain⟨i,h1,h2⟩:=List.any_eq_true.1 hc;simp only[ba,dq] at h2;rw[find_none.1 h i h2.1 (List.mem_range.1 h1)] at h2;cases h2.2
 | some i =>
   rw[if_pos];have h1:=List.mem_range'_1.1 (List.mem_of_find?_eq_some h);exact List.any_eq_true.2 ⟨i,List.mem_range.2 (by omega),by simp[h1.1,List.find?_some h]⟩
def fN{σ:Type}(f:Nat->σ->σ):Nat->σ->σ
 | 0,s=>s
 | n+1,s=>f n (fN f n s)
theorem lF{σ τ ρ:Type}{n:Nat}(hn:n<=9223372036854775807)(mk:Nat->σ->τ)(f:Nat->σ->σ)(I:Nat->σ->Prop){J:σ->Option ρ}{F:(τ->Option ρ)->τ->Option ρ}
  (hF:∀g i s,i<n->I i s->F g (mk i s)=g (mk (i+1) (f i s))) (hI:∀i s,i<n->I i s->I (i+1) (f i s)) (hE:∀g s,I n s->F g (mk n s)=J s) (s:σ) (hs:I 0 s):lp F (mk 0 s)=J (fN f n s):=by
 have key:∀(m i:Nat),i<=n->n-i<m->I i (fN f i s)->itF F m (mk i (fN f i s))=J (fN f n s):=by
  intro m
  induction m with
  | zero=>intro i _ h; omega
  | succ m ih =>
    intro i hi hm hI';show F (itF F m) (mk i _)=_;by_cases h:i<n
    ·rw[hF _ _ _ h hI'];exact ih (i+1) (by omega) (by omega) (hI _ _ h hI')
    ·have:i=n:=by omega
     subst this;exact hE _ _ hI'
 exact key big 0 (Nat.zero_le _) (by have:=big_gt hn; omega) hs
theorem lp_foldE{σ τ ρ:Type}{n:Nat}(hn:n<=9223372036854775807)(mk:Nat->σ->τ)(f:Nat->σ->σ)(c:Nat->Bool)(x:Option ρ)(I:Nat->σ->Prop){J:σ->Option ρ}{F:(τ->Option ρ)->τ->Option ρ}
  (hF:∀g i s,i<n->I i s->F g (mk i s)=if c i=true then x else g (mk (i+1) (f i s))) (hI:∀i s,i<n->I i s->c i=false->I (i+1) (f i s)) (hE:∀g s,I n s->F g (mk n s)=J s) (s:σ) (hs:I 0 s) :
  lp F (mk 0 s)=if(List.range n).any c=true then x else J (fN f n s):=by
 have key:∀(m i:Nat),i<=n->n-i<m->I i (fN f i s)->(∀j,j<i->c j=false)->itF F m (mk i (fN f i s))=if(List.range n).any c=true then x else J (fN f n s):=by
  intro m
  induction m with
  | zero=>intro i _ h; omega
  | succ m ih =>
    intro i hi hm hI' hc;show F (itF F m) (mk i _)=_;by_cases h:i<n
    ·rw[hF _ _ _ h hI'];cases hci:c i with
     | true=>rw[if_pos rfl,if_pos (List.any_eq_true.2 ⟨i,List.mem_range.2 h,hci⟩)]
     | false =>
       rw[if_neg (by simp)];refine ih (i+1) (by omega) (by omega) (hI _ _ h hI' hci) (fun j hj=>?_);rcases Nat.lt_succ_iff_lt_or_eq.1 hj with h' | rfl
       ·exact hc j h'
       ·exact hci
    ·have:i=n:=by omega
     subst this;rw[hE _ _ hI',if_neg];intro ha;obtain⟨j,h1,h2⟩:=List.any_eq_true.1 ha;rw[hc j (List.mem_range.1 h1)] at h2;cases h2
 exact key big 0 (Nat.zero_le _) (by have:=big_gt hn; omega) hs (fun j hj=>absurd hj (Nat.not_lt_zero j))
theorem any_or{n:Nat}(p q:Nat->Bool):((List.range n).any fun i=>p i||q i)=((List.range n).any p||(List.range n).any q):=by
 rw[Bool.eq_iff_iff,Bool.or_eq_true,List.any_eq_true,List.any_eq_true,List.any_eq_true];constructor
 ·rintro⟨i,h1,h2⟩;rcases Bool.or_eq_true _ _ ▸ h2 with h3 | h3
  ·exact .inl ⟨i,h1,h3⟩
  ·exact .inr ⟨i,h1,h3⟩
 ·rintro(⟨i,h1,h2⟩ | ⟨i,h1,h2⟩)
  ·exact⟨i,h1,by rw[h2]; rfl⟩
  ·exact⟨i,h1,by rw[h2,Bool.or_true]⟩
theorem not_any{n:Nat}{c:Nat->Bool}:(!(List.range n).any c)=true↔∀i,i<n->c i=false:=by
 rw[Bool.not_eq_true',<- Bool.not_eq_true,List.any_eq_true];constructor
 ·intro h i hi;rw[<- Bool.not_eq_true];exact fun hc=>h ⟨i,List.mem_range.2 hi,hc⟩
 ·rintro h ⟨i,h1,h2⟩;rw[h i (List.mem_range.1 h1)] at h2;cases h2
theorem any_getD{α:Type}(l:List α)(d:α)(p:α->Bool):((List.range l.length).any fun i=>p (l.getD i d))=l.any p:=by
 rw[Bool.eq_iff_iff,List.any_eq_true,List.any_eq_true];constructor
 ·rintro⟨i,h1,h2⟩;have h1:=List.mem_range.1 h1;rw[gq,List.getElem?_eq_getElem h1] at h2;exact⟨_,List.getElem_mem h1,h2⟩
 ·rintro⟨x,h1,h2⟩;obtain⟨i,h3,h4⟩:=List.getElem_of_mem h1;refine⟨i,List.mem_range.2 h3,?_⟩;rw[gq,List.getElem?_eq_getElem h3];simpa [h4] using h2
theorem any_congr'{n:Nat}{p q:Nat->Bool}(h:∀i,i<n->p i=q i):(List.range n).any p=(List.range n).any q:=by
 rw[Bool.eq_iff_iff,List.any_eq_true,List.any_eq_true];exact⟨fun⟨i,h1,h2⟩=>⟨i,h1,by rw[<- h i (List.mem_range.1 h1)]; exact h2⟩,fun⟨i,h1,h2⟩=>⟨i,h1,by rw[h i (List.mem_range.1 h1)]; exact h2⟩⟩
theorem all_el{ρ:Type}{i n:Nat}{V:Prop}[Decidable V]{c:Bool}{x e:Option ρ}{g:Int->Option ρ}(h:i<n)(hn:n<=9223372036854775807)(hV:V) :
  (if(decide ((i:Int) < (n:Int)))=true then gd V (if c=true then x else gd (in64 ((i:Int)+1)/\True) (g ((i:Int)+1))) else e)=if c=true then x else g ((i:Int)+1):=by
 rw[if_pos (by simpa using h),gP hV,gP ⟨oo,trivial⟩]
theorem all_el2{ρ:Type}{i n:Nat}{V W:Prop}[Decidable V][Decidable W]{c:Bool}{x e:Option ρ}{g:Int->Option ρ}(h:i<n)(hn:n<=9223372036854775807)(hV:V)(hW:W) :
  (if(decide ((i:Int) < (n:Int)))=true then gd V (gd W (if c=true then x else gd (in64 ((i:Int)+1)/\True) (g ((i:Int)+1)))) else e)=if c=true then x else g ((i:Int)+1):=by
 rw[if_pos (by simpa using h),gP hV,gP hW,gP ⟨oo,trivial⟩]
theorem aE{ρ:Type}{n:Nat}{a e:Option ρ}:(if(decide ((n:Int) < (n:Int)))=true then a else e)=e:=if_neg (by simp)
theorem idx_el{i n:Nat}{o:Option Bool}{g:Int->Option Int}{e:Option Int}{b:Bool}(h:i<n)(hn:n<=9223372036854775807)(ho:o=some b) :
  (if(decide ((i:Int) < (n:Int)))=true then gd (ix (i:Int) n/\o.isSome=true/\True) (if(vl o)=true then some (i:Int) else gd (in64 ((i:Int)+1)/\True) (g ((i:Int)+1))) else e)=if b=true then some (i:Int) else g ((i:Int)+1):=by
 subst ho;rw[if_pos (by simpa using h),gP ⟨oo,rfl,trivial⟩,gP ⟨oo,trivial⟩,vS]
theorem idx_some{n:Nat}(hn:n<=9223372036854775807)(b:Nat->Bool){F:(Int->Option Int)->Int->Option Int}(hF:∀g (i:Nat),i<n->F g (i:Int)=if b i=true then some (i:Int) else g ((i:Int)+1))(hE:∀g,F g (n:Int)=some (-1)) :
  lp F 0=some (match(List.range n).find? b with | some i=>(i:Int) | none => -1):=by
 have:=lp_any hn b (fun i=>some (i:Int)) 0 (Nat.zero_le _) (fun g i _ h=>hF g i h) hE;rw[Nat.sub_zero,<- List.range_eq_range'] at this;refine Eq.trans this ?_;cases(List.range n).find? b <;> rfl
theorem has_some{n:Nat}{b:Nat->Bool}{o:Option Int}(h:o=some (match(List.range n).find? b with | some i=>(i:Int) | none => -1)):gd (o.isSome=true/\True) (lt (vl o) fun v0=>some (decide (0<=v0)))=some ((List.range n).any b):=by
 subst h;rw[gP ⟨rfl,trivial⟩,lE,vS];cases h:(List.range n).find? b with
 | none =>
   have:(List.range n).any b=false:=by
    rw[<- Bool.not_eq_true];intro hc;obtain⟨i,h1,h2⟩:=List.any_eq_true.1 hc;rw[List.find?_eq_none] at h;exact h i h1 h2
   rw[this]; rfl
 | some i =>
   have:(List.range n).any b=true:=List.any_eq_true.2 ⟨i,List.mem_of_find?_eq_some h,List.find?_some h⟩;rw[this];simp
end Go.Proofs.Xd
end
section
namespace Go.Proofs.Xv
open Go Go.RowKit Go.Proofs.Sv
def opF(P:Program)(op:TypeId->Ty->Bool):Nat->List Field->Ty->Bool
 | _,[],_=>false
 | off,[f],y=>Nat.beq f.offset off&&Nat.beq (P.cellsOf f.type) (sz y)&&op f.type y
 | off,f :: r,.pr a b=>Nat.beq f.offset off&&Nat.beq (P.cellsOf f.type) (sz a)&&op f.type a&&opF P op (off+sz a) r b
 | _,_,_=>false
def opB(P:Program):Nat->TypeId->Ty->Bool
 | 0,_,_=>false
 | n+1,T,y=>match P.underlying T with
   | some (.int k)=>decide (y=.int k)
   | some .bool=>decide (y=.bool)
   | some .string=>decide (y=.str)
   | some (.slice E)=>match y with
     | .sl e=>opB P n E e
     | _=>false
   | some (.struct fs)=>Nat.beq (P.cellsOf T) (sz y)&&opF P (opB P n) 0 fs.toList y
   | _=>false
def inW(w:World)(k:Nat):Prop:=k<w.heap.size
theorem kind_min(k:IntKind):k.min=lo k/\k.max=hi k:=by cases k <;> exact⟨rfl,rfl⟩
theorem opens_row{P:Program}{E:TypeId}{e:Ty}{w:World}{H:Type}{enc:TypeId×Value->H}{sp:Nat->Bool}{hl:Bool}(hE:∀{fuel:Nat} {cs:List Value} {x:DataW H×List MemPlace},DataW.trod enc P w 0 sp hl fuel E cs=some x->∃z:den e,RT (inW w) w e cs z)
  {T:TypeId} {fuel:Nat} {cs:List Value} {x:DataW H×List MemPlace} (hT:P.underlying T=some (.slice E)) (h:DataW.trod enc P w 0 sp hl fuel T cs=some x):∃z:List (den e),RT (inW w) w (.sl e) cs z:=by
 rcases DataW.trod_slice hT h with ⟨rfl,_⟩ | ⟨a,len,cap,elems,rest,n,rfl,rfl,_,_,hlc,hcm,hel,hat,_,_⟩
 ·exact⟨[],none,0,rfl,Nat.le_refl _,by omega,.inl rfl⟩
 ·have hcap:cap<=9223372036854775807:=by unfold maxLen at hcm; omega
  have each:∀i,i<len->∃c:List Value,w.cells? 0 (a.add (i*P.cellsOf E)) (P.cellsOf E)=some c/\∃y:den e,RT (inW w) w e c y:=by
   intro i hi;have hi':=hat i hi;rw[List.getElem?_eq_getElem (by omega)] at hi';cases hc:w.cells? 0 (a.add (i*P.cellsOf E)) (P.cellsOf E) with
   | none=>rw[hc] at hi'; cases hi'
   | some c =>
     rw[hc] at hi';simp only[Option.bind_some] at hi';exact⟨c,rfl,hE hi'⟩
  by_cases h0:len=0
  ·subst h0;exact⟨[],some a,cap,rfl,Nat.zero_le _,hcap,.inl rfl⟩
  ·have hs:P.cellsOf E=sz e:=by
    obtain⟨c,hc,y,hy⟩:=each 0 (by omega);have:=(World.cells?_some hc).2.1;rw[<- this]; exact RT.len hy
   have hsp:0<P.cellsOf E:=by rw[hs]; exact sz_pos e
   obtain⟨b,o,rfl⟩:∃b o,a=⟨b,o,none⟩:=by
    obtain⟨c,hc,_⟩:=each 0 (by omega);have e0:a.add (0*P.cellsOf E)=a:=by simp[Addr.add]
    rw[e0] at hc;exact⟨a.block,a.off,(cells_at hsp hc).1⟩
   have hb:b<w.heap.size:=by
    obtain⟨c,hc,_⟩:=each 0 (by omega);have e0:(Addr.mk b o none).add (0*P.cellsOf E)=⟨b,o,none⟩:=by simp[Addr.add]
    rw[e0] at hc;have h1:=cells_at hsp hc;exact h1.2.2.lt (by rw[h1.2.1]; exact hsp)
   have build:∀k,k<=len->∃(cs:List Value) (xs:List (den e)),xs.length=k/\At w b o cs/\AllR (RT (inW w) w e) cs xs:=by
    intro k
    induction k with
    | zero=>exact fun _=>⟨[],[],rfl,at_nil,rfl⟩
    | succ k ih =>
      intro hk;obtain⟨cs,xs,h1,h2,h3⟩:=ih (by omega);obtain⟨c,hc,y,hy⟩:=each k (by omega);have hadd:(Addr.mk b o none).add (k*P.cellsOf E)=⟨b,o+k*P.cellsOf E,none⟩:=by
       unfold Addr.add;split
       ·rename_i h0; rw[h0]; rfl
       ·rfl
      rw[hadd] at hc;have h4:=(cells_at hsp hc).2.2;refine⟨cs++c,xs++[y],by simp[h1],h2.app ?_,AllR.app (AllR.one hy) h3⟩;have:cs.length=k*P.cellsOf E:=by rw[h3.len (fun c x h=>RT.len h),h1,hs]
      rw[this]; exact h4
   obtain⟨cs,xs,h1,h2,h3⟩:=build len (Nat.le_refl _);subst h1;exact⟨xs,some ⟨b,o,none⟩,cap,rfl,hlc,hcap,.inr ⟨b,o,cs,rfl,hb,h2,h3⟩⟩
theorem opens_parts{P:Program}{w:World}{H:Type}{enc:TypeId×Value->H}{sp:Nat->Bool}{hl:Bool}{op:TypeId->Ty->Bool}
  (hop:∀{T:TypeId} {y:Ty},op T y=true->∀{fuel:Nat} {cs:List Value} {x:DataW H×List MemPlace},DataW.trod enc P w 0 sp hl fuel T cs=some x->∃z:den y,RT (inW w) w y cs z) {cs:List Value} :
  ∀{fs:List Field} {off:Nat} {y:Ty},opF P op off fs y=true->cs.length=off+sz y->(∀f∈fs,∃n x,DataW.trod enc P w 0 sp hl n f.type ((cs.drop f.offset).take (P.cellsOf f.type))=some x)->∃z:den y,RT (inW w) w y (cs.drop off) z:=by
 intro fs
 induction fs with
 | nil=>intro off y h; simp[opF] at h
 | cons f r ih =>
   intro off y h hlen hf;cases r with
   | nil =>
     have h:(Nat.beq f.offset off&&Nat.beq (P.cellsOf f.type) (sz y)&&op f.type y)=true:=by
      cases y <;> exact h
     simp only[ba] at h;obtain⟨⟨h1,h2⟩,h3⟩:=h;have h1:=nb h1;have h2:=nb h2;obtain⟨n,x,hx⟩:=hf f (by simp);rw[h1,h2,List.take_of_length_le (by rw[List.length_drop]; omega)] at hx;exact hop h3 hx
   | cons g r' =>
     cases y with
     | pr a b =>
       simp only[opF,ba] at h;obtain⟨⟨⟨h1,h2⟩,h3⟩,h4⟩:=h;have h1:=nb h1;have h2:=nb h2;obtain⟨n,x,hx⟩:=hf f (by simp);rw[h1,h2] at hx;obtain⟨z1,hz1⟩:=hop h3 hx;have hlen':cs.length=off+sz a+sz b:=by rw[hlen]; simp only[sz]; omega
       obtain⟨z2,hz2⟩:=ih h4 hlen' (fun f' hf'=>hf f' (List.mem_cons_of_mem _ hf'));refine⟨(z1,z2),(cs.drop off).take (sz a),cs.drop (off+sz a),?_,hz1,hz2⟩;rw[<- List.drop_drop,List.take_append_drop]
     | int k=>simp[opF] at h
     | bool=>simp[opF] at h
     | str=>simp[opF] at h
     | sl e=>simp[opF] at h
     | pt e=>simp[opF] at h
theorem opens_dat{P:Program}{w:World}{H:Type}{enc:TypeId×Value->H}{sp:Nat->Bool}{hl:Bool}:∀{n:Nat} {T:TypeId} {y:Ty},opB P n T y=true->∀{fuel:Nat} {cs:List Value} {x:DataW H×List MemPlace},DataW.trod enc P w 0 sp hl fuel T cs=some x->∃z:den y,RT (inW w) w y cs z:=by
 intro n
 induction n with
 | zero=>intro T y h; cases h
 | succ n ih =>
   intro T y h fuel cs x hx;unfold opB at h;split at h
   ·rename_i k hT;have hy:y=.int k:=by simpa using h
    subst hy;obtain⟨m,rfl,_,hw⟩:=DataW.trod_int hT hx;refine⟨m,rfl,?_⟩;simp only[Lit.wf,ba,dq] at hw;rw[(kind_min k).1,(kind_min k).2] at hw;exact hw
   ·rename_i hT;have hy:y=.bool:=by simpa using h
    subst hy;obtain⟨b,rfl,_⟩:=DataW.trod_bool hT hx;exact⟨b,rfl⟩
   ·rename_i hT;have hy:y=.str:=by simpa using h
    subst hy;obtain⟨s,rfl,_,hs⟩:=DataW.trod_string hT hx;exact⟨s,rfl,by unfold maxLen at hs; omega⟩
   ·rename_i E hT;split at h
    ·exact opens_row (ih h) hT hx
    ·cases h
   ·rename_i fs hT;rw[ba] at h;obtain⟨hlen,hf⟩:=opens_fields hT hx;have h1:=nb h.1;have:=opens_parts (cs:=cs) (fun h'=>ih h') h.2 (by rw[hlen,h1]; omega) (fun f hfm=>by
     obtain⟨i,hi,rfl⟩:=List.getElem_of_mem hfm;exact hf i _ (by rw[Array.getElem?_eq_getElem (by simpa using hi)]; simp))
    simpa using this
   ·cases h
theorem inW_ok{w:World}:∀k,inW w k->k<w.heap.size:=fun _ h=>h
theorem argS{P:Program}{H:Type}{enc:TypeId×Value->H}{T:TypeId}{y:Ty}{n:Nat}(hy:opB P n T y=true){fs:Array Field}(hT:P.underlying T=some (.struct fs)){W:World}{r:Reach}{base:Nat}{v:Value}{d:DataW H}{p:List MemPlace}
  (hv:Value.okWide P W r base T v) (h:DataW.Trod enc P W 0 (fun _=>true) true T v d p):∃(cs:List Value) (x:den y),v=.agg cs.toArray/\RT (inW W) W y cs x:=by
 obtain⟨cs,rfl,_⟩:=WideShapes.okWide_struct hT hv;obtain⟨f,hf⟩:=h;obtain⟨x,hx⟩:=opens_dat hy hf;exact⟨cs.toList,x,by simp,hx⟩
theorem WE.below{w w':World}(h:WE none w w'):Below w.heap.size w w':=⟨h.os,h.tape,h.output,h.size,fun k hk=>h.block k hk (by simp)⟩
theorem law_call{P:Program}{f:FuncId}{ps:List Par}{F:denPs ps->Option Bool}{Z:Bool->IOT ps}(h:Ok P (lct f ps F (fun r=>.d true .bool r) Z)){w:World}{vs:List Value}{x:denPs ps}(ha:ArgsR (inW w) w none ps x vs)(hx:F x=some true) :
  Calls P f vs.toArray w fun en w'=>en=.returned (.bool true)/\Below w.heap.size w w':=by
 refine Calls.mono (h.2 x (by show(F x).isSome=true; rw[hx]; rfl) w vs none (inW w) inW_ok ha) ?_;rintro en w' ⟨v,gs,e,hw,_,_,hR,_⟩;refine⟨?_,WE.below hw⟩;have hR:RT _ w' .bool [v] (Xl.vl (F x))/\gs=[]:=hR;rw[hx] at hR;have h1:[v]=[Value.bool true]:=hR.1;simp only[List.cons.injEq,and_true] at h1;rw[e,h1]
theorem wpList_of{P:Program}{ops:Array Oper}{Q:Exit->Act->World->Prop}{o:Oper}{r:List Oper}{a:Act}{w:World}(key:OpWp P ops Q o (wpList P ops Q r) a w):wpList P ops Q (o :: r) a w:=by
 unfold wpList;unfold OpWp at key;split
 ·rename_i hw; rw[if_pos hw] at key; exact .inl key
 ·rename_i hw; rw[if_neg hw] at key; exact key
theorem runs_eqNil{P:Program}{n:Nat}{e:Env}{ty:TypeId}{w:World}{T T' E:TypeId}{x y:Operand}{q:Option Addr}{m c:Nat}(hU:P.underlying T=some (.slice E))(hx:Sv.ev e x=some (.slice q m c))(hy:Sv.ev e y=some (.slice none 0 0)) :
  RunsOp P n e (.binOp .eql T x y T') ty w (.bool q.isNone) w:=by
 intro a dst pos after g ha;have:=Lib.run_eql_slice_nil w T E q m c 0 0 hU;simp only[execOp,ha.ev hx,ha.ev hy];simp[eqGuard,this,Result.andThen]
theorem opWp_val{X:Cx}{G:Gh}{a:Act}{ops:Array Oper}{Q:Exit->Act->World->Prop}{d:Nat}{op:Op}{ty:TypeId}{pos:String}{after:Array Edge}{v:Value}{K:Act->World->Prop}
  (h:∀dst pos after g,(execOp a.eval ⟨dst,op,ty,pos,after,g⟩).run X.P G.w=.ok (.value v) G.w) (hK:K (a.put (some d) v) G.w):OpWp X.P ops Q ⟨some d,op,ty,pos,after,none⟩ K a G.w:=by
 unfold OpWp;have hw:Region.wanted ⟨some d,op,ty,pos,after,none⟩ (yielded ops a.tmps)=true:=rfl;rw[if_pos hw];unfold Oper.wp;rw[h (some d) pos after none];exact hK
theorem vx_isnil{X:Cx}{st:St}{Q:Exit->Act->World->Prop}{id T E t0 t3 t4:Nat}{ty3 ty4 T':TypeId}{pos3 pos4:String}{af3 af4:Array Edge}{f:Bool}{e:Ty}{xs:List (den e)}
  (hU:X.P.underlying T=some (.slice E)) (h0:lku st.e t0=some ⟨[],.d f (.sl e) xs⟩) (hpl:plainE st.e=true) (h3:Nat.blt t3 X.n=true) (h4:Nat.blt t4 X.n=true)
  (ht:xs=[]->FX X ⟨(t4,⟨[],.d true .bool true⟩) :: (t3,⟨[],.d f (.sl e) xs⟩) :: st.e,st.o⟩ .normal Q) (hf:FX X ⟨(t4,⟨[],.d true .bool false⟩) :: (t3,⟨[],.d f (.sl e) xs⟩) :: st.e,st.o⟩ .normal Q) :
  VX X st (.region id [⟨some t3,.move (.tmp t0),ty3,pos3,af3,none⟩,⟨some t4,.binOp .eql T (.tmp t3) (.const (.slice none 0 0)) T',ty4,pos4,af4,none⟩].toArray false) Q:=by
 intro G a S ho hE;have h3:t3<X.n:=by simpa using h3
 have h4:t4<X.n:=by simpa using h4
 refine wp_region_lit ?_;have hu:=(hE.val t0 _ h0).1 (fun _ h=>by cases h);have hu':=hu;obtain⟨q,cap,hv,hle,hmax,h4'⟩:=hu';simp only[List.cons.injEq,and_true] at hv;have hev:a.eval (.tmp t0)=a.tmps.getD t0 undef:=rfl;obtain⟨v,hrun,hv2⟩:Val X G a (.move (.tmp t0)) ty3 (.d f (.sl e) xs):=val_of hE [.tmp t0] (v:=a.eval (.tmp t0)) (runs_pure (by simp only[pureV]; exact cenv_ev (by simp))) (by rw[hev]; exact hu);refine wpList_of (opWp_val hrun ?_);have hp0:∀(t:Nat) (s:Sl),lku st.e t=some s->∀d,∀x∈s.p,x.1≠d:=fun t s hs d x hx=>by rw[plainE_eq hpl t s hs] at hx; cases hx
 have hE1:=EnvR.put (st:=st) (p:=[]) (r:=.d f (.sl e) xs) hE h3 (fun _ h=>by cases h) (fun t s hs=>hp0 t s hs t3) (v:=v) ⟨fun _=>hv2,fun h=>(h (fun _ h=>by cases h)).elim⟩;have hv2':=hv2;obtain⟨q,cap,hv,hle,hmax,h4'⟩:=hv2';simp only[List.cons.injEq,and_true] at hv;have he1:(a.put (some t3) v).eval (.tmp t3)=.slice q xs.length cap:=by
  show(a.put (some t3) v).tmps.getD t3 undef=_;rw[put_lt (by rw[hE.size]; exact h3),if_pos rfl,hv]
 have hx:Sv.ev (cenv (a.put (some t3) v) [.tmp t3]) (.tmp t3)=some (.slice q xs.length cap):=by rw[cenv_ev (by simp),he1]
 obtain⟨v2,hrun2,hv3⟩:Val X G (a.put (some t3) v) (.binOp .eql T (.tmp t3) (.const (.slice none 0 0)) T') ty4 (.d true .bool q.isNone):=val_of (st:=⟨(t3,⟨[],.d f (.sl e) xs⟩) :: st.e,st.o⟩) hE1 [.tmp t3] (runs_eqNil hU hx rfl) rfl;refine wpList_of (opWp_val hrun2 ?_);have hE2:∀b,q.isNone=b->EnvR X.n G ((t4,⟨[],.d true .bool b⟩) :: (t3,⟨[],.d f (.sl e) xs⟩) :: st.e) ((a.put (some t3) v).put (some t4) v2):=fun b hb=>EnvR.put (st:=⟨(t3,⟨[],.d f (.sl e) xs⟩) :: st.e,st.o⟩) (p:=[]) hE1 h4 (fun _ h=>by cases h) (fun t s hs x hx=>by
   rw[lK] at hs;split at hs
   ·cases hs; cases hx
   ·exact hp0 t s hs t4 x hx) ⟨fun _=>hb ▸ hv3,fun h=>(h (fun _ h=>by cases h)).elim⟩
 show Q .normal _ G.w;cases hq:q with
 | none =>
   refine ht ?_ G _ S ho (hE2 true (by rw[hq]; rfl));rcases h4' with h | ⟨b,o,ds,hb,_⟩
   ·exact h
   ·rw[hq] at hb; cases hb
 | some ad=>exact hf G _ S ho (hE2 false (by rw[hq]; rfl))
end Go.Proofs.Xv
end
section
namespace Go.Proofs.Xv
open Go Go.RowKit Go.Proofs.Sv Go.Proofs.Xl
def InPl(P:Program)(f:FuncId)(F:List Int->Option (List Int)):Prop:=enterB P f=true/\∀(E:TypeId) (xs ys:List Int),F xs=some ys->ys.length=xs.length/\(∀y∈ys,y∈xs) /\
 ∀(w:World) (g:Option Nat) (v:Value),Own w E 1 g v xs.length (xs.map (Value.int .i64))->Calls P f #[v] w fun en w'=>en=.returned (.tuple #[])/\WE g w w'/\Own w' E 1 g v ys.length (ys.map (Value.int .i64))
theorem allR_cells{K:Nat->Prop}{w:World}:∀{xs:List Int} {cs:List Value},AllR (RT K w (.int .i64)) cs xs->cs=xs.map (Value.int .i64)/\∀x∈xs,lo .i64<=x/\x<=hi .i64
 | [],cs,h=>⟨h,fun x hx=>nomatch hx⟩
 | x :: r,cs,⟨c,d,e,h1,h2⟩=>by
   obtain⟨k1,k2⟩:=allR_cells h2;subst e; subst k1;refine⟨by rw[h1.1]; rfl,fun y hy=>?_⟩;rcases List.mem_cons.1 hy with rfl | hy
   ·exact h1.2
   ·exact k2 y hy
theorem cells_allR{K:Nat->Prop}{w:World}:∀{xs:List Int},(∀x∈xs,lo .i64<=x/\x<=hi .i64)->AllR (RT K w (.int .i64)) (xs.map (Value.int .i64)) xs
 | [],_=>rfl
 | x :: r,h=>⟨[.int .i64 x],r.map (Value.int .i64),rfl,⟨rfl,h x (by simp)⟩,cells_allR fun y hy=>h y (by simp[hy])⟩
theorem opWp_call{X:Cx}{G:Gh}{a:Act}{ops:Array Oper}{Q:Exit->Act->World->Prop}{d f:Nat}{op:Op}{ty:TypeId}{pos:String}{after:Array Edge}{vs:Array Value}{K:Act->World->Prop}
  (h:∀dst pos after g,(execOp a.eval ⟨dst,op,ty,pos,after,g⟩).run X.P G.w=.ok (.enter f vs) G.w) (hc:Calls X.P f vs G.w fun en w'=>∃v,en=.returned v/\K (a.put (some d) v) w'):OpWp X.P ops Q ⟨some d,op,ty,pos,after,none⟩ K a G.w:=by
 unfold OpWp;have hw:Region.wanted ⟨some d,op,ty,pos,after,none⟩ (yielded ops a.tmps)=true:=rfl;rw[if_pos hw];unfold Oper.wp;rw[h (some d) pos after none];refine Calls.mono hc ?_;rintro en w' ⟨v,rfl,hk⟩;exact hk
theorem vx_inpl{X:Cx}{st:St}{Q:Exit->Act->World->Prop}{id f t0 t3 t4 oid ver E:Nat}{fr:Bool}{ty3 ty4:TypeId}{tys:Array TypeId}{pos3 pos4:String}{af3 af4:Array Edge}{xs:List Int}{ρ:Type}{e:List Int->Option ρ}{r:ρ}{F:List Int->Option (List Int)}
  (hc:InPl X.P f F) (h0:lku st.e t0=some ⟨[],.os oid ver⟩) (h1:lku st.o oid=some (.arr E fr (.int .i64) xs ver)) (hpl:plainE st.e=true) (h3:Nat.blt t3 X.n=true) (h4:Nat.blt t4 X.n=true)
  (H:gd ((F xs).isSome=true/\True) (lt (vl (F xs)) e)=some r)
  (hf:∀ys,e ys=some r->FX X ⟨(t4,⟨[],.tup []⟩) :: (t3,⟨[],.os oid ver⟩) :: st.e,(oid,.arr E fr (.int .i64) ys ver) :: st.o⟩ .normal Q) :
  VX X st (.region id [⟨some t3,.move (.tmp t0),ty3,pos3,af3,none⟩,⟨some t4,.call ⟨.value (.func f),#[.tmp t3],tys⟩,ty4,pos4,af4,none⟩].toArray false) Q:=by
 intro G a S ho hE;obtain⟨hs,H⟩:=gd_some H;obtain⟨ys,hys⟩:=Option.isSome_iff_exists.1 hs.1;rw[hys] at H;have H:e ys=some r:=H;have h3:t3<X.n:=by simpa using h3
 have h4:t4<X.n:=by simpa using h4
 rw[<- ho] at h1;refine wp_region_lit ?_;have hu:AVR G (.os oid ver) (a.tmps.getD t0 undef):=(hE.val t0 _ h0).1 (fun _ h=>by cases h);have hev:a.eval (.tmp t0)=a.tmps.getD t0 undef:=rfl;obtain⟨v,hrun,hv2⟩:Val X G a (.move (.tmp t0)) ty3 (.os oid ver):=val_of hE [.tmp t0] (v:=a.eval (.tmp t0)) (runs_pure (by simp only[pureV]; exact cenv_ev (by simp))) (by rw[hev]; exact hu);refine wpList_of (opWp_val hrun ?_);have hp0:∀(t:Nat) (s:Sl),lku st.e t=some s->∀d,∀x∈s.p,x.1≠d:=fun t s hs d x hx=>by rw[plainE_eq hpl t s hs] at hx; cases hx
 have hE1:=EnvR.put (st:=st) (p:=[]) (r:=.os oid ver) hE h3 (fun _ h=>by cases h) (fun t s hs=>hp0 t s hs t3) (v:=v) ⟨fun _=>hv2,fun h=>(h (fun _ h=>by cases h)).elim⟩;have hv:v=G.ρ oid:=by
  obtain⟨_,T',fr',t',xs',ver',g1,g2,g3⟩:=hv2;rw[h1] at g1;cases g1;exact g3 rfl
 have he1:(a.put (some t3) v).eval (.tmp t3)=v:=by
  show(a.put (some t3) v).tmps.getD t3 undef=_;rw[put_lt (by rw[hE.size]; exact h3),if_pos rfl]
 obtain⟨cs,hO,hA,hB⟩:=S.obs oid _ h1;obtain⟨rfl,hbd⟩:=allR_cells hA;obtain⟨hent,hcall⟩:=hc;obtain⟨hl,hm,hcall⟩:=hcall E xs ys hys;have hcl:=hcall G.w (G.γ oid) (G.ρ oid) hO
 haveI:HasBody X.P f:=⟨hent⟩
 refine wpList_of (opWp_call (f:=f) (vs:=#[G.ρ oid]) (fun dst pos after g=>?_) ?_)
 ·have e1:#[Operand.tmp t3].map (a.put (some t3) v).eval=#[G.ρ oid]:=by rw[<- hv]; simp[he1]
  have e2:(a.put (some t3) v).eval (.func f)=.func (.func f) #[] #[]:=rfl;simp only[execOp,resolve,e1,e2];simp[Deferred.ofValue,invoke,run_callFunc]
 refine Calls.mono hcl ?_;rintro en w' ⟨rfl,hwe,hO'⟩;refine⟨_,rfl,?_⟩;have hput:=S.put (id:=oid) (ob:=.arr E fr (.int .i64) ys ver) (r:=G.ρ oid) (g:=G.γ oid) (w':=w') (go:=G.γ oid) ⟨(fun T cs h=>by rw[h1] at h; cases h),(fun T fr' t' xs' v'' h=>by rw[h1] at h; cases h; exact⟨_,_,_,_,_,rfl,Nat.le_refl _,fun _=>rfl⟩),by rw[h1]; rfl⟩
  (fun b hb=>⟨⟨_,h1⟩,hb⟩) hwe (fun b hb=>.inl hb)
  (fun hle=>⟨ys.map (Value.int .i64),by simp only[Gh.put,if_true]; exact hO',cells_allR fun y hy=>hbd y (hm y hy),fun b e=>by
    simp only[Gh.put,if_true] at e ⊢;exact hB b e⟩)
 have hE2:EnvR X.n (G.put oid (.arr E fr (.int .i64) ys ver) (G.ρ oid) (G.γ oid) w') ((t4,⟨[],.tup []⟩) :: (t3,⟨[],.os oid ver⟩) :: st.e) ((a.put (some t3) v).put (some t4) (.tuple #[])) :=
  EnvR.put (st:=⟨(t3,⟨[],.os oid ver⟩) :: st.e,st.o⟩) (p:=[]) (r:=.tup []) (hE1.mono hput.2) h4 (fun _ h=>by cases h) (fun t s hs x hx=>by
   rw[lK] at hs;split at hs
   ·cases hs; cases hx
   ·exact hp0 t s hs t4 x hx) ⟨fun _=>⟨[],rfl,rfl⟩,fun h=>(h (fun _ h=>by cases h)).elim⟩
 exact hf ys H _ _ hput.1 (by show(oid,_) :: G.o=_; rw[ho]) hE2
end Go.Proofs.Xv
end
