/- Plain facts on z0L functions: sizes, copies, comparisons. Over any program. -/
import Derived.Test.YtechodbafnmddaaGreatDoorXD
import Derived.Test.YtechodbafnmddaaGreatDoorXA
import Derived.Lib.SliceRun
import Derived.Sort.Grow
set_option maxHeartbeats 0
section
namespace Go.Proofs.Xd
open Go Go.Proofs.Xv Go.Proofs.Xl
theorem lE{a b:Type}{x:a}{f:a->b}:lt x f=f x:=rfl
theorem H5{o:Option Int}{m n:Nat}{l:Int}{k:Int->Option Int}(h:o=some (m9 m l))(a:∀v,0<=v->v<=l->k v=some (m9 n v))(_:0<=l) :
  gd (o.isSome=true/\True) (lt (vl o) fun v=>if(decide (v<0))=true then some (-1) else k v)=some (m9 (m+n) l):=by
 subst h;rw[gP ⟨rfl,trivial⟩];show(if(decide (m9 m l<0))=true then some (-1) else k (m9 m l))=_
 grind[m9]
theorem Bs{s n:Nat}{l:Int}{k:Option Int}(b:s<=9223372036854775807)(d:0<=l)(e:l<=9223372036854775807)(a:0<=l-(s:Int)->k=some (m9 n (l-(s:Int)))) :
  gd (b7 (l-(s:Int))/\True) (if(decide (l-(s:Int)<0))=true then some (-1) else k)=some (m9 (s+n) l):=by
 rw[gP ⟨oo,trivial⟩];by_cases c:l-(s:Int)<0
 ·rw[if_pos (by grind),A0H c]
 ·rw[if_neg (by grind),a (by omega),A0G (by omega)]
theorem M9{v:Int}(h:0<=v):some v=some (m9 0 v):=by rw[v0m h]
theorem F0h{T:Type}(xs:List T)(d:T)(c:T->Nat){F:(Int×Int->Option Int)->Int×Int->Option Int}{M:Int}
  (a:∀g (v:Int) (i:Nat),i<xs.length->0<=v->v<=M->F g (v,(i:Int))=if m9 (c (xs.getD i d)) v<0 then some (-1) else g (m9 (c (xs.getD i d)) v,(i:Int)+1))
  (f:∀g (v:Int) (i:Nat),xs.length<=i->F g (v,(i:Int))=some v):∀(n i:Nat) (v:Int),0<=v->v<=M->i<=xs.length->xs.length-i<n->D7 F n (v,(i:Int))=some (m9 ((xs.drop i).map c).sum v)
 | 0,i,v,_,_,_,h=>by omega
 | n+1,i,v,hv,hM,hi,hn=>by
   show F (D7 F n) (v,(i:Int))=_;by_cases h:i<xs.length
   ·rw[a _ _ _ h hv hM];have e:xs.drop i=xs.getD i d :: xs.drop (i+1):=by
     rw[List.drop_eq_getElem_cons h,gq,List.getElem?_eq_getElem h]; rfl
    rw[e,List.map_cons,List.sum_cons];split
    ·rename_i b;rw[s0m b]
    ·rename_i b;rw[s0l (by omega)];have:=F0h xs d c a f n (i+1) (m9 (c (xs.getD i d)) v) (by omega) (by have:=(F0i (n:=c (xs.getD i d)) hv).2; omega) (by omega) (by omega)
     grind
   grind[List.drop_eq_nil_of_le,M9]
theorem De{T:Type}{xs:List T}{d:T}{c:T->Nat}{F:(Int×Int->Option Int)->Int×Int->Option Int}{l:Int}(f:xs.length<=9223372036854775807)(j:0<=l)(b:l<=9223372036854775807)
  (e:∀g (v:Int) (i:Nat),i<xs.length->0<=v->v<=9223372036854775807->F g (v,(i:Int))=if m9 (c (xs.getD i d)) v<0 then some (-1) else g (m9 (c (xs.getD i d)) v,(i:Int)+1))
  (a:∀g (v:Int) (i:Nat),xs.length<=i->F g (v,(i:Int))=some v) :
  gd (b7 (l-(xs.length:Int))/\True) (if(decide (l-(xs.length:Int)<0))=true then some (-1) else lp F (l-(xs.length:Int),0))=some (m9 (xs.length+(xs.map c).sum) l):=by
 refine Bs f j b fun h=>?_;have:=F0h xs d c e a J3 0 (l-(xs.length:Int)) h (by omega) (by omega) (by grind[J3])
 grind[lp]
theorem Fs{o:Option Int}{m i a:Nat}{v:Int}{g:Int×Int->Option Int}{k:Option Int}(h:o=some (m9 m v))(hi:i<a)(b:a<=9223372036854775807) :
  (if(decide ((i:Int) < (a:Int)))=true then gd (ix (i:Int) a/\o.isSome=true/\True) (lt (vl o) fun v3=>if(decide (v3<0))=true then some (-1) else gd (b7 ((i:Int)+1)/\True) (g (v3,(i:Int)+1))) else k) =
    if m9 m v<0 then some (-1) else g (m9 m v,(i:Int)+1):=by
 subst h;rw[if_pos (by grind),gP ⟨oo,rfl,trivial⟩];show(if(decide (m9 m v<0))=true then some (-1) else gd (b7 ((i:Int)+1)/\True) (g (m9 m v,(i:Int)+1)))=_;rw[gP ⟨oo,trivial⟩]
 grind
theorem H0S{m i a:Nat}{v:Int}{g:Int×Int->Option Int}{k:Option Int}(hi:i<a)(f:a<=9223372036854775807)(d:m<=9223372036854775807)(e:0<=v)(b:v<=9223372036854775807) :
  (if(decide ((i:Int) < (a:Int)))=true then gd (ix (i:Int) a/\b7 (v-(m:Int))/\True) (lt (v-(m:Int)) fun v3=>if(decide (v3<0))=true then some (-1) else gd (b7 ((i:Int)+1)/\True) (g (v3,(i:Int)+1))) else k) =
    if m9 m v<0 then some (-1) else g (m9 m v,(i:Int)+1):=by
 rw[if_pos (by grind),gP ⟨oo,oo,trivial⟩];show(if(decide (v-(m:Int)<0))=true then some (-1) else gd (b7 ((i:Int)+1)/\True) (g (v-(m:Int),(i:Int)+1)))=_;rw[gP ⟨oo,trivial⟩];by_cases c:v-(m:Int)<0
 ·rw[if_pos (by grind),if_pos (by grind[z0p])]
 ·rw[if_neg (by grind),UD (by omega),if_neg c]
theorem Df{c i:Nat}{a b:Option Int}(h:c<=i):(if(decide ((i:Int) < (c:Int)))=true then a else b)=b:=if_neg (by grind)
theorem F7{a b:Type}[Inhabited a]{o:Option a}{x:a}{k:a->Option b}{r:Option b}(h:o=some x)(c:k x=r):gd (o.isSome=true/\True) (lt (vl o) k)=r:=by
 subst h;rw[gP ⟨rfl,trivial⟩];exact c
theorem B0B{b:Type}(a:List b)(z _:b)(s:Nat)(h:s<a.length):(a.take s++List.replicate (a.length-s) z).length=a.length:=by
 grind
theorem F0e{T:Type}(xs:List T)(z d:T){F:(Int×List T->Option (List T))->Int×List T->Option (List T)}
  (a:∀g (i:Nat) (ys:List T),i<xs.length->ys.length=xs.length->F g ((i:Int),ys)=g ((i:Int)+1,ys.set i (xs.getD i d)))
  (b:∀g (i:Nat) ys,xs.length<=i->F g ((i:Int),ys)=some ys):∀(n i:Nat),i<=xs.length->xs.length-i<n->D7 F n ((i:Int),xs.take i++List.replicate (xs.length-i) z)=some xs
 | 0,i,_,h=>by omega
 | n+1,i,hi,hn=>by
   show F (D7 F n) ((i:Int),_)=_;by_cases h:i<xs.length
   ·rw[a _ _ _ h (B0B xs z d i h),t0F xs z d i h];have:=F0e xs z d a b n (i+1) (by omega) (by omega)
    grind
   grind[w0H]
theorem Z4{T:Type}{xs:List T}{z d:T}{F:(Int×List T->Option (List T))->Int×List T->Option (List T)}{b:Nat}(e:xs.length<=1048576)(f:b<=4096)
  (c:∀g (i:Nat) (ys:List T),i<xs.length->ys.length=xs.length->F g ((i:Int),ys)=g ((i:Int)+1,ys.set i (xs.getD i d)))
  (a:∀g (i:Nat) ys,xs.length<=i->F g ((i:Int),ys)=some ys) :
  gd ((0<=(xs.length:Int)/\(xs.length:Int)=(xs.length:Int)/\(xs.length:Int).toNat*b<=281474976710656/\(xs.length:Int)<=9223372036854775807)/\True) (lp F (0,List.replicate (xs.length:Int).toNat z))=some xs:=by
 have h:xs.length*b<=1048576*4096:=Nat.mul_le_mul e f;rw[gP ⟨⟨by omega,rfl,by grind,by omega⟩,trivial⟩,Int.toNat_natCast];have:=F0e xs z d c a J3 0 (by omega) (by grind[J3])
 grind[lp]
theorem Ch{T:Type}{o:Option T}[Inhabited T]{x:T}{i a:Nat}{b:List T}{g:Int×List T->Option (List T)}{k:Option (List T)}(h:o=some x)(hi:i<a)(d:a<=9223372036854775807)(c:b.length=a) :
  (if(decide ((i:Int) < (a:Int)))=true then gd (ix (i:Int) a/\o.isSome=true/\ix (i:Int) b.length/\(i:Int).toNat<b.length/\True) (lt (vl o) fun v4=>gd (b7 ((i:Int)+1)/\True) (g ((i:Int)+1,b.set (i:Int).toNat v4))) else k)=g ((i:Int)+1,b.set i x):=by
 subst h;rw[if_pos (by grind),gP ⟨oo,rfl,oo,by omega,trivial⟩];rw[lE,vS,gP ⟨oo,trivial⟩,Int.toNat_natCast]
theorem RL{T:Type}{x:T}{i a:Nat}{b:List T}{g:Int×List T->Option (List T)}{k:Option (List T)}(hi:i<a)(d:a<=9223372036854775807)(c:b.length=a) :
  (if(decide ((i:Int) < (a:Int)))=true then gd (ix (i:Int) a/\ix (i:Int) b.length/\(i:Int).toNat<b.length/\True) (gd (b7 ((i:Int)+1)/\True) (g ((i:Int)+1,b.set (i:Int).toNat x))) else k)=g ((i:Int)+1,b.set i x):=by
 rw[if_pos (by grind),gP ⟨oo,oo,by omega,trivial⟩,gP ⟨oo,trivial⟩,Int.toNat_natCast]
theorem Z5{T:Type}{c i:Nat}{a b:Option T}(h:c<=i):(if(decide ((i:Int) < (c:Int)))=true then a else b)=b:=if_neg (by grind)
theorem F8{o:Option Bool}{k r:Option Bool}(h:o=some true)(a:k=r):gd (o.isSome=true/\True) (if(!vl o)=true then some false else k)=r:=by
 subst h;rw[gP ⟨rfl,trivial⟩];exact a
theorem NQ{p:Prop}[Decidable p]{k r:Option Bool}(h:p)(a:k=r):(if(!decide p)=true then some false else k)=r:=by
 grind
theorem O8{x:Int}{k r:Option Bool}(a:k=r):(if(x != x)=true then some false else k)=r:=by
 grind
theorem Q9{x:Bool}{k r:Option Bool}(a:k=r):(if(x != x)=true then some false else k)=r:=by
 grind
theorem I0U{x:Bool}{k r:Option Bool}(a:k=r):(if(!(x==x))=true then some false else k)=r:=by
 grind
theorem F0R(a:Nat){F:(Int->Option Bool)->Int->Option Bool}(b:∀g (i:Nat),i<a->F g (i:Int)=g ((i:Int)+1))(c:∀g (i:Nat),a<=i->F g (i:Int)=some true):∀(n i:Nat),i<=a->a-i<n->D7 F n (i:Int)=some true
 | 0,i,_,h=>by omega
 | n+1,i,hi,hn=>by
   show F (D7 F n) (i:Int)=_;by_cases h:i<a
   ·rw[b _ _ h]
    exact_mod_cast F0R a b c n (i+1) (by omega) (by omega)
   grind
theorem Z6{a:Nat}{F:(Int->Option Bool)->Int->Option Bool}(d:a<=9223372036854775807)(b:∀g (i:Nat),i<a->F g (i:Int)=g ((i:Int)+1))(c:∀g (i:Nat),a<=i->F g (i:Int)=some true) :
  (if((a:Int) != (a:Int))=true then some false else lp F 0)=some true :=
 O8 (F0R a b c J3 0 (by omega) (by grind[J3]))
theorem Ci{o:Option Bool}{i a:Nat}{g:Int->Option Bool}{k:Option Bool}(h:o=some true)(hi:i<a)(b:a<=9223372036854775807) :
  (if(decide ((i:Int) < (a:Int)))=true then gd (ix (i:Int) a/\ix (i:Int) a/\o.isSome=true/\True) (if(!vl o)=true then some false else gd (b7 ((i:Int)+1)/\True) (g ((i:Int)+1))) else k)=g ((i:Int)+1):=by
 subst h;rw[if_pos (by grind),gP ⟨oo,oo,rfl,trivial⟩,vS,if_neg (by simp),gP ⟨oo,trivial⟩]
theorem RN{b:Bool}{i a:Nat}{g:Int->Option Bool}{k:Option Bool}(h:b=false)(hi:i<a)(c:a<=9223372036854775807) :
  (if(decide ((i:Int) < (a:Int)))=true then gd (ix (i:Int) a/\ix (i:Int) a/\True) (if b=true then some false else gd (b7 ((i:Int)+1)/\True) (g ((i:Int)+1))) else k)=g ((i:Int)+1):=by
 subst h;rw[if_pos (by grind),gP ⟨oo,oo,trivial⟩,if_neg (by simp),gP ⟨oo,trivial⟩]
theorem K8{t:Ty}{a:List (c7 t)}{i:Nat}{d:c7 t}{m:Nat}(h:i<a.length)(b:c9 (.sl t) a<=m):c9 t (a.getD i d)<=m:=by
 grind[AH,F0W]
theorem w5{t:Ty}{a:List (c7 t)}{m:Nat}(b:c9 (.sl t) a<=m):a.length<=m:=by
 grind[AH]
theorem cF{s t:Ty}{x:c7 (.pr s t)}{m:Nat}(h:c9 (.pr s t) x<=m):c9 s x.1<=m:=by
 grind[Q8]
theorem cS{s t:Ty}{x:c7 (.pr s t)}{m:Nat}(h:c9 (.pr s t) x<=m):c9 t x.2<=m:=by
 grind[Q8]
theorem H6{t:Ty}{a:List (c7 t)}{i:Nat}{d:c7 t}(h:i<a.length)(b:wf (.sl t) a):wf t (a.getD i d):=by
 rw[gq,List.getElem?_eq_getElem h];exact b.2 _ (List.getElem_mem h)
theorem dlt{i n:Nat}:decide ((i:Int) < (n:Int))=decide (i<n):=by
 grind
theorem Oh{n:Nat}(h:n<=9223372036854775807):n+1<J3:=by grind[J3]
theorem B0g{a b:Type}{F:(a->Option b)->a->Option b}{s:a}{r:Option b}(h:∀n,0<n->D7 F n s=r):lp F s=r:=h J3 (by grind[J3])
theorem Td{b e c:Type}{n:Nat}(j:n<=9223372036854775807)(mk:Nat->b->e)(f:Nat->b->Option b)(x:Nat->b->Option c)(I:Nat->b->Prop){J:b->Option c}{F:(e->Option c)->e->Option c}
  (r:∀g i s,i<n->I i s->F g (mk i s)=match f i s with | some s'=>g (mk (i+1) s') | none=>x i s) (q:∀i s s',i<n->I i s->f i s=some s'->I (i+1) s') (o:∀g s,I n s->F g (mk n s)=J s)
  (a:Nat->b->Option c) (r0:∀s,I n s->a n s=J s) (u:∀i s,i<n->I i s->a i s=match f i s with | some s'=>a (i+1) s' | none=>x i s) (k:Nat) (l:k<=n) (s:b) (h:I k s):lp F (mk k s)=a k s:=by
 have d:∀(m i:Nat) (s:b),i<=n->n-i<m->I i s->D7 F m (mk i s)=a i s:=by
  intro m
  induction m with
  | zero=>omega
  | succ m t =>
    grind[hi,D7]
 exact d J3 k s l (by have:=Oh j; omega) h
theorem HJ{a:Type}{n:Nat}(d:n<=9223372036854775807)(c:Nat->Bool)(x:Nat->Option a){e:Option a}{F:(Int->Option a)->Int->Option a}(k:Nat)(f:k<=n)(m:∀g (i:Nat),k<=i->i<n->F g (i:Int)=if c i=true then x i else g ((i:Int)+1))
  (b:∀g,F g (n:Int)=e):lp F (k:Int)=match(List.range' k (n-k)).find? c with | some i=>x i | none=>e:=by
 have:=Td d (fun i (_:Unit)=>(i:Int)) (fun i _=>if c i=true then none else some ()) (fun i _=>x i) (fun i _=>k<=i) (J:=fun _=>e) (F:=F)
  (fun g i s h j=>by
    grind) (fun _ _ _ _ h _=>Nat.le_succ_of_le h) (fun g _ _=>b g) (fun i _=>match(List.range' i (n-i)).find? c with | some i=>x i | none=>e) (fun _ _=>by simp) (fun i s h _=>by
    have l:n-i=(n-(i+1))+1:=by omega
    grind[List.range'_succ]) k f () (Nat.le_refl _)
 simpa using this
theorem C4{a:Type}{n:Nat}(j:n<=9223372036854775807)(c:Nat->Bool)(x:Option a){e:Option a}{F:(Int->Option a)->Int->Option a}(k:∀g (i:Nat),i<n->F g (i:Int)=if c i=true then x else g ((i:Int)+1))
  (d:∀g,F g (n:Int)=e):lp F 0=if(List.range n).any c=true then x else e:=by
 have:=HJ j c (fun _=>x) 0 (Nat.zero_le _) (fun g i _ h=>k g i h) d;rw[Nat.sub_zero,<- List.range_eq_range'] at this;refine Eq.trans this ?_;cases h:(List.range n).find? c with
 | none =>
   rw[if_neg];rw[List.find?_eq_none] at h;intro l;obtain⟨i,b,f⟩:=List.any_eq_true.1 l;exact h i b f
 | some i =>
   rw[if_pos];exact List.any_eq_true.2 ⟨i,List.mem_of_find?_eq_some h,List.find?_some h⟩
theorem B0i{a:Type}{n:Nat}(d:n<=9223372036854775807)(c:Nat->Bool)(x:Option a){e:Option a}{F:(Int->Option a)->Int->Option a}(k:Nat)(f:k<=n)(h:∀g (i:Nat),k<=i->i<n->F g (i:Int)=if c i=true then x else g ((i:Int)+1))
  (b:∀g,F g (n:Int)=e):lp F (k:Int)=if((List.range n).any fun i=>decide (k<=i)&&c i)=true then x else e:=by
 refine(HJ d c (fun _=>x) k f h b).trans ?_
 grind
def fN{σ:Type}(f:Nat->σ->σ):Nat->σ->σ
 | 0,s=>s
 | n+1,s=>f n (fN f n s)
theorem lF{a e d:Type}{n:Nat}(k:n<=9223372036854775807)(mk:Nat->a->e)(f:Nat->a->a)(I:Nat->a->Prop){J:a->Option d}{F:(e->Option d)->e->Option d}
  (o:∀g i s,i<n->I i s->F g (mk i s)=g (mk (i+1) (f i s))) (l:∀i s,i<n->I i s->I (i+1) (f i s)) (r:∀g s,I n s->F g (mk n s)=J s) (s:a) (j:I 0 s):lp F (mk 0 s)=J (fN f n s):=by
 have c:∀(m i:Nat),i<=n->n-i<m->I i (fN f i s)->D7 F m (mk i (fN f i s))=J (fN f n s):=by
  intro m
  induction m with
  | zero=>omega
  | succ m q =>
    intro i hi t b;show F (D7 F m) (mk i _)=_;by_cases h:i<n
    ·rw[o _ _ _ h b];exact q (i+1) (by omega) (by omega) (l _ _ h b)
    grind
 exact c J3 0 (Nat.zero_le _) (by have:=Oh k; omega) j
theorem Lv{a k d:Type}{n:Nat}(q:n<=9223372036854775807)(mk:Nat->a->k)(f:Nat->a->a)(c:Nat->Bool)(x:Option d)(I:Nat->a->Prop){J:a->Option d}{F:(k->Option d)->k->Option d}
  (t:∀g i s,i<n->I i s->F g (mk i s)=if c i=true then x else g (mk (i+1) (f i s))) (r:∀i s,i<n->I i s->c i=false->I (i+1) (f i s)) (v:∀g s,I n s->F g (mk n s)=J s) (s:a) (o:I 0 s) :
  lp F (mk 0 s)=if(List.range n).any c=true then x else J (fN f n s):=by
 have e:∀(m i:Nat),i<=n->n-i<m->I i (fN f i s)->(∀j,j<i->c j=false)->D7 F m (mk i (fN f i s))=if(List.range n).any c=true then x else J (fN f n s):=by
  intro m
  induction m with
  | zero=>omega
  | succ m u =>
    intro i hi w b y;show F (D7 F m) (mk i _)=_;by_cases h:i<n
    ·rw[t _ _ _ h b];cases hci:c i with
     | true=>grind
     | false =>
       rw[if_neg (by simp)];refine u (i+1) (by omega) (by omega) (r _ _ h b hci) (fun j l=>?_)
       grind
    grind
 exact e J3 0 (Nat.zero_le _) (by have:=Oh q; omega) o (fun j l=>absurd l (Nat.not_lt_zero j))
theorem NS{n:Nat}(p q:Nat->Bool):((List.range n).any fun i=>p i||q i)=((List.range n).any p||(List.range n).any q):=by
 grind
theorem AL{n:Nat}{c:Nat->Bool}:(!(List.range n).any c)=true↔∀i,i<n->c i=false:=by
 grind
theorem N0{a:Type}(l:List a)(d:a)(p:a->Bool):((List.range l.length).any fun i=>p (l.getD i d))=l.any p:=by
 rw[Bool.eq_iff_iff,List.any_eq_true,List.any_eq_true];constructor
 ·grind
 ·rintro⟨x,c,e⟩;obtain⟨i,b,f⟩:=List.getElem_of_mem c;refine⟨i,List.mem_range.2 b,?_⟩
  grind
theorem Lm{n:Nat}{p q:Nat->Bool}(h:∀i,i<n->p i=q i):(List.range n).any p=(List.range n).any q:=by
 grind
theorem AO{a:Type}{i n:Nat}{V:Prop}[Decidable V]{c:Bool}{x e:Option a}{g:Int->Option a}(h:i<n)(d:n<=9223372036854775807)(b:V) :
  (if(decide ((i:Int) < (n:Int)))=true then gd V (if c=true then x else gd (b7 ((i:Int)+1)/\True) (g ((i:Int)+1))) else e)=if c=true then x else g ((i:Int)+1):=by
 rw[if_pos (by grind),gP b,gP ⟨oo,trivial⟩]
theorem B0V{a:Type}{i n:Nat}{V W:Prop}[Decidable V][Decidable W]{c:Bool}{x e:Option a}{g:Int->Option a}(h:i<n)(f:n<=9223372036854775807)(d:V)(b:W) :
  (if(decide ((i:Int) < (n:Int)))=true then gd V (gd W (if c=true then x else gd (b7 ((i:Int)+1)/\True) (g ((i:Int)+1)))) else e)=if c=true then x else g ((i:Int)+1):=by
 rw[if_pos (by grind),gP d,gP b,gP ⟨oo,trivial⟩]
theorem aE{b:Type}{n:Nat}{a e:Option b}:(if(decide ((n:Int) < (n:Int)))=true then a else e)=e:=if_neg (by simp)
theorem Fz{i n:Nat}{o:Option Bool}{g:Int->Option Int}{e:Option Int}{b:Bool}(h:i<n)(c:n<=9223372036854775807)(a:o=some b) :
  (if(decide ((i:Int) < (n:Int)))=true then gd (ix (i:Int) n/\o.isSome=true/\True) (if(vl o)=true then some (i:Int) else gd (b7 ((i:Int)+1)/\True) (g ((i:Int)+1))) else e)=if b=true then some (i:Int) else g ((i:Int)+1):=by
 subst a;rw[if_pos (by grind),gP ⟨oo,rfl,trivial⟩,gP ⟨oo,trivial⟩,vS]
theorem Bx{n:Nat}(d:n<=9223372036854775807)(b:Nat->Bool){F:(Int->Option Int)->Int->Option Int}(a:∀g (i:Nat),i<n->F g (i:Int)=if b i=true then some (i:Int) else g ((i:Int)+1))(c:∀g,F g (n:Int)=some (-1)) :
  lp F 0=some (match(List.range n).find? b with | some i=>(i:Int) | none => -1):=by
 have:=HJ d b (fun i=>some (i:Int)) 0 (Nat.zero_le _) (fun g i _ h=>a g i h) c;rw[Nat.sub_zero,<- List.range_eq_range'] at this
 grind
theorem FA{n:Nat}{b:Nat->Bool}{o:Option Int}(h:o=some (match(List.range n).find? b with | some i=>(i:Int) | none => -1)):gd (o.isSome=true/\True) (lt (vl o) fun v0=>some (decide (0<=v0)))=some ((List.range n).any b):=by
 subst h;rw[gP ⟨rfl,trivial⟩,lE,vS];cases h:(List.range n).find? b with
 | none =>
   grind
 | some i =>
   have:(List.range n).any b=true:=List.any_eq_true.2 ⟨i,List.mem_of_find?_eq_some h,List.find?_some h⟩;rw[this];simp
end Go.Proofs.Xd
end
section
namespace Go.Proofs.Xv
open Go Go.RowKit Go.Proofs.Sv
def BS(P:Program)(op:TypeId->Ty->Bool):Nat->List Field->Ty->Bool
 | _,[],_=>false
 | off,[f],y=>Nat.beq f.offset off&&Nat.beq (P.cellsOf f.type) (sz y)&&op f.type y
 | off,f :: r,.pr a b=>Nat.beq f.offset off&&Nat.beq (P.cellsOf f.type) (sz a)&&op f.type a&&BS P op (off+sz a) r b
 | _,_,_=>false
def Iv(P:Program):Nat->TypeId->Ty->Bool
 | 0,_,_=>false
 | n+1,T,y=>match P.underlying T with
   | some (.int k)=>decide (y=.int k)
   | some .bool=>decide (y=.bool)
   | some .string=>decide (y=.str)
   | some (.slice E)=>match y with
     | .sl e=>Iv P n E e
     | _=>false
   | some (.struct fs)=>Nat.beq (P.cellsOf T) (sz y)&&BS P (Iv P n) 0 fs.toList y
   | _=>false
def Ap(w:World)(k:Nat):Prop:=k<w.heap.size
theorem w0g(k:IntKind):k.min=lo k/\k.max=hi k:=by cases k <;> exact⟨rfl,rfl⟩
theorem s0O{P:Program}{E:TypeId}{e:Ty}{w:World}{H:Type}{enc:TypeId×Value->H}{sp:Nat->Bool}{W:Bool}(hE:∀{j:Nat} {cs:List Value} {x:DataW H×List MemPlace},DataW.trod enc P w 0 sp W j E cs=some x->∃z:c7 e,RT (Ap w) w e cs z)
  {T:TypeId} {j:Nat} {cs:List Value} {x:DataW H×List MemPlace} (Y:P.underlying T=some (.slice E)) (h:DataW.trod enc P w 0 sp W j T cs=some x):∃z:List (c7 e),RT (Ap w) w (.sl e) cs z:=by
 rcases DataW.trod_slice Y h with ⟨rfl,_⟩ | ⟨a,len,cap,elems,rest,n,rfl,rfl,_,_,hlc,hcm,hel,hat,_,_⟩
 ·exact⟨[],none,0,rfl,Nat.le_refl _,by omega,.inl rfl⟩
 ·have m:cap<=9223372036854775807:=by unfold maxLen at hcm; omega
  have d:∀i,i<len->∃c:List Value,w.cells? 0 (a.add (i*P.cellsOf E)) (P.cellsOf E)=some c/\∃y:c7 e,RT (Ap w) w e c y:=by
   intro i hi;have g:=hat i hi;rw[List.getElem?_eq_getElem (by omega)] at g;cases f:w.cells? 0 (a.add (i*P.cellsOf E)) (P.cellsOf E) with
   | none=>rw[f] at g; cases g
   | some c =>
     rw[f] at g;simp only[Option.bind_some] at g;exact⟨c,rfl,hE g⟩
  by_cases Q:len=0
  ·subst Q;exact⟨[],some a,cap,rfl,Nat.zero_le _,m,.inl rfl⟩
  ·have V:P.cellsOf E=sz e:=by
    obtain⟨c,f,y,F⟩:=d 0 (by omega);have:=(World.cells?_some f).2.1;rw[<- this]; exact RT.len F
   have l:0<P.cellsOf E:=by rw[V]; exact OQ e
   obtain⟨b,o,rfl⟩:∃b o,a=⟨b,o,none⟩:=by
    obtain⟨c,f,_⟩:=d 0 (by omega);have v:a.add (0*P.cellsOf E)=a:=by simp[Addr.add]
    rw[v] at f;exact⟨a.block,a.off,(HQ l f).1⟩
   have X:b<w.heap.size:=by
    obtain⟨c,f,_⟩:=d 0 (by omega);have v:(Addr.mk b o none).add (0*P.cellsOf E)=⟨b,o,none⟩:=by simp[Addr.add]
    rw[v] at f;have q:=HQ l f;exact q.2.2.lt (by rw[q.2.1]; exact l)
   have r:∀k,k<=len->∃(cs:List Value) (s:List (c7 e)),s.length=k/\At w b o cs/\AllR (RT (Ap w) w e) cs s:=by
    intro k
    induction k with
    | zero=>exact fun _=>⟨[],[],rfl,OP,rfl⟩
    | succ k ih =>
      intro hk;obtain⟨cs,s,q,G,u⟩:=ih (by omega);obtain⟨c,f,y,F⟩:=d k (by omega);have t:(Addr.mk b o none).add (k*P.cellsOf E)=⟨b,o+k*P.cellsOf E,none⟩:=by
       unfold Addr.add;split
       ·rename_i Q; rw[Q]; rfl
       ·rfl
      rw[t] at f;have h4:=(HQ l f).2.2;refine⟨cs++c,s++[y],by simp[q],G.app ?_,AllR.app (AllR.one F) u⟩;have:cs.length=k*P.cellsOf E:=by rw[u.len (fun c x h=>RT.len h),q,V]
      rw[this]; exact h4
   obtain⟨cs,s,q,G,u⟩:=r len (Nat.le_refl _);subst q;exact⟨s,some ⟨b,o,none⟩,cap,rfl,hlc,m,.inr ⟨b,o,cs,rfl,X,G,u⟩⟩
theorem n0i{P:Program}{w:World}{H:Type}{enc:TypeId×Value->H}{sp:Nat->Bool}{E:Bool}{o:TypeId->Ty->Bool}
  (s:∀{T:TypeId} {y:Ty},o T y=true->∀{fuel:Nat} {cs:List Value} {x:DataW H×List MemPlace},DataW.trod enc P w 0 sp E fuel T cs=some x->∃z:c7 y,RT (Ap w) w y cs z) {cs:List Value} :
  ∀{fs:List Field} {off:Nat} {y:Ty},BS P o off fs y=true->cs.length=off+sz y->(∀f∈fs,∃n x,DataW.trod enc P w 0 sp E n f.type ((cs.drop f.offset).take (P.cellsOf f.type))=some x)->∃z:c7 y,RT (Ap w) w y (cs.drop off) z:=by
 intro fs
 induction fs with
 | nil=>grind[BS]
 | cons f r V =>
   intro off y h j l;cases r with
   | nil =>
     have h:(Nat.beq f.offset off&&Nat.beq (P.cellsOf f.type) (sz y)&&o f.type y)=true:=by
      cases y <;> exact h
     simp only[ba] at h;obtain⟨⟨i,d⟩,v⟩:=h;have i:=nb i;have d:=nb d;obtain⟨n,x,m⟩:=l f (by simp)
     grind[List.take_of_length_le,List.length_drop]
   | cons g X =>
     cases y with
     | pr a b =>
       simp only[BS,ba] at h;obtain⟨⟨⟨i,d⟩,v⟩,Q⟩:=h;have i:=nb i;have d:=nb d;obtain⟨n,x,m⟩:=l f (by simp);rw[i,d] at m;obtain⟨G,t⟩:=s v m;have c:cs.length=off+sz a+sz b:=by rw[j]; simp only[sz]; omega
       obtain⟨W,u⟩:=V Q c (fun F q=>l F (List.mem_cons_of_mem _ q));refine⟨(G,W),(cs.drop off).take (sz a),cs.drop (off+sz a),?_,t,u⟩
       grind[List.drop_drop,List.take_append_drop]
     | int k=>grind[BS]
     | bool=>grind[BS]
     | str=>grind[BS]
     | sl e=>grind[BS]
     | pt e=>grind[BS]
theorem l0J{P:Program}{w:World}{H:Type}{enc:TypeId×Value->H}{sp:Nat->Bool}{r:Bool}:∀{n:Nat} {T:TypeId} {y:Ty},Iv P n T y=true->∀{fuel:Nat} {cs:List Value} {x:DataW H×List MemPlace},DataW.trod enc P w 0 sp r fuel T cs=some x->∃z:c7 y,RT (Ap w) w y cs z:=by
 intro n
 induction n with
 | zero=>intro T y h; cases h
 | succ n g =>
   intro T y h fuel cs x d;unfold Iv at h;split at h
   ·rename_i k a;have c:y=.int k:=by simpa using h
    subst c;obtain⟨m,rfl,_,q⟩:=DataW.trod_int a d;refine⟨m,rfl,?_⟩;simp only[Lit.wf,ba,dq] at q
    grind[w0g]
   ·rename_i a;have c:y=.bool:=by simpa using h
    subst c;obtain⟨b,rfl,_⟩:=DataW.trod_bool a d;exact⟨b,rfl⟩
   ·rename_i a;have c:y=.str:=by simpa using h
    subst c;obtain⟨s,rfl,_,v⟩:=DataW.trod_string a d;exact⟨s,rfl,by grind[maxLen]⟩
   ·rename_i E a;split at h
    ·exact s0O (g h) a d
    grind
   ·rename_i u a;rw[ba] at h;obtain⟨j,o⟩:=l0I a d;have t:=nb h.1;have:=n0i (cs:=cs) (fun l=>g l) h.2 (by omega) (fun f e=>by
     obtain⟨i,hi,rfl⟩:=List.getElem_of_mem e;exact o i _ (by grind))
    grind
   grind
theorem F0O{w:World}:∀k,Ap w k->k<w.heap.size:=fun _ h=>h
theorem RQ{P:Program}{H:Type}{enc:TypeId×Value->H}{T:TypeId}{y:Ty}{n:Nat}(e:Iv P n T y=true){b:Array Field}(j:P.underlying T=some (.struct b)){W:World}{r:Reach}{a:Nat}{v:Value}{d:DataW H}{p:List MemPlace}
  (i:Value.okWide P W r a T v) (h:DataW.Trod enc P W 0 (fun _=>true) true T v d p):∃(cs:List Value) (x:c7 y),v=.agg cs.toArray/\RT (Ap W) W y cs x:=by
 obtain⟨cs,rfl,_⟩:=WideShapes.okWide_struct j i;obtain⟨f,c⟩:=h;obtain⟨x,g⟩:=l0J e c;exact⟨cs.toList,x,by simp,g⟩
theorem K0R{P:Program}{H:Type}{enc:TypeId×Value->H}{T E:TypeId}{y:Ty}{n:Nat}(e:Iv P n T y=true)(l:P.underlying T=some (.slice E)){W:World}{r:Reach}{b:Nat}{v:Value}{d:DataW H}{p:List MemPlace}
  (k:Value.okWide P W r b T v) (h:DataW.Trod enc P W 0 (fun _=>true) true T v d p):∃x:c7 y,RT (Ap W) W y [v] x:=by
 obtain⟨a,g,c,rfl⟩:=WideShapes.okWide_slice l k;obtain⟨f,i⟩:=h;obtain⟨x,j⟩:=l0J e i;exact⟨x,j⟩
theorem WE.below{w w':World}(h:WE none w w'):Below w.heap.size w w':=⟨h.os,h.tape,h.output,h.size,fun k a=>h.block k a (by simp)⟩
theorem w0f{P:Program}{f:FuncId}{ps:List m0}{F:s8 ps->Option Bool}{Z:Bool->A3 ps}(h:Ok P (b9 f ps F (fun r=>.d true .bool r) Z)){w:World}{vs:List Value}{x:s8 ps}(b:ArgsR (Ap w) w none ps x vs)(i:F x=some true) :
  Calls P f vs.toArray w fun en w'=>en=.returned (.bool true)/\Below w.heap.size w w':=by
 refine Calls.mono (h.2 x (by show(F x).isSome=true; grind) w vs none (Ap w) F0O b) ?_;rintro en w' ⟨v,g,e,c,_,_,a,_⟩;refine⟨?_,WE.below c⟩;have a:RT _ w' .bool [v] (Xl.vl (F x))/\g=[]:=a;rw[i] at a;have j:[v]=[Value.bool true]:=a.1
 grind
theorem UR{P:Program}{ops:Array Oper}{Q:Exit->Act->World->Prop}{o:Oper}{r:List Oper}{a:Act}{w:World}(b:V0 P ops Q o (wpList P ops Q r) a w):wpList P ops Q (o :: r) a w:=by
 grind[wpList,V0]
theorem q0i{P:Program}{n:Nat}{e:x9}{ty:TypeId}{w:World}{T T' E:TypeId}{x y:Operand}{q:Option Addr}{m c:Nat}(k:P.underlying T=some (.slice E))(i:Sv.ev e x=some (.slice q m c))(h:Sv.ev e y=some (.slice none 0 0)) :
  B7 P n e (.binOp .eql T x y T') ty w (.bool q.isNone) w:=by
 intro a j f b g d;have:=Lib.run_eql_slice_nil w T E q m c 0 0 k;simp only[execOp,d.ev i,d.ev h];simp[eqGuard,this,Result.andThen]
theorem o0M{X:Cx}{G:Gh}{a:Act}{ops:Array Oper}{Q:Exit->Act->World->Prop}{d:Nat}{b:Op}{ty:TypeId}{pos:String}{after:Array Edge}{v:Value}{K:Act->World->Prop}
  (h:∀dst pos after g,(execOp a.eval ⟨dst,b,ty,pos,after,g⟩).run X.P G.w=.ok (.value v) G.w) (e:K (a.put (some d) v) G.w):V0 X.P ops Q ⟨some d,b,ty,pos,after,none⟩ K a G.w:=by
 unfold V0;have c:Region.wanted ⟨some d,b,ty,pos,after,none⟩ (yielded ops a.tmps)=true:=rfl;rw[if_pos c];unfold Oper.wp;rw[h (some d) pos after none];exact e
theorem u0U{X:Cx}{st:St}{Q:Exit->Act->World->Prop}{id T E g c i:Nat}{m Y T':TypeId}{V l:String}{aC aA:Array Edge}{f:Bool}{e:Ty}{xs:List (c7 e)}
  (hU:X.P.underlying T=some (.slice E)) (h0:a8 st.e g=some ⟨[],.d f (.sl e) xs⟩) (aJ:K6 st.e=true) (h3:Nat.blt c X.n=true) (h4:Nat.blt i X.n=true)
  (ht:xs=[]->FX X ⟨(i,⟨[],.d true .bool true⟩) :: (c,⟨[],.d f (.sl e) xs⟩) :: st.e,st.o⟩ .normal Q) (hf:FX X ⟨(i,⟨[],.d true .bool false⟩) :: (c,⟨[],.d f (.sl e) xs⟩) :: st.e,st.o⟩ .normal Q) :
  VX X st (.region id [⟨some c,.move (.tmp g),m,V,aC,none⟩,⟨some i,.binOp .eql T (.tmp c) (.const (.slice none 0 0)) T',Y,l,aA,none⟩].toArray false) Q:=by
 intro G a S ho hE;have h3:c<X.n:=by simpa using h3
 have h4:i<X.n:=by simpa using h4
 refine wp_region_lit ?_;have hu:=(hE.val g _ h0).1 (fun _ h=>by cases h);have aH:=hu;obtain⟨q,k,hv,aF,W,aG⟩:=aH;simp only[List.cons.injEq,and_true] at hv;have aK:a.eval (.tmp g)=a.tmps.getD g undef:=rfl;obtain⟨v,y,F⟩:I0 X G a (.move (.tmp g)) m (.d f (.sl e) xs):=v8 hE [.tmp g] (v:=a.eval (.tmp g)) (BF (by grind[Ak,D9])) (by grind);refine UR (o0M y ?_);have aB:∀(t:Nat) (s:Sl),a8 st.e t=some s->∀d,∀x∈s.p,x.1≠d:=fun t s hs d x hx=>by grind[CI]
 have z:=EnvR.put (st:=st) (p:=[]) (r:=.d f (.sl e) xs) hE h3 (fun _ h=>by cases h) (fun t s hs=>aB t s hs c) (v:=v) ⟨fun _=>F,fun h=>(h (fun _ h=>by cases h)).elim⟩;have u:=F;obtain⟨q,k,hv,aF,W,aG⟩:=u;simp only[List.cons.injEq,and_true] at hv;have aD:(a.put (some c) v).eval (.tmp c)=.slice q xs.length k:=by
  show(a.put (some c) v).tmps.getD c undef=_;rw[Pr (by rw[hE.size]; exact h3),if_pos rfl,hv]
 have hx:Sv.ev (y9 (a.put (some c) v) [.tmp c]) (.tmp c)=some (.slice q xs.length k):=by rw[D9 (by simp),aD]
 obtain⟨v2,j,aI⟩:I0 X G (a.put (some c) v) (.binOp .eql T (.tmp c) (.const (.slice none 0 0)) T') Y (.d true .bool q.isNone):=v8 (st:=⟨(c,⟨[],.d f (.sl e) xs⟩) :: st.e,st.o⟩) z [.tmp c] (q0i hU hx rfl) rfl;refine UR (o0M j ?_);have H:∀b,q.isNone=b->EnvR X.n G ((i,⟨[],.d true .bool b⟩) :: (c,⟨[],.d f (.sl e) xs⟩) :: st.e) ((a.put (some c) v).put (some i) v2):=fun b hb=>EnvR.put (st:=⟨(c,⟨[],.d f (.sl e) xs⟩) :: st.e,st.o⟩) (p:=[]) z h4 (fun _ h=>by cases h) (fun t s hs x hx=>by
   grind[lK]) ⟨fun _=>hb ▸ aI,fun h=>(h (fun _ h=>by cases h)).elim⟩
 show Q .normal _ G.w;cases hq:q with
 | none =>
   refine ht ?_ G _ S ho (H true (by grind))
   grind
 | some ad=>exact hf G _ S ho (H false (by grind))
end Go.Proofs.Xv
end
section
namespace Go.Proofs.Xv
open Go Go.RowKit Go.Proofs.Sv Go.Proofs.Xl
theorem s0Q{X:Cx}{G:Gh}{a:Act}{ops:Array Oper}{Q:Exit->Act->World->Prop}{d f:Nat}{b:Op}{ty:TypeId}{pos:String}{after:Array Edge}{vs:Array Value}{K:Act->World->Prop}
  (h:∀dst pos after g,(execOp a.eval ⟨dst,b,ty,pos,after,g⟩).run X.P G.w=.ok (.enter f vs) G.w) (e:Calls X.P f vs G.w fun en w'=>∃v,en=.returned v/\K (a.put (some d) v) w'):V0 X.P ops Q ⟨some d,b,ty,pos,after,none⟩ K a G.w:=by
 unfold V0;have c:Region.wanted ⟨some d,b,ty,pos,after,none⟩ (yielded ops a.tmps)=true:=rfl;rw[if_pos c];unfold Oper.wp;rw[h (some d) pos after none];refine Calls.mono e ?_
 grind
end Go.Proofs.Xv
end
section
namespace Go.Proofs.Xl
end Go.Proofs.Xl
namespace Go.Proofs.Xv
open Go Go.RowKit Go.Proofs.Sv Go.Proofs.Xl
/- What all data of a result are. -/
mutual
def wfA:AV->Prop
 | .d _ t x=>wf t x
 | .agg xs=>PW xs
 | .tup xs=>PW xs
 | .ow _ _ t xs=>wf (.sl t) xs
 | _=>True
def PW:List AV->Prop
 | []=>True
 | a :: r=>wfA a/\PW r
end
def Gv:(ps:List m0)->A3 ps->Prop
 | [],_=>True
 | .io _ t :: _,z=>wf t z
 | .dat _ :: r,z=>Gv r z
 | .agg _ :: r,z=>Gv r z
 | .fn _ _ :: r,z=>Gv r z
 | .nof _ :: r,z=>Gv r z
 | .nil :: r,z=>Gv r z
 | .os _ _ :: r,z=>Gv r z
mutual
theorem ResR.wf{K:Bool->Nat->Prop}{w:World}:∀{a:AV} {u:Value} {gs:List (Option Nat)},ResR K w a u gs->wfA a
 | .v _,_,_,_=>trivial
 | .d _ _ _,_,_,h=>RT.wf h.1
 | .agg _,_,_,⟨_,_,h⟩=>ResRs.wf h
 | .tup _,_,_,⟨_,_,h⟩=>ResRs.wf h
 | .ow _ _ _ _,_,_,⟨_,_,_,_,h1,h2⟩=>z0B h1 h2
 | .ob _ _,_,_,_=>trivial
 | .ptr _ _,_,_,_=>trivial
 | .pel ..,_,_,_=>trivial
 | .os _ _,_,_,_=>trivial
 | .fn _ _,_,_,_=>trivial
 | .gel _ _,_,_,_=>trivial
 | .og _,_,_,_=>trivial
theorem ResRs.wf{K:Bool->Nat->Prop}{w:World}:∀{as':List AV} {us:List Value} {gs:List (Option Nat)},ResRs K w as' us gs->PW as'
 | [],_,_,_=>trivial
 | _ :: _,_,_,⟨_,_,_,_,_,_,h1,h2⟩=>⟨ResR.wf h1,ResRs.wf h2⟩
end
theorem IOR.wf{K:Nat->Prop}{w:World}{go:Option Nat}:∀{ps:List m0} {z:A3 ps},IOR K w go ps z->Gv ps z
 | [],_,_=>trivial
 | .io _ _ :: _,_,⟨_,_,_,_,h⟩=>RT.wf h
 | .dat _ :: r,_,h=>IOR.wf (ps:=r) h
 | .agg _ :: r,_,h=>IOR.wf (ps:=r) h
 | .fn _ _ :: r,_,h=>IOR.wf (ps:=r) h
 | .nof _ :: r,_,h=>IOR.wf (ps:=r) h
 | .nil :: r,_,h=>IOR.wf (ps:=r) h
 | .os _ _ :: r,_,h=>IOR.wf (ps:=r) h
theorem US{n:Nat}:∀{a b:List Oper} {i:Nat} {seen:List Nat},K5 n i seen (a++b)=true->K5 n i seen a=true/\∃sn,K5 n (i+a.length) sn b=true/\(∀d∈seen,d∈sn)/\∀o∈a,∀d,o.dst=some d->d∈sn
 | [],b,i,seen,h=>⟨rfl,seen,by grind,fun _ h=>h,fun _ h=>by cases h⟩
 | o :: r,b,i,seen,h=>by
   simp only[List.cons_append,K5,ba] at h ⊢;obtain⟨⟨k,f⟩,c⟩:=h;obtain⟨g,sn,j,e,k4⟩:=US c
   grind
theorem v0k{l:List Oper}{i:Nat}{o:Oper}(h:B8 l i=some o):l=l.take i++o :: l.drop (i+1)/\i<l.length/\(l.take i).length=i:=by
 have h:=l0L h
 grind[hi,Nat.lt_or_ge,List.getElem?_eq_none,List.length_take,List.getElem?_eq_getElem,List.drop_eq_getElem_cons,List.take_append_drop]
section
variable {X:Cx} {Γ:m3} {T:List Ct}
end
theorem t0e{X:Cx}{st:St}{Q:Exit->Act->World->Prop}{Γ:m3}{T:List Ct}(v:s6 X.P Γ)(hT:∀c∈T,Ok X.P c){id i:Nat}{l:List Oper}(g:List Nat)(E:K5 X.n 0 [] l=true)(aL:K6 st.e=true){V:Prop}{f:St}{F:List u0}(h1:Y0 Γ T l (l.take i) st []=some (V,f,F))(hV:V){o:Oper}(hn:B8 l i=some o)(_:K6 f.e=true)
  (aA:(∀d,o.dst=some d->d<X.n)->∀G a,Sat X G->G.o=f.o->EnvR X.n G f.e a->∀K:Act->World->Prop,(∀st2 W st3 rs3 G' a',K6 st2.e=true->Y0 Γ T l (l.drop (i+1)) st2 []=some (W,st3,rs3)->W->FX X (cut g st3) .normal Q->Sat X G'->G'.o=st2.o->EnvR X.n G' st2.e a'->K a' G'.w)->V0 X.P l.toArray Q o K a G.w):VX X st (.region id l.toArray false) Q:=by
 intro G a S ho hE;obtain⟨el,aJ,aC⟩:=v0k hn;refine wp_region_lit ?_;have b:=E;rw[el] at b;obtain⟨k1,sn,k,-,k4⟩:=US b;rw[aC,Nat.zero_add] at k;simp only[K5,ba] at k;obtain⟨⟨k,-⟩,k3⟩:=k;have aH:∀d,o.dst=some d->d<X.n:=fun d hd=>by
  rw[hd] at k;simp only[ba] at k;simpa using k.1
 obtain⟨h,e1,e2,e3⟩:=Ic (DJ (K:=fun m _=>m=f) h1 hV rfl);have aI:h.length=i:=by grind
 have:=Pt v hT (ops:=l.toArray) (all:=l) rfl (Q:=Q) (rest:=o :: l.drop (i+1)) h 0 [] st G a (fun j Y=>by
   grind) (by grind) (fun j oj dj Y=>by omega) (fun t s ht x hx=>by grind[CI]) e2 S ho hE
  (fun G1 a1 S1 z y=>by
    rw[e3] at z y;refine UR (aA aH G1 a1 S1 z y _ fun st2 W st3 rs3 G2 a2 aK g1 g2 g3 S2 aB aF=>?_);obtain⟨q,f1,f2,f3⟩:=Ic (DJ (K:=fun m _=>m=st3) g1 g2 rfl);have:=Pt v hT (ops:=l.toArray) (all:=l) rfl (Q:=Q) (rest:=[]) q (i+1) _ st2 G2 a2 (fun j Y=>by
      grind) (by rw[f1]; exact k3) (fun j oj dj Y q1 q2=>by
      grind) (fun t s ht x hx=>by grind[CI]) f2 S2 aB aF
     (fun G3 a3 S3 r u=>by
       rw[f3] at r u;obtain⟨G4,S4,H,aG,aD⟩:=Pw g S3 r u;have:=g3 G4 a3 S4 H aD
       rwa [aG] at this)
    grind)
 grind
theorem gdC{V:Prop}[Decidable V]{a:Type}{e:Option a}{r:a}{C:Prop}(H:gd V e=some r)(k:e=some r->C):V/\C:=⟨(DK H).1,k (DK H).2⟩
end Go.Proofs.Xv
end
section
namespace Go.Proofs.Xv
open Go Go.RowKit Go.Proofs.Sv Go.Proofs.Xl
def AllS{α:Type}(R:α->α->Prop):List α->List α->Prop
 | [],ys=>ys=[]
 | x :: r,ys=>∃y r',ys=y :: r'/\R x y/\AllS R r r'
def Bg:(t:Ty)->c7 t->c7 t->Prop
 | .int _,_,_=>True
 | .bool,x,y=>y=x
 | .str,x,y=>y=x
 | .sl e,x,y=>AllS (Bg e) x y
 | .pt e,x,y=>Bg e x y
 | .pr a b,x,y=>Bg a x.1 y.1/\Bg b x.2 y.2
theorem AllS.refl{a:Type}{R:a->a->Prop}(h:∀x,R x x):∀xs:List a,AllS R xs xs
 | []=>rfl
 | x :: r=>⟨x,r,rfl,h x,AllS.refl h r⟩
theorem Iw:∀(t:Ty) (x:c7 t),Bg t x x
 | .int _,_=>trivial
 | .bool,_=>rfl
 | .str,_=>rfl
 | .sl e,x=>AllS.refl (Iw e) x
 | .pt e,x=>Iw e x
 | .pr a b,x=>⟨Iw a x.1,Iw b x.2⟩
theorem AllS.len{a:Type}{R:a->a->Prop}:∀{xs ys:List a},AllS R xs ys->ys.length=xs.length
 | [],_,h=>by rw[show _=[] from h]
 | _ :: _,_,⟨_,_,e,_,h⟩=>by rw[e,List.length_cons,List.length_cons,AllS.len h]
theorem AllS.all{a:Type}{R:a->a->Prop}{p q:a->Prop}(b:∀x y,R x y->p x->q y):∀{xs ys:List a},AllS R xs ys->(∀x∈xs,p x)->∀y∈ys,q y
 | [],_,h,_,y,hy=>by rw[show _=[] from h] at hy; cases hy
 | x :: r,_,⟨y',r',e,h1,h2⟩,hp,y,hy=>by
   subst e;rcases List.mem_cons.1 hy with rfl | hy
   ·grind
   ·exact AllS.all b h2 (fun x c=>hp x (by grind)) y hy
def Sim(k:IntKind)(u u':Value):Prop:=u'=u∨∃x x',u=.int k x/\u'=.int k x'/\lo k<=x'/\x'<=hi k
def PX(k:IntKind)(w w':World):Prop:=∀b o u,w.cell? ⟨b,o,none⟩=some u->∃u',w'.cell? ⟨b,o,none⟩=some u'/\Sim k u u'
def SimL(k:IntKind):List Value->List Value->Prop
 | [],vs=>vs=[]
 | u :: r,vs=>∃u' r',vs=u' :: r'/\Sim k u u'/\SimL k r r'
theorem SimL.refl{k:IntKind}:∀us:List Value,SimL k us us
 | []=>rfl
 | u :: r=>⟨u,r,rfl,.inl rfl,SimL.refl r⟩
theorem SimL.split{k:IntKind}{b:List Value}:∀{a cs:List Value},SimL k (a++b) cs->∃a' b',cs=a'++b'/\SimL k a a'/\SimL k b b'
 | [],cs,h=>⟨[],cs,rfl,rfl,h⟩
 | u :: r,cs,⟨u',r',e,h1,h2⟩=>by
   obtain⟨a',b',f,d,c⟩:=SimL.split h2;exact⟨u' :: a',b',by grind,⟨u',a',rfl,h1,d⟩,c⟩
theorem At.sim{k:IntKind}{w w':World}(a:PX k w w'){b:Nat}:∀{ds:List Value} {o:Nat},At w b o ds->∃ds',At w' b o ds'/\SimL k ds ds'
 | [],o,_=>⟨[],fun i u h=>by grind,rfl⟩
 | d :: r,o,h=>by
   obtain⟨e,j,f⟩:=At.sim a (At.tail h);obtain⟨c,m,g⟩:=a b o d (h 0 d rfl);refine⟨c :: e,fun i u l=>?_,c,e,rfl,g,f⟩;cases i with
   | zero=>grind
   | succ i =>
     have:=j i u (by grind)
     rwa [show o+1+i=o+(i+1) by omega] at this
theorem AllR.sim{k:IntKind}{a:Type}{R R':List Value->a->Prop}{S:a->a->Prop}(f:∀c c' x,SimL k c c'->R c x->∃x',R' c' x'/\S x x'):∀{cs cs':List Value} {xs:List a},SimL k cs cs'->AllR R cs xs->∃xs',AllR R' cs' xs'/\AllS S xs xs'
 | cs,cs',[],hs,h=>by
   rw[show cs=[] from h] at hs;exact⟨[],hs,rfl⟩
 | _,cs',x :: r,hs,⟨c,d,e,h1,h2⟩=>by
   subst e;obtain⟨c',i,rfl,o,j⟩:=hs.split;obtain⟨x',l,n⟩:=f c c' x o h1;obtain⟨b,m,g⟩:=AllR.sim f j h2;exact⟨x' :: b,⟨c',i,rfl,l,m⟩,x',b,rfl,n,g⟩
theorem PY{k:IntKind}{u:Value}{cs:List Value}(h:SimL k [u] cs)(d:∀x,u≠.int k x):cs=[u]:=by
 obtain⟨e,a,rfl,c,b⟩:=h;rw[show a=[] from b];rcases c with rfl | ⟨x,_,rfl,_⟩
 ·rfl
 grind
theorem RT.sim{k:IntKind}{K:Nat->Prop}{w w':World}(m:PX k w w'):∀{t:Ty} {cs cs':List Value} {x:c7 t},SimL k cs cs'->RT K w t cs x->∃x',RT K w' t cs' x'/\Bg t x x'
 | .int k0,cs,cs',x,f,h=>by
   obtain⟨rfl,j⟩:=h;obtain⟨Q,H,rfl,g,n⟩:=f;rw[show H=[] from n];rcases g with rfl | ⟨x0,x',e,rfl,q,h5⟩
   ·exact⟨x,⟨rfl,j⟩,trivial⟩
   ·cases e;exact⟨x',⟨rfl,q,h5⟩,trivial⟩
 | .bool,cs,cs',x,f,h=>by
   rw[show cs=_ from h] at f;exact⟨x,PY f (fun _ h=>by cases h),rfl⟩
 | .str,cs,cs',x,f,h=>by
   rw[h.1] at f;exact⟨x,⟨PY f (fun _ h=>by cases h),h.2⟩,rfl⟩
 | .sl e,cs,cs',xs,f,⟨p,cap,j,g,n,q⟩=>by
   rw[j] at f;have v:=PY f (fun _ h=>by cases h);rcases q with rfl | ⟨b,o,ds,hp,hb,hat,hall⟩
   ·exact⟨[],⟨p,cap,v,g,n,.inl rfl⟩,rfl⟩
   ·obtain⟨i,s,u⟩:=At.sim m hat;obtain⟨y,r,l⟩:=AllR.sim (fun c z x f E=>RT.sim m (t:=e) f E) u hall;exact⟨y,⟨p,cap,by rw[v,l.len],by rw[l.len]; exact g,n,.inr ⟨b,o,i,hp,hb,s,r⟩⟩,l⟩
 | .pt e,cs,cs',x,f,⟨b,o,ds,j,hb,hat,g⟩=>by
   rw[j] at f;have v:=PY f (fun _ h=>by cases h);obtain⟨i,s,u⟩:=At.sim m hat;obtain⟨x',r,l⟩:=RT.sim m (t:=e) u g;exact⟨x',⟨b,o,i,v,hb,s,r⟩,l⟩
 | .pr a b,cs,cs',x,f,⟨c,d,h,j,g⟩=>by
   subst h;obtain⟨z,G,rfl,n,q⟩:=f.split;obtain⟨F,s,u⟩:=RT.sim m (t:=a) n j;obtain⟨P,r,l⟩:=RT.sim m (t:=b) q g;exact⟨(F,P),⟨z,G,rfl,s,r⟩,u,l⟩
mutual
def HavA:AV->AV->Prop
 | .d fr t x,b=>bif x7 t then b=.d fr t x else ∃x',b=.d fr t x'/\Bg t x x'/\(wf t x->wf t x')
 | .agg xs,b=>∃ys,b=.agg ys/\HavAs xs ys
 | .tup xs,b=>∃ys,b=.tup ys/\HavAs xs ys
 | .fn f xs,b=>∃ys,b=.fn f ys/\HavAs xs ys
 | a,b=>b=a
def HavAs:List AV->List AV->Prop
 | [],ys=>ys=[]
 | x :: r,ys=>∃y r',ys=y :: r'/\HavA x y/\HavAs r r'
end
def HavO:Ob->Ob->Prop
 | .box T cs,b=>∃ds,b=.box T ds/\HavAs cs ds
 | .arr T fr t xs v,b=>bif x7 t then b=.arr T fr t xs v else ∃xs',b=.arr T fr t xs' v/\AllS (Bg t) xs xs'
 | a,b=>b=a
theorem z0P{fr:Bool}{t:Ty}{x:c7 t}{b:AV}:HavA (.d fr t x) b=(bif x7 t then b=.d fr t x else ∃x',b=.d fr t x'/\Bg t x x'/\(wf t x->wf t x')):=by grind[HavA]
theorem UT{T:TypeId}{fr:Bool}{t:Ty}{xs:List (c7 t)}{v:Nat}{b:Ob}:HavO (.arr T fr t xs v) b=(bif x7 t then b=.arr T fr t xs v else ∃xs',b=.arr T fr t xs' v/\AllS (Bg t) xs xs'):=rfl
def Mw:List (Nat×Sl)->List (Nat×Sl)->Prop
 | [],ys=>ys=[]
 | (t,⟨p,a⟩) :: r,ys=>∃b r',ys=(t,⟨p,b⟩) :: r'/\HavA a b/\Mw r r'
def HavL:List (Nat×Ob)->List (Nat×Ob)->Prop
 | [],ys=>ys=[]
 | (i,a) :: r,ys=>∃b r',ys=(i,b) :: r'/\HavO a b/\HavL r r'
mutual
theorem HavA.refl:∀a,HavA a a
 | .d c t x=>by
   simp only[z0P,ce]
   grind[Iw]
 | .agg b=>⟨b,rfl,HavAs.refl b⟩
 | .tup b=>⟨b,rfl,HavAs.refl b⟩
 | .fn f b=>⟨b,rfl,HavAs.refl b⟩
 | .v _ | .ptr .. | .pel .. | .os .. | .ow .. | .gel .. | .og .. | .ob ..=>by grind[HavA]
theorem HavAs.refl:∀as,HavAs as as
 | []=>by grind[HavAs]
 | a :: r=>by unfold HavAs; exact⟨a,r,rfl,HavA.refl a,HavAs.refl r⟩
end
theorem HavO.refl:∀a,HavO a a
 | .box T b=>⟨b,rfl,HavAs.refl b⟩
 | .arr T d t c v=>by
   simp only[UT,ce]
   grind[AllS.refl,Iw]
 | .grd ..=>rfl
def I0J:Ob->Ob->Prop
 | .box T _,b=>∃ds,b=.box T ds
 | .arr T fr t _ v,b=>∃ys,b=.arr T fr t ys v
 | a,b=>b=a
theorem HavO.kind:∀{a b:Ob},HavO a b->I0J a b
 | .box _ _,_,⟨ds,h,_⟩=>⟨ds,h⟩
 | .arr _ _ _ xs _,b,h=>by
   rw[UT,ce] at h;split at h
   ·exact⟨xs,h⟩
   ·obtain⟨c,h,_⟩:=h; exact⟨c,h⟩
 | .grd ..,_,h=>h
theorem HavL.lk:∀{o o':List (Nat×Ob)},HavL o o'->∀i,(∀ob,a8 o i=some ob->∃ob',a8 o' i=some ob'/\HavO ob ob')/\(∀ob',a8 o' i=some ob'->∃ob,a8 o i=some ob/\HavO ob ob')
 | [],o',h,i=>by rw[show o'=[] from h]; exact⟨(fun _ h=>by cases h),fun _ h=>by cases h⟩
 | (j,a) :: r,_,⟨b,r',e,h1,h2⟩,i=>by
   subst e;rw[lK,lK];by_cases c:j=i
   ·grind
   ·rw[if_neg c,if_neg c];exact HavL.lk h2 i
def up(G:Gh)(w':World)(o':List (Nat×Ob)):Gh:=⟨G.ρ,G.γ,G.K,w',o',G.B,G.δ⟩
section
variable {k:IntKind} {G:Gh} {w':World} (hM:PX k G.w w')
include hM
mutual
theorem AVR.sim:∀{a:AV} {u:Value},AVR G a u->∃b,HavA a b/\∀o',HavL G.o o'->AVR (up G w' o') b u
 | .v x,u,h=>⟨.v x,rfl,fun _ _=>h⟩
 | .d fr t x,u,h=>by
   simp only[z0P,ce];split
   ·rename_i n;exact⟨.d fr t x,rfl,fun _ _=>RT.free n h⟩
   ·obtain⟨m,c,g⟩:=RT.sim (K:=rg G fr) hM (SimL.refl [u]) h;exact⟨.d fr t m,⟨m,rfl,g,fun _=>RT.wf c⟩,fun _ _=>c⟩
 | .agg xs,u,⟨us,e,h⟩=>by
   obtain⟨j,c,g⟩:=AVRs.sim h;exact⟨.agg j,⟨j,rfl,c⟩,fun o' i=>⟨us,e,g o' i⟩⟩
 | .tup xs,u,⟨us,e,h⟩=>by
   obtain⟨j,c,g⟩:=AVRs.sim h;exact⟨.tup j,⟨j,rfl,c⟩,fun o' i=>⟨us,e,g o' i⟩⟩
 | .fn f xs,u,⟨us,e,h⟩=>by
   obtain⟨j,c,g⟩:=AVRs.sim h;exact⟨.fn f j,⟨j,rfl,c⟩,fun o' i=>⟨us,e,g o' i⟩⟩
 | .ptr id off,u,⟨⟨T,cs,c⟩,g⟩=>⟨.ptr id off,rfl,fun o' i=>by
    obtain⟨ob,k,l⟩:=(i.lk id).1 _ c;obtain⟨ds,rfl⟩:=l.kind;exact⟨⟨T,ds,k⟩,g⟩⟩
 | .pel id ver kk s off,u,⟨h0,T,fr,t,xs,ver',c,g,h3⟩=>⟨.pel id ver kk s off,rfl,fun o' i=>by
    obtain⟨ob,k,l⟩:=(i.lk id).1 _ c;obtain⟨j,rfl⟩:=l.kind;exact⟨h0,T,fr,t,j,ver',k,g,h3⟩⟩
 | .os id ver,u,⟨h0,T,fr,t,xs,ver',c,g,h3⟩=>⟨.os id ver,rfl,fun o' i=>by
    obtain⟨ob,k,l⟩:=(i.lk id).1 _ c;obtain⟨j,rfl⟩:=l.kind;exact⟨h0,T,fr,t,j,ver',k,g,h3⟩⟩
 | .gel id kk,u,⟨⟨T,Te,fr,t,xs,hole,c⟩,g⟩=>⟨.gel id kk,rfl,fun o' i=>by
    obtain⟨ob,k,l⟩:=(i.lk id).1 _ c;have:=l.kind;rw[show ob=_ from this] at k;exact⟨⟨T,Te,fr,t,xs,hole,k⟩,g⟩⟩
 | .og id,u,⟨h0,⟨T,Te,fr,t,xs,hole,c⟩,g⟩=>⟨.og id,rfl,fun o' i=>by
    obtain⟨ob,k,l⟩:=(i.lk id).1 _ c;have:=l.kind;rw[show ob=_ from this] at k;exact⟨h0,⟨T,Te,fr,t,xs,hole,k⟩,g⟩⟩
 | .ow ..,_,h=>h.elim
 | .ob ..,_,h=>h.elim
theorem AVRs.sim:∀{as':List AV} {us:List Value},AVRs G as' us->∃bs,HavAs as' bs/\∀o',HavL G.o o'->AVRs (up G w' o') bs us
 | [],us,h=>⟨[],by grind[HavAs],fun _ _=>h⟩
 | a :: r,us,⟨u,us',e,h1,h2⟩=>by
   obtain⟨b,g,f⟩:=AVR.sim h1;obtain⟨bs,i,d⟩:=AVRs.sim h2;have:=hM;exact⟨b :: bs,by unfold HavAs; grind,fun o' c=>⟨u,us',e,f o' c,d o' c⟩⟩
end
theorem ObR.sim{b:Nat}(l:WE (some b) G.w w'){id:Nat}:∀{ob:Ob},ObR G id ob->C5 (some ob)=false->G.γ id≠some b->∃ob',HavO ob ob'/\∀o',HavL G.o o'->ObR (up G w' o') id ob'
 | .box T cs,⟨b',us,h1,h2,h3,h4⟩,_,hb=>by
   obtain⟨ds,g,f⟩:=AVRs.sim hM h4;exact⟨.box T ds,⟨ds,rfl,g⟩,fun o' m=>⟨b',us,h1,h2,h3.we l (fun i e h=>by grind),f o' m⟩⟩
 | .arr T fr t xs v,⟨cs,h1,h2,h3⟩,_,hb=>by
   have a:=h1.we l (fun i e h=>by grind);simp only[UT,ce];split
   ·rename_i q;exact⟨.arr T fr t xs v,rfl,fun o' _=>⟨cs,a,h2.mapR (fun c x j=>RT.free q j),h3⟩⟩
   ·obtain⟨d,g,f⟩:=AllR.sim (k:=k) (R':=RT (rg G fr) w' t) (S:=Bg t) (fun c r x n j=>RT.sim hM n j) (SimL.refl cs) h2;exact⟨.arr T fr t d v,⟨d,rfl,f⟩,fun o' _=>⟨cs,by rw[f.len]; exact a,g,h3⟩⟩
 | .grd ..,_,h,_=>by cases h
theorem s0T{b:Nat}(f:WE (some b) G.w w')(c:∀id o,a8 G.o id=some o->ObR G id o)(q:∀id,C5 (a8 G.o id)=false)(e:∀id o,a8 G.o id=some o->G.γ id≠some b) :
  ∀l:List (Nat×Ob),∃l',HavL l l'/\∀i ob,a8 l i=some ob->a8 G.o i=some ob->∃ob',a8 l' i=some ob'/\∀o',HavL G.o o'->ObR (up G w' o') i ob'
 | []=>⟨[],rfl,fun _ _ h=>by cases h⟩
 | (j,a) :: r=>by
   obtain⟨d,m,t⟩:=s0T f c q e r;by_cases k:a8 G.o j=some a
   ·obtain⟨g,n,u⟩:=ObR.sim hM f (c j a k) (by grind) (e j a k);refine⟨(j,g) :: d,⟨g,d,rfl,n,m⟩,fun i ob hi s=>?_⟩;rw[lK] at hi ⊢
    grind
   ·refine⟨(j,a) :: d,⟨a,d,rfl,HavO.refl a,m⟩,fun i ob hi s=>?_⟩;rw[lK] at hi ⊢
    grind
end
theorem Sat.hav{X:Cx}{G:Gh}(S:Sat X G){k:IntKind}{w':World}(hM:PX k G.w w'){b:Nat}(hw:Wr b G.w w')(hK:G.K b)(hb:X.w0.heap.size<=b)(hu:UF w' b)(hg:∀id,C5 (a8 G.o id)=false){e:List (Nat×Sl)}{a:Act}(hE:EnvR X.n G e a) :
  ∃o' e',HavL G.o o'/\Mw e e'/\Sat X (up G w' o')/\EnvR X.n (up G w' o') e' a:=by
 have m:=WE.of_wr hw;have aH:∀id o,a8 G.o id=some o->G.γ id≠some b:=fun id o F h=>S.imm id o b F h hK;obtain⟨o',h1,h2⟩:=s0T hM m S.obs hg aH G.o;have j:=h1.lk;have aI:∀id,C5 (a8 o' id)=false:=fun id=>by
  cases h:a8 o' id with
  | none=>rfl
  | some u =>
    obtain⟨z,d,q⟩:=(j id).2 u h;have:=hg id;rw[d] at this;cases z with
    | box T cs=>obtain⟨ds,rfl⟩:=q.kind; rfl
    | arr T fr t xs v=>obtain⟨ds,rfl⟩:=q.kind; rfl
    | grd=>cases this
 have hS:Sat X (up G w' o'):=by
  refine⟨S.base,m.os.trans S.os,m.tape.trans S.tape,m.output.trans S.output,Nat.le_trans S.size m.size,fun i hi aJ=>?_,fun id u V=>?_,fun id aA u aB c F aK hc aG=>?_,fun id u c F hc=>?_,fun id u c F hc=>?_,fun i hi=>?_,S.kfrom,fun id c _ Q=>?_,fun i v h=>?_⟩
  ·rw[<- S.block i hi aJ];exact hw.block i (by omega)
  ·obtain⟨z,d,q⟩:=(j id).2 u V;obtain⟨aB,g3,g4⟩:=h2 id z d d;rw[show a8 o' id=some u from V] at g3
   grind
  ·obtain⟨x,d,_⟩:=(j id).2 u F;obtain⟨x',q,_⟩:=(j aA).2 aB aK;exact S.inj id aA x x' c d q hc aG
  ·obtain⟨x,d,_⟩:=(j id).2 u F;exact S.imm id x c d hc
  ·obtain⟨x,d,_⟩:=(j id).2 u F;exact S.own id x c d hc
  ·by_cases e:i=b
   ·subst e;exact hu.g
   ·exact(S.klt i hi).same m.size (hw.block i e)
  ·rw[show a8 (up G w' o').o id=a8 o' id from rfl,aI id] at Q;cases Q
  ·obtain⟨bb,d,q⟩:=AVR.sim hM (S.pin i v h);rw[show bb=_ from d] at q
   grind
 have aD:∀e:List (Nat×Sl),(∀t s,a8 e t=some s->(PathP s.p a->AVR G s.a (a.tmps.getD t undef))/\(¬PathP s.p a->a.tmps.getD t undef=undef))->∃e',Mw e e'/\∀t f,a8 e' t=some f->(PathP f.p a->AVR (up G w' o') f.a (a.tmps.getD t undef))/\(¬PathP f.p a->a.tmps.getD t undef=undef):=by
  intro e he
  -- the slots that are seen turn, the hidden ones stay
  have aC:∀l:List (Nat×Sl),∃y,Mw l y/\∀t s,a8 l t=some s->a8 e t=some s->∃f,a8 y t=some f/\(PathP f.p a->AVR (up G w' o') f.a (a.tmps.getD t undef))/\(¬PathP f.p a->a.tmps.getD t undef=undef):=by
   intro l
   induction l with
   | nil=>exact⟨[],rfl,fun _ _ h=>by cases h⟩
   | cons x r ih =>
     obtain⟨t0,Y,a0⟩:=x;obtain⟨W,E,h4⟩:=ih;by_cases hv:a8 e t0=some ⟨Y,a0⟩/\PathP Y a
     ·obtain⟨q1,q2⟩:=he t0 _ hv.1;obtain⟨a1,d,q⟩:=AVR.sim hM (q1 hv.2);refine⟨(t0,⟨Y,a1⟩) :: W,⟨a1,W,rfl,d,E⟩,fun t s H aF=>?_⟩;rw[lK] at H ⊢
      grind
     ·refine⟨(t0,⟨Y,a0⟩) :: W,⟨a0,W,rfl,HavA.refl a0,E⟩,fun t s H aF=>?_⟩;rw[lK] at H ⊢
      grind
  obtain⟨e',E,h4⟩:=aC e;refine⟨e',E,fun t f P=>?_⟩;have:∀{l y:List (Nat×Sl)},Mw l y->∀{f},a8 y t=some f->∃s,a8 l t=some s:=by
   intro l
   induction l with
   | nil=>intro y hl f h; rw[show y=[] from hl] at h; cases h
   | cons x r ih =>
     obtain⟨t0,Y,a0⟩:=x;rintro y ⟨b1,W,rfl,d,q⟩ f h;rw[lK] at h ⊢
     grind
  obtain⟨s,H⟩:=this E P;obtain⟨s2,d,q⟩:=h4 t s H H;rw[P] at d;cases d;exact q
 obtain⟨e',E,h4⟩:=aD e hE.val;exact⟨o',e',h1,E,hS,hE.defers,hE.size,h4⟩
def grd(j:Nat)(b:Bool)(o:Oper):Oper:={ o with guard:=some (j,b) }
def Li(P:Program)(f:FuncId)(T1:TypeId)(t1:Ty)(T2:TypeId)(t2:Ty)(ps:List m0)(F:c7 t1->c7 t2->s8 ps->Option (c7 t1×c7 t2)):Prop :=
 AT P f=true/\x7 t1=true/\x7 t2=true/\∀x1 x2 xs z,F x1 x2 xs=some z->∀(w:World) (vs:List Value) (b1 b2:Nat) (cs1 cs2:List Value) (K:Nat->Prop),(∀k,K k->k<w.heap.size)->b1≠b2->¬K b1->¬K b2 ->
  Blk w b1 cs1 T1->RT K w t1 cs1 x1->Blk w b2 cs2 T2->RT K w t2 cs2 x2->ArgsR K w none ps xs vs ->
  Calls P f (.pointer (some ⟨b1,0,none⟩) :: .pointer (some ⟨b2,0,none⟩) :: vs).toArray w fun en w'=>en=.returned (.tuple #[])/\∃w1 ds1 ds2,WE (some b2) w w1/\Blk w1 b2 ds2 T2/\RT K w1 t2 ds2 z.2/\WE (some b1) w1 w'/\Blk w' b1 ds1 T1/\RT K w' t1 ds1 z.1
def PZ(st:St)(f:FuncId)(T1:TypeId)(t1:Ty)(T2:TypeId)(t2:Ty)(ps:List m0):Op->Option ((Nat×Nat)×c7 t1×c7 t2×s8 ps)
 | .call ⟨.value x,xs,_⟩=>match rd st [] x,H9 st [] xs.toList with
   | some (.fn g []),some (.ptr i1 0 :: .ptr i2 0 :: as')=>bif Nat.beq g f&&!Nat.beq i1 i2 then(match H2 st.o [.io T1 t1] [.ptr i1 0],H2 st.o [.io T2 t2] [.ptr i2 0],H2 st.o ps as' with
     | some (x1,_,_),some (x2,_,_),some (y,[],none)=>some ((i1,i2),x1.1,x2.1,y)
     | _,_,_=>none) else none
   | _,_=>none
 | _=>none
def Qa(st:St)(d:Nat)(T1:TypeId)(t1:Ty)(T2:TypeId)(t2:Ty)(i1 i2:Nat)(z:c7 t1×c7 t2):St:=⟨(d,⟨[],.tup []⟩) :: st.e,(i1,.box T1 (s5 false t1 z.1)) :: (i2,.box T2 (s5 false t2 z.2)) :: st.o⟩
theorem Sat.putB{X:Cx}{G:Gh}(S:Sat X G){id b:Nat}{T:TypeId}{t:Ty}{d:List AV}{w':World}{ds:List Value}{z:c7 t}(n:x7 t=true)(j:a8 G.o id=some (.box T d))(f:G.γ id=some b)(e:WE (some b) G.w w')(q:Blk w' b ds T){K:Nat->Prop}(v:RT K w' t ds z) :
  Sat X (G.put id (.box T (s5 false t z)) (G.ρ id) (some b) w')/\GLe G (G.put id (.box T (s5 false t z)) (G.ρ id) (some b) w'):=by
 have c:=S.obs id _ j;obtain⟨k,y,l,P,F,H⟩:=c;rw[f] at l;cases l;exact S.put (id:=id) (ob:=.box T (s5 false t z)) (r:=G.ρ id) (g:=some b) (w':=w') (go:=some b) ⟨(fun T E h=>⟨rfl,_,_,rfl⟩),(fun T s x u m h=>by grind),by rw[j]; rfl⟩
  (fun k a=>by grind) e (fun k a=>.inl a) (fun i=>⟨b,ds,by simp[Gh.put],by grind[Gh.put],q,X3 (RT.free n v)⟩)
theorem p0E{o:List (Nat×Ob)}{T:TypeId}{t:Ty}{i:Nat}{x:s8 [.io T t]}{l:List Nat}{io:Option Nat}(h:H2 o [.io T t] [.ptr i 0]=some (x,l,io)):l=[]/\io=some i/\∃cs,a8 o i=some (.box T cs):=by
 cases hA:AZ o (.io T t) (.ptr i 0) with
 | none=>grind[H2]
 | some r =>
   obtain⟨y,d,b⟩:=r;simp only[H2,hA] at h;have a:(match a8 o i with
    | some (.box c cs)=>bif Nat.beq T c then(match B0 o 24 t cs with
      | some (x,[],_)=>some (x,([]:List Nat),some i)
      | _=>none) else none
    | _=>none)=some (y,d,b):=hA
   split at a
   ·rename_i c cs e;rw[ce] at a
    grind[nb,oi,pj]
   grind
theorem z0D{X:Cx}{G:Gh}{a:Act}{st:St}{ops:Array Oper}{Q:Exit->Act->World->Prop}{K:Act->World->Prop}{f:FuncId}{T1:TypeId}{m:Ty}{V:TypeId}{j:Ty}{ps:List m0}{F:c7 m->c7 j->s8 ps->Option (c7 m×c7 j)}(v:Li X.P f T1 m V j ps F)(S:Sat X G)(ho:G.o=st.o)(hE:EnvR X.n G st.e a)
  {d:Nat} {op:Op} {ty:TypeId} {pos:String} {after:Array Edge} {i1 i2:Nat} {x1:c7 m} {x2:c7 j} {y:s8 ps} (c:PZ st f T1 m V j ps op=some ((i1,i2),x1,x2,y)) (hd:d<X.n) (hs:∀t s,a8 st.e t=some s->∀x∈s.p,x.1≠d)
  {z:c7 m×c7 j} (hz:F x1 x2 y=some z) (hK:∀a' G',Sat X G'->G'.o=(Qa st d T1 m V j i1 i2 z).o->EnvR X.n G' (Qa st d T1 m V j i1 i2 z).e a'->K a' G'.w):V0 X.P ops Q ⟨some d,op,ty,pos,after,none⟩ K a G.w:=by
 obtain⟨aC,f1,f2,r⟩:=v;unfold PZ at c;split at c
 ·rename_i x0 xs Ts;split at c
  ·rename_i g u l bH h1 h2;rw[ce] at c;split at c
   ·rename_i aB;rw[ba,Bool.not_eq_true'] at aB;have hg:g=f:=nb aB.1;have q:u≠l:=fun e=>by
     simp_all
    subst hg;split at c
    ·rename_i y1 l1 bD y2 l2 bA y3 a1 a2 a3;simp only[oi,pj] at c;obtain⟨⟨rfl,rfl⟩,rfl,rfl,rfl⟩:=c;obtain⟨cs,hv,hc⟩:=x8 hE (p:=[]) (fun _ h=>by cases h) h1;have hA:=Am hE (p:=[]) (fun _ h=>by cases h) h2;obtain⟨u1,bG,aY,aQ,aJ⟩:=hA;obtain⟨u2,Y,aF,aD,aO⟩:=aJ;rw[<- ho] at a1 a2 a3;have i:∀id∈([]:List Nat),∃ob,a8 G.o id=some ob:=fun _ h=>by cases h
     obtain⟨rfl,rfl,k1,o1⟩:=p0E a1;obtain⟨rfl,rfl,k2,o2⟩:=p0E a2;obtain⟨_,bK,r1,q1⟩:=HX S i a1 (fun _ h=>by cases h) (fun _ _ h=>by cases h) (us:=[u1]) ⟨u1,[],rfl,aQ,rfl⟩;obtain⟨_,bE,r2,q2⟩:=HX S i a2 (fun _ h=>by cases h) (fun _ _ h=>by cases h) (us:=[u2]) ⟨u2,[],rfl,aD,rfl⟩;obtain⟨_,aT,r3,q3⟩:=HX S i a3 (fun _ h=>by cases h) (fun _ h=>by cases h) aO;have aP:aT=none:=by
      rcases q3 with ⟨_,e⟩ | ⟨_,_,_,_,e,_⟩ | ⟨_,_,_,_,_,_,e,_⟩
      ·exact e
      ·cases e
      ·cases e
     subst aP;obtain⟨E,aN,v1,e1,bF,aS,B1,R1,-⟩:=r1;obtain⟨H,aL,v2,e2,bI,aH,B2,R2,-⟩:=r2;have aA:G.γ u=some E:=by
      rcases q1 with ⟨e,_⟩ | ⟨id,b,T,cs',e,eb,h3,h4⟩ | ⟨_,_,_,_,_,_,_,_,_,e⟩
      ·cases e
      ·grind
      ·cases e
     have aR:G.γ l=some H:=by
      rcases q2 with ⟨e,_⟩ | ⟨id,b,T,cs',e,eb,h3,h4⟩ | ⟨_,_,_,_,_,_,_,_,_,e⟩
      ·cases e
      ·grind
      ·cases e
     have hb:E≠H:=fun e=>q (S.inj u l _ _ E o1 o2 aA (by grind));have aX:∀k,S9 G [] k->k<G.w.heap.size:=fun k v=>by
      rcases v with v | ⟨_,v,_⟩
      ·exact(S.klt k v).lt
      grind
     have hC:=r _ _ _ _ hz G.w Y E H aN aL (S9 G []) aX hb aS aH B1 R1 B2 R2 r3
     haveI:To X.P g:=⟨aC⟩
     refine s0Q (f:=g) (fun bJ pos after gg=>?_) (Calls.mono hC ?_)
     ·have e3:xs.map a.eval=(xs.toList.map a.eval).toArray:=by rw[<- Array.toList_map]
      have aK:cs=[]:=hc;have eu:xs.toList.map a.eval=.pointer (some ⟨E,0,none⟩) :: .pointer (some ⟨H,0,none⟩) :: Y:=by
       rw[aY,aF];simp only[List.cons.injEq] at e1 e2;rw[e1.1,e2.1]
      simp only[execOp,resolve,e3,eu,hv,aK];simp[Deferred.ofValue,invoke,g0h]
     ·rintro en w' ⟨rfl,w1,bB,bC,aM,aU,aZ,aI,aV,aW⟩;obtain⟨S1,L1⟩:=S.putB f2 o2 aR aM aU aZ;have aG:a8 (G.put l (.box V (s5 false j z.2)) (G.ρ l) (some H) w1).o u=some (.box T1 k1):=by
       show a8 ((l,_) :: G.o) u=_;rw[lK,if_neg (Ne.symm q)];exact o1
      have W:(G.put l (.box V (s5 false j z.2)) (G.ρ l) (some H) w1).γ u=some E:=by
       simp only[Gh.put,if_neg q];exact aA
      obtain⟨S2,L2⟩:=S1.putB f1 aG W aI aV aW;refine⟨_,rfl,hK _ _ S2 (by show(u,_) :: (l,_) :: G.o=_; rw[ho]; rfl) ?_⟩;exact EnvR.put (p:=[]) ((hE.mono L1).mono L2) hd (fun _ h=>by cases h) hs ⟨fun _=>⟨[],rfl,rfl⟩,fun h=>(h (fun _ h=>by cases h)).elim⟩
    grind
   grind
  grind
 grind
def K0L(n:Nat)(Γ:m3)(T:List Ct)(l:List Oper)(i:Nat)(f:FuncId)(T1:TypeId)(t1:Ty)(T2:TypeId)(t2:Ty)(ps:List m0)(st:St):Option (Prop×St×Nat×(Nat×Nat)×c7 t1×c7 t2×s8 ps) :=
 bif K5 n 0 [] l&&K6 st.e then(match Y0 Γ T l (l.take i) st [] with
  | some (V,st1,_)=>(match B8 l i with
    | some ⟨some d,op,_,_,_,none⟩=>bif K6 st1.e then(match PZ st1 f T1 t1 T2 t2 ps op with
      | some (ii,x1,x2,xs)=>some (V,st1,d,ii,x1,x2,xs)
      | none=>none) else none
    | _=>none)
  | none=>none) else none
def K0K(Γ:m3)(T:List Ct)(l:List Oper)(i:Nat)(keep:List Nat)(st2:St):Option (Prop×St):=bif K6 st2.e then(match Y0 Γ T l (l.drop (i+1)) st2 [] with
    | some (W,st3,_)=>some (W,cut keep st3)
    | none=>none) else none
def ev2(n:Nat)(Γ:m3)(T:List Ct)(l:List Oper)(i:Nat)(keep:List Nat)(f:FuncId)(T1:TypeId)(t1:Ty)(T2:TypeId)(t2:Ty)(ps:List m0)(st:St)(z:c7 t1×c7 t2):Option (Prop×(c7 t1×c7 t2×s8 ps)×Prop×St):=match K0L n Γ T l i f T1 t1 T2 t2 ps st with
 | some (V,st1,d,ii,x1,x2,xs)=>(match K0K Γ T l i keep (Qa st1 d T1 t1 T2 t2 ii.1 ii.2 z) with
   | some (W,st3)=>some (V,(x1,x2,xs),W,st3)
   | none=>none)
 | none=>none
theorem zT{P:Program}{n:Nat}{y:World×(Nat->Prop)×(Nat->Prop)×(Nat->Value->Prop)×Nat}{st:St}{Q:Exit->Act->World->Prop}{Γ:m3}{T:List Ct}{ρ:Type}{r:ρ}(v:s6 P Γ)(hT:∀c∈T,Ok P c){f:FuncId}{T1:TypeId}{e:Ty}{T2:TypeId}{j:Ty}{ps:List m0}{F:c7 e->c7 j->s8 ps->Option (c7 e×c7 j)}(hk:Li P f T1 e T2 j ps F)
  (i:Nat) (k:List Nat) (S:c7 e×c7 j->St) (W:c7 e×c7 j->Prop) {x1:c7 e} {x2:c7 j} {xs:s8 ps} [Inhabited (c7 e×c7 j)] {V:Prop} [Decidable V] {g:c7 e×c7 j->Option ρ} {id:Nat} {l:List Oper} (H:gd (V/\(F x1 x2 xs).isSome=true/\True) (lt (vl (F x1 x2 xs)) g)=some r)
  (h:∀z,ev2 n Γ T l i k f T1 e T2 j ps st z=some (V,(x1,x2,xs),W z,S z)) (hc:∀z,g z=some r->W z/\FX (cx P n y) (S z) .normal Q):VX (cx P n y) st (.region id l.toArray false) Q:=by
 obtain⟨⟨hV,hs,-⟩,H⟩:=DK H;obtain⟨z,hz⟩:=Option.isSome_iff_exists.1 hs;rw[hz] at H;have H:g z=some r:=H;have o:=h z;obtain⟨c1,c2⟩:=hc z H;unfold ev2 at o;split at o
 ·rename_i V' aC d ii y1 y2 ys b;split at o
  ·rename_i W' aG h2;simp only[oi,pj] at o;obtain⟨rfl,⟨rfl,rfl,rfl⟩,eW,eS⟩:=o;unfold K0L at b;rw[ce] at b;split at b
   ·rename_i u;simp only[ba] at u;split at b
    ·rename_i V1 Y aA g1;split at b
     ·rename_i d' op ty aB w hn;rw[ce] at b;split at b
      ·rename_i q;split at b
       ·rename_i m z1 z2 zs ha;simp only[oi,pj] at b;obtain⟨rfl,rfl,rfl,rfl,rfl,rfl,rfl⟩:=b;refine t0e (X:=cx P n y) v hT k u.1 u.2 g1 hV hn q fun E G a S' ho hE K hK=>?_;refine z0D (i1:=m.1) (i2:=m.2) hk S' ho hE ha (E _ rfl) (fun t s ht x hx=>by grind[CI]) hz fun a' G' aD aH aF=>?_;unfold K0K at h2
        grind
       grind
      grind
     grind
    grind
   grind
  grind
 grind
def Ix:List m0->Bool
 | []=>true
 | .dat t :: r=>x7 t&&Ix r
 | .agg t :: r=>x7 t&&Ix r
 | _=>false
def Qb(K:Nat->Prop)(w:World)(b1 b2:Nat)(o:List (Nat×Ob)):Gh:=⟨fun i=>.pointer (some ⟨bif Nat.beq i 500000 then b1 else b2,0,none⟩),fun i=>some (bif Nat.beq i 500000 then b1 else b2),K,w,o,w.heap.size,fun _ _=>False⟩
def z0q{t1 t2:Ty}(T1 T2:TypeId)(ps:List m0)(x1:c7 t1)(x2:c7 t2)(xs:s8 ps):St:=⟨(0,⟨[],.ptr 500000 0⟩) :: (1,⟨[],.ptr 500001 0⟩) :: I1 2 ps xs,[(500000,.box T1 (s5 false t1 x1)),(500001,.box T2 (s5 false t2 x2))]⟩
def NO(st:St)(T1:TypeId)(t1:Ty)(T2:TypeId)(t2:Ty)(z:c7 t1×c7 t2):Prop:=match a8 st.o 500000,a8 st.o 500001 with
 | some (.box U1 cs1),some (.box U2 cs2)=>bif Nat.beq U1 T1&&Nat.beq U2 T2 then(match B0 st.o 24 t1 cs1,B0 st.o 24 t2 cs2 with
   | some (y1,_,_),some (y2,_,_)=>y1=z.1/\y2=z.2
   | _,_=>False) else False
 | _,_=>False
theorem UU{G:Gh}{K:Nat->Prop}{w:World}:∀{ps:List m0} {i:Nat} {x:s8 ps} {vs:List Value},Ix ps=true->ArgsR K w none ps x vs->∀t s,a8 (I1 i ps x) t=some s->i<=t/\s.p=[]/\∃u,vs[t-i]?=some u/\AVR G s.a u
 | [],i,x,vs,_,h,t,s,ht=>by cases ht
 | .dat ty :: r,i,x,vs,hf,⟨v,us,e,h1,h⟩,t,s,ht=>by
   subst e;unfold Ix at hf;rw[ba] at hf;unfold I1 at ht;rw[lK] at ht;split at ht
   ·rename_i e; subst e; cases ht; exact⟨Nat.le_refl _,rfl,v,by simp,RT.free hf.1 h1⟩
   ·obtain⟨d,c,u,f,b⟩:=UU (ps:=r) (i:=i+1) hf.2 h t s ht;exact⟨by omega,c,u,by grind,b⟩
 | .agg ty :: r,i,x,vs,hf,⟨v,us,e,h1,h⟩,t,s,ht=>by
   subst e;unfold Ix at hf;rw[ba] at hf;unfold I1 at ht;rw[lK] at ht;split at ht
   ·rename_i e; subst e; cases ht; exact⟨Nat.le_refl _,rfl,_,by simp,v,rfl,X3 (RT.free hf.1 h1)⟩
   ·obtain⟨d,c,u,f,b⟩:=UU (ps:=r) (i:=i+1) hf.2 h t s ht;exact⟨by omega,c,u,by grind,b⟩
theorem Mx{a b:Ob}{i:Nat}{o:Ob}(h:a8 [(500000,a),(500001,b)] i=some o):(i=500000/\o=a)∨(i=500001/\o=b):=by
 rw[lK] at h;split at h
 ·grind
 ·rw[lK] at h;split at h
  ·grind
  ·cases h
def Qc(b1 b2:Nat):Nat->Value->Prop:=fun i v=>(i=0/\v=.pointer (some ⟨b1,0,none⟩))∨(i=1/\v=.pointer (some ⟨b2,0,none⟩))
theorem q0d{P:Program}{n:Nat}{K:Nat->Prop}{w:World}{c a:Nat}{t s:TypeId}{g m:Ty}{x1:c7 g}{x2:c7 m}{f d:List Value}(y:x7 g=true)(T:x7 m=true)(q:∀k,K k->k<w.heap.size)(z:c≠a)(G:¬K c)(x:¬K a)(V:Blk w c f t)(E:RT K w g f x1)(H:Blk w a d s)(W:RT K w m d x2) :
  Sat (cx P n ⟨w,fun k=>k=c∨k=a,K,Qc c a,w.heap.size⟩) (Qb K w c a [(500000,.box t (s5 false g x1)),(500001,.box s (s5 false m x2))]):=by
 have q:∀k,K k->UFg w w.heap.size k:=fun k l=>⟨q k l,fun h=>absurd (q k l) (Nat.not_lt.2 h)⟩;refine⟨⟨rfl,Nat.le_refl _⟩,rfl,rfl,rfl,Nat.le_refl _,fun _ _ _=>rfl,fun i o h=>?_,fun i j o X b h Q e r=>?_,fun i o b h e=>?_,fun i o b h e=>?_,q,fun k l=>.inl l,fun _ _ h=>h.elim,fun i v e=>by
  rcases e with ⟨rfl,rfl⟩ | ⟨rfl,rfl⟩
  ·exact⟨⟨_,_,rfl⟩,c,rfl,rfl⟩
  ·exact⟨⟨_,_,rfl⟩,a,rfl,rfl⟩⟩
 ·rcases Mx h with ⟨rfl,rfl⟩ | ⟨rfl,rfl⟩
  ·exact⟨c,f,rfl,rfl,V,X3 (RT.free y E)⟩
  ·exact⟨a,d,rfl,rfl,H,X3 (RT.free T W)⟩
 ·rcases Mx h with ⟨rfl,rfl⟩ | ⟨rfl,rfl⟩ <;> rcases Mx Q with ⟨rfl,rfl⟩ | ⟨rfl,rfl⟩
  ·rfl
  ·have u:some c=some b:=e;have F:some a=some b:=r
   grind
  ·have u:some a=some b:=e;have F:some c=some b:=r
   grind
  ·rfl
 ·rcases Mx h with ⟨rfl,rfl⟩ | ⟨rfl,rfl⟩
  ·have e:some c=some b:=e;cases e; exact G
  ·have e:some a=some b:=e;cases e; exact x
 ·rcases Mx h with ⟨rfl,rfl⟩ | ⟨rfl,rfl⟩
  ·have e:some c=some b:=e;cases e; exact .inr (.inl rfl)
  ·have e:some a=some b:=e;cases e; exact .inr (.inr rfl)
theorem F0B{P:Program}{f:FuncId}{T:TypeId}{m:Ty}{H:TypeId}{q:Ty}{ps:List m0}{F:c7 m->c7 q->s8 ps->Option (c7 m×c7 q)}{r:Func}{E:Code}{n:Nat}(hf:P.funcs[f]?=some r)(hn:r.ntmps=n)(hb:r.body=some E)(hr:r.results=#[])(he:AT P f=true)(j:(Nat.ble (ps.length+2) n&&Ix ps&&x7 m&&x7 q)=true)
  (h:∀y x1 x2 xs z,F x1 x2 xs=some z->∀Q,(∀st,NO st T m H q z->FX (cx P n y) st .normal Q/\FX (cx P n y) st .ret Q)->VX (cx P n y) (z0q T H ps x1 x2 xs) E Q):Li P f T m H q ps F:=by
 simp only[ba] at j;obtain⟨⟨⟨j,aF⟩,f1⟩,f2⟩:=j;have j:=Nat.le_of_ble_eq_true j;refine⟨he,f1,f2,fun x1 x2 xs z hz w x b c g aO K hK aA aK aG B1 R1 B2 R2 hA=>?_⟩;have aL:=hA.len;refine calls_of_wp hf hb ?_;have hS:=q0d (P:=P) (n:=n) f1 f2 hK aA aK aG B1 R1 B2 R2;have:=h ⟨w,fun k=>k=b∨k=c,K,Qc b c,w.heap.size⟩ x1 x2 xs z hz (bodyPost P r fun en w'=>en=.returned (.tuple #[])/\∃w1 ds1 ds2,WE (some c) w w1/\Blk w1 c ds2 H/\RT K w1 q ds2 z.2/\WE (some b) w1 w'/\Blk w' b ds1 T/\RT K w' m ds1 z.1) (fun st aJ=>?_) (Qb K w b c _) { tmps:=(Value.pointer (some ⟨b,0,none⟩) :: Value.pointer (some ⟨c,0,none⟩) :: x).toArray++Array.replicate (r.ntmps-(Value.pointer (some ⟨b,0,none⟩) :: Value.pointer (some ⟨c,0,none⟩) :: x).toArray.size) undef,defers:=[] } hS rfl ⟨rfl,by grind,fun t s V=>?_⟩
 ·exact this
 ·have aB:∀G a,Sat (cx P n ⟨w,fun k=>k=b∨k=c,K,Qc b c,w.heap.size⟩) G->G.o=st.o->EnvR n G st.e a->a.defers=[]/\∃v,(results r a.tmps).run P G.w=.ok v G.w/\(v=.tuple #[]/\∃w1 ds1 ds2,WE (some c) w w1/\Blk w1 c ds2 H/\RT K w1 q ds2 z.2/\WE (some b) w1 G.w/\Blk G.w b ds1 T/\RT K G.w m ds1 z.1):=fun G a S W Y=>by
   obtain⟨us,e1,e0,-⟩:=Uy (X:=cx P n ⟨w,fun k=>k=b∨k=c,K,Qc b c,w.heap.size⟩) (Γ:=[]) (rs:=[]) (fun _ _ h=>by cases h) S W Y rfl trivial;have e0:us=[]:=e0;subst e0;refine⟨Y.defers,_,UB (rs:=[]) hr e1,rfl,?_⟩;have d:=aJ;unfold NO at d;rw[<- W] at d;split at d
   ·rename_i U1 c1 U2 c2 h1 h2;rw[ce] at d;split at d
    ·rename_i hb;rw[ba] at hb;have u1:=nb hb.1;have u2:=nb hb.2;subst u1; subst u2;split at d
     ·rename_i y1 l1 aP y2 l2 aR d1 d2;obtain⟨z1,z2⟩:=d;subst z1; subst z2;obtain⟨_,aM,k1,k2⟩:=S.pin 0 (.pointer (some ⟨b,0,none⟩)) (.inl ⟨rfl,rfl⟩);cases k2;obtain⟨_,aC,g1,g2,g3,g4⟩:=S.obs 500000 _ h1;rw[k1] at g2;cases g2;obtain⟨_,aN,m1,m2⟩:=S.pin 1 (.pointer (some ⟨c,0,none⟩)) (.inr ⟨rfl,rfl⟩);cases m2;obtain⟨_,aH,p1,p2,p3,p4⟩:=S.obs 500001 _ h2;rw[m1] at p2;cases p2;have r1:=RT.up (BH (K':=fun _=>True) S (fun _ _=>trivial) 24 d1 (fun _ _ _ _=>trivial) g4) (fun _ _=>trivial:∀k,_->(fun _:Nat=>True) k);have r2:=RT.up (BH (K':=fun _=>True) S (fun _ _=>trivial) 24 d2 (fun _ _ _ _=>trivial) p4) (fun _ _=>trivial:∀k,_->(fun _:Nat=>True) k);have l:=ON G.w b g.toArray;have hH:(G.w.setRow b g.toArray).heap[b]?=some (.cells g.toArray U1 (0,0)):=setRow_heap G.w b aC.toArray g.toArray U1 (0,0) g3;refine⟨G.w.setRow b g.toArray,aC,aH,⟨l.os.trans S.os,l.tape.trans S.tape,l.output.trans S.output,by rw[l.size]; exact S.size,fun k hk hg=>?_⟩,?_,RT.free f2 r2,⟨l.os.symm,l.tape.symm,l.output.symm,by simp_all,fun k hk hg=>(l.block k (fun e=>hg (by rw[e]))).symm⟩,g3,RT.free f1 r1⟩
      ·by_cases e:k=b
       ·rw[e,hH]; exact B1.symm
       ·rw[l.block k e];refine S.block k hk (fun h=>?_)
        grind
      ·show(G.w.setRow b g.toArray).heap[c]?=_;rw[l.block c (fun e=>aA e.symm)];exact p3
     grind
    grind
   grind
  refine⟨fun G a S W Y=>?_,fun G a S W Y=>?_⟩
  ·obtain⟨k1,v,k2,rfl,k3⟩:=aB G a S W Y;exact⟨k1,_,k2,rfl,k3⟩
  ·obtain⟨k1,v,k2,rfl,k3⟩:=aB G a S W Y;exact⟨k1,_,k2,rfl,k3⟩
 ·have aQ:∀(i:Nat) (u:Value),(Value.pointer (some ⟨b,0,none⟩) :: Value.pointer (some ⟨c,0,none⟩) :: x)[i]?=some u->((Value.pointer (some ⟨b,0,none⟩) :: Value.pointer (some ⟨c,0,none⟩) :: x).toArray++Array.replicate (r.ntmps-(Value.pointer (some ⟨b,0,none⟩) :: Value.pointer (some ⟨c,0,none⟩) :: x).toArray.size) undef).getD i undef=u:=fun i u hu=>by
   have aI:i < (Value.pointer (some ⟨b,0,none⟩) :: Value.pointer (some ⟨c,0,none⟩) :: x).length:=by
    rcases Nat.lt_or_ge i (Value.pointer (some ⟨b,0,none⟩) :: Value.pointer (some ⟨c,0,none⟩) :: x).length with h' | h'
    ·exact h'
    ·rw[List.getElem?_eq_none h'] at hu; cases hu
   rw[Array.getD_eq_getD_getElem?,Array.getElem?_append_left (by rw[List.size_toArray]; exact aI),List.getElem?_toArray,hu];rfl
  have aD:s.p=[]/\∃u,(Value.pointer (some ⟨b,0,none⟩) :: Value.pointer (some ⟨c,0,none⟩) :: x)[t]?=some u/\AVR (Qb K w b c [(500000,.box T (s5 false m x1)),(500001,.box H (s5 false q x2))]) s.a u:=by
   unfold z0q at V;simp only[lK] at V;split at V
   ·rename_i e; subst e; cases V;exact⟨rfl,_,rfl,⟨_,_,rfl⟩,b,rfl,rfl⟩
   ·split at V
    ·rename_i e; subst e; cases V;exact⟨rfl,_,rfl,⟨_,_,rfl⟩,c,rfl,rfl⟩
    ·obtain⟨a1,a2,u,a3,a4⟩:=UU (G:=Qb K w b c [(500000,.box T (s5 false m x1)),(500001,.box H (s5 false q x2))]) aF hA t s V
     grind
  obtain⟨h1,u,h2,h3⟩:=aD;rw[h1];refine⟨fun _=>?_,fun hn=>(hn (fun _ h=>by cases h)).elim⟩
  grind
def nx(o:Option (Prop×St)):St:=match o with
 | some (_,s)=>s
 | none=>⟨[],[]⟩
theorem Iy{o:Option (Prop×St)}{V:Prop}(h:o.map Prod.fst=some V):o=some (V,nx o):=by
 cases o with
 | none=>cases h
 | some x =>
   cases h;rfl
section
variable {P:Program} {n:Nat} {y:World×(Nat->Prop)×(Nat->Prop)×(Nat->Value->Prop)×Nat} {st:St} {Q:Exit->Act->World->Prop} {Γ:m3} {T:List Ct} {ρ:Type} {r:ρ}
theorem jA[a:HG P Γ][d:HT P T][e:H7 P](k:List Nat){id:Nat}{l:List Oper}{b:Bool}(c:FX (cx P n y) (nx (C9 b n Γ T l k st)) .normal Q)(h:(C9 b n Γ T l k st).map Prod.fst=some True:=by kernel_rfl):VX (cx P n y) st (.region id l.toArray b) Q:=za a.h d.h _ _ (Iy h) c
theorem jB[a:HG P Γ][d:HT P T][f:H7 P](k:List Nat){V:Prop}[Decidable V]{e:Option ρ}{id:Nat}{l:List Oper}{b:Bool}(H:gd V e=some r)(c:e=some r->FX (cx P n y) (nx (C9 b n Γ T l k st)) .normal Q)(h:(C9 b n Γ T l k st).map Prod.fst=some V:=by kernel_rfl):VX (cx P n y) st (.region id l.toArray b) Q:=zb a.h d.h _ _ H (Iy h) c
theorem iA[a:HG P Γ][e:HT P T][f:H7 P](k:List Nat){id:Nat}{l:List Oper}{b:Bool}{c:Code}(d:VX (cx P n y) (nx (C9 b n Γ T l k st)) c Q)(h:(C9 b n Γ T l k st).map Prod.fst=some True:=by kernel_rfl):VX (cx P n y) st (.seq (.region id l.toArray b) c) Q:=qa a.h e.h _ _ (Iy h) d
theorem iB[a:HG P Γ][f:HT P T][g:H7 P](k:List Nat){V:Prop}[Decidable V]{e:Option ρ}{id:Nat}{l:List Oper}{b:Bool}{c:Code}(H:gd V e=some r)(d:e=some r->VX (cx P n y) (nx (C9 b n Γ T l k st)) c Q)(h:(C9 b n Γ T l k st).map Prod.fst=some V:=by kernel_rfl):VX (cx P n y) st (.seq (.region id l.toArray b) c) Q:=qb a.h f.h _ _ H (Iy h) d
end
def UW(Q:Exit->Act->World->Prop)(K:Act->World->Prop):Exit->Act->World->Prop
 | .normal,a,w=>K a w
 | x,a,w=>Q x a w
theorem u0S{P:Program}{o:Oper}{Q:Exit->Act->World->Prop}{K N:Act->World->Prop}{a:Act}{w:World}(h:o.wp P a w N (UW Q K)):o.wp P a w N Q:=by
 unfold Oper.wp at h ⊢;generalize (execOp a.eval o).run P w=r at h ⊢;cases r with
 | ok n b=>cases n <;> exact h
 | halt c b=>cases c <;> exact h
theorem Qd{ops:Array Oper}{L:Array Bool}{i:Nat}(h:i∈Region.ready .any ops L):i<ops.size:=by
 grind[Region.ready]
section
variable {P:Program} {Q:Exit->Act->World->Prop} {l:List Oper} {o:Oper}
theorem My{i:Nat}(h:i<l.length):(l++[o])[i]?=l[i]?:=List.getElem?_append_left h
theorem UX:(l++[o])[l.length]?=some o:=by simp
theorem Gw{L:Array Bool}{i:Nat}{d:Bool}(a:L.size=l.length)(h:i<l.length):(L.push false).getD i d=L.getD i d:=by
 rw[Array.getD_eq_getD_getElem?,Array.getD_eq_getD_getElem?,Array.getElem?_push];rw[if_neg (by omega)]
theorem l0A{L:Array Bool}{d:Bool}(a:L.size=l.length):(L.push false).getD l.length d=false:=by
 rw[Array.getD_eq_getD_getElem?,Array.getElem?_push,if_pos (by omega)];rfl
theorem v0S{L:Array Bool}{i:Nat}(a:L.size=l.length)(h:i<l.length):(L.push false).setIfInBounds i true=(L.setIfInBounds i true).push false:=by
 grind
def UY(l:List Oper):Bool:=l.all fun o=>match o.guard with
 | some (j,_)=>Nat.blt j l.length
 | none=>true
theorem r0s{i:Nat}{oi:Oper}(a:UY l=true)(hi:l[i]?=some oi)(t:Array Value):Region.wanted oi (yielded (l++[o]).toArray t)=Region.wanted oi (yielded l.toArray t):=by
 have:=List.all_eq_true.1 a oi (List.mem_of_getElem? hi);unfold Region.wanted;cases e:oi.guard with
 | none=>rfl
 | some p =>
   obtain⟨j,b⟩:=p;rw[e] at this;have c:j<l.length:=by simpa using this
   grind[yielded,My]
theorem w0S(H:P8 0 l=true)(hg:UY l=true)(aH:∀k∈L3 o,k<l.length)(hw:∀D:Nat->Bool,DG D l->(∀k∈L3 o,D k=true)->∀k,k<l.length->D k=true) :
  ∀(fuel:Nat) (L:Array Bool) (a:Act) (w:World),L.size=l.length->DG (fun k=>L.getD k false) l->wpAny P .any l.toArray (UW Q fun a w=>wpOp P (l++[o]).toArray Q l.length (Q .normal) a w) fuel L a w->wpAny P .any (l++[o]).toArray Q (fuel+1) (L.push false) a w:=by
 have y:∀(i:Nat) (o:Oper) (k:Nat),l[i]?=some o->k∈L3 o->k<i:=by
  have:∀{m:List Oper} {i:Nat},P8 i m=true->∀j o k,m[j]?=some o->k∈L3 o->k<i+j:=by
   intro m
   induction m with
   | nil=>grind
   | cons o0 r ih =>
     intro i h j o k hj z;simp only[P8,ba,List.all_eq_true] at h;cases j with
     | zero=>simp_all
     | succ j=>grind
  intro i o k q c;have:=this H i o k q c; omega
 have V:∀(L:Array Bool),L.size=l.length->Region.ready .any l.toArray L=[]->∀i,i<l.length->L.getD i false=true:=by
  intro L b x i
  induction i using Nat.strongRecOn with
  | ind i aD =>
    intro hi;cases h:L.getD i false with
    | true=>rfl
    | false =>
      have:i∈Region.ready .any l.toArray L:=mem_ready.2 ⟨by
       grind,l[i],by grind,fun e u H=>aD e.on (y i l[i] e.on (List.getElem?_eq_getElem hi) (Bd.2 ⟨e,u,H,rfl⟩)) (by have:=y i l[i] e.on (List.getElem?_eq_getElem hi) (Bd.2 ⟨e,u,H,rfl⟩); omega)⟩
      rw[x] at this; cases this
 have v:∀(L:Array Bool),L.size=l.length->(∀i,i<l.length->L.getD i false=true)->Region.ready .any (l++[o]).toArray ((L.push false).setIfInBounds l.length true)=[]:=by
  intro L b h;cases x:Region.ready .any (l++[o]).toArray ((L.push false).setIfInBounds l.length true) with
  | nil=>rfl
  | cons i r =>
    have hi:i∈Region.ready .any (l++[o]).toArray ((L.push false).setIfInBounds l.length true):=by rw[x]; simp
    obtain⟨q,-,-,-⟩:=mem_ready.1 hi;have d:i<l.length+1:=by simpa using Qd hi
    by_cases e:i=l.length
    ·subst e;have W:l.length < (L.push false).size:=by simp; omega
     rw[Array.getD_eq_getD_getElem?,Array.getElem?_setIfInBounds,if_pos rfl,if_pos W] at q;cases q
    ·rw[getD_set_ne true (Ne.symm e),Gw b (by omega)] at q;have c:=h i (by omega);have W:i<L.size:=by omega
     rw[Array.getD_eq_getD_getElem?,Array.getElem?_eq_getElem W] at q c;have q:L[i]=false:=q;have c:L[i]=true:=c;rw[c] at q;cases q
 have aB:∀(L:Array Bool),L.size=l.length->(∀i,i<l.length->L.getD i false=true)->(∀k∈L3 o,k<l.length)->l.length∈Region.ready .any (l++[o]).toArray (L.push false):=by
  intro L b h z;refine mem_ready.2 ⟨l0A b,o,by grind,fun e u H=>?_⟩;have z:=z e.on (Bd.2 ⟨e,u,H,rfl⟩);rw[Gw b z];exact h _ z
 -- the last one ready: all others are done
 have s:∀(L:Array Bool) (i:Nat),L.size=l.length->DG (fun k=>L.getD k false) l->i∈Region.ready .any (l++[o]).toArray (L.push false)->(i<l.length/\i∈Region.ready .any l.toArray L)∨(i=l.length/\∀k,k<l.length->L.getD k false=true):=by
  intro L i b t hi;obtain⟨q,oi,c,n⟩:=mem_ready.1 hi;have d:i<l.length+1:=by simpa using Qd hi
  rw[List.getElem?_toArray] at c;by_cases e:i=l.length
  ·subst e;rw[UX] at c;cases c;refine .inr ⟨rfl,hw (fun k=>L.getD k false) t fun k z=>?_⟩;obtain⟨e,u,g,rfl⟩:=Bd.1 z;have:=n e u g;by_cases aF:e.on<l.length
   ·rwa [Gw b aF] at this
   ·by_cases aG:e.on=l.length
    ·rw[aG,l0A b] at this; cases this
    ·rw[Array.getD_eq_getD_getElem?,Array.getElem?_eq_none (by simp; omega)] at this;cases this
  ·have f:i<l.length:=by omega
   rw[My f] at c;refine .inl ⟨f,mem_ready.2 ⟨by rwa [Gw b f] at q,oi,by rw[List.getElem?_toArray]; exact c,fun e u g=>?_⟩⟩;have:=n e u g
   rwa [Gw b (Nat.lt_trans (y i oi e.on c (Bd.2 ⟨e,u,g,rfl⟩)) f)] at this
 have Y:∀(L:Array Bool) (i:Nat),L.size=l.length->i∈Region.ready .any l.toArray L->i∈Region.ready .any (l++[o]).toArray (L.push false):=by
  intro L i b hi;obtain⟨q,oi,c,n⟩:=mem_ready.1 hi;have d:i<l.length:=by simpa using Qd hi
  rw[List.getElem?_toArray] at c;refine mem_ready.2 ⟨by rwa [Gw b d],oi,by rw[List.getElem?_toArray,My d]; exact c,fun e u g=>?_⟩;rw[Gw b (Nat.lt_trans (y i oi e.on c (Bd.2 ⟨e,u,g,rfl⟩)) d)];exact n e u g
 intro fuel
 induction fuel with
 | zero =>
   rintro L a w b t ⟨x,hq⟩;have ha:=V L b x;refine⟨fun X=>?_,fun i hi=>?_⟩
   ·grind
   ·rcases s L i b t hi with ⟨_,c⟩ | ⟨rfl,_⟩
    ·grind
    ·exact wpOp_mono (fun a' w' h=>⟨v L b ha,h⟩) hq
 | succ fuel ih =>
   rintro L a w b t ⟨h0,q⟩;refine⟨fun X=>?_,fun i hi=>?_⟩
   ·exfalso;cases x:Region.ready .any l.toArray L with
    | nil =>
      grind
    | cons i r =>
      have:=Y L i b (by grind);rw[X] at this;cases this
   ·rcases s L i b t hi with ⟨d,c⟩ | ⟨rfl,ha⟩
    ·have n:=q i c;obtain⟨_,oi,g2,g3⟩:=mem_ready.1 c;rw[List.getElem?_toArray] at g2;have aA:∀k,(L.setIfInBounds i true).getD k false=if k=i then true else L.getD k false:=fun k=>by
      by_cases E:k=i
      ·simp_all
      ·rw[if_neg E]; exact getD_set_ne false (Ne.symm E)
     have F:DG (fun k=>(L.setIfInBounds i true).getD k false) l:=fun k o' z hD m hm=>by
      simp only[aA] at hD ⊢;by_cases aC:m=i
      ·grind
      ·rw[if_neg aC];by_cases E:k=i
       ·grind[Bd]
       ·rw[if_neg E] at hD;exact t k o' z hD m hm
     rw[v0S b d];unfold wpOp at n ⊢;rw[List.getElem?_toArray,g2] at n;rw[List.getElem?_toArray,My d,g2];simp only[r0s (o:=o) hg g2] at n ⊢;split at n
     ·rename_i G;rw[if_pos G];rcases n with n | n
      ·exact .inl (Oper.wp_mono (fun a' w' h=>ih _ a' w' (by grind) F h) (u0S n))
      ·exact .inr n
     ·rename_i G;rw[if_neg G];exact ih _ _ _ (by grind) F n
    ·have x:Region.ready .any l.toArray L=[]:=by
      cases x:Region.ready .any l.toArray L with
      | nil=>rfl
      | cons i r =>
        have f:i∈Region.ready .any l.toArray L:=by rw[x]; simp
        obtain⟨T,-,-,-⟩:=mem_ready.1 f;have d:i<l.length:=by simpa using Qd f
        have q2:=ha i d;have W:i<L.size:=by omega
        rw[Array.getD_eq_getD_getElem?,Array.getElem?_eq_getElem W] at T q2;have T:L[i]=false:=T;have q2:L[i]=true:=q2;rw[q2] at T;cases T
     exact wpOp_mono (fun a' w' h=>⟨fun _=>h,fun j hj=>by rw[v L b ha] at hj; cases hj⟩) (h0 x)
end
def Mz:List Oper->Option (List Oper×Oper)
 | []=>none
 | [o]=>some ([],o)
 | o :: r=>match Mz r with
   | some (l,x)=>some (o :: l,x)
   | none=>none
theorem l0W:∀{l l0:List Oper} {o:Oper},Mz l=some (l0,o)->l=l0++[o]
 | [],_,_,h=>by cases h
 | [a],_,_,h=>by
   simp only[Mz,oi,pj] at h
   grind
 | a :: b :: r,_,_,h=>by
   unfold Mz at h;split at h
   ·rename_i l x c;simp only[oi,pj] at h;obtain⟨rfl,rfl⟩:=h;rw[List.cons_append,<- l0W c]
   grind
def Qe(l0:List Oper)(o:Oper):Bool:=(L3 o).all (fun k=>Nat.blt k l0.length)&&(List.range l0.length).all fun k=>O1 k ((B8 (M6 [] (l0++[o])) l0.length).getD [])
def evU(n:Nat)(Γ:m3)(T:List Ct)(l:List Oper)(keep:List Nat)(f:FuncId)(T1:TypeId)(t1:Ty)(T2:TypeId)(t2:Ty)(ps:List m0)(st:St)(z:c7 t1×c7 t2):Option (Prop×(c7 t1×c7 t2×s8 ps)×Prop×St):=match Mz l with
 | some (l0,⟨some d,op,ty,pos,after,none⟩)=>bif K5 n 0 [] l&&P8 0 l&&P8 0 l0&&K6 st.e&&UY l0&&Qe l0 ⟨some d,op,ty,pos,after,none⟩ then(match Y0 Γ T l0 l0 st [] with
   | some (V,st1,rs)=>bif Ih (M6 [] l0) rs.reverse&&K6 st1.e then(match PZ st1 f T1 t1 T2 t2 ps op with
     | some (ii,x1,x2,xs)=>some (V,(x1,x2,xs),True,cut keep (Qa st1 d T1 t1 T2 t2 ii.1 ii.2 z))
     | none=>none) else none
   | none=>none) else none
 | _=>none
theorem p0P{a:List Oper}{o:Oper}(l:P8 0 (a++[o])=true)(h:Qe a o=true)(D:Nat->Bool)(v:DG D a)(E:∀k∈L3 o,D k=true):∀k,k<a.length->D k=true:=by
 unfold Qe at h;rw[ba] at h;have z:=List.all_eq_true.1 h.1;have s:=List.all_eq_true.1 h.2;have f:=Uf (all:=a++[o]) (rest:=a++[o]) (acc:=[]) (fun j=>by simp) l (fun i m h=>by grind);intro k n;have g:=BP.1 (s k (List.mem_range.2 n));rw[U8] at g;cases hbm:(M6 [] (a++[o]))[a.length]? with
 | none=>grind
 | some m =>
   rw[hbm] at g;obtain⟨F,w⟩:=f a.length m hbm;have:=w (fun j=>D j&&Nat.blt j a.length) (fun i q hi b j c=>by
    rw[ba] at b;have e:i<a.length:=by simpa using b.2
    rw[My e] at hi;have u:=v i q hi b.1 j c;have t:j<a.length:=by
     have d:∀{m:List Oper} {i:Nat},P8 i m=true->∀j o k,m[j]?=some o->k∈L3 o->k<i+j:=by
      intro m
      induction m with
      | nil=>grind
      | cons x r y =>
        intro i h j o k c n;simp only[P8,ba,List.all_eq_true] at h;cases j with
        | zero=>simp_all
        | succ j=>grind
     have:=d l i q j (by grind) c;omega
    simp_all) o UX (fun j c=>by
    grind) k g
   grind
theorem zU{P:Program}{n:Nat}{y:World×(Nat->Prop)×(Nat->Prop)×(Nat->Value->Prop)×Nat}{st:St}{Q:Exit->Act->World->Prop}{Γ:m3}{T:List Ct}{ρ:Type}{r:ρ}(aI:s6 P Γ)(hT:∀c∈T,Ok P c)[hm:H7 P]{f:FuncId}{T1:TypeId}{q:Ty}{T2:TypeId}{u:Ty}{ps:List m0}{F:c7 q->c7 u->s8 ps->Option (c7 q×c7 u)}(hk:Li P f T1 q T2 u ps F)
  (v:List Nat) (S:c7 q×c7 u->St) (W:c7 q×c7 u->Prop) {x1:c7 q} {x2:c7 u} {xs:s8 ps} [Inhabited (c7 q×c7 u)] {V:Prop} [Decidable V] {g:c7 q×c7 u->Option ρ} {id:Nat} {l:List Oper} (H:gd (V/\(F x1 x2 xs).isSome=true/\True) (lt (vl (F x1 x2 xs)) g)=some r)
  (h:∀z,evU n Γ T l v f T1 q T2 u ps st z=some (V,(x1,x2,xs),W z,S z)) (hc:∀z,g z=some r->W z/\FX (cx P n y) (S z) .normal Q):VX (cx P n y) st (.region id l.toArray true) Q:=by
 obtain⟨⟨hV,hs,-⟩,H⟩:=DK H;obtain⟨z,hz⟩:=Option.isSome_iff_exists.1 hs;rw[hz] at H;have H:g z=some r:=H;have m:=h z;obtain⟨-,c2⟩:=hc z H;unfold evU at m;split at m
 ·rename_i e d Y ty pos after hl;rw[ce] at m;split at m
  ·rename_i hb;simp only[ba] at hb;obtain⟨⟨⟨⟨⟨b1,b2⟩,b3⟩,b4⟩,b5⟩,b6⟩:=hb;have el:=l0W hl;split at m
   ·rename_i V' aF aN g1;rw[ce] at m;split at m
    ·rename_i E;rw[ba] at E;split at m
     ·rename_i ii y1 y2 ys ha;simp only[oi,pj] at m;obtain⟨rfl,⟨rfl,rfl,rfl⟩,-,eS⟩:=m;intro G a Sa ho hE;obtain⟨recs,e1,e2,e3,e4⟩:=Ic (DJ (K:=fun aH rs=>Ih (M6 [] e) rs.reverse=true/\aH=aF) g1 hV ⟨E.1,rfl⟩);rw[List.append_nil,List.reverse_reverse] at e3;refine wp_region_any hm.h ?_;have aC:Ext G.w { G.w with drawn:=G.w.drawn+1 }:=(Below.refl _ _).drew;obtain⟨S1,L1⟩:=Sa.ext aC;rw[el] at b1;obtain⟨k1,sn,k2,-,-⟩:=US (a:=e) (b:=[⟨some d,Y,ty,pos,after,none⟩]) b1;have aL:d<n:=by
       have hd:=(Uh b1).1 e.length ⟨some d,Y,ty,pos,after,none⟩ d UX rfl;exact hd.1
      have aJ:=p0q aI hT (X:=cx P n y) (Q:=UW Q fun a w=>wpOp P (e++[(⟨some d,Y,ty,pos,after,none⟩:Oper)]).toArray Q e.length (Q .normal) a w) (l:=e) (recs:=recs) (st:=st) e1 e2 (CI b4) k1 b3 e3 (fun G' a' S' aB aA=>by
        rw[e4] at aB aA;show wpOp P (e++[(⟨some d,Y,ty,pos,after,none⟩:Oper)]).toArray Q e.length (Q .normal) a' G'.w;have aR:=z0D (i1:=ii.1) (i2:=ii.2) (ty:=ty) (pos:=pos) (after:=after) (ops:=(e++[(⟨some d,Y,ty,pos,after,none⟩:Oper)]).toArray) (Q:=Q) (K:=Q .normal) hk S' aB aA ha aL (fun t s ht x hx=>by grind[CI]) hz fun a2 G2 aD aG aK=>by
         obtain⟨G3,S3,aO,aP,aQ⟩:=Pw v aD aG aK;have:=c2 G3 a2 S3 (by grind) (by grind)
         grind
        grind[V0,wpOp]) e.length (Array.replicate e.length false) { G with w:={ G.w with drawn:=G.w.drawn+1 } } a
       (by grind) (by simp) (fun i o _ hD=>by
         by_cases hi:i<e.length
         ·simp_all
         grind) S1 (fun id=>by
         have:∀{recs:List u0} {i:Nat} {st:St},(∀j,(Array.replicate e.length false).getD j false=false)->w7 (fun k=>(Array.replicate e.length false).getD k false) i recs st=st:=by
          intro recs
          induction recs with
          | nil=>intro i st _; rfl
          | cons R r ih=>grind[w7]
         rw[this (fun j=>by by_cases hj:j<e.length <;> simp[hj])]
         grind) (by
         have:∀{recs:List u0} {i:Nat} {st:St},(∀j,(Array.replicate e.length false).getD j false=false)->w7 (fun k=>(Array.replicate e.length false).getD k false) i recs st=st:=by
          intro recs
          induction recs with
          | nil=>intro i st _; rfl
          | cons R r ih=>grind[w7]
         rw[this (fun j=>by by_cases hj:j<e.length <;> simp[hj])];exact hE.mono L1)
      have aM:=w0S (Q:=Q) b3 b5 (fun k hk=>by
       have:=b6;unfold Qe at this
       simp_all) (p0P (by grind) b6) e.length (Array.replicate e.length false) a _ (by simp) (fun i o _ hD=>by
        by_cases hi:i<e.length
        ·simp_all
        grind) aJ
      grind
     grind
    grind
   grind
  grind
 grind
def UZ(d:Nat)(T:TypeId)(t:Ty)(cs:List AV)(st:St):Option St:=match B0 ((d,.box T cs) :: st.o) 24 t cs,V3 d 0 true .bool ([]:List Bool) st.o with
 | some (x,[],_),some o'=>some ⟨(d,⟨[],.d false (.pt t) x⟩) :: CM d 0 true .bool ([]:List Bool) st.e,o'⟩
 | _,_=>none
def evX(n:Nat)(Γ:m3)(T:List Ct)(l:List Oper)(i:Nat)(keep:List Nat)(t:Ty)(st:St):Option (Prop×St):=bif K5 n 0 [] l&&K6 st.e then(match Y0 Γ T l (l.take i) st [] with
    | some (V,st1,_)=>(match B8 l i with
      | some ⟨some d,.box T1 x,_,_,_,none⟩=>(match rd st1 [] x with
        | some v=>(match AW v with
          | some cs=>bif U9 st1.o d&&K6 st1.e&&Gu st1.e&&Nat.blt d 500000 then(match UZ d T1 t cs st1 with
            | some st2=>bif K6 st2.e then(match Y0 Γ T l (l.drop (i+1)) st2 [] with
              | some (W,st3,_)=>some (V/\W,cut keep st3)
              | none=>none) else none
            | none=>none) else none
          | none=>none)
        | none=>none)
      | _=>none)
    | none=>none) else none
theorem B0S{X:Cx}{G:Gh}{a:Act}{st g:St}{d:Nat}{T:TypeId}{t:Ty}{cs:List AV}(h:UZ d T t cs st=some g)(Y:Gu st.e=true)(hp:K6 st.e=true)(v:Nat.blt d 500000=true)(hd:a8 st.o d=none)(V:d<X.n)(S:Sat X G)(P:G.o=st.o)(Q:EnvR X.n G st.e a){us:Array Value}(hA:AVRs G cs us.toList) :
  ∃G',G'.w=G.w.alloc (.cells us T)/\Sat X G'/\G'.o=g.o/\EnvR X.n G' g.e (a.put (some d) (.pointer (some ⟨G.w.heap.size,0,none⟩))):=by
 obtain⟨f,w1,r,W,E,y⟩:=TP S (T:=T) (by rw[P]; exact hd) hA;have hl:a8 f.o d=some (.box T cs):=by rw[E,lK,if_pos rfl]
 obtain⟨_,b,q,hb⟩:=y;cases hb;obtain⟨b',vs,g1,g2,g3,g4⟩:=r.obs d _ hl;rw[q] at g2;cases g2;unfold UZ at h;split at h
 ·rename_i x fl i j hz;cases h;rw[<- P,<- E] at j;have z:V3 d 0 true .bool ([]:List Bool) f.o=some i:=by
   rw[E,P];unfold V3;rw[Nat.beq_refl];exact hz
  have l:Is f d 0 true .bool ([]:List Bool) i:=fun u hu=>by
   rcases hu with ⟨_,T1,aC,t1,aB,aA,m,_⟩ | ⟨_,⟨_,_,_,_,_,_,m⟩,_⟩
   ·grind
   grind
  have hB:f.B<=G.w.heap.size:=by
   rw[W.hB];exact Nat.le_trans S.le S.size
  have S2:=UM r hl (fun k c=>by
   rw[g1] at c;cases c;exact⟨⟨_,_,g3⟩,hB⟩) l z v
  refine⟨CN f d i,w1,S2,rfl,?_⟩;have F:=Q.mono W;have H:EnvR X.n (CN f d i) (CM d 0 true .bool ([]:List Bool) st.e) a:=⟨Q.defers,Q.size,fun k s c=>by
   obtain⟨b,m,h2⟩:=It Y c;obtain⟨h3,h4⟩:=F.val k _ m
   grind[PS]⟩
  refine EnvR.put (st:=⟨CM d 0 true .bool ([]:List Bool) st.e,i⟩) H V (fun _ h=>by cases h) (fun k s c x j=>?_) ⟨fun _=>?_,fun h=>(h (fun _ h=>by cases h)).elim⟩
  ·obtain⟨b,m,_⟩:=It Y c;rw[CI hp k _ m] at j;cases j
  ·have hR:=BH (K':=(CN f d i).K) r (fun k c=>.inl c) 24 j (fun _ h=>by cases h) g4;exact⟨_,0,vs,rfl,⟨.inr (.inl g1),fun e=>by cases e⟩,g3.at,RT.up hR (fun k c=>⟨c.1,fun e=>by cases e⟩)⟩
 grind
theorem zX{P:Program}{n:Nat}{y:World×(Nat->Prop)×(Nat->Prop)×(Nat->Value->Prop)×Nat}{st:St}{Q:Exit->Act->World->Prop}{Γ:m3}{T:List Ct}(m:s6 P Γ)(hT:∀c∈T,Ok P c)(i:Nat)(b:List Nat)(t:Ty)(st':St){V W:Prop}{id:Nat}{l:List Oper}
  (h:evX n Γ T l i b t st=some (V/\W,st')) (e:V/\W) (hc:FX (cx P n y) st' .normal Q):VX (cx P n y) st (.region id l.toArray false) Q:=by
 unfold evX at h;rw[ce] at h;split at h
 ·rename_i g;rw[ba] at g;split at h
  ·rename_i V1 aA F g1;split at h
   ·rename_i d T1 x ty H o hn;split at h
    ·rename_i v hv;split at h
     ·rename_i cs f;rw[ce] at h;split at h
      ·rename_i w;simp only[ba] at w;obtain⟨⟨⟨f1,E⟩,f3⟩,f4⟩:=w;split at h
       ·rename_i s k;rw[ce] at h;split at h
        ·rename_i j;split at h
         ·rename_i W1 q r g3;simp only[oi,pj] at h;obtain⟨Y,e2⟩:=h;rw[<- Y] at e;refine t0e (X:=cx P n y) m hT b g.1 g.2 g1 e.1 hn E fun u G a S ho z K hK=>?_;obtain⟨hA,_⟩:=HS f (x8 z (p:=[]) (fun _ h=>by cases h) hv);obtain⟨G',k1,k2,k3,k4⟩:=B0S k f3 E f4 (CF f1) (u _ rfl) S ho z hA;have:=hK s W1 q r G' _ j g3 e.2 (by grind) k2 k3 k4;unfold V0;rw[if_pos (by rfl)];unfold Oper.wp;simp only[execOp];rw[k1] at this;exact this
         grind
        grind
       grind
      grind
     grind
    grind
   grind
  grind
 grind
section
variable {P:Program} {n:Nat} {y:World×(Nat->Prop)×(Nat->Prop)×(Nat->Value->Prop)×Nat} {st:St} {Q:Exit->Act->World->Prop} {Γ:m3} {T:List Ct} {ρ:Type} {r:ρ} {l:List Oper} {id i:Nat} {V:Prop} [Decidable V]
def n3{α β:Type}(o:Option (α×β×St)):St:=match o with
 | some (_,_,s)=>s
 | none=>⟨[],[]⟩
theorem c8{P:Program}{Γ:m3}[HG P Γ]{f:FuncId}{ps:List m0}{c:Type}[Inhabited c]{F:s8 ps->Option c}{R:c->AV}{Z:c->A3 ps}{b:Func}{a:Code}(rs:List ResultVar)(i:P.funcs[f]?=some b)
 (h:∀y x r,F x=some r->∀Q,PV (cx P b.ntmps y) Γ rs ps R Z r .normal Q->PV (cx P b.ntmps y) Γ rs ps R Z r .ret Q->VX (cx P b.ntmps y) ⟨I1 0 ps x,F0 0 ps x⟩ a Q)
 (j:b.body=some a:=by rfl) (g:b.results=rs.toArray:=by kernel_rfl) (e:AT P f=true:=by kernel_rfl) (d:(Nat.ble ps.length b.ntmps&&X8 ps)=true:=by kernel_rfl):Ok P (b9 f ps F R Z):=okL rs i rfl g h j e d
end
theorem hz{P:Program}{T:List Ct}(h:∀c∈T,Ok P c):HT P T:=⟨h⟩
instance (priority:=low){P:Program}:HT P []:=⟨@tn P⟩
def Iz(f:FuncId)(ps:List m0){ζ:Type}(R:ζ->AV)(Z:ζ->A3 ps)(v:ζ):Ct:=⟨f,ps,fun _=>⟨True,R v,Z v⟩⟩
section
variable {P:Program} {n:Nat} {y:World×(Nat->Prop)×(Nat->Prop)×(Nat->Value->Prop)×Nat} {st:St} {Q:Exit->Act->World->Prop} {Γ:m3} {T:List Ct} {ρ:Type} {r:ρ} {f:FuncId} {ps:List m0} {ζ:Type} [Inhabited ζ] {F:s8 ps->Option ζ} {R:ζ->AV} {Z:ζ->A3 ps} {V:Prop} [Decidable V] {x:ζ} {g:ζ->Option ρ} {id:Nat} {l:List Oper} {b:Bool}
theorem iD[a:HG P Γ][e:HT P T][j:H7 P](_:Ok P (b9 f ps F R Z))(k:List Nat){c:Code}(H:gd V (lt x g)=some r)(i:∀v,g v=some r->VX (cx P n y) (nx (C9 b n Γ (Iz f ps R Z v :: T) l k st)) c Q)(h:(C9 b n Γ T l k st).map Prod.fst=some V:=by kernel_rfl)(d:nx (C9 b n Γ T l k st)=nx (C9 b n Γ (Iz f ps R Z x :: T) l k st):=by kernel_rfl):VX (cx P n y) st (.seq (.region id l.toArray b) c) Q :=
 qd a.h e.h k (fun v=>nx (C9 b n Γ (Iz f ps R Z v :: T) l k st)) H ((Iy h).trans (congrArg (fun s=>some (V,s)) d)) i
theorem jD[a:HG P Γ][d:HT P T][i:H7 P](_:Ok P (b9 f ps F R Z))(k:List Nat)(H:gd V (lt x g)=some r)(e:∀v,g v=some r->FX (cx P n y) (nx (C9 b n Γ (Iz f ps R Z v :: T) l k st)) .normal Q)(h:(C9 b n Γ T l k st).map Prod.fst=some V:=by kernel_rfl)(c:nx (C9 b n Γ T l k st)=nx (C9 b n Γ (Iz f ps R Z x :: T) l k st):=by kernel_rfl):VX (cx P n y) st (.region id l.toArray b) Q :=
 zd a.h d.h k (fun v=>nx (C9 b n Γ (Iz f ps R Z v :: T) l k st)) H ((Iy h).trans (congrArg (fun s=>some (V,s)) c)) e
end
end Go.Proofs.Xv
end
