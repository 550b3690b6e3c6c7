/- Plain facts on ZH functions: sizes, copies, comparisons. Over any program. -/
import Derived.Test.YtechodbafnmddaaGreatDoorXD
import Derived.Test.YtechodbafnmddaaGreatDoorXA
import Derived.Lib.SliceRun
import Derived.Sort.Grow
set_option maxHeartbeats 0
section
namespace Go.Proofs.Xd
open Go Go.Proofs.Xv Go.Proofs.Xl
theorem lE{a b:Type}{x:a}{f:a->b}:lt x f=f x:=rfl
theorem H0{o:Option Int}{m n:Nat}{l:Int}{k:Int->Option Int}(h:o=some (n6 m l))(a:∀v,0<=v->v<=l->k v=some (n6 n v))(_:0<=l) :
  gd (o.isSome=true/\True) (lt (vl o) fun v=>if(decide (v<0))=true then some (-1) else k v)=some (n6 (m+n) l):=by
 subst h;rw[gP ⟨rfl,trivial⟩];show(if(decide (n6 m l<0))=true then some (-1) else k (n6 m l))=_
 grind[n6]
theorem Bc{s n:Nat}{l:Int}{k:Option Int}(b:s<=9223372036854775807)(e:0<=l)(d:l<=9223372036854775807)(a:0<=l-(s:Int)->k=some (n6 n (l-(s:Int)))) :
  gd (c7 (l-(s:Int))/\True) (if(decide (l-(s:Int)<0))=true then some (-1) else k)=some (n6 (s+n) l):=by
 rw[gP ⟨oo,trivial⟩];by_cases c:l-(s:Int)<0
 ·rw[if_pos (by grind),A0d c]
 ·rw[if_neg (by grind),a (by omega),A0c (by omega)]
theorem M4{v:Int}(h:0<=v):some v=some (n6 0 v):=by rw[u0T h]
theorem E0A{T:Type}(xs:List T)(d:T)(c:T->Nat){F:(Int×Int->Option Int)->Int×Int->Option Int}{M:Int}
  (a:∀g (v:Int) (i:Nat),i<xs.length->0<=v->v<=M->F g (v,(i:Int))=if n6 (c (xs.getD i d)) v<0 then some (-1) else g (n6 (c (xs.getD i d)) v,(i:Int)+1))
  (f:∀g (v:Int) (i:Nat),xs.length<=i->F g (v,(i:Int))=some v):∀(n i:Nat) (v:Int),0<=v->v<=M->i<=xs.length->xs.length-i<n->D5 F n (v,(i:Int))=some (n6 ((xs.drop i).map c).sum v)
 | 0,i,v,_,_,_,h=>by omega
 | n+1,i,v,hv,hM,hi,hn=>by
   show F (D5 F n) (v,(i:Int))=_;by_cases h:i<xs.length
   ·rw[a _ _ _ h hv hM];have e:xs.drop i=xs.getD i d :: xs.drop (i+1):=by
     rw[List.drop_eq_getElem_cons h,gq,List.getElem?_eq_getElem h]; rfl
    rw[e,List.map_cons,List.sum_cons];split
    ·rename_i b;rw[r0O b]
    ·rename_i b;rw[r0N (by omega)];have:=E0A xs d c a f n (i+1) (n6 (c (xs.getD i d)) v) (by omega) (by have:=(E0B (n:=c (xs.getD i d)) hv).2; omega) (by omega) (by omega)
     grind
   grind[List.drop_eq_nil_of_le,M4]
theorem CM{T:Type}{xs:List T}{d:T}{c:T->Nat}{F:(Int×Int->Option Int)->Int×Int->Option Int}{l:Int}(a:xs.length<=9223372036854775807)(j:0<=l)(b:l<=9223372036854775807)
  (e:∀g (v:Int) (i:Nat),i<xs.length->0<=v->v<=9223372036854775807->F g (v,(i:Int))=if n6 (c (xs.getD i d)) v<0 then some (-1) else g (n6 (c (xs.getD i d)) v,(i:Int)+1))
  (f:∀g (v:Int) (i:Nat),xs.length<=i->F g (v,(i:Int))=some v) :
  gd (c7 (l-(xs.length:Int))/\True) (if(decide (l-(xs.length:Int)<0))=true then some (-1) else lp F (l-(xs.length:Int),0))=some (n6 (xs.length+(xs.map c).sum) l):=by
 refine Bc a j b fun h=>?_;have:=E0A xs d c e f J0 0 (l-(xs.length:Int)) h (by omega) (by omega) (by grind[J0])
 grind[lp]
theorem DZ{o:Option Int}{m i a:Nat}{v:Int}{g:Int×Int->Option Int}{k:Option Int}(h:o=some (n6 m v))(hi:i<a)(b:a<=9223372036854775807) :
  (if(decide ((i:Int) < (a:Int)))=true then gd (ix (i:Int) a/\o.isSome=true/\True) (lt (vl o) fun v3=>if(decide (v3<0))=true then some (-1) else gd (c7 ((i:Int)+1)/\True) (g (v3,(i:Int)+1))) else k) =
    if n6 m v<0 then some (-1) else g (n6 m v,(i:Int)+1):=by
 subst h;rw[if_pos (by grind),gP ⟨oo,rfl,trivial⟩];show(if(decide (n6 m v<0))=true then some (-1) else gd (c7 ((i:Int)+1)/\True) (g (n6 m v,(i:Int)+1)))=_;rw[gP ⟨oo,trivial⟩]
 grind
theorem H0m{m i a:Nat}{v:Int}{g:Int×Int->Option Int}{k:Option Int}(hi:i<a)(f:a<=9223372036854775807)(b:m<=9223372036854775807)(d:0<=v)(e:v<=9223372036854775807) :
  (if(decide ((i:Int) < (a:Int)))=true then gd (ix (i:Int) a/\c7 (v-(m:Int))/\True) (lt (v-(m:Int)) fun v3=>if(decide (v3<0))=true then some (-1) else gd (c7 ((i:Int)+1)/\True) (g (v3,(i:Int)+1))) else k) =
    if n6 m v<0 then some (-1) else g (n6 m v,(i:Int)+1):=by
 rw[if_pos (by grind),gP ⟨oo,oo,trivial⟩];show(if(decide (v-(m:Int)<0))=true then some (-1) else gd (c7 ((i:Int)+1)/\True) (g (v-(m:Int),(i:Int)+1)))=_;rw[gP ⟨oo,trivial⟩];by_cases c:v-(m:Int)<0
 ·rw[if_pos (by grind),if_pos (by grind[y0Q])]
 ·rw[if_neg (by grind),TT (by omega),if_neg c]
theorem CN{c i:Nat}{a b:Option Int}(h:c<=i):(if(decide ((i:Int) < (c:Int)))=true then a else b)=b:=if_neg (by grind)
theorem F6{a b:Type}[Inhabited a]{o:Option a}{x:a}{k:a->Option b}{r:Option b}(h:o=some x)(c:k x=r):gd (o.isSome=true/\True) (lt (vl o) k)=r:=by
 subst h;rw[gP ⟨rfl,trivial⟩];exact c
theorem A0W{b:Type}(a:List b)(z _:b)(s:Nat)(h:s<a.length):(a.take s++List.replicate (a.length-s) z).length=a.length:=by
 grind
theorem E0x{T:Type}(xs:List T)(z d:T){F:(Int×List T->Option (List T))->Int×List T->Option (List T)}
  (a:∀g (i:Nat) (ys:List T),i<xs.length->ys.length=xs.length->F g ((i:Int),ys)=g ((i:Int)+1,ys.set i (xs.getD i d)))
  (b:∀g (i:Nat) ys,xs.length<=i->F g ((i:Int),ys)=some ys):∀(n i:Nat),i<=xs.length->xs.length-i<n->D5 F n ((i:Int),xs.take i++List.replicate (xs.length-i) z)=some xs
 | 0,i,_,h=>by omega
 | n+1,i,hi,hn=>by
   show F (D5 F n) ((i:Int),_)=_;by_cases h:i<xs.length
   ·rw[a _ _ _ h (A0W xs z d i h),t0h xs z d i h];have:=E0x xs z d a b n (i+1) (by omega) (by omega)
    grind
   grind[w0k]
theorem Y2{T:Type}{xs:List T}{z d:T}{F:(Int×List T->Option (List T))->Int×List T->Option (List T)}{b:Nat}(a:xs.length<=1048576)(c:b<=4096)
  (e:∀g (i:Nat) (ys:List T),i<xs.length->ys.length=xs.length->F g ((i:Int),ys)=g ((i:Int)+1,ys.set i (xs.getD i d)))
  (f:∀g (i:Nat) ys,xs.length<=i->F g ((i:Int),ys)=some ys) :
  gd ((0<=(xs.length:Int)/\(xs.length:Int)=(xs.length:Int)/\(xs.length:Int).toNat*b<=281474976710656/\(xs.length:Int)<=9223372036854775807)/\True) (lp F (0,List.replicate (xs.length:Int).toNat z))=some xs:=by
 have h:xs.length*b<=1048576*4096:=Nat.mul_le_mul a c;rw[gP ⟨⟨by omega,rfl,by grind,by omega⟩,trivial⟩,Int.toNat_natCast];have:=E0x xs z d e f J0 0 (by omega) (by grind[J0])
 grind[lp]
theorem BR{T:Type}{o:Option T}[Inhabited T]{x:T}{i a:Nat}{b:List T}{g:Int×List T->Option (List T)}{k:Option (List T)}(h:o=some x)(hi:i<a)(d:a<=9223372036854775807)(c:b.length=a) :
  (if(decide ((i:Int) < (a:Int)))=true then gd (ix (i:Int) a/\o.isSome=true/\ix (i:Int) b.length/\(i:Int).toNat<b.length/\True) (lt (vl o) fun v4=>gd (c7 ((i:Int)+1)/\True) (g ((i:Int)+1,b.set (i:Int).toNat v4))) else k)=g ((i:Int)+1,b.set i x):=by
 subst h;rw[if_pos (by grind),gP ⟨oo,rfl,oo,by omega,trivial⟩];rw[lE,vS,gP ⟨oo,trivial⟩,Int.toNat_natCast]
theorem Rc{T:Type}{x:T}{i a:Nat}{b:List T}{g:Int×List T->Option (List T)}{k:Option (List T)}(hi:i<a)(d:a<=9223372036854775807)(c:b.length=a) :
  (if(decide ((i:Int) < (a:Int)))=true then gd (ix (i:Int) a/\ix (i:Int) b.length/\(i:Int).toNat<b.length/\True) (gd (c7 ((i:Int)+1)/\True) (g ((i:Int)+1,b.set (i:Int).toNat x))) else k)=g ((i:Int)+1,b.set i x):=by
 rw[if_pos (by grind),gP ⟨oo,oo,by omega,trivial⟩,gP ⟨oo,trivial⟩,Int.toNat_natCast]
theorem Y3{T:Type}{c i:Nat}{a b:Option T}(h:c<=i):(if(decide ((i:Int) < (c:Int)))=true then a else b)=b:=if_neg (by grind)
theorem F7{o:Option Bool}{k r:Option Bool}(h:o=some true)(a:k=r):gd (o.isSome=true/\True) (if(!vl o)=true then some false else k)=r:=by
 subst h;rw[gP ⟨rfl,trivial⟩];exact a
theorem Np{p:Prop}[Decidable p]{k r:Option Bool}(h:p)(a:k=r):(if(!decide p)=true then some false else k)=r:=by
 grind
theorem O0{x:Int}{k r:Option Bool}(a:k=r):(if(x != x)=true then some false else k)=r:=by
 grind
theorem P6{x:Bool}{k r:Option Bool}(a:k=r):(if(x != x)=true then some false else k)=r:=by
 grind
theorem I0p{x:Bool}{k r:Option Bool}(a:k=r):(if(!(x==x))=true then some false else k)=r:=by
 grind
theorem F0k(a:Nat){F:(Int->Option Bool)->Int->Option Bool}(b:∀g (i:Nat),i<a->F g (i:Int)=g ((i:Int)+1))(c:∀g (i:Nat),a<=i->F g (i:Int)=some true):∀(n i:Nat),i<=a->a-i<n->D5 F n (i:Int)=some true
 | 0,i,_,h=>by omega
 | n+1,i,hi,hn=>by
   show F (D5 F n) (i:Int)=_;by_cases h:i<a
   ·rw[b _ _ h]
    exact_mod_cast F0k a b c n (i+1) (by omega) (by omega)
   grind
theorem Y4{a:Nat}{F:(Int->Option Bool)->Int->Option Bool}(d:a<=9223372036854775807)(b:∀g (i:Nat),i<a->F g (i:Int)=g ((i:Int)+1))(c:∀g (i:Nat),a<=i->F g (i:Int)=some true) :
  (if((a:Int) != (a:Int))=true then some false else lp F 0)=some true :=
 O0 (F0k a b c J0 0 (by omega) (by grind[J0]))
theorem BS{o:Option Bool}{i a:Nat}{g:Int->Option Bool}{k:Option Bool}(h:o=some true)(hi:i<a)(b:a<=9223372036854775807) :
  (if(decide ((i:Int) < (a:Int)))=true then gd (ix (i:Int) a/\ix (i:Int) a/\o.isSome=true/\True) (if(!vl o)=true then some false else gd (c7 ((i:Int)+1)/\True) (g ((i:Int)+1))) else k)=g ((i:Int)+1):=by
 subst h;rw[if_pos (by grind),gP ⟨oo,oo,rfl,trivial⟩,vS,if_neg (by simp),gP ⟨oo,trivial⟩]
theorem Re{b:Bool}{i a:Nat}{g:Int->Option Bool}{k:Option Bool}(h:b=false)(hi:i<a)(c:a<=9223372036854775807) :
  (if(decide ((i:Int) < (a:Int)))=true then gd (ix (i:Int) a/\ix (i:Int) a/\True) (if b=true then some false else gd (c7 ((i:Int)+1)/\True) (g ((i:Int)+1))) else k)=g ((i:Int)+1):=by
 subst h;rw[if_pos (by grind),gP ⟨oo,oo,trivial⟩,if_neg (by simp),gP ⟨oo,trivial⟩]
theorem K2{t:Ty}{a:List (j2 t)}{i:Nat}{d:j2 t}{m:Nat}(h:i<a.length)(b:j0 (.sl t) a<=m):j0 t (a.getD i d)<=m:=by
 grind[Aq,F0q]
theorem w4{t:Ty}{a:List (j2 t)}{m:Nat}(b:j0 (.sl t) a<=m):a.length<=m:=by
 grind[Aq]
theorem cF{s t:Ty}{x:j2 (.pr s t)}{m:Nat}(h:j0 (.pr s t) x<=m):j0 s x.1<=m:=by
 grind[S0]
theorem cS{s t:Ty}{x:j2 (.pr s t)}{m:Nat}(h:j0 (.pr s t) x<=m):j0 t x.2<=m:=by
 grind[S0]
theorem H2{t:Ty}{a:List (j2 t)}{i:Nat}{d:j2 t}(h:i<a.length)(b:wf (.sl t) a):wf t (a.getD i d):=by
 rw[gq,List.getElem?_eq_getElem h];exact b.2 _ (List.getElem_mem h)
theorem dlt{i n:Nat}:decide ((i:Int) < (n:Int))=decide (i<n):=by
 grind
theorem NF{n:Nat}(h:n<=9223372036854775807):n+1<J0:=by grind[J0]
theorem A0C{a b:Type}{F:(a->Option b)->a->Option b}{s:a}{r:Option b}(h:∀n,0<n->D5 F n s=r):lp F s=r:=h J0 (by grind[J0])
theorem Sq{b e c:Type}{n:Nat}(l:n<=9223372036854775807)(mk:Nat->b->e)(f:Nat->b->Option b)(x:Nat->b->Option c)(I:Nat->b->Prop){J:b->Option c}{F:(e->Option c)->e->Option c}
  (r:∀g i s,i<n->I i s->F g (mk i s)=match f i s with | some s'=>g (mk (i+1) s') | none=>x i s) (q:∀i s s',i<n->I i s->f i s=some s'->I (i+1) s') (t:∀g s,I n s->F g (mk n s)=J s)
  (a:Nat->b->Option c) (r0:∀s,I n s->a n s=J s) (o:∀i s,i<n->I i s->a i s=match f i s with | some s'=>a (i+1) s' | none=>x i s) (k:Nat) (j:k<=n) (s:b) (h:I k s):lp F (mk k s)=a k s:=by
 have d:∀(m i:Nat) (s:b),i<=n->n-i<m->I i s->D5 F m (mk i s)=a i s:=by
  intro m
  induction m with
  | zero=>omega
  | succ m u =>
    grind[hi,D5]
 exact d J0 k s j (by have:=NF l; omega) h
theorem Dc{a:Type}{n:Nat}(f:n<=9223372036854775807)(c:Nat->Bool)(x:Nat->Option a){e:Option a}{F:(Int->Option a)->Int->Option a}(k:Nat)(d:k<=n)(l:∀g (i:Nat),k<=i->i<n->F g (i:Int)=if c i=true then x i else g ((i:Int)+1))
  (j:∀g,F g (n:Int)=e):lp F (k:Int)=match(List.range' k (n-k)).find? c with | some i=>x i | none=>e:=by
 have:=Sq f (fun i (_:Unit)=>(i:Int)) (fun i _=>if c i=true then none else some ()) (fun i _=>x i) (fun i _=>k<=i) (J:=fun _=>e) (F:=F)
  (fun g i s h b=>by
    grind) (fun _ _ _ _ h _=>Nat.le_succ_of_le h) (fun g _ _=>j g) (fun i _=>match(List.range' i (n-i)).find? c with | some i=>x i | none=>e) (fun _ _=>by simp) (fun i s h _=>by
    have m:n-i=(n-(i+1))+1:=by omega
    grind[List.range'_succ]) k d () (Nat.le_refl _)
 simpa using this
theorem C2{a:Type}{n:Nat}(j:n<=9223372036854775807)(c:Nat->Bool)(x:Option a){e:Option a}{F:(Int->Option a)->Int->Option a}(d:∀g (i:Nat),i<n->F g (i:Int)=if c i=true then x else g ((i:Int)+1))
  (k:∀g,F g (n:Int)=e):lp F 0=if(List.range n).any c=true then x else e:=by
 have:=Dc j c (fun _=>x) 0 (Nat.zero_le _) (fun g i _ h=>d g i h) k;rw[Nat.sub_zero,<- List.range_eq_range'] at this;refine Eq.trans this ?_;cases h:(List.range n).find? c with
 | none =>
   rw[if_neg];rw[List.find?_eq_none] at h;intro l;obtain⟨i,f,b⟩:=List.any_eq_true.1 l;exact h i f b
 | some i =>
   rw[if_pos];exact List.any_eq_true.2 ⟨i,List.mem_of_find?_eq_some h,List.find?_some h⟩
theorem A0E{a:Type}{n:Nat}(f:n<=9223372036854775807)(c:Nat->Bool)(x:Option a){e:Option a}{F:(Int->Option a)->Int->Option a}(k:Nat)(b:k<=n)(d:∀g (i:Nat),k<=i->i<n->F g (i:Int)=if c i=true then x else g ((i:Int)+1))
  (h:∀g,F g (n:Int)=e):lp F (k:Int)=if((List.range n).any fun i=>decide (k<=i)&&c i)=true then x else e:=by
 refine(Dc f c (fun _=>x) k b d h).trans ?_
 grind
def fN{σ:Type}(f:Nat->σ->σ):Nat->σ->σ
 | 0,s=>s
 | n+1,s=>f n (fN f n s)
theorem lF{a e d:Type}{n:Nat}(o:n<=9223372036854775807)(mk:Nat->a->e)(f:Nat->a->a)(I:Nat->a->Prop){J:a->Option d}{F:(e->Option d)->e->Option d}
  (l:∀g i s,i<n->I i s->F g (mk i s)=g (mk (i+1) (f i s))) (k:∀i s,i<n->I i s->I (i+1) (f i s)) (t:∀g s,I n s->F g (mk n s)=J s) (s:a) (j:I 0 s):lp F (mk 0 s)=J (fN f n s):=by
 have c:∀(m i:Nat),i<=n->n-i<m->I i (fN f i s)->D5 F m (mk i (fN f i s))=J (fN f n s):=by
  intro m
  induction m with
  | zero=>omega
  | succ m q =>
    intro i hi r b;show F (D5 F m) (mk i _)=_;by_cases h:i<n
    ·rw[l _ _ _ h b];exact q (i+1) (by omega) (by omega) (k _ _ h b)
    grind
 exact c J0 0 (Nat.zero_le _) (by have:=NF o; omega) j
theorem KU{a k d:Type}{n:Nat}(t:n<=9223372036854775807)(mk:Nat->a->k)(f:Nat->a->a)(c:Nat->Bool)(x:Option d)(I:Nat->a->Prop){J:a->Option d}{F:(k->Option d)->k->Option d}
  (r:∀g i s,i<n->I i s->F g (mk i s)=if c i=true then x else g (mk (i+1) (f i s))) (q:∀i s,i<n->I i s->c i=false->I (i+1) (f i s)) (w:∀g s,I n s->F g (mk n s)=J s) (s:a) (o:I 0 s) :
  lp F (mk 0 s)=if(List.range n).any c=true then x else J (fN f n s):=by
 have e:∀(m i:Nat),i<=n->n-i<m->I i (fN f i s)->(∀j,j<i->c j=false)->D5 F m (mk i (fN f i s))=if(List.range n).any c=true then x else J (fN f n s):=by
  intro m
  induction m with
  | zero=>omega
  | succ m u =>
    intro i hi v b y;show F (D5 F m) (mk i _)=_;by_cases h:i<n
    ·rw[r _ _ _ h b];cases hci:c i with
     | true=>grind
     | false =>
       rw[if_neg (by simp)];refine u (i+1) (by omega) (by omega) (q _ _ h b hci) (fun j l=>?_)
       grind
    grind
 exact e J0 0 (Nat.zero_le _) (by have:=NF t; omega) o (fun j l=>absurd l (Nat.not_lt_zero j))
theorem Nr{n:Nat}(p q:Nat->Bool):((List.range n).any fun i=>p i||q i)=((List.range n).any p||(List.range n).any q):=by
 grind
theorem Av{n:Nat}{c:Nat->Bool}:(!(List.range n).any c)=true↔∀i,i<n->c i=false:=by
 grind
theorem M5{a:Type}(l:List a)(d:a)(p:a->Bool):((List.range l.length).any fun i=>p (l.getD i d))=l.any p:=by
 rw[Bool.eq_iff_iff,List.any_eq_true,List.any_eq_true];constructor
 ·grind
 ·rintro⟨x,c,e⟩;obtain⟨i,b,f⟩:=List.getElem_of_mem c;refine⟨i,List.mem_range.2 b,?_⟩
  grind
theorem KK{n:Nat}{p q:Nat->Bool}(h:∀i,i<n->p i=q i):(List.range n).any p=(List.range n).any q:=by
 grind
theorem Ay{a:Type}{i n:Nat}{V:Prop}[Decidable V]{c:Bool}{x e:Option a}{g:Int->Option a}(h:i<n)(d:n<=9223372036854775807)(b:V) :
  (if(decide ((i:Int) < (n:Int)))=true then gd V (if c=true then x else gd (c7 ((i:Int)+1)/\True) (g ((i:Int)+1))) else e)=if c=true then x else g ((i:Int)+1):=by
 rw[if_pos (by grind),gP b,gP ⟨oo,trivial⟩]
theorem B0s{a:Type}{i n:Nat}{V W:Prop}[Decidable V][Decidable W]{c:Bool}{x e:Option a}{g:Int->Option a}(h:i<n)(f:n<=9223372036854775807)(b:V)(d:W) :
  (if(decide ((i:Int) < (n:Int)))=true then gd V (gd W (if c=true then x else gd (c7 ((i:Int)+1)/\True) (g ((i:Int)+1)))) else e)=if c=true then x else g ((i:Int)+1):=by
 rw[if_pos (by grind),gP b,gP d,gP ⟨oo,trivial⟩]
theorem aE{b:Type}{n:Nat}{a e:Option b}:(if(decide ((n:Int) < (n:Int)))=true then a else e)=e:=if_neg (by simp)
theorem Fh{i n:Nat}{o:Option Bool}{g:Int->Option Int}{e:Option Int}{b:Bool}(h:i<n)(c:n<=9223372036854775807)(a:o=some b) :
  (if(decide ((i:Int) < (n:Int)))=true then gd (ix (i:Int) n/\o.isSome=true/\True) (if(vl o)=true then some (i:Int) else gd (c7 ((i:Int)+1)/\True) (g ((i:Int)+1))) else e)=if b=true then some (i:Int) else g ((i:Int)+1):=by
 subst a;rw[if_pos (by grind),gP ⟨oo,rfl,trivial⟩,gP ⟨oo,trivial⟩,vS]
theorem Bh{n:Nat}(c:n<=9223372036854775807)(b:Nat->Bool){F:(Int->Option Int)->Int->Option Int}(a:∀g (i:Nat),i<n->F g (i:Int)=if b i=true then some (i:Int) else g ((i:Int)+1))(d:∀g,F g (n:Int)=some (-1)) :
  lp F 0=some (match(List.range n).find? b with | some i=>(i:Int) | none => -1):=by
 have:=Dc c b (fun i=>some (i:Int)) 0 (Nat.zero_le _) (fun g i _ h=>a g i h) d;rw[Nat.sub_zero,<- List.range_eq_range'] at this
 grind
theorem Fi{n:Nat}{b:Nat->Bool}{o:Option Int}(h:o=some (match(List.range n).find? b with | some i=>(i:Int) | none => -1)):gd (o.isSome=true/\True) (lt (vl o) fun v0=>some (decide (0<=v0)))=some ((List.range n).any b):=by
 subst h;rw[gP ⟨rfl,trivial⟩,lE,vS];cases h:(List.range n).find? b with
 | none =>
   grind
 | some i =>
   have:(List.range n).any b=true:=List.any_eq_true.2 ⟨i,List.mem_of_find?_eq_some h,List.find?_some h⟩;rw[this];simp
end Go.Proofs.Xd
end
section
namespace Go.Proofs.Xv
open Go Go.RowKit Go.Proofs.Sv
def BC(P:Program)(op:TypeId->Ty->Bool):Nat->List Field->Ty->Bool
 | _,[],_=>false
 | off,[f],y=>Nat.beq f.offset off&&Nat.beq (P.cellsOf f.type) (sz y)&&op f.type y
 | off,f :: r,.pr a b=>Nat.beq f.offset off&&Nat.beq (P.cellsOf f.type) (sz a)&&op f.type a&&BC P op (off+sz a) r b
 | _,_,_=>false
def HW(P:Program):Nat->TypeId->Ty->Bool
 | 0,_,_=>false
 | n+1,T,y=>match P.underlying T with
   | some (.int k)=>decide (y=.int k)
   | some .bool=>decide (y=.bool)
   | some .string=>decide (y=.str)
   | some (.slice E)=>match y with
     | .sl e=>HW P n E e
     | _=>false
   | some (.struct fs)=>Nat.beq (P.cellsOf T) (sz y)&&BC P (HW P n) 0 fs.toList y
   | _=>false
def Aa(w:World)(k:Nat):Prop:=k<w.heap.size
theorem v0J(k:IntKind):k.min=lo k/\k.max=hi k:=by cases k <;> exact⟨rfl,rfl⟩
theorem s0r{P:Program}{E:TypeId}{e:Ty}{w:World}{H:Type}{enc:TypeId×Value->H}{sp:Nat->Bool}{W:Bool}(hE:∀{j:Nat} {cs:List Value} {x:DataW H×List MemPlace},DataW.trod enc P w 0 sp W j E cs=some x->∃z:j2 e,RT (Aa w) w e cs z)
  {T:TypeId} {j:Nat} {cs:List Value} {x:DataW H×List MemPlace} (Y:P.underlying T=some (.slice E)) (h:DataW.trod enc P w 0 sp W j T cs=some x):∃z:List (j2 e),RT (Aa w) w (.sl e) cs z:=by
 rcases DataW.trod_slice Y h with ⟨rfl,_⟩ | ⟨a,len,cap,elems,rest,n,rfl,rfl,_,_,hlc,hcm,hel,hat,_,_⟩
 ·exact⟨[],none,0,rfl,Nat.le_refl _,by omega,.inl rfl⟩
 ·have m:cap<=9223372036854775807:=by unfold maxLen at hcm; omega
  have d:∀i,i<len->∃c:List Value,w.cells? 0 (a.add (i*P.cellsOf E)) (P.cellsOf E)=some c/\∃y:j2 e,RT (Aa w) w e c y:=by
   intro i hi;have g:=hat i hi;rw[List.getElem?_eq_getElem (by omega)] at g;cases f:w.cells? 0 (a.add (i*P.cellsOf E)) (P.cellsOf E) with
   | none=>rw[f] at g; cases g
   | some c =>
     rw[f] at g;simp only[Option.bind_some] at g;exact⟨c,rfl,hE g⟩
  by_cases v:len=0
  ·subst v;exact⟨[],some a,cap,rfl,Nat.zero_le _,m,.inl rfl⟩
  ·have V:P.cellsOf E=sz e:=by
    obtain⟨c,f,y,G⟩:=d 0 (by omega);have:=(World.cells?_some f).2.1;rw[<- this]; exact RT.len G
   have l:0<P.cellsOf E:=by rw[V]; exact On e
   obtain⟨b,o,rfl⟩:∃b o,a=⟨b,o,none⟩:=by
    obtain⟨c,f,_⟩:=d 0 (by omega);have F:a.add (0*P.cellsOf E)=a:=by simp[Addr.add]
    rw[F] at f;exact⟨a.block,a.off,(Hv l f).1⟩
   have hb:b<w.heap.size:=by
    obtain⟨c,f,_⟩:=d 0 (by omega);have F:(Addr.mk b o none).add (0*P.cellsOf E)=⟨b,o,none⟩:=by simp[Addr.add]
    rw[F] at f;have q:=Hv l f;exact q.2.2.lt (by rw[q.2.1]; exact l)
   have r:∀k,k<=len->∃(cs:List Value) (s:List (j2 e)),s.length=k/\At w b o cs/\AllR (RT (Aa w) w e) cs s:=by
    intro k
    induction k with
    | zero=>exact fun _=>⟨[],[],rfl,Om,rfl⟩
    | succ k ih =>
      intro hk;obtain⟨cs,s,q,Q,u⟩:=ih (by omega);obtain⟨c,f,y,G⟩:=d k (by omega);have t:(Addr.mk b o none).add (k*P.cellsOf E)=⟨b,o+k*P.cellsOf E,none⟩:=by
       unfold Addr.add;split
       ·rename_i v; rw[v]; rfl
       ·rfl
      rw[t] at f;have X:=(Hv l f).2.2;refine⟨cs++c,s++[y],by simp[q],Q.app ?_,AllR.app (AllR.one G) u⟩;have:cs.length=k*P.cellsOf E:=by rw[u.len (fun c x h=>RT.len h),q,V]
      rw[this]; exact X
   obtain⟨cs,s,q,Q,u⟩:=r len (Nat.le_refl _);subst q;exact⟨s,some ⟨b,o,none⟩,cap,rfl,hlc,m,.inr ⟨b,o,cs,rfl,hb,Q,u⟩⟩
theorem m0W{P:Program}{w:World}{H:Type}{enc:TypeId×Value->H}{sp:Nat->Bool}{E:Bool}{s:TypeId->Ty->Bool}
  (q:∀{T:TypeId} {y:Ty},s T y=true->∀{fuel:Nat} {cs:List Value} {x:DataW H×List MemPlace},DataW.trod enc P w 0 sp E fuel T cs=some x->∃z:j2 y,RT (Aa w) w y cs z) {cs:List Value} :
  ∀{fs:List Field} {off:Nat} {y:Ty},BC P s off fs y=true->cs.length=off+sz y->(∀f∈fs,∃n x,DataW.trod enc P w 0 sp E n f.type ((cs.drop f.offset).take (P.cellsOf f.type))=some x)->∃z:j2 y,RT (Aa w) w y (cs.drop off) z:=by
 intro fs
 induction fs with
 | nil=>grind[BC]
 | cons f r W =>
   intro off y h j l;cases r with
   | nil =>
     have h:(Nat.beq f.offset off&&Nat.beq (P.cellsOf f.type) (sz y)&&s f.type y)=true:=by
      cases y <;> exact h
     simp only[ba] at h;obtain⟨⟨d,i⟩,v⟩:=h;have d:=nb d;have i:=nb i;obtain⟨n,x,t⟩:=l f (by simp)
     grind[List.take_of_length_le,List.length_drop]
   | cons g X =>
     cases y with
     | pr a b =>
       simp only[BC,ba] at h;obtain⟨⟨⟨d,i⟩,v⟩,F⟩:=h;have d:=nb d;have i:=nb i;obtain⟨n,x,t⟩:=l f (by simp);rw[d,i] at t;obtain⟨V,o⟩:=q v t;have c:cs.length=off+sz a+sz b:=by rw[j]; simp only[sz]; omega
       obtain⟨G,m⟩:=W F c (fun Q u=>l Q (List.mem_cons_of_mem _ u));refine⟨(V,G),(cs.drop off).take (sz a),cs.drop (off+sz a),?_,o,m⟩
       grind[List.drop_drop,List.take_append_drop]
     | int k=>grind[BC]
     | bool=>grind[BC]
     | str=>grind[BC]
     | sl e=>grind[BC]
     | pt e=>grind[BC]
theorem l0z{P:Program}{w:World}{H:Type}{enc:TypeId×Value->H}{sp:Nat->Bool}{q:Bool}:∀{n:Nat} {T:TypeId} {y:Ty},HW P n T y=true->∀{fuel:Nat} {cs:List Value} {x:DataW H×List MemPlace},DataW.trod enc P w 0 sp q fuel T cs=some x->∃z:j2 y,RT (Aa w) w y cs z:=by
 intro n
 induction n with
 | zero=>intro T y h; cases h
 | succ n j =>
   intro T y h fuel cs x c;unfold HW at h;split at h
   ·rename_i k a;have d:y=.int k:=by simpa using h
    subst d;obtain⟨m,rfl,_,o⟩:=DataW.trod_int a c;refine⟨m,rfl,?_⟩;simp only[Lit.wf,ba,dq] at o
    grind[v0J]
   ·rename_i a;have d:y=.bool:=by simpa using h
    subst d;obtain⟨b,rfl,_⟩:=DataW.trod_bool a c;exact⟨b,rfl⟩
   ·rename_i a;have d:y=.str:=by simpa using h
    subst d;obtain⟨s,rfl,_,u⟩:=DataW.trod_string a c;exact⟨s,rfl,by grind[maxLen]⟩
   ·rename_i E a;split at h
    ·exact s0r (j h) a c
    grind
   ·rename_i t a;rw[ba] at h;obtain⟨g,r⟩:=l0y a c;have v:=nb h.1;have:=m0W (cs:=cs) (fun l=>j l) h.2 (by omega) (fun f e=>by
     obtain⟨i,hi,rfl⟩:=List.getElem_of_mem e;exact r i _ (by grind))
    grind
   grind
theorem F0g{w:World}:∀k,Aa w k->k<w.heap.size:=fun _ h=>h
theorem Rh{P:Program}{H:Type}{enc:TypeId×Value->H}{T:TypeId}{y:Ty}{n:Nat}(e:HW P n T y=true){b:Array Field}(i:P.underlying T=some (.struct b)){W:World}{r:Reach}{a:Nat}{v:Value}{d:DataW H}{p:List MemPlace}
  (g:Value.okWide P W r a T v) (h:DataW.Trod enc P W 0 (fun _=>true) true T v d p):∃(cs:List Value) (x:j2 y),v=.agg cs.toArray/\RT (Aa W) W y cs x:=by
 obtain⟨cs,rfl,_⟩:=WideShapes.okWide_struct i g;obtain⟨f,j⟩:=h;obtain⟨x,c⟩:=l0z e j;exact⟨cs.toList,x,by simp,c⟩
theorem ZI{P:Program}{H:Type}{enc:TypeId×Value->H}{T E:TypeId}{y:Ty}{n:Nat}(e:HW P n T y=true)(k:P.underlying T=some (.slice E)){W:World}{r:Reach}{b:Nat}{v:Value}{d:DataW H}{p:List MemPlace}
  (j:Value.okWide P W r b T v) (h:DataW.Trod enc P W 0 (fun _=>true) true T v d p):∃x:j2 y,RT (Aa W) W y [v] x:=by
 obtain⟨a,g,i,rfl⟩:=WideShapes.okWide_slice k j;obtain⟨f,l⟩:=h;obtain⟨x,c⟩:=l0z e l;exact⟨x,c⟩
theorem WE.below{w w':World}(h:WE none w w'):Below w.heap.size w w':=⟨h.os,h.tape,h.output,h.size,fun k a=>h.block k a (by simp)⟩
theorem v0I{P:Program}{f:FuncId}{ps:List o5}{F:z6 ps->Option Bool}{Z:Bool->A0 ps}(h:Ok P (c8 f ps F (fun r=>.d true .bool r) Z)){w:World}{vs:List Value}{x:z6 ps}(c:ArgsR (Aa w) w none ps x vs)(b:F x=some true) :
  Calls P f vs.toArray w fun en w'=>en=.returned (.bool true)/\Below w.heap.size w w':=by
 refine Calls.mono (h.2 x (by show(F x).isSome=true; grind) w vs none (Aa w) F0g c) ?_;rintro en w' ⟨v,i,e,g,_,_,a,_⟩;refine⟨?_,WE.below g⟩;have a:RT _ w' .bool [v] (Xl.vl (F x))/\i=[]:=a;rw[b] at a;have j:[v]=[Value.bool true]:=a.1
 grind
theorem Ug{P:Program}{ops:Array Oper}{Q:Exit->Act->World->Prop}{o:Oper}{r:List Oper}{a:Act}{w:World}(b:Bx P ops Q o (wpList P ops Q r) a w):wpList P ops Q (o :: r) a w:=by
 grind[wpList,Bx]
theorem p0P{P:Program}{n:Nat}{e:x6}{ty:TypeId}{w:World}{T T' E:TypeId}{x y:Operand}{q:Option Addr}{m c:Nat}(i:P.underlying T=some (.slice E))(f:Sv.ev e x=some (.slice q m c))(h:Sv.ev e y=some (.slice none 0 0)) :
  B6 P n e (.binOp .eql T x y T') ty w (.bool q.isNone) w:=by
 intro a k j b g d;have:=Lib.run_eql_slice_nil w T E q m c 0 0 i;simp only[execOp,d.ev f,d.ev h];simp[eqGuard,this,Result.andThen]
theorem o0z{X:Cx}{G:Gh}{a:Act}{ops:Array Oper}{Q:Exit->Act->World->Prop}{d:Nat}{e:Op}{ty:TypeId}{c:String}{b:Array Edge}{v:Value}{K:Act->World->Prop}
  (h:∀dst c b g,(execOp a.eval ⟨dst,e,ty,c,b,g⟩).run X.P G.w=.ok (.value v) G.w) (f:K (a.put (some d) v) G.w):Bx X.P ops Q ⟨some d,e,ty,c,b,none⟩ K a G.w:=by
 unfold Bx;have i:Region.wanted ⟨some d,e,ty,c,b,none⟩ (yielded ops a.tmps)=true:=rfl;rw[if_pos i];unfold Oper.wp;rw[h (some d) c b none];exact f
theorem u0x{X:Cx}{st:St}{Q:Exit->Act->World->Prop}{id T E g c k:Nat}{Y m T':TypeId}{l V:String}{aF aD:Array Edge}{f:Bool}{e:Ty}{xs:List (j2 e)}
  (hU:X.P.underlying T=some (.slice E)) (h0:b9 st.e g=some ⟨[],.d f (.sl e) xs⟩) (aK:R2 st.e=true) (h3:Nat.blt c X.n=true) (h4:Nat.blt k X.n=true)
  (ht:xs=[]->FX X ⟨(k,⟨[],.d true .bool true⟩) :: (c,⟨[],.d f (.sl e) xs⟩) :: st.e,st.o⟩ .normal Q) (hf:FX X ⟨(k,⟨[],.d true .bool false⟩) :: (c,⟨[],.d f (.sl e) xs⟩) :: st.e,st.o⟩ .normal Q) :
  VX X st (.region id [⟨some c,.move (.tmp g),Y,l,aF,none⟩,⟨some k,.binOp .eql T (.tmp c) (.const (.slice none 0 0)) T',m,V,aD,none⟩].toArray false) Q:=by
 intro G a S ho hE;have h3:c<X.n:=by simpa using h3
 have h4:k<X.n:=by simpa using h4
 refine wp_region_lit ?_;have hu:=(hE.val g _ h0).1 (fun _ h=>by cases h);have aG:=hu;obtain⟨q,i,hv,aA,y,aC⟩:=aG;simp only[List.cons.injEq,and_true] at hv;have aJ:a.eval (.tmp g)=a.tmps.getD g undef:=rfl;obtain⟨v,W,z⟩:H5 X G a (.move (.tmp g)) Y (.d f (.sl e) xs):=u6 hE [.tmp g] (v:=a.eval (.tmp g)) (Bo (by grind[Z6,D7])) (by grind);refine Ug (o0z W ?_);have aB:∀(t:Nat) (s:Sl),b9 st.e t=some s->∀d,∀x∈s.p,x.1≠d:=fun t s hs d x hx=>by grind[HI]
 have u:=EnvR.put (st:=st) (p:=[]) (r:=.d f (.sl e) xs) hE h3 (fun _ h=>by cases h) (fun t s hs=>aB t s hs c) (v:=v) ⟨fun _=>z,fun h=>(h (fun _ h=>by cases h)).elim⟩;have H:=z;obtain⟨q,i,hv,aA,y,aC⟩:=H;simp only[List.cons.injEq,and_true] at hv;have aH:(a.put (some c) v).eval (.tmp c)=.slice q xs.length i:=by
  show(a.put (some c) v).tmps.getD c undef=_;rw[OP (by rw[hE.size]; exact h3),if_pos rfl,hv]
 have hx:Sv.ev (x8 (a.put (some c) v) [.tmp c]) (.tmp c)=some (.slice q xs.length i):=by rw[D7 (by simp),aH]
 obtain⟨v2,j,aI⟩:H5 X G (a.put (some c) v) (.binOp .eql T (.tmp c) (.const (.slice none 0 0)) T') m (.d true .bool q.isNone):=u6 (st:=⟨(c,⟨[],.d f (.sl e) xs⟩) :: st.e,st.o⟩) u [.tmp c] (p0P hU hx rfl) rfl;refine Ug (o0z j ?_);have F:∀b,q.isNone=b->EnvR X.n G ((k,⟨[],.d true .bool b⟩) :: (c,⟨[],.d f (.sl e) xs⟩) :: st.e) ((a.put (some c) v).put (some k) v2):=fun b hb=>EnvR.put (st:=⟨(c,⟨[],.d f (.sl e) xs⟩) :: st.e,st.o⟩) (p:=[]) u h4 (fun _ h=>by cases h) (fun t s hs x hx=>by
   grind[lK]) ⟨fun _=>hb ▸ aI,fun h=>(h (fun _ h=>by cases h)).elim⟩
 show Q .normal _ G.w;cases hq:q with
 | none =>
   refine ht ?_ G _ S ho (F true (by grind))
   grind
 | some ad=>exact hf G _ S ho (F false (by grind))
end Go.Proofs.Xv
end
section
namespace Go.Proofs.Xv
open Go Go.RowKit Go.Proofs.Sv Go.Proofs.Xl
end Go.Proofs.Xv
end
section
namespace Go.Proofs.Xl
end Go.Proofs.Xl
namespace Go.Proofs.Xv
open Go Go.RowKit Go.Proofs.Sv Go.Proofs.Xl
/- What all data of a result are. -/
mutual
def wfA:AV->Prop
 | .d _ t x=>wf t x
 | .agg xs=>Pw xs
 | .tup xs=>Pw xs
 | .ow _ _ t xs=>wf (.sl t) xs
 | _=>True
def Pw:List AV->Prop
 | []=>True
 | a :: r=>wfA a/\Pw r
end
def Gd:(ps:List o5)->A0 ps->Prop
 | [],_=>True
 | .io _ t :: _,z=>wf t z
 | .dat _ :: r,z=>Gd r z
 | .agg _ :: r,z=>Gd r z
 | .fn _ _ :: r,z=>Gd r z
 | .nof _ :: r,z=>Gd r z
 | .nil :: r,z=>Gd r z
 | .os _ _ :: r,z=>Gd r z
mutual
theorem ResR.wf{K:Bool->Nat->Prop}{w:World}:∀{a:AV} {u:Value} {gs:List (Option Nat)},ResR K w a u gs->wfA a
 | .v _,_,_,_=>trivial
 | .d _ _ _,_,_,h=>RT.wf h.1
 | .agg _,_,_,⟨_,_,h⟩=>ResRs.wf h
 | .tup _,_,_,⟨_,_,h⟩=>ResRs.wf h
 | .ow _ _ _ _,_,_,⟨_,_,_,_,h1,h2⟩=>z0b h1 h2
 | .ob _ _,_,_,_=>trivial
 | .ptr _ _,_,_,_=>trivial
 | .pel ..,_,_,_=>trivial
 | .os _ _,_,_,_=>trivial
 | .fn _ _,_,_,_=>trivial
 | .gel _ _,_,_,_=>trivial
 | .og _,_,_,_=>trivial
theorem ResRs.wf{K:Bool->Nat->Prop}{w:World}:∀{as':List AV} {us:List Value} {gs:List (Option Nat)},ResRs K w as' us gs->Pw as'
 | [],_,_,_=>trivial
 | _ :: _,_,_,⟨_,_,_,_,_,_,h1,h2⟩=>⟨ResR.wf h1,ResRs.wf h2⟩
end
theorem IOR.wf{K:Nat->Prop}{w:World}{go:Option Nat}:∀{ps:List o5} {z:A0 ps},IOR K w go ps z->Gd ps z
 | [],_,_=>trivial
 | .io _ _ :: _,_,⟨_,_,_,_,h⟩=>RT.wf h
 | .dat _ :: r,_,h=>IOR.wf (ps:=r) h
 | .agg _ :: r,_,h=>IOR.wf (ps:=r) h
 | .fn _ _ :: r,_,h=>IOR.wf (ps:=r) h
 | .nof _ :: r,_,h=>IOR.wf (ps:=r) h
 | .nil :: r,_,h=>IOR.wf (ps:=r) h
 | .os _ _ :: r,_,h=>IOR.wf (ps:=r) h
theorem h0o{n:Nat}:∀{a b:List Oper} {i:Nat} {seen:List Nat},L9 n i seen (a++b)=true->L9 n i seen a=true/\∃sn,L9 n (i+a.length) sn b=true/\(∀d∈seen,d∈sn)/\∀o∈a,∀d,o.dst=some d->d∈sn
 | [],b,i,seen,h=>⟨rfl,seen,by grind,fun _ h=>h,fun _ h=>by cases h⟩
 | o :: r,b,i,seen,h=>by
   simp only[List.cons_append,L9,ba] at h ⊢;obtain⟨⟨k,e⟩,c⟩:=h;obtain⟨f,sn,j,k3,g⟩:=h0o c
   grind
theorem u0R{l:List Oper}{i:Nat}{o:Oper}(h:C3 l i=some o):l=l.take i++o :: l.drop (i+1)/\i<l.length/\(l.take i).length=i:=by
 have h:=l0B h
 grind[hi,Nat.lt_or_ge,List.getElem?_eq_none,List.length_take,List.getElem?_eq_getElem,List.drop_eq_getElem_cons,List.take_append_drop]
section
variable {X:Cx} {Γ:m6} {T:List Ct}
end
theorem A0x{X:Cx}{st:St}{Q:Exit->Act->World->Prop}{Γ:m6}{T:List Ct}(v:s9 X.P Γ)(hT:∀c∈T,Ok X.P c){id i:Nat}{l:List Oper}(g:List Nat)(z:L9 X.n 0 [] l=true)(aK:R2 st.e=true){V:Prop}{b:St}{aF:List u1}(h1:BA Γ T l (l.take i) st []=some (V,b,aF))(hV:V){o:Oper}(hn:C3 l i=some o)(_:R2 b.e=true)
  (aA:(∀d,o.dst=some d->d<X.n)->∀G a,Sat X G->G.o=b.o->EnvR X.n G b.e a->∀K:Act->World->Prop,(∀st2 W st3 rs3 G' a',R2 st2.e=true->BA Γ T l (l.drop (i+1)) st2 []=some (W,st3,rs3)->W->FX X (cut g st3) .normal Q->Sat X G'->G'.o=st2.o->EnvR X.n G' st2.e a'->K a' G'.w)->Bx X.P l.toArray Q o K a G.w):VX X st (.region id l.toArray false) Q:=by
 intro G a S ho hE;obtain⟨el,aJ,aG⟩:=u0R hn;refine wp_region_lit ?_;have f:=z;rw[el] at f;obtain⟨k1,sn,q,-,k4⟩:=h0o f;rw[aG,Nat.zero_add] at q;simp only[L9,ba] at q;obtain⟨⟨q,-⟩,k3⟩:=q;have aC:∀d,o.dst=some d->d<X.n:=fun d hd=>by
  rw[hd] at q;simp only[ba] at q;simpa using q.1
 obtain⟨h,e1,e2,e3⟩:=LD (FZ (K:=fun m _=>m=b) h1 hV rfl);have aH:h.length=i:=by grind
 have:=OR v hT (ops:=l.toArray) (all:=l) rfl (Q:=Q) (rest:=o :: l.drop (i+1)) h 0 [] st G a (fun j hj=>by
   grind) (by grind) (fun j oj dj hj=>by omega) (fun t s ht x hx=>by grind[HI]) e2 S ho hE
  (fun G1 a1 S1 r y=>by
    rw[e3] at r y;refine Ug (aA aC G1 a1 S1 r y _ fun st2 W st3 rs3 G2 a2 aI g1 g2 g3 S2 F aB=>?_);obtain⟨k,f1,f2,f3⟩:=LD (FZ (K:=fun m _=>m=st3) g1 g2 rfl);have:=OR v hT (ops:=l.toArray) (all:=l) rfl (Q:=Q) (rest:=[]) k (i+1) _ st2 G2 a2 (fun j hj=>by
      grind) (by rw[f1]; exact k3) (fun j oj dj hj q1 q2=>by
      grind) (fun t s ht x hx=>by grind[HI]) f2 S2 F aB
     (fun G3 a3 S3 u E=>by
       rw[f3] at u E;obtain⟨G4,S4,H,aD,Y⟩:=TB g S3 u E;have:=g3 G4 a3 S4 H Y
       rwa [aD] at this)
    grind)
 grind
end Go.Proofs.Xv
end
section
namespace Go.Proofs.Xv
open Go Go.RowKit Go.Proofs.Sv Go.Proofs.Xl
def AllS{α:Type}(R:α->α->Prop):List α->List α->Prop
 | [],ys=>ys=[]
 | x :: r,ys=>∃y r',ys=y :: r'/\R x y/\AllS R r r'
def AP:(t:Ty)->j2 t->j2 t->Prop
 | .int _,_,_=>True
 | .bool,x,y=>y=x
 | .str,x,y=>y=x
 | .sl e,x,y=>AllS (AP e) x y
 | .pt e,x,y=>AP e x y
 | .pr a b,x,y=>AP a x.1 y.1/\AP b x.2 y.2
theorem AllS.refl{a:Type}{R:a->a->Prop}(h:∀x,R x x):∀xs:List a,AllS R xs xs
 | []=>rfl
 | x :: r=>⟨x,r,rfl,h x,AllS.refl h r⟩
theorem HX:∀(t:Ty) (x:j2 t),AP t x x
 | .int _,_=>trivial
 | .bool,_=>rfl
 | .str,_=>rfl
 | .sl e,x=>AllS.refl (HX e) x
 | .pt e,x=>HX e x
 | .pr a b,x=>⟨HX a x.1,HX b x.2⟩
theorem AllS.len{a:Type}{R:a->a->Prop}:∀{xs ys:List a},AllS R xs ys->ys.length=xs.length
 | [],_,h=>by rw[show _=[] from h]
 | _ :: _,_,⟨_,_,e,_,h⟩=>by rw[e,List.length_cons,List.length_cons,AllS.len h]
theorem AllS.all{a:Type}{R:a->a->Prop}{p q:a->Prop}(b:∀x y,R x y->p x->q y):∀{xs ys:List a},AllS R xs ys->(∀x∈xs,p x)->∀y∈ys,q y
 | [],_,h,_,y,hy=>by rw[show _=[] from h] at hy; cases hy
 | x :: r,_,⟨y',r',e,h1,h2⟩,hp,y,hy=>by
   subst e;rcases List.mem_cons.1 hy with rfl | hy
   ·grind
   ·exact AllS.all b h2 (fun x c=>hp x (by grind)) y hy
def Sim(k:IntKind)(u u':Value):Prop:=u'=u∨∃x x',u=.int k x/\u'=.int k x'/\lo k<=x'/\x'<=hi k
def Px(k:IntKind)(w w':World):Prop:=∀b o u,w.cell? ⟨b,o,none⟩=some u->∃u',w'.cell? ⟨b,o,none⟩=some u'/\Sim k u u'
def SimL(k:IntKind):List Value->List Value->Prop
 | [],vs=>vs=[]
 | u :: r,vs=>∃u' r',vs=u' :: r'/\Sim k u u'/\SimL k r r'
theorem SimL.refl{k:IntKind}:∀us:List Value,SimL k us us
 | []=>rfl
 | u :: r=>⟨u,r,rfl,.inl rfl,SimL.refl r⟩
theorem SimL.split{k:IntKind}{b:List Value}:∀{a cs:List Value},SimL k (a++b) cs->∃a' b',cs=a'++b'/\SimL k a a'/\SimL k b b'
 | [],cs,h=>⟨[],cs,rfl,rfl,h⟩
 | u :: r,cs,⟨u',r',e,h1,h2⟩=>by
   obtain⟨a',b',f,d,c⟩:=SimL.split h2;exact⟨u' :: a',b',by grind,⟨u',a',rfl,h1,d⟩,c⟩
theorem At.sim{k:IntKind}{w w':World}(e:Px k w w'){b:Nat}:∀{ds:List Value} {o:Nat},At w b o ds->∃ds',At w' b o ds'/\SimL k ds ds'
 | [],o,_=>⟨[],fun i u h=>by grind,rfl⟩
 | d :: r,o,h=>by
   obtain⟨c,j,f⟩:=At.sim e (At.tail h);obtain⟨a,l,g⟩:=e b o d (h 0 d rfl);refine⟨a :: c,fun i u m=>?_,a,c,rfl,g,f⟩;cases i with
   | zero=>grind
   | succ i =>
     have:=j i u (by grind)
     rwa [show o+1+i=o+(i+1) by omega] at this
theorem AllR.sim{k:IntKind}{a:Type}{R R':List Value->a->Prop}{S:a->a->Prop}(b:∀c c' x,SimL k c c'->R c x->∃x',R' c' x'/\S x x'):∀{cs cs':List Value} {xs:List a},SimL k cs cs'->AllR R cs xs->∃xs',AllR R' cs' xs'/\AllS S xs xs'
 | cs,cs',[],hs,h=>by
   rw[show cs=[] from h] at hs;exact⟨[],hs,rfl⟩
 | _,cs',x :: r,hs,⟨c,d,e,h1,h2⟩=>by
   subst e;obtain⟨c',l,rfl,i,m⟩:=hs.split;obtain⟨x',o,n⟩:=b c c' x i h1;obtain⟨f,g,j⟩:=AllR.sim b m h2;exact⟨x' :: f,⟨c',l,rfl,o,g⟩,x',f,rfl,n,j⟩
theorem Py{k:IntKind}{u:Value}{cs:List Value}(h:SimL k [u] cs)(e:∀x,u≠.int k x):cs=[u]:=by
 obtain⟨d,b,rfl,c,a⟩:=h;rw[show b=[] from a];rcases c with rfl | ⟨x,_,rfl,_⟩
 ·rfl
 grind
theorem RT.sim{k:IntKind}{K:Nat->Prop}{w w':World}(n:Px k w w'):∀{t:Ty} {cs cs':List Value} {x:j2 t},SimL k cs cs'->RT K w t cs x->∃x',RT K w' t cs' x'/\AP t x x'
 | .int k0,cs,cs',x,f,h=>by
   obtain⟨rfl,i⟩:=h;obtain⟨Q,P,rfl,g,m⟩:=f;rw[show P=[] from m];rcases g with rfl | ⟨x0,x',e,rfl,q,h5⟩
   ·exact⟨x,⟨rfl,i⟩,trivial⟩
   ·cases e;exact⟨x',⟨rfl,q,h5⟩,trivial⟩
 | .bool,cs,cs',x,f,h=>by
   rw[show cs=_ from h] at f;exact⟨x,Py f (fun _ h=>by cases h),rfl⟩
 | .str,cs,cs',x,f,h=>by
   rw[h.1] at f;exact⟨x,⟨Py f (fun _ h=>by cases h),h.2⟩,rfl⟩
 | .sl e,cs,cs',xs,f,⟨p,cap,i,g,m,q⟩=>by
   rw[i] at f;have v:=Py f (fun _ h=>by cases h);rcases q with rfl | ⟨b,o,ds,hp,hb,hat,hall⟩
   ·exact⟨[],⟨p,cap,v,g,m,.inl rfl⟩,rfl⟩
   ·obtain⟨j,s,r⟩:=At.sim n hat;obtain⟨y,u,l⟩:=AllR.sim (fun c z x f G=>RT.sim n (t:=e) f G) r hall;exact⟨y,⟨p,cap,by rw[v,l.len],by rw[l.len]; exact g,m,.inr ⟨b,o,j,hp,hb,s,u⟩⟩,l⟩
 | .pt e,cs,cs',x,f,⟨b,o,ds,i,hb,hat,g⟩=>by
   rw[i] at f;have v:=Py f (fun _ h=>by cases h);obtain⟨j,s,r⟩:=At.sim n hat;obtain⟨x',u,l⟩:=RT.sim n (t:=e) r g;exact⟨x',⟨b,o,j,v,hb,s,u⟩,l⟩
 | .pr a b,cs,cs',x,f,⟨c,d,h,i,g⟩=>by
   subst h;obtain⟨z,E,rfl,m,q⟩:=f.split;obtain⟨F,s,r⟩:=RT.sim n (t:=a) m i;obtain⟨H,u,l⟩:=RT.sim n (t:=b) q g;exact⟨(F,H),⟨z,E,rfl,s,u⟩,r,l⟩
mutual
def HavA:AV->AV->Prop
 | .d fr t x,b=>bif C0 t then b=.d fr t x else ∃x',b=.d fr t x'/\AP t x x'/\(wf t x->wf t x')
 | .agg xs,b=>∃ys,b=.agg ys/\HavAs xs ys
 | .tup xs,b=>∃ys,b=.tup ys/\HavAs xs ys
 | .fn f xs,b=>∃ys,b=.fn f ys/\HavAs xs ys
 | a,b=>b=a
def HavAs:List AV->List AV->Prop
 | [],ys=>ys=[]
 | x :: r,ys=>∃y r',ys=y :: r'/\HavA x y/\HavAs r r'
end
def HavO:Ob->Ob->Prop
 | .box T cs,b=>∃ds,b=.box T ds/\HavAs cs ds
 | .arr T fr t xs v,b=>bif C0 t then b=.arr T fr t xs v else ∃xs',b=.arr T fr t xs' v/\AllS (AP t) xs xs'
 | a,b=>b=a
theorem z0o{fr:Bool}{t:Ty}{x:j2 t}{b:AV}:HavA (.d fr t x) b=(bif C0 t then b=.d fr t x else ∃x',b=.d fr t x'/\AP t x x'/\(wf t x->wf t x')):=by grind[HavA]
theorem Uh{T:TypeId}{fr:Bool}{t:Ty}{xs:List (j2 t)}{v:Nat}{b:Ob}:HavO (.arr T fr t xs v) b=(bif C0 t then b=.arr T fr t xs v else ∃xs',b=.arr T fr t xs' v/\AllS (AP t) xs xs'):=rfl
def LV:List (Nat×Sl)->List (Nat×Sl)->Prop
 | [],ys=>ys=[]
 | (t,⟨p,a⟩) :: r,ys=>∃b r',ys=(t,⟨p,b⟩) :: r'/\HavA a b/\LV r r'
def HavL:List (Nat×Ob)->List (Nat×Ob)->Prop
 | [],ys=>ys=[]
 | (i,a) :: r,ys=>∃b r',ys=(i,b) :: r'/\HavO a b/\HavL r r'
mutual
theorem HavA.refl:∀a,HavA a a
 | .d c t x=>by
   simp only[z0o,ce]
   grind[HX]
 | .agg b=>⟨b,rfl,HavAs.refl b⟩
 | .tup b=>⟨b,rfl,HavAs.refl b⟩
 | .fn f b=>⟨b,rfl,HavAs.refl b⟩
 | .v _ | .ptr .. | .pel .. | .os .. | .ow .. | .gel .. | .og .. | .ob ..=>by grind[HavA]
theorem HavAs.refl:∀as,HavAs as as
 | []=>by grind[HavAs]
 | a :: r=>by unfold HavAs; exact⟨a,r,rfl,HavA.refl a,HavAs.refl r⟩
end
theorem HavO.refl:∀a,HavO a a
 | .box T b=>⟨b,rfl,HavAs.refl b⟩
 | .arr T d t c v=>by
   simp only[Uh,ce]
   grind[AllS.refl,HX]
 | .grd ..=>rfl
def I0d:Ob->Ob->Prop
 | .box T _,b=>∃ds,b=.box T ds
 | .arr T fr t _ v,b=>∃ys,b=.arr T fr t ys v
 | a,b=>b=a
theorem HavO.kind:∀{a b:Ob},HavO a b->I0d a b
 | .box _ _,_,⟨ds,h,_⟩=>⟨ds,h⟩
 | .arr _ _ _ xs _,b,h=>by
   rw[Uh,ce] at h;split at h
   ·exact⟨xs,h⟩
   ·obtain⟨c,h,_⟩:=h; exact⟨c,h⟩
 | .grd ..,_,h=>h
theorem HavL.lk:∀{o o':List (Nat×Ob)},HavL o o'->∀i,(∀ob,b9 o i=some ob->∃ob',b9 o' i=some ob'/\HavO ob ob')/\(∀ob',b9 o' i=some ob'->∃ob,b9 o i=some ob/\HavO ob ob')
 | [],o',h,i=>by rw[show o'=[] from h]; exact⟨(fun _ h=>by cases h),fun _ h=>by cases h⟩
 | (j,a) :: r,_,⟨b,r',e,h1,h2⟩,i=>by
   subst e;rw[lK,lK];by_cases c:j=i
   ·grind
   ·rw[if_neg c,if_neg c];exact HavL.lk h2 i
def up(G:Gh)(w':World)(o':List (Nat×Ob)):Gh:=⟨G.ρ,G.γ,G.K,w',o',G.B,G.δ⟩
section
variable {k:IntKind} {G:Gh} {w':World} (hM:Px k G.w w')
include hM
mutual
theorem AVR.sim:∀{a:AV} {u:Value},AVR G a u->∃b,HavA a b/\∀o',HavL G.o o'->AVR (up G w' o') b u
 | .v x,u,h=>⟨.v x,rfl,fun _ _=>h⟩
 | .d fr t x,u,h=>by
   simp only[z0o,ce];split
   ·rename_i n;exact⟨.d fr t x,rfl,fun _ _=>RT.free n h⟩
   ·obtain⟨m,c,g⟩:=RT.sim (K:=rg G fr) hM (SimL.refl [u]) h;exact⟨.d fr t m,⟨m,rfl,g,fun _=>RT.wf c⟩,fun _ _=>c⟩
 | .agg xs,u,⟨us,e,h⟩=>by
   obtain⟨j,c,g⟩:=AVRs.sim h;exact⟨.agg j,⟨j,rfl,c⟩,fun o' i=>⟨us,e,g o' i⟩⟩
 | .tup xs,u,⟨us,e,h⟩=>by
   obtain⟨j,c,g⟩:=AVRs.sim h;exact⟨.tup j,⟨j,rfl,c⟩,fun o' i=>⟨us,e,g o' i⟩⟩
 | .fn f xs,u,⟨us,e,h⟩=>by
   obtain⟨j,c,g⟩:=AVRs.sim h;exact⟨.fn f j,⟨j,rfl,c⟩,fun o' i=>⟨us,e,g o' i⟩⟩
 | .ptr id off,u,⟨⟨T,cs,c⟩,g⟩=>⟨.ptr id off,rfl,fun o' i=>by
    obtain⟨ob,k,l⟩:=(i.lk id).1 _ c;obtain⟨ds,rfl⟩:=l.kind;exact⟨⟨T,ds,k⟩,g⟩⟩
 | .pel id ver kk s off,u,⟨h0,T,fr,t,xs,ver',c,g,h3⟩=>⟨.pel id ver kk s off,rfl,fun o' i=>by
    obtain⟨ob,k,l⟩:=(i.lk id).1 _ c;obtain⟨j,rfl⟩:=l.kind;exact⟨h0,T,fr,t,j,ver',k,g,h3⟩⟩
 | .os id ver,u,⟨h0,T,fr,t,xs,ver',c,g,h3⟩=>⟨.os id ver,rfl,fun o' i=>by
    obtain⟨ob,k,l⟩:=(i.lk id).1 _ c;obtain⟨j,rfl⟩:=l.kind;exact⟨h0,T,fr,t,j,ver',k,g,h3⟩⟩
 | .gel id kk,u,⟨⟨T,Te,fr,t,xs,hole,c⟩,g⟩=>⟨.gel id kk,rfl,fun o' i=>by
    obtain⟨ob,k,l⟩:=(i.lk id).1 _ c;have:=l.kind;rw[show ob=_ from this] at k;exact⟨⟨T,Te,fr,t,xs,hole,k⟩,g⟩⟩
 | .og id,u,⟨h0,⟨T,Te,fr,t,xs,hole,c⟩,g⟩=>⟨.og id,rfl,fun o' i=>by
    obtain⟨ob,k,l⟩:=(i.lk id).1 _ c;have:=l.kind;rw[show ob=_ from this] at k;exact⟨h0,⟨T,Te,fr,t,xs,hole,k⟩,g⟩⟩
 | .ow ..,_,h=>h.elim
 | .ob ..,_,h=>h.elim
theorem AVRs.sim:∀{as':List AV} {us:List Value},AVRs G as' us->∃bs,HavAs as' bs/\∀o',HavL G.o o'->AVRs (up G w' o') bs us
 | [],us,h=>⟨[],by grind[HavAs],fun _ _=>h⟩
 | a :: r,us,⟨u,us',e,h1,h2⟩=>by
   obtain⟨b,g,d⟩:=AVR.sim h1;obtain⟨bs,i,f⟩:=AVRs.sim h2;have:=hM;exact⟨b :: bs,by unfold HavAs; grind,fun o' c=>⟨u,us',e,d o' c,f o' c⟩⟩
end
theorem ObR.sim{b:Nat}(l:WE (some b) G.w w'){id:Nat}:∀{ob:Ob},ObR G id ob->C5 (some ob)=false->G.γ id≠some b->∃ob',HavO ob ob'/\∀o',HavL G.o o'->ObR (up G w' o') id ob'
 | .box T cs,⟨b',us,h1,h2,h3,h4⟩,_,hb=>by
   obtain⟨ds,g,f⟩:=AVRs.sim hM h4;exact⟨.box T ds,⟨ds,rfl,g⟩,fun o' m=>⟨b',us,h1,h2,h3.we l (fun i e h=>by grind),f o' m⟩⟩
 | .arr T fr t xs v,⟨cs,h1,h2,h3⟩,_,hb=>by
   have d:=h1.we l (fun i e h=>by grind);simp only[Uh,ce];split
   ·rename_i q;exact⟨.arr T fr t xs v,rfl,fun o' _=>⟨cs,d,h2.mapR (fun c x j=>RT.free q j),h3⟩⟩
   ·obtain⟨a,g,f⟩:=AllR.sim (k:=k) (R':=RT (rg G fr) w' t) (S:=AP t) (fun c r x n j=>RT.sim hM n j) (SimL.refl cs) h2;exact⟨.arr T fr t a v,⟨a,rfl,f⟩,fun o' _=>⟨cs,by rw[f.len]; exact d,g,h3⟩⟩
 | .grd ..,_,h,_=>by cases h
theorem s0v{b:Nat}(k:WE (some b) G.w w')(c:∀id o,b9 G.o id=some o->ObR G id o)(q:∀id,C5 (b9 G.o id)=false)(f:∀id o,b9 G.o id=some o->G.γ id≠some b) :
  ∀l:List (Nat×Ob),∃l',HavL l l'/\∀i ob,b9 l i=some ob->b9 G.o i=some ob->∃ob',b9 l' i=some ob'/\∀o',HavL G.o o'->ObR (up G w' o') i ob'
 | []=>⟨[],rfl,fun _ _ h=>by cases h⟩
 | (j,a) :: r=>by
   obtain⟨d,m,t⟩:=s0v k c q f r;by_cases e:b9 G.o j=some a
   ·obtain⟨g,n,u⟩:=ObR.sim hM k (c j a e) (by grind) (f j a e);refine⟨(j,g) :: d,⟨g,d,rfl,n,m⟩,fun i ob hi s=>?_⟩;rw[lK] at hi ⊢
    grind
   ·refine⟨(j,a) :: d,⟨a,d,rfl,HavO.refl a,m⟩,fun i ob hi s=>?_⟩;rw[lK] at hi ⊢
    grind
end
theorem Sat.hav{X:Cx}{G:Gh}(S:Sat X G){k:IntKind}{w':World}(hM:Px k G.w w'){b:Nat}(hw:Wr b G.w w')(hK:G.K b)(hb:X.w0.heap.size<=b)(hu:UF w' b)(hg:∀id,C5 (b9 G.o id)=false){e:List (Nat×Sl)}{a:Act}(hE:EnvR X.n G e a) :
  ∃o' e',HavL G.o o'/\LV e e'/\Sat X (up G w' o')/\EnvR X.n (up G w' o') e' a:=by
 have m:=WE.of_wr hw;have aD:∀id o,b9 G.o id=some o->G.γ id≠some b:=fun id o E h=>S.imm id o b E h hK;obtain⟨o',h1,h2⟩:=s0v hM m S.obs hg aD G.o;have j:=h1.lk;have aJ:∀id,C5 (b9 o' id)=false:=fun id=>by
  cases h:b9 o' id with
  | none=>rfl
  | some u =>
    obtain⟨z,d,q⟩:=(j id).2 u h;have:=hg id;rw[d] at this;cases z with
    | box T cs=>obtain⟨ds,rfl⟩:=q.kind; rfl
    | arr T fr t xs v=>obtain⟨ds,rfl⟩:=q.kind; rfl
    | grd=>cases this
 have hS:Sat X (up G w' o'):=by
  refine⟨S.base,m.os.trans S.os,m.tape.trans S.tape,m.output.trans S.output,Nat.le_trans S.size m.size,fun i hi aH=>?_,fun id u aA=>?_,fun id W u aC c E aG hc aL=>?_,fun id u c E hc=>?_,fun id u c E hc=>?_,fun i hi=>?_,S.kfrom,fun id c _ Q=>?_,fun i v h=>?_⟩
  ·rw[<- S.block i hi aH];exact hw.block i (by omega)
  ·obtain⟨z,d,q⟩:=(j id).2 u aA;obtain⟨aC,g3,g4⟩:=h2 id z d d;rw[show b9 o' id=some u from aA] at g3
   grind
  ·obtain⟨x,d,_⟩:=(j id).2 u E;obtain⟨x',q,_⟩:=(j W).2 aC aG;exact S.inj id W x x' c d q hc aL
  ·obtain⟨x,d,_⟩:=(j id).2 u E;exact S.imm id x c d hc
  ·obtain⟨x,d,_⟩:=(j id).2 u E;exact S.own id x c d hc
  ·by_cases e:i=b
   ·subst e;exact hu.g
   ·exact(S.klt i hi).same m.size (hw.block i e)
  ·rw[show b9 (up G w' o').o id=b9 o' id from rfl,aJ id] at Q;cases Q
  ·obtain⟨bb,d,q⟩:=AVR.sim hM (S.pin i v h);rw[show bb=_ from d] at q
   grind
 have aK:∀e:List (Nat×Sl),(∀t s,b9 e t=some s->(PathP s.p a->AVR G s.a (a.tmps.getD t undef))/\(¬PathP s.p a->a.tmps.getD t undef=undef))->∃e',LV e e'/\∀t f,b9 e' t=some f->(PathP f.p a->AVR (up G w' o') f.a (a.tmps.getD t undef))/\(¬PathP f.p a->a.tmps.getD t undef=undef):=by
  intro e he
  -- the slots that are seen turn, the hidden ones stay
  have aI:∀l:List (Nat×Sl),∃y,LV l y/\∀t s,b9 l t=some s->b9 e t=some s->∃f,b9 y t=some f/\(PathP f.p a->AVR (up G w' o') f.a (a.tmps.getD t undef))/\(¬PathP f.p a->a.tmps.getD t undef=undef):=by
   intro l
   induction l with
   | nil=>exact⟨[],rfl,fun _ _ h=>by cases h⟩
   | cons x r ih =>
     obtain⟨Y,V,P⟩:=x;obtain⟨r',F,h4⟩:=ih;by_cases hv:b9 e Y=some ⟨V,P⟩/\PathP V a
     ·obtain⟨q1,q2⟩:=he Y _ hv.1;obtain⟨a1,d,q⟩:=AVR.sim hM (q1 hv.2);refine⟨(Y,⟨V,a1⟩) :: r',⟨a1,r',rfl,d,F⟩,fun t s H aF=>?_⟩;rw[lK] at H ⊢
      grind
     ·refine⟨(Y,⟨V,P⟩) :: r',⟨P,r',rfl,HavA.refl P,F⟩,fun t s H aF=>?_⟩;rw[lK] at H ⊢
      grind
  obtain⟨e',F,h4⟩:=aI e;refine⟨e',F,fun t f aB=>?_⟩;have:∀{l y:List (Nat×Sl)},LV l y->∀{f},b9 y t=some f->∃s,b9 l t=some s:=by
   intro l
   induction l with
   | nil=>intro y hl f h; rw[show y=[] from hl] at h; cases h
   | cons x r ih =>
     obtain⟨Y,V,P⟩:=x;rintro y ⟨b1,r',rfl,d,q⟩ f h;rw[lK] at h ⊢
     grind
  obtain⟨s,H⟩:=this F aB;obtain⟨s2,d,q⟩:=h4 t s H H;rw[aB] at d;cases d;exact q
 obtain⟨e',F,h4⟩:=aK e hE.val;exact⟨o',e',h1,F,hS,hE.defers,hE.size,h4⟩
def grd(j:Nat)(b:Bool)(o:Oper):Oper:={ o with guard:=some (j,b) }
def nx(o:Option (Prop×St)):St:=match o with
 | some (_,s)=>s
 | none=>⟨[],[]⟩
theorem HY{o:Option (Prop×St)}{V:Prop}(h:o.map Prod.fst=some V):o=some (V,nx o):=by
 cases o with
 | none=>cases h
 | some x =>
   cases h;rfl
section
variable {P:Program} {n:Nat} {y:World×(Nat->Prop)×(Nat->Prop)×(Nat->Value->Prop)×Nat} {st:St} {Q:Exit->Act->World->Prop} {Γ:m6} {T:List Ct} {ρ:Type} {r:ρ}
theorem jA[a:HG P Γ][d:HT P T][e:H6 P](k:List Nat){id:Nat}{l:List Oper}{b:Bool}(c:FX (cx P n y) (nx (C9 b n Γ T l k st)) .normal Q)(h:(C9 b n Γ T l k st).map Prod.fst=some True:=by kernel_rfl):VX (cx P n y) st (.region id l.toArray b) Q:=za a.h d.h _ _ (HY h) c
theorem jB[a:HG P Γ][d:HT P T][f:H6 P](k:List Nat){V:Prop}[Decidable V]{e:Option ρ}{id:Nat}{l:List Oper}{b:Bool}(H:gd V e=some r)(c:e=some r->FX (cx P n y) (nx (C9 b n Γ T l k st)) .normal Q)(h:(C9 b n Γ T l k st).map Prod.fst=some V:=by kernel_rfl):VX (cx P n y) st (.region id l.toArray b) Q:=zb a.h d.h _ _ H (HY h) c
theorem iA[a:HG P Γ][e:HT P T][f:H6 P](k:List Nat){id:Nat}{l:List Oper}{b:Bool}{c:Code}(d:VX (cx P n y) (nx (C9 b n Γ T l k st)) c Q)(h:(C9 b n Γ T l k st).map Prod.fst=some True:=by kernel_rfl):VX (cx P n y) st (.seq (.region id l.toArray b) c) Q:=qa a.h e.h _ _ (HY h) d
theorem iB[a:HG P Γ][f:HT P T][g:H6 P](k:List Nat){V:Prop}[Decidable V]{e:Option ρ}{id:Nat}{l:List Oper}{b:Bool}{c:Code}(H:gd V e=some r)(d:e=some r->VX (cx P n y) (nx (C9 b n Γ T l k st)) c Q)(h:(C9 b n Γ T l k st).map Prod.fst=some V:=by kernel_rfl):VX (cx P n y) st (.seq (.region id l.toArray b) c) Q:=qb a.h f.h _ _ H (HY h) d
end
section
variable {P:Program} {Q:Exit->Act->World->Prop} {l:List Oper} {o:Oper}
end
def Ui(d:Nat)(T:TypeId)(t:Ty)(cs:List AV)(st:St):Option St:=match C1 ((d,.box T cs) :: st.o) 24 t cs,T9 d 0 true .bool ([]:List Bool) st.o with
 | some (x,[],_),some o'=>some ⟨(d,⟨[],.d false (.pt t) x⟩) :: Cu d 0 true .bool ([]:List Bool) st.e,o'⟩
 | _,_=>none
def evX(n:Nat)(Γ:m6)(T:List Ct)(l:List Oper)(i:Nat)(keep:List Nat)(t:Ty)(st:St):Option (Prop×St):=bif L9 n 0 [] l&&R2 st.e then(match BA Γ T l (l.take i) st [] with
    | some (V,st1,_)=>(match C3 l i with
      | some ⟨some d,.box T1 x,_,_,_,none⟩=>(match rd st1 [] x with
        | some v=>(match AG v with
          | some cs=>bif T6 st1.o d&&R2 st1.e&&Gc st1.e&&Nat.blt d 500000 then(match Ui d T1 t cs st1 with
            | some st2=>bif R2 st2.e then(match BA Γ T l (l.drop (i+1)) st2 [] with
              | some (W,st3,_)=>some (V/\W,cut keep st3)
              | none=>none) else none
            | none=>none) else none
          | none=>none)
        | none=>none)
      | _=>none)
    | none=>none) else none
theorem B0q{X:Cx}{G:Gh}{a:Act}{st f:St}{d:Nat}{T:TypeId}{t:Ty}{cs:List AV}(h:Ui d T t cs st=some f)(hn:Gc st.e=true)(hp:R2 st.e=true)(z:Nat.blt d 500000=true)(hd:b9 st.o d=none)(P:d<X.n)(S:Sat X G)(m:G.o=st.o)(Q:EnvR X.n G st.e a){us:Array Value}(hA:AVRs G cs us.toList) :
  ∃G',G'.w=G.w.alloc (.cells us T)/\Sat X G'/\G'.o=f.o/\EnvR X.n G' f.e (a.put (some d) (.pointer (some ⟨G.w.heap.size,0,none⟩))):=by
 obtain⟨G1,w1,y,Y,F,q⟩:=Td S (T:=T) (by rw[m]; exact hd) hA;have hl:b9 G1.o d=some (.box T cs):=by rw[F,lK,if_pos rfl]
 obtain⟨_,b,v,hb⟩:=q;cases hb;obtain⟨b',vs,g1,W,g3,g4⟩:=y.obs d _ hl;rw[v] at W;cases W;unfold Ui at h;split at h
 ·rename_i x fl g l hz;cases h;rw[<- m,<- F] at l;have r:T9 d 0 true .bool ([]:List Bool) G1.o=some g:=by
   rw[F,m];unfold T9;rw[Nat.beq_refl];exact hz
  have j:HS G1 d 0 true .bool ([]:List Bool) g:=fun u hu=>by
   rcases hu with ⟨_,T1,aA,t1,aB,V,i,_⟩ | ⟨_,⟨_,_,_,_,_,_,i⟩,_⟩
   ·grind
   grind
  have hB:G1.B<=G.w.heap.size:=by
   rw[Y.hB];exact Nat.le_trans S.le S.size
  have S2:=Ub y hl (fun k c=>by
   rw[g1] at c;cases c;exact⟨⟨_,_,g3⟩,hB⟩) j r z
  refine⟨Cv G1 d g,w1,S2,rfl,?_⟩;have E:=Q.mono Y;have H:EnvR X.n (Cv G1 d g) (Cu d 0 true .bool ([]:List Bool) st.e) a:=⟨Q.defers,Q.size,fun k s c=>by
   obtain⟨b,i,h2⟩:=HU hn c;obtain⟨h3,h4⟩:=E.val k _ i
   grind[Ps]⟩
  refine EnvR.put (st:=⟨Cu d 0 true .bool ([]:List Bool) st.e,g⟩) H P (fun _ h=>by cases h) (fun k s c x l=>?_) ⟨fun _=>?_,fun h=>(h (fun _ h=>by cases h)).elim⟩
  ·obtain⟨b,i,_⟩:=HU hn c;rw[HI hp k _ i] at l;cases l
  ·have hR:=Df (K':=(Cv G1 d g).K) y (fun k c=>.inl c) 24 l (fun _ h=>by cases h) g4;exact⟨_,0,vs,rfl,⟨.inr (.inl g1),fun e=>by cases e⟩,g3.at,RT.up hR (fun k c=>⟨c.1,fun e=>by cases e⟩)⟩
 grind
theorem zX{P:Program}{n:Nat}{y:World×(Nat->Prop)×(Nat->Prop)×(Nat->Value->Prop)×Nat}{st:St}{Q:Exit->Act->World->Prop}{Γ:m6}{T:List Ct}(f:s9 P Γ)(hT:∀c∈T,Ok P c)(i:Nat)(b:List Nat)(t:Ty)(st':St){V W:Prop}{id:Nat}{l:List Oper}
  (h:evX n Γ T l i b t st=some (V/\W,st')) (e:V/\W) (hc:FX (cx P n y) st' .normal Q):VX (cx P n y) st (.region id l.toArray false) Q:=by
 unfold evX at h;rw[ce] at h;split at h
 ·rename_i s;rw[ba] at s;split at h
  ·rename_i V1 F aB g1;split at h
   ·rename_i d T1 x ty aA k hn;split at h
    ·rename_i v hv;split at h
     ·rename_i cs m;rw[ce] at h;split at h
      ·rename_i w;simp only[ba] at w;obtain⟨⟨⟨Y,z⟩,f3⟩,f4⟩:=w;split at h
       ·rename_i j r;rw[ce] at h;split at h
        ·rename_i g;split at h
         ·rename_i W1 q o g3;simp only[oi,pj] at h;obtain⟨e1,e2⟩:=h;rw[<- e1] at e;refine A0x (X:=cx P n y) f hT b s.1 s.2 g1 e.1 hn z fun u G a S H E K hK=>?_;obtain⟨hA,_⟩:=Hx m (x7 E (p:=[]) (fun _ h=>by cases h) hv);obtain⟨G',k1,k2,k3,k4⟩:=B0q r f3 z f4 (Cm Y) (u _ rfl) S H E hA;have:=hK j W1 q o G' _ g g3 e.2 (by grind) k2 k3 k4;unfold Bx;rw[if_pos (by rfl)];unfold Oper.wp;simp only[execOp];rw[k1] at this;exact this
         grind
        grind
       grind
      grind
     grind
    grind
   grind
  grind
 grind
section
variable {P:Program} {n:Nat} {y:World×(Nat->Prop)×(Nat->Prop)×(Nat->Value->Prop)×Nat} {st:St} {Q:Exit->Act->World->Prop} {Γ:m6} {T:List Ct} {ρ:Type} {r:ρ} {l:List Oper} {id i:Nat} {V:Prop} [Decidable V]
def n3{α β:Type}(o:Option (α×β×St)):St:=match o with
 | some (_,_,s)=>s
 | none=>⟨[],[]⟩
theorem c9{P:Program}{Γ:m6}[HG P Γ]{f:FuncId}{ps:List o5}{c:Type}[Inhabited c]{F:z6 ps->Option c}{R:c->AV}{Z:c->A0 ps}{b:Func}{a:Code}(rs:List ResultVar)(j:P.funcs[f]?=some b)
 (h:∀y x r,F x=some r->∀Q,Pv (cx P b.ntmps y) Γ rs ps R Z r .normal Q->Pv (cx P b.ntmps y) Γ rs ps R Z r .ret Q->VX (cx P b.ntmps y) ⟨K5 0 ps x,D8 0 ps x⟩ a Q)
 (g:b.body=some a:=by rfl) (i:b.results=rs.toArray:=by kernel_rfl) (e:Cf P f=true:=by kernel_rfl) (d:(Nat.ble ps.length b.ntmps&&W5 ps)=true:=by kernel_rfl):Ok P (c8 f ps F R Z):=okL rs j rfl i h g e d
end
theorem hz{P:Program}{T:List Ct}(h:∀c∈T,Ok P c):HT P T:=⟨h⟩
instance (priority:=low){P:Program}:HT P []:=⟨@tn P⟩
def HZ(f:FuncId)(ps:List o5){ζ:Type}(R:ζ->AV)(Z:ζ->A0 ps)(v:ζ):Ct:=⟨f,ps,fun _=>⟨True,R v,Z v⟩⟩
section
variable {P:Program} {n:Nat} {y:World×(Nat->Prop)×(Nat->Prop)×(Nat->Value->Prop)×Nat} {st:St} {Q:Exit->Act->World->Prop} {Γ:m6} {T:List Ct} {ρ:Type} {r:ρ} {f:FuncId} {ps:List o5} {ζ:Type} [Inhabited ζ] {F:z6 ps->Option ζ} {R:ζ->AV} {Z:ζ->A0 ps} {V:Prop} [Decidable V] {x:ζ} {g:ζ->Option ρ} {id:Nat} {l:List Oper} {b:Bool}
theorem iD[a:HG P Γ][e:HT P T][j:H6 P](_:Ok P (c8 f ps F R Z))(k:List Nat){c:Code}(H:gd V (lt x g)=some r)(i:∀v,g v=some r->VX (cx P n y) (nx (C9 b n Γ (HZ f ps R Z v :: T) l k st)) c Q)(h:(C9 b n Γ T l k st).map Prod.fst=some V:=by kernel_rfl)(d:nx (C9 b n Γ T l k st)=nx (C9 b n Γ (HZ f ps R Z x :: T) l k st):=by kernel_rfl):VX (cx P n y) st (.seq (.region id l.toArray b) c) Q :=
 qd a.h e.h k (fun v=>nx (C9 b n Γ (HZ f ps R Z v :: T) l k st)) H ((HY h).trans (congrArg (fun s=>some (V,s)) d)) i
theorem jD[a:HG P Γ][d:HT P T][i:H6 P](_:Ok P (c8 f ps F R Z))(k:List Nat)(H:gd V (lt x g)=some r)(e:∀v,g v=some r->FX (cx P n y) (nx (C9 b n Γ (HZ f ps R Z v :: T) l k st)) .normal Q)(h:(C9 b n Γ T l k st).map Prod.fst=some V:=by kernel_rfl)(c:nx (C9 b n Γ T l k st)=nx (C9 b n Γ (HZ f ps R Z x :: T) l k st):=by kernel_rfl):VX (cx P n y) st (.region id l.toArray b) Q :=
 zd a.h d.h k (fun v=>nx (C9 b n Γ (HZ f ps R Z v :: T) l k st)) H ((HY h).trans (congrArg (fun s=>some (V,s)) c)) e
end
end Go.Proofs.Xv
end
