/- Plain facts on B0q functions: sizes, copies, comparisons. Over any program. -/
import Derived.Test.YtechodbafnmddaaGreatDoorXD
import Derived.Test.YtechodbafnmddaaGreatDoorXA
import Derived.Lib.SliceRun
import Derived.Sort.Grow
set_option maxHeartbeats 0
section
namespace Go.Proofs.Xd
open Go Go.Proofs.Xv Go.Proofs.Xl
theorem lE{a b:Type}{x:a}{f:a->b}:lt x f=f x:=rfl
theorem M8{o:Option Int}{m n:Nat}{l:Int}{k:Int->Option Int}(h:o=some (r7 m l))(a:∀v,0<=v->v<=l->k v=some (r7 n v))(_:0<=l) :
  gd (o.isSome=true/\True) (lt (vl o) fun v=>if(decide (v<0))=true then some (-1) else k v)=some (r7 (m+n) l):=by
 subst h;rw[gP ⟨rfl,trivial⟩];show(if(decide (r7 m l<0))=true then some (-1) else k (r7 m l))=_
 grind[r7]
theorem CK{s n:Nat}{l:Int}{k:Option Int}(b:s<=9223372036854775807)(e:0<=l)(d:l<=9223372036854775807)(a:0<=l-(s:Int)->k=some (r7 n (l-(s:Int)))) :
  gd (b9 (l-(s:Int))/\True) (if(decide (l-(s:Int)<0))=true then some (-1) else k)=some (r7 (s+n) l):=by
 rw[gP ⟨oo,trivial⟩];by_cases c:l-(s:Int)<0
 ·rw[if_pos (by grind),C0p c]
 ·rw[if_neg (by grind),a (by omega),C0o (by omega)]
theorem T7{v:Int}(h:0<=v):some v=some (r7 0 v):=by rw[w0X h]
theorem G0W{T:Type}(xs:List T)(d:T)(c:T->Nat){F:(Int×Int->Option Int)->Int×Int->Option Int}{M:Int}
  (a:∀g (v:Int) (i:Nat),i<xs.length->0<=v->v<=M->F g (v,(i:Int))=if r7 (c (xs.getD i d)) v<0 then some (-1) else g (r7 (c (xs.getD i d)) v,(i:Int)+1))
  (f:∀g (v:Int) (i:Nat),xs.length<=i->F g (v,(i:Int))=some v):∀(n i:Nat) (v:Int),0<=v->v<=M->i<=xs.length->xs.length-i<n->I0 F n (v,(i:Int))=some (r7 ((xs.drop i).map c).sum v)
 | 0,i,v,_,_,_,h=>by omega
 | n+1,i,v,hv,hM,hi,hn=>by
   show F (I0 F n) (v,(i:Int))=_;by_cases h:i<xs.length
   ·rw[a _ _ _ h hv hM];have e:xs.drop i=xs.getD i d :: xs.drop (i+1):=by
     rw[List.drop_eq_getElem_cons h,gq,List.getElem?_eq_getElem h]; rfl
    rw[e,List.map_cons,List.sum_cons];split
    ·rename_i b;rw[t0N b]
    ·rename_i b;rw[t0M (by omega)];have:=G0W xs d c a f n (i+1) (r7 (c (xs.getD i d)) v) (by omega) (by have:=(G0X (n:=c (xs.getD i d)) hv).2; omega) (by omega) (by omega)
     grind
   grind[List.drop_eq_nil_of_le,T7]
theorem FE{T:Type}{xs:List T}{d:T}{c:T->Nat}{F:(Int×Int->Option Int)->Int×Int->Option Int}{l:Int}(a:xs.length<=9223372036854775807)(f:0<=l)(b:l<=9223372036854775807)
  (e:∀g (v:Int) (i:Nat),i<xs.length->0<=v->v<=9223372036854775807->F g (v,(i:Int))=if r7 (c (xs.getD i d)) v<0 then some (-1) else g (r7 (c (xs.getD i d)) v,(i:Int)+1))
  (j:∀g (v:Int) (i:Nat),xs.length<=i->F g (v,(i:Int))=some v) :
  gd (b9 (l-(xs.length:Int))/\True) (if(decide (l-(xs.length:Int)<0))=true then some (-1) else lp F (l-(xs.length:Int),0))=some (r7 (xs.length+(xs.map c).sum) l):=by
 refine CK a f b fun h=>?_;have:=G0W xs d c e j O9 0 (l-(xs.length:Int)) h (by omega) (by omega) (by grind[O9])
 grind[lp]
theorem GW{o:Option Int}{m i a:Nat}{v:Int}{g:Int×Int->Option Int}{k:Option Int}(h:o=some (r7 m v))(hi:i<a)(b:a<=9223372036854775807) :
  (if(decide ((i:Int) < (a:Int)))=true then gd (ix (i:Int) a/\o.isSome=true/\True) (lt (vl o) fun v3=>if(decide (v3<0))=true then some (-1) else gd (b9 ((i:Int)+1)/\True) (g (v3,(i:Int)+1))) else k) =
    if r7 m v<0 then some (-1) else g (r7 m v,(i:Int)+1):=by
 subst h;rw[if_pos (by grind),gP ⟨oo,rfl,trivial⟩];show(if(decide (r7 m v<0))=true then some (-1) else gd (b9 ((i:Int)+1)/\True) (g (r7 m v,(i:Int)+1)))=_;rw[gP ⟨oo,trivial⟩]
 grind
theorem J0K{m i a:Nat}{v:Int}{g:Int×Int->Option Int}{k:Option Int}(hi:i<a)(f:a<=9223372036854775807)(e:m<=9223372036854775807)(b:0<=v)(d:v<=9223372036854775807) :
  (if(decide ((i:Int) < (a:Int)))=true then gd (ix (i:Int) a/\b9 (v-(m:Int))/\True) (lt (v-(m:Int)) fun v3=>if(decide (v3<0))=true then some (-1) else gd (b9 ((i:Int)+1)/\True) (g (v3,(i:Int)+1))) else k) =
    if r7 m v<0 then some (-1) else g (r7 m v,(i:Int)+1):=by
 rw[if_pos (by grind),gP ⟨oo,oo,trivial⟩];show(if(decide (v-(m:Int)<0))=true then some (-1) else gd (b9 ((i:Int)+1)/\True) (g (v-(m:Int),(i:Int)+1)))=_;rw[gP ⟨oo,trivial⟩];by_cases c:v-(m:Int)<0
 ·rw[if_pos (by grind),if_pos (by grind[A0W])]
 ·rw[if_neg (by grind),WA (by omega),if_neg c]
theorem FF{c i:Nat}{a b:Option Int}(h:c<=i):(if(decide ((i:Int) < (c:Int)))=true then a else b)=b:=if_neg (by grind)
theorem K9{a b:Type}[Inhabited a]{o:Option a}{x:a}{k:a->Option b}{r:Option b}(h:o=some x)(c:k x=r):gd (o.isSome=true/\True) (lt (vl o) k)=r:=by
 subst h;rw[gP ⟨rfl,trivial⟩];exact c
theorem D0k{b:Type}(a:List b)(z _:b)(s:Nat)(h:s<a.length):(a.take s++List.replicate (a.length-s) z).length=a.length:=by
 grind
theorem G0S{T:Type}(xs:List T)(z d:T){F:(Int×List T->Option (List T))->Int×List T->Option (List T)}
  (a:∀g (i:Nat) (ys:List T),i<xs.length->ys.length=xs.length->F g ((i:Int),ys)=g ((i:Int)+1,ys.set i (xs.getD i d)))
  (b:∀g (i:Nat) ys,xs.length<=i->F g ((i:Int),ys)=some ys):∀(n i:Nat),i<=xs.length->xs.length-i<n->I0 F n ((i:Int),xs.take i++List.replicate (xs.length-i) z)=some xs
 | 0,i,_,h=>by omega
 | n+1,i,hi,hn=>by
   show F (I0 F n) ((i:Int),_)=_;by_cases h:i<xs.length
   ·rw[a _ _ _ h (D0k xs z d i h),v0n xs z d i h];have:=G0S xs z d a b n (i+1) (by omega) (by omega)
    grind
   grind[y0p]
theorem Bk{T:Type}{xs:List T}{z d:T}{F:(Int×List T->Option (List T))->Int×List T->Option (List T)}{b:Nat}(a:xs.length<=1048576)(c:b<=4096)
  (e:∀g (i:Nat) (ys:List T),i<xs.length->ys.length=xs.length->F g ((i:Int),ys)=g ((i:Int)+1,ys.set i (xs.getD i d)))
  (f:∀g (i:Nat) ys,xs.length<=i->F g ((i:Int),ys)=some ys) :
  gd ((0<=(xs.length:Int)/\(xs.length:Int)=(xs.length:Int)/\(xs.length:Int).toNat*b<=281474976710656/\(xs.length:Int)<=9223372036854775807)/\True) (lp F (0,List.replicate (xs.length:Int).toNat z))=some xs:=by
 have h:xs.length*b<=1048576*4096:=Nat.mul_le_mul a c;rw[gP ⟨⟨by omega,rfl,by grind,by omega⟩,trivial⟩,Int.toNat_natCast];have:=G0S xs z d e f O9 0 (by omega) (by grind[O9])
 grind[lp]
theorem DC{T:Type}{o:Option T}[Inhabited T]{x:T}{i a:Nat}{b:List T}{g:Int×List T->Option (List T)}{k:Option (List T)}(h:o=some x)(hi:i<a)(c:a<=9223372036854775807)(d:b.length=a) :
  (if(decide ((i:Int) < (a:Int)))=true then gd (ix (i:Int) a/\o.isSome=true/\ix (i:Int) b.length/\(i:Int).toNat<b.length/\True) (lt (vl o) fun v4=>gd (b9 ((i:Int)+1)/\True) (g ((i:Int)+1,b.set (i:Int).toNat v4))) else k)=g ((i:Int)+1,b.set i x):=by
 subst h;rw[if_pos (by grind),gP ⟨oo,rfl,oo,by omega,trivial⟩];rw[lE,vS,gP ⟨oo,trivial⟩,Int.toNat_natCast]
theorem TL{T:Type}{x:T}{i a:Nat}{b:List T}{g:Int×List T->Option (List T)}{k:Option (List T)}(hi:i<a)(d:a<=9223372036854775807)(c:b.length=a) :
  (if(decide ((i:Int) < (a:Int)))=true then gd (ix (i:Int) a/\ix (i:Int) b.length/\(i:Int).toNat<b.length/\True) (gd (b9 ((i:Int)+1)/\True) (g ((i:Int)+1,b.set (i:Int).toNat x))) else k)=g ((i:Int)+1,b.set i x):=by
 rw[if_pos (by grind),gP ⟨oo,oo,by omega,trivial⟩,gP ⟨oo,trivial⟩,Int.toNat_natCast]
theorem Bl{T:Type}{c i:Nat}{a b:Option T}(h:c<=i):(if(decide ((i:Int) < (c:Int)))=true then a else b)=b:=if_neg (by grind)
theorem L4{o:Option Bool}{k r:Option Bool}(h:o=some true)(a:k=r):gd (o.isSome=true/\True) (if(!vl o)=true then some false else k)=r:=by
 subst h;rw[gP ⟨rfl,trivial⟩];exact a
theorem PQ{p:Prop}[Decidable p]{k r:Option Bool}(h:p)(a:k=r):(if(!decide p)=true then some false else k)=r:=by
 grind
theorem V4{x:Int}{k r:Option Bool}(a:k=r):(if(x != x)=true then some false else k)=r:=by
 grind
theorem X9{x:Bool}{k r:Option Bool}(a:k=r):(if(x != x)=true then some false else k)=r:=by
 grind
theorem K0M{x:Bool}{k r:Option Bool}(a:k=r):(if(!(x==x))=true then some false else k)=r:=by
 grind
theorem H0H(a:Nat){F:(Int->Option Bool)->Int->Option Bool}(b:∀g (i:Nat),i<a->F g (i:Int)=g ((i:Int)+1))(c:∀g (i:Nat),a<=i->F g (i:Int)=some true):∀(n i:Nat),i<=a->a-i<n->I0 F n (i:Int)=some true
 | 0,i,_,h=>by omega
 | n+1,i,hi,hn=>by
   show F (I0 F n) (i:Int)=_;by_cases h:i<a
   ·rw[b _ _ h]
    exact_mod_cast H0H a b c n (i+1) (by omega) (by omega)
   grind
theorem Bm{a:Nat}{F:(Int->Option Bool)->Int->Option Bool}(d:a<=9223372036854775807)(b:∀g (i:Nat),i<a->F g (i:Int)=g ((i:Int)+1))(c:∀g (i:Nat),a<=i->F g (i:Int)=some true) :
  (if((a:Int) != (a:Int))=true then some false else lp F 0)=some true :=
 V4 (H0H a b c O9 0 (by omega) (by grind[O9]))
theorem DD{o:Option Bool}{i a:Nat}{g:Int->Option Bool}{k:Option Bool}(h:o=some true)(hi:i<a)(b:a<=9223372036854775807) :
  (if(decide ((i:Int) < (a:Int)))=true then gd (ix (i:Int) a/\ix (i:Int) a/\o.isSome=true/\True) (if(!vl o)=true then some false else gd (b9 ((i:Int)+1)/\True) (g ((i:Int)+1))) else k)=g ((i:Int)+1):=by
 subst h;rw[if_pos (by grind),gP ⟨oo,oo,rfl,trivial⟩,vS,if_neg (by simp),gP ⟨oo,trivial⟩]
theorem TN{b:Bool}{i a:Nat}{g:Int->Option Bool}{k:Option Bool}(h:b=false)(hi:i<a)(c:a<=9223372036854775807) :
  (if(decide ((i:Int) < (a:Int)))=true then gd (ix (i:Int) a/\ix (i:Int) a/\True) (if b=true then some false else gd (b9 ((i:Int)+1)/\True) (g ((i:Int)+1))) else k)=g ((i:Int)+1):=by
 subst h;rw[if_pos (by grind),gP ⟨oo,oo,trivial⟩,if_neg (by simp),gP ⟨oo,trivial⟩]
theorem Q3{t:Ty}{a:List (c9 t)}{i:Nat}{d:c9 t}{m:Nat}(h:i<a.length)(b:h9 (.sl t) a<=m):h9 t (a.getD i d)<=m:=by
 grind[BZ,H0N]
theorem B7{t:Ty}{a:List (c9 t)}{m:Nat}(b:h9 (.sl t) a<=m):a.length<=m:=by
 grind[BZ]
theorem cF{s t:Ty}{x:c9 (.pr s t)}{m:Nat}(h:h9 (.pr s t) x<=m):h9 s x.1<=m:=by
 grind[Ac]
theorem cS{s t:Ty}{x:c9 (.pr s t)}{m:Nat}(h:h9 (.pr s t) x<=m):h9 t x.2<=m:=by
 grind[Ac]
theorem M9{t:Ty}{a:List (c9 t)}{i:Nat}{d:c9 t}(h:i<a.length)(b:wf (.sl t) a):wf t (a.getD i d):=by
 rw[gq,List.getElem?_eq_getElem h];exact b.2 _ (List.getElem_mem h)
theorem dlt{i n:Nat}:decide ((i:Int) < (n:Int))=decide (i<n):=by
 grind
theorem Ql{n:Nat}(h:n<=9223372036854775807):n+1<O9:=by grind[O9]
theorem C0Q{a b:Type}{F:(a->Option b)->a->Option b}{s:a}{r:Option b}(h:∀n,0<n->I0 F n s=r):lp F s=r:=h O9 (by grind[O9])
theorem Vb{b e c:Type}{n:Nat}(j:n<=9223372036854775807)(mk:Nat->b->e)(f:Nat->b->Option b)(x:Nat->b->Option c)(I:Nat->b->Prop){J:b->Option c}{F:(e->Option c)->e->Option c}
  (t:∀g i s,i<n->I i s->F g (mk i s)=match f i s with | some s'=>g (mk (i+1) s') | none=>x i s) (q:∀i s s',i<n->I i s->f i s=some s'->I (i+1) s') (u:∀g s,I n s->F g (mk n s)=J s)
  (a:Nat->b->Option c) (r0:∀s,I n s->a n s=J s) (o:∀i s,i<n->I i s->a i s=match f i s with | some s'=>a (i+1) s' | none=>x i s) (k:Nat) (h:k<=n) (s:b) (l:I k s):lp F (mk k s)=a k s:=by
 have d:∀(m i:Nat) (s:b),i<=n->n-i<m->I i s->I0 F m (mk i s)=a i s:=by
  intro m
  induction m with
  | zero=>omega
  | succ m r =>
    grind[hi,I0]
 exact d O9 k s h (by have:=Ql j; omega) l
theorem FW{a:Type}{n:Nat}(d:n<=9223372036854775807)(c:Nat->Bool)(x:Nat->Option a){e:Option a}{F:(Int->Option a)->Int->Option a}(k:Nat)(b:k<=n)(m:∀g (i:Nat),k<=i->i<n->F g (i:Int)=if c i=true then x i else g ((i:Int)+1))
  (j:∀g,F g (n:Int)=e):lp F (k:Int)=match(List.range' k (n-k)).find? c with | some i=>x i | none=>e:=by
 have:=Vb d (fun i (_:Unit)=>(i:Int)) (fun i _=>if c i=true then none else some ()) (fun i _=>x i) (fun i _=>k<=i) (J:=fun _=>e) (F:=F)
  (fun g i s h f=>by
    grind) (fun _ _ _ _ h _=>Nat.le_succ_of_le h) (fun g _ _=>j g) (fun i _=>match(List.range' i (n-i)).find? c with | some i=>x i | none=>e) (fun _ _=>by simp) (fun i s h _=>by
    have l:n-i=(n-(i+1))+1:=by omega
    grind[List.range'_succ]) k b () (Nat.le_refl _)
 simpa using this
theorem H9{a:Type}{n:Nat}(b:n<=9223372036854775807)(c:Nat->Bool)(x:Option a){e:Option a}{F:(Int->Option a)->Int->Option a}(f:∀g (i:Nat),i<n->F g (i:Int)=if c i=true then x else g ((i:Int)+1))
  (l:∀g,F g (n:Int)=e):lp F 0=if(List.range n).any c=true then x else e:=by
 have:=FW b c (fun _=>x) 0 (Nat.zero_le _) (fun g i _ h=>f g i h) l;rw[Nat.sub_zero,<- List.range_eq_range'] at this;refine Eq.trans this ?_;cases h:(List.range n).find? c with
 | none =>
   rw[if_neg];rw[List.find?_eq_none] at h;intro d;obtain⟨i,k,j⟩:=List.any_eq_true.1 d;exact h i k j
 | some i =>
   rw[if_pos];exact List.any_eq_true.2 ⟨i,List.mem_of_find?_eq_some h,List.find?_some h⟩
theorem C0S{a:Type}{n:Nat}(d:n<=9223372036854775807)(c:Nat->Bool)(x:Option a){e:Option a}{F:(Int->Option a)->Int->Option a}(k:Nat)(b:k<=n)(f:∀g (i:Nat),k<=i->i<n->F g (i:Int)=if c i=true then x else g ((i:Int)+1))
  (h:∀g,F g (n:Int)=e):lp F (k:Int)=if((List.range n).any fun i=>decide (k<=i)&&c i)=true then x else e:=by
 refine(FW d c (fun _=>x) k b f h).trans ?_
 grind
def fN{σ:Type}(f:Nat->σ->σ):Nat->σ->σ
 | 0,s=>s
 | n+1,s=>f n (fN f n s)
theorem lF{a e c:Type}{n:Nat}(j:n<=9223372036854775807)(mk:Nat->a->e)(f:Nat->a->a)(I:Nat->a->Prop){J:a->Option c}{F:(e->Option c)->e->Option c}
  (o:∀g i s,i<n->I i s->F g (mk i s)=g (mk (i+1) (f i s))) (k:∀i s,i<n->I i s->I (i+1) (f i s)) (t:∀g s,I n s->F g (mk n s)=J s) (s:a) (q:I 0 s):lp F (mk 0 s)=J (fN f n s):=by
 have d:∀(m i:Nat),i<=n->n-i<m->I i (fN f i s)->I0 F m (mk i (fN f i s))=J (fN f n s):=by
  intro m
  induction m with
  | zero=>omega
  | succ m l =>
    intro i hi r b;show F (I0 F m) (mk i _)=_;by_cases h:i<n
    ·rw[o _ _ _ h b];exact l (i+1) (by omega) (by omega) (k _ _ h b)
    grind
 exact d O9 0 (Nat.zero_le _) (by have:=Ql j; omega) q
theorem Nc{a k d:Type}{n:Nat}(o:n<=9223372036854775807)(mk:Nat->a->k)(f:Nat->a->a)(c:Nat->Bool)(x:Option d)(I:Nat->a->Prop){J:a->Option d}{F:(k->Option d)->k->Option d}
  (u:∀g i s,i<n->I i s->F g (mk i s)=if c i=true then x else g (mk (i+1) (f i s))) (q:∀i s,i<n->I i s->c i=false->I (i+1) (f i s)) (y:∀g s,I n s->F g (mk n s)=J s) (s:a) (t:I 0 s) :
  lp F (mk 0 s)=if(List.range n).any c=true then x else J (fN f n s):=by
 have e:∀(m i:Nat),i<=n->n-i<m->I i (fN f i s)->(∀j,j<i->c j=false)->I0 F m (mk i (fN f i s))=if(List.range n).any c=true then x else J (fN f n s):=by
  intro m
  induction m with
  | zero=>omega
  | succ m r =>
    intro i hi v b w;show F (I0 F m) (mk i _)=_;by_cases h:i<n
    ·rw[u _ _ _ h b];cases hci:c i with
     | true=>grind
     | false =>
       rw[if_neg (by simp)];refine r (i+1) (by omega) (by omega) (q _ _ h b hci) (fun j l=>?_)
       grind
    grind
 exact e O9 0 (Nat.zero_le _) (by have:=Ql o; omega) t (fun j l=>absurd l (Nat.not_lt_zero j))
theorem PX{n:Nat}(p q:Nat->Bool):((List.range n).any fun i=>p i||q i)=((List.range n).any p||(List.range n).any q):=by
 grind
theorem Cf{n:Nat}{c:Nat->Bool}:(!(List.range n).any c)=true↔∀i,i<n->c i=false:=by
 grind
theorem T8{a:Type}(l:List a)(d:a)(p:a->Bool):((List.range l.length).any fun i=>p (l.getD i d))=l.any p:=by
 rw[Bool.eq_iff_iff,List.any_eq_true,List.any_eq_true];constructor
 ·grind
 ·rintro⟨x,c,f⟩;obtain⟨i,b,e⟩:=List.getElem_of_mem c;refine⟨i,List.mem_range.2 b,?_⟩
  grind
theorem MT{n:Nat}{p q:Nat->Bool}(h:∀i,i<n->p i=q i):(List.range n).any p=(List.range n).any q:=by
 grind
theorem Ci{a:Type}{i n:Nat}{V:Prop}[Decidable V]{c:Bool}{x e:Option a}{g:Int->Option a}(h:i<n)(d:n<=9223372036854775807)(b:V) :
  (if(decide ((i:Int) < (n:Int)))=true then gd V (if c=true then x else gd (b9 ((i:Int)+1)/\True) (g ((i:Int)+1))) else e)=if c=true then x else g ((i:Int)+1):=by
 rw[if_pos (by grind),gP b,gP ⟨oo,trivial⟩]
theorem D0I{a:Type}{i n:Nat}{V W:Prop}[Decidable V][Decidable W]{c:Bool}{x e:Option a}{g:Int->Option a}(h:i<n)(f:n<=9223372036854775807)(d:V)(b:W) :
  (if(decide ((i:Int) < (n:Int)))=true then gd V (gd W (if c=true then x else gd (b9 ((i:Int)+1)/\True) (g ((i:Int)+1)))) else e)=if c=true then x else g ((i:Int)+1):=by
 rw[if_pos (by grind),gP d,gP b,gP ⟨oo,trivial⟩]
theorem aE{b:Type}{n:Nat}{a e:Option b}:(if(decide ((n:Int) < (n:Int)))=true then a else e)=e:=if_neg (by simp)
theorem Hg{i n:Nat}{o:Option Bool}{g:Int->Option Int}{e:Option Int}{b:Bool}(h:i<n)(c:n<=9223372036854775807)(a:o=some b) :
  (if(decide ((i:Int) < (n:Int)))=true then gd (ix (i:Int) n/\o.isSome=true/\True) (if(vl o)=true then some (i:Int) else gd (b9 ((i:Int)+1)/\True) (g ((i:Int)+1))) else e)=if b=true then some (i:Int) else g ((i:Int)+1):=by
 subst a;rw[if_pos (by grind),gP ⟨oo,rfl,trivial⟩,gP ⟨oo,trivial⟩,vS]
theorem CR{n:Nat}(c:n<=9223372036854775807)(b:Nat->Bool){F:(Int->Option Int)->Int->Option Int}(d:∀g (i:Nat),i<n->F g (i:Int)=if b i=true then some (i:Int) else g ((i:Int)+1))(a:∀g,F g (n:Int)=some (-1)) :
  lp F 0=some (match(List.range n).find? b with | some i=>(i:Int) | none => -1):=by
 have:=FW c b (fun i=>some (i:Int)) 0 (Nat.zero_le _) (fun g i _ h=>d g i h) a;rw[Nat.sub_zero,<- List.range_eq_range'] at this
 grind
theorem Hh{n:Nat}{b:Nat->Bool}{o:Option Int}(h:o=some (match(List.range n).find? b with | some i=>(i:Int) | none => -1)):gd (o.isSome=true/\True) (lt (vl o) fun v0=>some (decide (0<=v0)))=some ((List.range n).any b):=by
 subst h;rw[gP ⟨rfl,trivial⟩,lE,vS];cases h:(List.range n).find? b with
 | none =>
   grind
 | some i =>
   have:(List.range n).any b=true:=List.any_eq_true.2 ⟨i,List.mem_of_find?_eq_some h,List.find?_some h⟩;rw[this];simp
end Go.Proofs.Xd
end
section
namespace Go.Proofs.Xv
open Go Go.RowKit Go.Proofs.Sv
def Dk(P:Program)(op:TypeId->Ty->Bool):Nat->List Field->Ty->Bool
 | _,[],_=>false
 | off,[f],y=>Nat.beq f.offset off&&Nat.beq (P.cellsOf f.type) (sz y)&&op f.type y
 | off,f :: r,.pr a b=>Nat.beq f.offset off&&Nat.beq (P.cellsOf f.type) (sz a)&&op f.type a&&Dk P op (off+sz a) r b
 | _,_,_=>false
def Kc(P:Program):Nat->TypeId->Ty->Bool
 | 0,_,_=>false
 | n+1,T,y=>match P.underlying T with
   | some (.int k)=>decide (y=.int k)
   | some .bool=>decide (y=.bool)
   | some .string=>decide (y=.str)
   | some (.slice E)=>match y with
     | .sl e=>Kc P n E e
     | _=>false
   | some (.struct fs)=>Nat.beq (P.cellsOf T) (sz y)&&Dk P (Kc P n) 0 fs.toList y
   | _=>false
def Fm(w:World)(k:Nat):Prop:=k<w.heap.size
theorem x0M(k:IntKind):k.min=lo k/\k.max=hi k:=by cases k <;> exact⟨rfl,rfl⟩
theorem u0q{P:Program}{E:TypeId}{e:Ty}{w:World}{H:Type}{enc:TypeId×Value->H}{sp:Nat->Bool}{W:Bool}(hE:∀{j:Nat} {cs:List Value} {x:DataW H×List MemPlace},DataW.trod enc P w 0 sp W j E cs=some x->∃z:c9 e,RT (Fm w) w e cs z)
  {T:TypeId} {j:Nat} {cs:List Value} {x:DataW H×List MemPlace} (hT:P.underlying T=some (.slice E)) (h:DataW.trod enc P w 0 sp W j T cs=some x):∃z:List (c9 e),RT (Fm w) w (.sl e) cs z:=by
 rcases DataW.trod_slice hT h with ⟨rfl,_⟩ | ⟨a,len,cap,elems,rest,n,rfl,rfl,_,_,hlc,hcm,hel,hat,_,_⟩
 ·exact⟨[],none,0,rfl,Nat.le_refl _,by omega,.inl rfl⟩
 ·have m:cap<=9223372036854775807:=by unfold maxLen at hcm; omega
  have d:∀i,i<len->∃c:List Value,w.cells? 0 (a.add (i*P.cellsOf E)) (P.cellsOf E)=some c/\∃y:c9 e,RT (Fm w) w e c y:=by
   intro i hi;have g:=hat i hi;rw[List.getElem?_eq_getElem (by omega)] at g;cases f:w.cells? 0 (a.add (i*P.cellsOf E)) (P.cellsOf E) with
   | none=>rw[f] at g; cases g
   | some c =>
     rw[f] at g;simp only[Option.bind_some] at g;exact⟨c,rfl,hE g⟩
  by_cases G:len=0
  ·subst G;exact⟨[],some a,cap,rfl,Nat.zero_le _,m,.inl rfl⟩
  ·have V:P.cellsOf E=sz e:=by
    obtain⟨c,f,y,F⟩:=d 0 (by omega);have:=(World.cells?_some f).2.1;rw[<- this]; exact RT.len F
   have l:0<P.cellsOf E:=by rw[V]; exact DR e
   obtain⟨b,o,rfl⟩:∃b o,a=⟨b,o,none⟩:=by
    obtain⟨c,f,_⟩:=d 0 (by omega);have v:a.add (0*P.cellsOf E)=a:=by simp[Addr.add]
    rw[v] at f;exact⟨a.block,a.off,(JD l f).1⟩
   have X:b<w.heap.size:=by
    obtain⟨c,f,_⟩:=d 0 (by omega);have v:(Addr.mk b o none).add (0*P.cellsOf E)=⟨b,o,none⟩:=by simp[Addr.add]
    rw[v] at f;have r:=JD l f;exact r.2.2.lt (by rw[r.2.1]; exact l)
   have q:∀k,k<=len->∃(cs:List Value) (s:List (c9 e)),s.length=k/\At w b o cs/\AllR (RT (Fm w) w e) cs s:=by
    intro k
    induction k with
    | zero=>exact fun _=>⟨[],[],rfl,QU,rfl⟩
    | succ k Y =>
      intro hk;obtain⟨cs,s,r,Q,u⟩:=Y (by omega);obtain⟨c,f,y,F⟩:=d k (by omega);have t:(Addr.mk b o none).add (k*P.cellsOf E)=⟨b,o+k*P.cellsOf E,none⟩:=by
       unfold Addr.add;split
       ·rename_i G; rw[G]; rfl
       ·rfl
      rw[t] at f;have h4:=(JD l f).2.2;refine⟨cs++c,s++[y],by simp[r],Q.app ?_,AllR.app (AllR.one F) u⟩;have:cs.length=k*P.cellsOf E:=by rw[u.len (fun c x h=>RT.len h),r,V]
      rw[this]; exact h4
   obtain⟨cs,s,r,Q,u⟩:=q len (Nat.le_refl _);subst r;exact⟨s,some ⟨b,o,none⟩,cap,rfl,hlc,m,.inr ⟨b,o,cs,rfl,X,Q,u⟩⟩
theorem o0F{P:Program}{w:World}{H:Type}{enc:TypeId×Value->H}{sp:Nat->Bool}{v:Bool}{u:TypeId->Ty->Bool}
  (l:∀{T:TypeId} {y:Ty},u T y=true->∀{fuel:Nat} {cs:List Value} {x:DataW H×List MemPlace},DataW.trod enc P w 0 sp v fuel T cs=some x->∃z:c9 y,RT (Fm w) w y cs z) {cs:List Value} :
  ∀{fs:List Field} {off:Nat} {y:Ty},Dk P u off fs y=true->cs.length=off+sz y->(∀f∈fs,∃n x,DataW.trod enc P w 0 sp v n f.type ((cs.drop f.offset).take (P.cellsOf f.type))=some x)->∃z:c9 y,RT (Fm w) w y (cs.drop off) z:=by
 intro fs
 induction fs with
 | nil=>grind[Dk]
 | cons f r G =>
   intro off y h j s;cases r with
   | nil =>
     have h:(Nat.beq f.offset off&&Nat.beq (P.cellsOf f.type) (sz y)&&u f.type y)=true:=by
      cases y <;> exact h
     simp only[ba] at h;obtain⟨⟨i,d⟩,E⟩:=h;have i:=nb i;have d:=nb d;obtain⟨n,x,t⟩:=s f (by simp)
     grind[List.take_of_length_le,List.length_drop]
   | cons g X =>
     cases y with
     | pr a b =>
       simp only[Dk,ba] at h;obtain⟨⟨⟨i,d⟩,E⟩,Q⟩:=h;have i:=nb i;have d:=nb d;obtain⟨n,x,t⟩:=s f (by simp);rw[i,d] at t;obtain⟨F,q⟩:=l E t;have c:cs.length=off+sz a+sz b:=by rw[j]; simp only[sz]; omega
       obtain⟨W,o⟩:=G Q c (fun V m=>s V (List.mem_cons_of_mem _ m));refine⟨(F,W),(cs.drop off).take (sz a),cs.drop (off+sz a),?_,q,o⟩
       grind[List.drop_drop,List.take_append_drop]
     | int k=>grind[Dk]
     | bool=>grind[Dk]
     | str=>grind[Dk]
     | sl e=>grind[Dk]
     | pt e=>grind[Dk]
theorem m0Z{P:Program}{w:World}{H:Type}{enc:TypeId×Value->H}{sp:Nat->Bool}{r:Bool}:∀{n:Nat} {T:TypeId} {y:Ty},Kc P n T y=true->∀{fuel:Nat} {cs:List Value} {x:DataW H×List MemPlace},DataW.trod enc P w 0 sp r fuel T cs=some x->∃z:c9 y,RT (Fm w) w y cs z:=by
 intro n
 induction n with
 | zero=>intro T y h; cases h
 | succ n j =>
   intro T y h fuel cs x c;unfold Kc at h;split at h
   ·rename_i k a;have d:y=.int k:=by simpa using h
    subst d;obtain⟨m,rfl,_,l⟩:=DataW.trod_int a c;refine⟨m,rfl,?_⟩;simp only[Lit.wf,ba,dq] at l
    grind[x0M]
   ·rename_i a;have d:y=.bool:=by simpa using h
    subst d;obtain⟨b,rfl,_⟩:=DataW.trod_bool a c;exact⟨b,rfl⟩
   ·rename_i a;have d:y=.str:=by simpa using h
    subst d;obtain⟨s,rfl,_,u⟩:=DataW.trod_string a c;exact⟨s,rfl,by grind[maxLen]⟩
   ·rename_i E a;split at h
    ·exact u0q (j h) a c
    grind
   ·rename_i t a;rw[ba] at h;obtain⟨g,o⟩:=m0Y a c;have v:=nb h.1;have:=o0F (cs:=cs) (fun q=>j q) h.2 (by omega) (fun f e=>by
     obtain⟨i,hi,rfl⟩:=List.getElem_of_mem e;exact o i _ (by grind))
    grind
   grind
theorem TQ{P:Program}{H:Type}{enc:TypeId×Value->H}{T:TypeId}{y:Ty}{n:Nat}(c:Kc P n T y=true){i:Array Field}(j:P.underlying T=some (.struct i)){W:World}{r:Reach}{a:Nat}{v:Value}{d:DataW H}{p:List MemPlace}
  (b:Value.okWide P W r a T v) (h:DataW.Trod enc P W 0 (fun _=>true) true T v d p):∃(cs:List Value) (x:c9 y),v=.agg cs.toArray/\RT (Fm W) W y cs x:=by
 obtain⟨cs,rfl,_⟩:=WideShapes.okWide_struct j b;obtain⟨f,g⟩:=h;obtain⟨x,e⟩:=m0Z c g;exact⟨cs.toList,x,by simp,e⟩
theorem M0H{P:Program}{H:Type}{enc:TypeId×Value->H}{T E:TypeId}{y:Ty}{n:Nat}(e:Kc P n T y=true)(j:P.underlying T=some (.slice E)){W:World}{r:Reach}{b:Nat}{v:Value}{d:DataW H}{p:List MemPlace}
  (c:Value.okWide P W r b T v) (h:DataW.Trod enc P W 0 (fun _=>true) true T v d p):∃x:c9 y,RT (Fm W) W y [v] x:=by
 obtain⟨a,k,l,rfl⟩:=WideShapes.okWide_slice j c;obtain⟨f,i⟩:=h;obtain⟨x,g⟩:=m0Z e i;exact⟨x,g⟩
theorem WE.below{w w':World}(h:WE none w w'):Below w.heap.size w w':=⟨h.os,h.tape,h.output,h.size,fun k a=>h.block k a (by simp)⟩
theorem Oh{P:Program}{ops:Array Oper}{Q:Exit->Act->World->Prop}{o:Oper}{r:List Oper}{a:Act}{w:World}(b:BF P ops Q o (wpList P ops Q r) a w):wpList P ops Q (o :: r) a w:=by
 grind[wpList,BF]
theorem r0I{P:Program}{n:Nat}{e:A9}{ty:TypeId}{w:World}{T T' E:TypeId}{x y:Operand}{q:Option Addr}{m c:Nat}(k:P.underlying T=some (.slice E))(h:Sv.ev e x=some (.slice q m c))(i:Sv.ev e y=some (.slice none 0 0)) :
  D6 P n e (.binOp .eql T x y T') ty w (.bool q.isNone) w:=by
 intro a j f b g d;have:=Lib.run_eql_slice_nil w T E q m c 0 0 k;simp only[execOp,d.ev h,d.ev i];simp[eqGuard,this,Result.andThen]
theorem WT{X:Cx}{G:Gh}{a:Act}{ops:Array Oper}{Q:Exit->Act->World->Prop}{d:Nat}{e:Op}{ty:TypeId}{c:String}{b:Array Edge}{v:Value}{K:Act->World->Prop}
  (h:∀dst c b g,(execOp a.eval ⟨dst,e,ty,c,b,g⟩).run X.P G.w=.ok (.value v) G.w) (f:K (a.put (some d) v) G.w):BF X.P ops Q ⟨some d,e,ty,c,b,none⟩ K a G.w:=by
 unfold BF;have i:Region.wanted ⟨some d,e,ty,c,b,none⟩ (yielded ops a.tmps)=true:=rfl;rw[if_pos i];unfold Oper.wp;rw[h (some d) c b none];exact f
theorem w0A{X:Cx}{st:St}{Q:Exit->Act->World->Prop}{id T E g c i:Nat}{F V T':TypeId}{y u:String}{aD aB:Array Edge}{f:Bool}{e:Ty}{xs:List (c9 e)}
  (hU:X.P.underlying T=some (.slice E)) (h0:b5 st.e g=some ⟨[],.d f (.sl e) xs⟩) (aJ:X3 st.e=true) (h3:Nat.blt c X.n=true) (h4:Nat.blt i X.n=true)
  (ht:xs=[]->FX X ⟨(i,⟨[],.d true .bool true⟩) :: (c,⟨[],.d f (.sl e) xs⟩) :: st.e,st.o⟩ .normal Q) (hf:FX X ⟨(i,⟨[],.d true .bool false⟩) :: (c,⟨[],.d f (.sl e) xs⟩) :: st.e,st.o⟩ .normal Q) :
  VX X st (.region id [⟨some c,.move (.tmp g),F,y,aD,none⟩,⟨some i,.binOp .eql T (.tmp c) (.const (.slice none 0 0)) T',V,u,aB,none⟩].toArray false) Q:=by
 intro G a S ho hE;have h3:c<X.n:=by simpa using h3
 have h4:i<X.n:=by simpa using h4
 refine wp_region_lit ?_;have hu:=(hE.val g _ h0).1 (fun _ h=>by cases h);have aI:=hu;obtain⟨q,j,hv,aA,Y,aG⟩:=aI;simp only[List.cons.injEq,and_true] at hv;have aK:a.eval (.tmp g)=a.tmps.getD g undef:=rfl;obtain⟨v,W,H⟩:M5 X G a (.move (.tmp g)) F (.d f (.sl e) xs):=B4 hE [.tmp g] (v:=a.eval (.tmp g)) (D0 (by grind[Z0,J2])) (by grind);refine Oh (WT W ?_);have aC:∀(t:Nat) (s:Sl),b5 st.e t=some s->∀d,∀x∈s.p,x.1≠d:=fun t s hs d x hx=>by grind[HO]
 have z:=EnvR.put (st:=st) (p:=[]) (r:=.d f (.sl e) xs) hE h3 (fun _ h=>by cases h) (fun t s hs=>aC t s hs c) (v:=v) ⟨fun _=>H,fun h=>(h (fun _ h=>by cases h)).elim⟩;have m:=H;obtain⟨q,j,hv,aA,Y,aG⟩:=m;simp only[List.cons.injEq,and_true] at hv;have aH:(a.put (some c) v).eval (.tmp c)=.slice q xs.length j:=by
  show(a.put (some c) v).tmps.getD c undef=_;rw[NN (by rw[hE.size]; exact h3),if_pos rfl,hv]
 have hx:Sv.ev (D3 (a.put (some c) v) [.tmp c]) (.tmp c)=some (.slice q xs.length j):=by rw[J2 (by simp),aH]
 obtain⟨v2,k,aF⟩:M5 X G (a.put (some c) v) (.binOp .eql T (.tmp c) (.const (.slice none 0 0)) T') V (.d true .bool q.isNone):=B4 (st:=⟨(c,⟨[],.d f (.sl e) xs⟩) :: st.e,st.o⟩) z [.tmp c] (r0I hU hx rfl) rfl;refine Oh (WT k ?_);have l:∀b,q.isNone=b->EnvR X.n G ((i,⟨[],.d true .bool b⟩) :: (c,⟨[],.d f (.sl e) xs⟩) :: st.e) ((a.put (some c) v).put (some i) v2):=fun b hb=>EnvR.put (st:=⟨(c,⟨[],.d f (.sl e) xs⟩) :: st.e,st.o⟩) (p:=[]) z h4 (fun _ h=>by cases h) (fun t s hs x hx=>by
   grind[lK]) ⟨fun _=>hb ▸ aF,fun h=>(h (fun _ h=>by cases h)).elim⟩
 show Q .normal _ G.w;cases hq:q with
 | none =>
   refine ht ?_ G _ S ho (l true (by grind))
   grind
 | some ad=>exact hf G _ S ho (l false (by grind))
end Go.Proofs.Xv
end
section
namespace Go.Proofs.Xv
open Go Go.RowKit Go.Proofs.Sv Go.Proofs.Xl
theorem fzF{X:Cx}{st:St}{x:Exit}{Q:Exit->Act->World->Prop}(id:Nat)(st':St)(h:Of id st=some st')(c:Nat.blt id 500000=true)(k:FX X st' x Q):FX X st x Q:=fun G a S f i=>by
 obtain⟨e,j,d,g,b⟩:=H0F h c S f i;have:=k e a j d b
 grind
def M0J(P:Program)(f:FuncId)(F:List Int->Option (List Int)):Prop:=CY P f=true/\∀(E:TypeId) (xs ys:List Int),F xs=some ys->ys.length=xs.length/\(∀y∈ys,y∈xs) /\
 ∀(w:World) (g:Option Nat) (v:Value),Own w E 1 g v xs.length (xs.map (Value.int .i64))->Calls P f #[v] w fun en w'=>en=.returned (.tuple #[])/\WE g w w'/\Own w' E 1 g v ys.length (ys.map (Value.int .i64))
theorem k0W{K:Nat->Prop}{w:World}:∀{xs:List Int} {cs:List Value},AllR (RT K w (.int .i64)) cs xs->cs=xs.map (Value.int .i64)/\∀x∈xs,lo .i64<=x/\x<=hi .i64
 | [],cs,h=>⟨h,fun x f=>nomatch f⟩
 | x :: r,cs,⟨c,d,e,h1,h2⟩=>by
   obtain⟨g,b⟩:=k0W h2;subst e; subst g;refine⟨by rw[h1.1]; rfl,fun y a=>?_⟩;rcases List.mem_cons.1 a with rfl | a
   ·exact h1.2
   ·exact b y a
theorem k0U{K:Nat->Prop}{w:World}:∀{xs:List Int},(∀x∈xs,lo .i64<=x/\x<=hi .i64)->AllR (RT K w (.int .i64)) (xs.map (Value.int .i64)) xs
 | [],_=>rfl
 | x :: r,h=>⟨[.int .i64 x],r.map (Value.int .i64),rfl,⟨rfl,h x (by simp)⟩,k0U fun y a=>h y (by grind)⟩
theorem u0s{X:Cx}{G:Gh}{a:Act}{ops:Array Oper}{Q:Exit->Act->World->Prop}{d f:Nat}{e:Op}{ty:TypeId}{c:String}{b:Array Edge}{vs:Array Value}{K:Act->World->Prop}
  (h:∀dst c b g,(execOp a.eval ⟨dst,e,ty,c,b,g⟩).run X.P G.w=.ok (.enter f vs) G.w) (j:Calls X.P f vs G.w fun en w'=>∃v,en=.returned v/\K (a.put (some d) v) w'):BF X.P ops Q ⟨some d,e,ty,c,b,none⟩ K a G.w:=by
 unfold BF;have i:Region.wanted ⟨some d,e,ty,c,b,none⟩ (yielded ops a.tmps)=true:=rfl;rw[if_pos i];unfold Oper.wp;rw[h (some d) c b none];refine Calls.mono j ?_
 grind
theorem B0G{X:Cx}{st:St}{Q:Exit->Act->World->Prop}{id f k i m c ver E:Nat}{fr:Bool}{Y aO:TypeId}{aR:Array TypeId}{W z:String}{aH aD:Array Edge}{xs:List Int}{ρ:Type}{e:List Int->Option ρ}{r:ρ}{F:List Int->Option (List Int)}
  (hc:M0J X.P f F) (h0:b5 st.e k=some ⟨[],.os c ver⟩) (h1:b5 st.o c=some (.arr E fr (.int .i64) xs ver)) (aW:X3 st.e=true) (h3:Nat.blt i X.n=true) (h4:Nat.blt m X.n=true)
  (H:gd ((F xs).isSome=true/\True) (lt (vl (F xs)) e)=some r)
  (hf:∀ys,e ys=some r->FX X ⟨(m,⟨[],.tup []⟩) :: (i,⟨[],.os c ver⟩) :: st.e,(c,.arr E fr (.int .i64) ys ver) :: st.o⟩ .normal Q) :
  VX X st (.region id [⟨some i,.move (.tmp k),Y,W,aH,none⟩,⟨some m,.call ⟨.value (.func f),#[.tmp i],aR⟩,aO,z,aD,none⟩].toArray false) Q:=by
 intro G a S ho hE;obtain⟨u,H⟩:=Oa H;obtain⟨ys,q⟩:=Option.isSome_iff_exists.1 u.1;rw[q] at H;have H:e ys=some r:=H;have h3:i<X.n:=by simpa using h3
 have h4:m<X.n:=by simpa using h4
 rw[<- ho] at h1;refine wp_region_lit ?_;have hu:AVR G (.os c ver) (a.tmps.getD k undef):=(hE.val k _ h0).1 (fun _ h=>by cases h);have aY:a.eval (.tmp k)=a.tmps.getD k undef:=rfl;obtain⟨v,aA,aB⟩:M5 X G a (.move (.tmp k)) Y (.os c ver):=B4 hE [.tmp k] (v:=a.eval (.tmp k)) (D0 (by grind[Z0,J2])) (by grind);refine Oh (WT aA ?_);have aG:∀(t:Nat) (s:Sl),b5 st.e t=some s->∀d,∀x∈s.p,x.1≠d:=fun t s u d x hx=>by grind[HO]
 have aN:=EnvR.put (st:=st) (p:=[]) (r:=.os c ver) hE h3 (fun _ h=>by cases h) (fun t s u=>aG t s u i) (v:=v) ⟨fun _=>aB,fun h=>(h (fun _ h=>by cases h)).elim⟩;have hv:v=G.ρ c:=by
  obtain⟨_,T',aK,t',aF,aS,g1,g2,g3⟩:=aB;rw[h1] at g1;cases g1;exact g3 rfl
 have aQ:(a.put (some i) v).eval (.tmp i)=v:=by
  show(a.put (some i) v).tmps.getD i undef=_;rw[NN (by rw[hE.size]; exact h3),if_pos rfl]
 obtain⟨cs,hO,hA,hB⟩:=S.obs c _ h1;obtain⟨rfl,aP⟩:=k0W hA;obtain⟨V,j⟩:=hc;obtain⟨hl,hm,j⟩:=j E xs ys q;have aI:=j G.w (G.γ c) (G.ρ c) hO
 haveI:C4 X.P f:=⟨V⟩
 refine Oh (u0s (f:=f) (vs:=#[G.ρ c]) (fun aV aT aL g=>?_) ?_)
 ·have e1:#[Operand.tmp i].map (a.put (some i) v).eval=#[G.ρ c]:=by rw[<- hv]; simp[aQ]
  have e2:(a.put (some i) v).eval (.func f)=.func (.func f) #[] #[]:=rfl;simp only[execOp,resolve,e1,e2];simp[Deferred.ofValue,invoke,QR]
 refine Calls.mono aI ?_;rintro en w' ⟨rfl,aJ,aM⟩;refine⟨_,rfl,?_⟩;have l:=S.put (id:=c) (ob:=.arr E fr (.int .i64) ys ver) (r:=G.ρ c) (g:=G.γ c) (w':=w') (go:=G.γ c) ⟨(fun T cs h=>by grind),(fun T aK t' aF aX h=>by grind),by rw[h1]; rfl⟩
  (fun b hb=>⟨⟨_,h1⟩,hb⟩) aJ (fun b hb=>.inl hb)
  (fun aU=>⟨ys.map (Value.int .i64),by simp only[Gh.put,if_true]; exact aM,k0U fun y hy=>aP y (hm y hy),fun b e=>by
    grind[Gh.put]⟩)
 have aC:EnvR X.n (G.put c (.arr E fr (.int .i64) ys ver) (G.ρ c) (G.γ c) w') ((m,⟨[],.tup []⟩) :: (i,⟨[],.os c ver⟩) :: st.e) ((a.put (some i) v).put (some m) (.tuple #[])) :=
  EnvR.put (st:=⟨(i,⟨[],.os c ver⟩) :: st.e,st.o⟩) (p:=[]) (r:=.tup []) (aN.mono l.2) h4 (fun _ h=>by cases h) (fun t s u x hx=>by
   grind[lK]) ⟨fun _=>⟨[],rfl,rfl⟩,fun h=>(h (fun _ h=>by cases h)).elim⟩
 exact hf ys H _ _ l.1 (by show(c,_) :: G.o=_; rw[ho]) aC
end Go.Proofs.Xv
end
section
namespace Go.Proofs.Xl
end Go.Proofs.Xl
namespace Go.Proofs.Xv
open Go Go.RowKit Go.Proofs.Sv Go.Proofs.Xl
/- What all data of a result are. -/
mutual
def wfA:AV->Prop
 | .d _ t x=>wf t x
 | .agg xs=>RZ xs
 | .tup xs=>RZ xs
 | .ow _ _ t xs=>wf (.sl t) xs
 | _=>True
def RZ:List AV->Prop
 | []=>True
 | a :: r=>wfA a/\RZ r
end
def Ie:(ps:List q9)->D4 ps->Prop
 | [],_=>True
 | .io _ t :: _,z=>wf t z
 | .dat _ :: r,z=>Ie r z
 | .agg _ :: r,z=>Ie r z
 | .fn _ _ :: r,z=>Ie r z
 | .nof _ :: r,z=>Ie r z
 | .nil :: r,z=>Ie r z
 | .os _ _ :: r,z=>Ie r z
mutual
theorem ResR.wf{K:Bool->Nat->Prop}{w:World}:∀{a:AV} {u:Value} {gs:List (Option Nat)},ResR K w a u gs->wfA a
 | .v _,_,_,_=>trivial
 | .d _ _ _,_,_,h=>RT.wf h.1
 | .agg _,_,_,⟨_,_,h⟩=>ResRs.wf h
 | .tup _,_,_,⟨_,_,h⟩=>ResRs.wf h
 | .ow _ _ _ _,_,_,⟨_,_,_,_,h1,h2⟩=>B0h h1 h2
 | .ob _ _,_,_,_=>trivial
 | .ptr _ _,_,_,_=>trivial
 | .pel ..,_,_,_=>trivial
 | .os _ _,_,_,_=>trivial
 | .fn _ _,_,_,_=>trivial
 | .gel _ _,_,_,_=>trivial
 | .og _,_,_,_=>trivial
theorem ResRs.wf{K:Bool->Nat->Prop}{w:World}:∀{as':List AV} {us:List Value} {gs:List (Option Nat)},ResRs K w as' us gs->RZ as'
 | [],_,_,_=>trivial
 | _ :: _,_,_,⟨_,_,_,_,_,_,h1,h2⟩=>⟨ResR.wf h1,ResRs.wf h2⟩
end
theorem IOR.wf{K:Nat->Prop}{w:World}{go:Option Nat}:∀{ps:List q9} {z:D4 ps},IOR K w go ps z->Ie ps z
 | [],_,_=>trivial
 | .io _ _ :: _,_,⟨_,_,_,_,h⟩=>RT.wf h
 | .dat _ :: r,_,h=>IOR.wf (ps:=r) h
 | .agg _ :: r,_,h=>IOR.wf (ps:=r) h
 | .fn _ _ :: r,_,h=>IOR.wf (ps:=r) h
 | .nof _ :: r,_,h=>IOR.wf (ps:=r) h
 | .nil :: r,_,h=>IOR.wf (ps:=r) h
 | .os _ _ :: r,_,h=>IOR.wf (ps:=r) h
theorem i0K{n:Nat}:∀{a b:List Oper} {i:Nat} {seen:List Nat},S7 n i seen (a++b)=true->S7 n i seen a=true/\∃sn,S7 n (i+a.length) sn b=true/\(∀d∈seen,d∈sn)/\∀o∈a,∀d,o.dst=some d->d∈sn
 | [],b,i,seen,h=>⟨rfl,seen,by grind,fun _ h=>h,fun _ h=>by cases h⟩
 | o :: r,b,i,seen,h=>by
   simp only[List.cons_append,S7,ba] at h ⊢;obtain⟨⟨k,j⟩,c⟩:=h;obtain⟨f,sn,l,g,e⟩:=i0K c
   grind
theorem w0V{l:List Oper}{i:Nat}{o:Oper}(h:I1 l i=some o):l=l.take i++o :: l.drop (i+1)/\i<l.length/\(l.take i).length=i:=by
 have h:=n0b h
 grind[hi,Nat.lt_or_ge,List.getElem?_eq_none,List.length_take,List.getElem?_eq_getElem,List.drop_eq_getElem_cons,List.take_append_drop]
section
variable {X:Cx} {Γ:p8} {T:List Ct}
end
theorem C0K{X:Cx}{st:St}{Q:Exit->Act->World->Prop}{Γ:p8}{T:List Ct}(u:B2 X.P Γ)(hT:∀c∈T,Ok X.P c){id i:Nat}{l:List Oper}(g:List Nat)(z:S7 X.n 0 [] l=true)(aJ:X3 st.e=true){V:Prop}{f:St}{aG:List B5}(h1:Di Γ T l (l.take i) st []=some (V,f,aG))(hV:V){o:Oper}(hn:I1 l i=some o)(_:X3 f.e=true)
  (Y:(∀d,o.dst=some d->d<X.n)->∀G a,Sat X G->G.o=f.o->EnvR X.n G f.e a->∀K:Act->World->Prop,(∀st2 W st3 rs3 G' a',X3 st2.e=true->Di Γ T l (l.drop (i+1)) st2 []=some (W,st3,rs3)->W->FX X (cut g st3) .normal Q->Sat X G'->G'.o=st2.o->EnvR X.n G' st2.e a'->K a' G'.w)->BF X.P l.toArray Q o K a G.w):VX X st (.region id l.toArray false) Q:=by
 intro G a S ho hE;obtain⟨el,aI,aA⟩:=w0V hn;refine wp_region_lit ?_;have b:=z;rw[el] at b;obtain⟨k1,sn,m,-,k4⟩:=i0K b;rw[aA,Nat.zero_add] at m;simp only[S7,ba] at m;obtain⟨⟨m,-⟩,k3⟩:=m;have aB:∀d,o.dst=some d->d<X.n:=fun d hd=>by
  rw[hd] at m;simp only[ba] at m;simpa using m.1
 obtain⟨h,e1,e2,e3⟩:=NO (HZ (K:=fun q _=>q=f) h1 hV rfl);have aH:h.length=i:=by grind
 have:=Ru u hT (ops:=l.toArray) (all:=l) rfl (Q:=Q) (rest:=o :: l.drop (i+1)) h 0 [] st G a (fun j hj=>by
   grind) (by grind) (fun j oj dj hj=>by omega) (fun t s ht x hx=>by grind[HO]) e2 S ho hE
  (fun G1 a1 S1 E y=>by
    rw[e3] at E y;refine Oh (Y aB G1 a1 S1 E y _ fun st2 W st3 rs3 G2 a2 aK g1 g2 g3 S2 H F=>?_);obtain⟨k,f1,f2,f3⟩:=NO (HZ (K:=fun q _=>q=st3) g1 g2 rfl);have:=Ru u hT (ops:=l.toArray) (all:=l) rfl (Q:=Q) (rest:=[]) k (i+1) _ st2 G2 a2 (fun j hj=>by
      grind) (by rw[f1]; exact k3) (fun j oj dj hj q1 q2=>by
      grind) (fun t s ht x hx=>by grind[HO]) f2 S2 H F
     (fun G3 a3 S3 v r=>by
       rw[f3] at v r;obtain⟨G4,S4,aD,aC,aF⟩:=Wj g S3 v r;have:=g3 G4 a3 S4 aD aF
       rwa [aC] at this)
    grind)
 grind
end Go.Proofs.Xv
end
section
namespace Go.Proofs.Xv
open Go Go.RowKit Go.Proofs.Sv Go.Proofs.Xl
def AllS{α:Type}(R:α->α->Prop):List α->List α->Prop
 | [],ys=>ys=[]
 | x :: r,ys=>∃y r',ys=y :: r'/\R x y/\AllS R r r'
def CB:(t:Ty)->c9 t->c9 t->Prop
 | .int _,_,_=>True
 | .bool,x,y=>y=x
 | .str,x,y=>y=x
 | .sl e,x,y=>AllS (CB e) x y
 | .pt e,x,y=>CB e x y
 | .pr a b,x,y=>CB a x.1 y.1/\CB b x.2 y.2
theorem AllS.refl{a:Type}{R:a->a->Prop}(h:∀x,R x x):∀xs:List a,AllS R xs xs
 | []=>rfl
 | x :: r=>⟨x,r,rfl,h x,AllS.refl h r⟩
theorem Ke:∀(t:Ty) (x:c9 t),CB t x x
 | .int _,_=>trivial
 | .bool,_=>rfl
 | .str,_=>rfl
 | .sl e,x=>AllS.refl (Ke e) x
 | .pt e,x=>Ke e x
 | .pr a b,x=>⟨Ke a x.1,Ke b x.2⟩
theorem AllS.len{a:Type}{R:a->a->Prop}:∀{xs ys:List a},AllS R xs ys->ys.length=xs.length
 | [],_,h=>by rw[show _=[] from h]
 | _ :: _,_,⟨_,_,e,_,h⟩=>by rw[e,List.length_cons,List.length_cons,AllS.len h]
theorem AllS.all{a:Type}{R:a->a->Prop}{p q:a->Prop}(b:∀x y,R x y->p x->q y):∀{xs ys:List a},AllS R xs ys->(∀x∈xs,p x)->∀y∈ys,q y
 | [],_,h,_,y,hy=>by rw[show _=[] from h] at hy; cases hy
 | x :: r,_,⟨y',r',e,h1,h2⟩,hp,y,hy=>by
   subst e;rcases List.mem_cons.1 hy with rfl | hy
   ·grind
   ·exact AllS.all b h2 (fun x c=>hp x (by grind)) y hy
def Sim(k:IntKind)(u u':Value):Prop:=u'=u∨∃x x',u=.int k x/\u'=.int k x'/\lo k<=x'/\x'<=hi k
def Sa(k:IntKind)(w w':World):Prop:=∀b o u,w.cell? ⟨b,o,none⟩=some u->∃u',w'.cell? ⟨b,o,none⟩=some u'/\Sim k u u'
def SimL(k:IntKind):List Value->List Value->Prop
 | [],vs=>vs=[]
 | u :: r,vs=>∃u' r',vs=u' :: r'/\Sim k u u'/\SimL k r r'
theorem SimL.refl{k:IntKind}:∀us:List Value,SimL k us us
 | []=>rfl
 | u :: r=>⟨u,r,rfl,.inl rfl,SimL.refl r⟩
theorem SimL.split{k:IntKind}{b:List Value}:∀{a cs:List Value},SimL k (a++b) cs->∃a' b',cs=a'++b'/\SimL k a a'/\SimL k b b'
 | [],cs,h=>⟨[],cs,rfl,rfl,h⟩
 | u :: r,cs,⟨u',r',e,h1,h2⟩=>by
   obtain⟨a',b',f,d,c⟩:=SimL.split h2;exact⟨u' :: a',b',by grind,⟨u',a',rfl,h1,d⟩,c⟩
theorem At.sim{k:IntKind}{w w':World}(a:Sa k w w'){b:Nat}:∀{ds:List Value} {o:Nat},At w b o ds->∃ds',At w' b o ds'/\SimL k ds ds'
 | [],o,_=>⟨[],fun i u h=>by grind,rfl⟩
 | d :: r,o,h=>by
   obtain⟨e,j,g⟩:=At.sim a (At.tail h);obtain⟨c,l,f⟩:=a b o d (h 0 d rfl);refine⟨c :: e,fun i u m=>?_,c,e,rfl,f,g⟩;cases i with
   | zero=>grind
   | succ i =>
     have:=j i u (by grind)
     rwa [show o+1+i=o+(i+1) by omega] at this
theorem AllR.sim{k:IntKind}{a:Type}{R R':List Value->a->Prop}{S:a->a->Prop}(b:∀c c' x,SimL k c c'->R c x->∃x',R' c' x'/\S x x'):∀{cs cs':List Value} {xs:List a},SimL k cs cs'->AllR R cs xs->∃xs',AllR R' cs' xs'/\AllS S xs xs'
 | cs,cs',[],hs,h=>by
   rw[show cs=[] from h] at hs;exact⟨[],hs,rfl⟩
 | _,cs',x :: r,hs,⟨c,d,e,h1,h2⟩=>by
   subst e;obtain⟨c',g,rfl,n,i⟩:=hs.split;obtain⟨x',j,l⟩:=b c c' x n h1;obtain⟨f,m,o⟩:=AllR.sim b i h2;exact⟨x' :: f,⟨c',g,rfl,j,m⟩,x',f,rfl,l,o⟩
theorem Sb{k:IntKind}{u:Value}{cs:List Value}(h:SimL k [u] cs)(e:∀x,u≠.int k x):cs=[u]:=by
 obtain⟨d,a,rfl,c,b⟩:=h;rw[show a=[] from b];rcases c with rfl | ⟨x,_,rfl,_⟩
 ·rfl
 grind
theorem RT.sim{k:IntKind}{K:Nat->Prop}{w w':World}(m:Sa k w w'):∀{t:Ty} {cs cs':List Value} {x:c9 t},SimL k cs cs'->RT K w t cs x->∃x',RT K w' t cs' x'/\CB t x x'
 | .int k0,cs,cs',x,f,h=>by
   obtain⟨rfl,l⟩:=h;obtain⟨Q,H,rfl,g,n⟩:=f;rw[show H=[] from n];rcases g with rfl | ⟨x0,x',e,rfl,r,h5⟩
   ·exact⟨x,⟨rfl,l⟩,trivial⟩
   ·cases e;exact⟨x',⟨rfl,r,h5⟩,trivial⟩
 | .bool,cs,cs',x,f,h=>by
   rw[show cs=_ from h] at f;exact⟨x,Sb f (fun _ h=>by cases h),rfl⟩
 | .str,cs,cs',x,f,h=>by
   rw[h.1] at f;exact⟨x,⟨Sb f (fun _ h=>by cases h),h.2⟩,rfl⟩
 | .sl e,cs,cs',xs,f,⟨p,cap,l,g,n,r⟩=>by
   rw[l] at f;have v:=Sb f (fun _ h=>by cases h);rcases r with rfl | ⟨b,o,ds,hp,hb,hat,hall⟩
   ·exact⟨[],⟨p,cap,v,g,n,.inl rfl⟩,rfl⟩
   ·obtain⟨i,u,s⟩:=At.sim m hat;obtain⟨y,q,j⟩:=AllR.sim (fun c z x f P=>RT.sim m (t:=e) f P) s hall;exact⟨y,⟨p,cap,by rw[v,j.len],by rw[j.len]; exact g,n,.inr ⟨b,o,i,hp,hb,u,q⟩⟩,j⟩
 | .pt e,cs,cs',x,f,⟨b,o,ds,l,hb,hat,g⟩=>by
   rw[l] at f;have v:=Sb f (fun _ h=>by cases h);obtain⟨i,u,s⟩:=At.sim m hat;obtain⟨x',q,j⟩:=RT.sim m (t:=e) s g;exact⟨x',⟨b,o,i,v,hb,u,q⟩,j⟩
 | .pr a b,cs,cs',x,f,⟨c,d,h,l,g⟩=>by
   subst h;obtain⟨z,E,rfl,n,r⟩:=f.split;obtain⟨F,u,s⟩:=RT.sim m (t:=a) n l;obtain⟨G,q,j⟩:=RT.sim m (t:=b) r g;exact⟨(F,G),⟨z,E,rfl,u,q⟩,s,j⟩
mutual
def HavA:AV->AV->Prop
 | .d fr t x,b=>bif H7 t then b=.d fr t x else ∃x',b=.d fr t x'/\CB t x x'/\(wf t x->wf t x')
 | .agg xs,b=>∃ys,b=.agg ys/\HavAs xs ys
 | .tup xs,b=>∃ys,b=.tup ys/\HavAs xs ys
 | .fn f xs,b=>∃ys,b=.fn f ys/\HavAs xs ys
 | a,b=>b=a
def HavAs:List AV->List AV->Prop
 | [],ys=>ys=[]
 | x :: r,ys=>∃y r',ys=y :: r'/\HavA x y/\HavAs r r'
end
def HavO:Ob->Ob->Prop
 | .box T cs,b=>∃ds,b=.box T ds/\HavAs cs ds
 | .arr T fr t xs v,b=>bif H7 t then b=.arr T fr t xs v else ∃xs',b=.arr T fr t xs' v/\AllS (CB t) xs xs'
 | a,b=>b=a
theorem B0u{fr:Bool}{t:Ty}{x:c9 t}{b:AV}:HavA (.d fr t x) b=(bif H7 t then b=.d fr t x else ∃x',b=.d fr t x'/\CB t x x'/\(wf t x->wf t x')):=by grind[HavA]
theorem WU{T:TypeId}{fr:Bool}{t:Ty}{xs:List (c9 t)}{v:Nat}{b:Ob}:HavO (.arr T fr t xs v) b=(bif H7 t then b=.arr T fr t xs v else ∃xs',b=.arr T fr t xs' v/\AllS (CB t) xs xs'):=rfl
def Oi:List (Nat×Sl)->List (Nat×Sl)->Prop
 | [],ys=>ys=[]
 | (t,⟨p,a⟩) :: r,ys=>∃b r',ys=(t,⟨p,b⟩) :: r'/\HavA a b/\Oi r r'
def HavL:List (Nat×Ob)->List (Nat×Ob)->Prop
 | [],ys=>ys=[]
 | (i,a) :: r,ys=>∃b r',ys=(i,b) :: r'/\HavO a b/\HavL r r'
mutual
theorem HavA.refl:∀a,HavA a a
 | .d c t x=>by
   simp only[B0u,ce]
   grind[Ke]
 | .agg b=>⟨b,rfl,HavAs.refl b⟩
 | .tup b=>⟨b,rfl,HavAs.refl b⟩
 | .fn f b=>⟨b,rfl,HavAs.refl b⟩
 | .v _ | .ptr .. | .pel .. | .os .. | .ow .. | .gel .. | .og .. | .ob ..=>by grind[HavA]
theorem HavAs.refl:∀as,HavAs as as
 | []=>by grind[HavAs]
 | a :: r=>by unfold HavAs; exact⟨a,r,rfl,HavA.refl a,HavAs.refl r⟩
end
theorem HavO.refl:∀a,HavO a a
 | .box T b=>⟨b,rfl,HavAs.refl b⟩
 | .arr T c t d v=>by
   simp only[WU,ce]
   grind[AllS.refl,Ke]
 | .grd ..=>rfl
def K0B:Ob->Ob->Prop
 | .box T _,b=>∃ds,b=.box T ds
 | .arr T fr t _ v,b=>∃ys,b=.arr T fr t ys v
 | a,b=>b=a
theorem HavO.kind:∀{a b:Ob},HavO a b->K0B a b
 | .box _ _,_,⟨ds,h,_⟩=>⟨ds,h⟩
 | .arr _ _ _ xs _,b,h=>by
   rw[WU,ce] at h;split at h
   ·exact⟨xs,h⟩
   ·obtain⟨c,h,_⟩:=h; exact⟨c,h⟩
 | .grd ..,_,h=>h
theorem HavL.lk:∀{o o':List (Nat×Ob)},HavL o o'->∀i,(∀ob,b5 o i=some ob->∃ob',b5 o' i=some ob'/\HavO ob ob')/\(∀ob',b5 o' i=some ob'->∃ob,b5 o i=some ob/\HavO ob ob')
 | [],o',h,i=>by rw[show o'=[] from h]; exact⟨(fun _ h=>by cases h),fun _ h=>by cases h⟩
 | (j,a) :: r,_,⟨b,r',e,h1,h2⟩,i=>by
   subst e;rw[lK,lK];by_cases c:j=i
   ·grind
   ·rw[if_neg c,if_neg c];exact HavL.lk h2 i
def up(G:Gh)(w':World)(o':List (Nat×Ob)):Gh:=⟨G.ρ,G.γ,G.K,w',o',G.B,G.δ⟩
section
variable {k:IntKind} {G:Gh} {w':World} (hM:Sa k G.w w')
include hM
mutual
theorem AVR.sim:∀{a:AV} {u:Value},AVR G a u->∃b,HavA a b/\∀o',HavL G.o o'->AVR (up G w' o') b u
 | .v x,u,h=>⟨.v x,rfl,fun _ _=>h⟩
 | .d fr t x,u,h=>by
   simp only[B0u,ce];split
   ·rename_i n;exact⟨.d fr t x,rfl,fun _ _=>RT.free n h⟩
   ·obtain⟨m,c,g⟩:=RT.sim (K:=rg G fr) hM (SimL.refl [u]) h;exact⟨.d fr t m,⟨m,rfl,g,fun _=>RT.wf c⟩,fun _ _=>c⟩
 | .agg xs,u,⟨us,e,h⟩=>by
   obtain⟨j,c,g⟩:=AVRs.sim h;exact⟨.agg j,⟨j,rfl,c⟩,fun o' i=>⟨us,e,g o' i⟩⟩
 | .tup xs,u,⟨us,e,h⟩=>by
   obtain⟨j,c,g⟩:=AVRs.sim h;exact⟨.tup j,⟨j,rfl,c⟩,fun o' i=>⟨us,e,g o' i⟩⟩
 | .fn f xs,u,⟨us,e,h⟩=>by
   obtain⟨j,c,g⟩:=AVRs.sim h;exact⟨.fn f j,⟨j,rfl,c⟩,fun o' i=>⟨us,e,g o' i⟩⟩
 | .ptr id off,u,⟨⟨T,cs,c⟩,g⟩=>⟨.ptr id off,rfl,fun o' i=>by
    obtain⟨ob,k,l⟩:=(i.lk id).1 _ c;obtain⟨ds,rfl⟩:=l.kind;exact⟨⟨T,ds,k⟩,g⟩⟩
 | .pel id ver kk s off,u,⟨h0,T,fr,t,xs,ver',c,g,h3⟩=>⟨.pel id ver kk s off,rfl,fun o' i=>by
    obtain⟨ob,k,l⟩:=(i.lk id).1 _ c;obtain⟨j,rfl⟩:=l.kind;exact⟨h0,T,fr,t,j,ver',k,g,h3⟩⟩
 | .os id ver,u,⟨h0,T,fr,t,xs,ver',c,g,h3⟩=>⟨.os id ver,rfl,fun o' i=>by
    obtain⟨ob,k,l⟩:=(i.lk id).1 _ c;obtain⟨j,rfl⟩:=l.kind;exact⟨h0,T,fr,t,j,ver',k,g,h3⟩⟩
 | .gel id kk,u,⟨⟨T,Te,fr,t,xs,hole,c⟩,g⟩=>⟨.gel id kk,rfl,fun o' i=>by
    obtain⟨ob,k,l⟩:=(i.lk id).1 _ c;have:=l.kind;rw[show ob=_ from this] at k;exact⟨⟨T,Te,fr,t,xs,hole,k⟩,g⟩⟩
 | .og id,u,⟨h0,⟨T,Te,fr,t,xs,hole,c⟩,g⟩=>⟨.og id,rfl,fun o' i=>by
    obtain⟨ob,k,l⟩:=(i.lk id).1 _ c;have:=l.kind;rw[show ob=_ from this] at k;exact⟨h0,⟨T,Te,fr,t,xs,hole,k⟩,g⟩⟩
 | .ow ..,_,h=>h.elim
 | .ob ..,_,h=>h.elim
theorem AVRs.sim:∀{as':List AV} {us:List Value},AVRs G as' us->∃bs,HavAs as' bs/\∀o',HavL G.o o'->AVRs (up G w' o') bs us
 | [],us,h=>⟨[],by grind[HavAs],fun _ _=>h⟩
 | a :: r,us,⟨u,us',e,h1,h2⟩=>by
   obtain⟨b,g,d⟩:=AVR.sim h1;obtain⟨bs,i,f⟩:=AVRs.sim h2;have:=hM;exact⟨b :: bs,by unfold HavAs; grind,fun o' c=>⟨u,us',e,d o' c,f o' c⟩⟩
end
theorem ObR.sim{b:Nat}(l:WE (some b) G.w w'){id:Nat}:∀{ob:Ob},ObR G id ob->I2 (some ob)=false->G.γ id≠some b->∃ob',HavO ob ob'/\∀o',HavL G.o o'->ObR (up G w' o') id ob'
 | .box T cs,⟨b',us,h1,h2,h3,h4⟩,_,hb=>by
   obtain⟨ds,g,f⟩:=AVRs.sim hM h4;exact⟨.box T ds,⟨ds,rfl,g⟩,fun o' n=>⟨b',us,h1,h2,h3.we l (fun i e h=>by grind),f o' n⟩⟩
 | .arr T fr t xs v,⟨cs,h1,h2,h3⟩,_,hb=>by
   have a:=h1.we l (fun i e h=>by grind);simp only[WU,ce];split
   ·rename_i m;exact⟨.arr T fr t xs v,rfl,fun o' _=>⟨cs,a,h2.mapR (fun c x j=>RT.free m j),h3⟩⟩
   ·obtain⟨d,g,f⟩:=AllR.sim (k:=k) (R':=RT (rg G fr) w' t) (S:=CB t) (fun c r x q j=>RT.sim hM q j) (SimL.refl cs) h2;exact⟨.arr T fr t d v,⟨d,rfl,f⟩,fun o' _=>⟨cs,by rw[f.len]; exact a,g,h3⟩⟩
 | .grd ..,_,h,_=>by cases h
theorem u0v{b:Nat}(f:WE (some b) G.w w')(c:∀id o,b5 G.o id=some o->ObR G id o)(q:∀id,I2 (b5 G.o id)=false)(g:∀id o,b5 G.o id=some o->G.γ id≠some b) :
  ∀l:List (Nat×Ob),∃l',HavL l l'/\∀i ob,b5 l i=some ob->b5 G.o i=some ob->∃ob',b5 l' i=some ob'/\∀o',HavL G.o o'->ObR (up G w' o') i ob'
 | []=>⟨[],rfl,fun _ _ h=>by cases h⟩
 | (j,a) :: r=>by
   obtain⟨d,m,u⟩:=u0v f c q g r;by_cases e:b5 G.o j=some a
   ·obtain⟨k,n,t⟩:=ObR.sim hM f (c j a e) (by grind) (g j a e);refine⟨(j,k) :: d,⟨k,d,rfl,n,m⟩,fun i ob hi s=>?_⟩;rw[lK] at hi ⊢
    grind
   ·refine⟨(j,a) :: d,⟨a,d,rfl,HavO.refl a,m⟩,fun i ob hi s=>?_⟩;rw[lK] at hi ⊢
    grind
end
theorem Sat.hav{X:Cx}{G:Gh}(S:Sat X G){k:IntKind}{w':World}(hM:Sa k G.w w'){b:Nat}(hw:Wr b G.w w')(hK:G.K b)(hb:X.w0.heap.size<=b)(hu:UF w' b)(hg:∀id,I2 (b5 G.o id)=false){e:List (Nat×Sl)}{a:Act}(hE:EnvR X.n G e a) :
  ∃o' e',HavL G.o o'/\Oi e e'/\Sat X (up G w' o')/\EnvR X.n (up G w' o') e' a:=by
 have j:=WE.of_wr hw;have aL:∀id o,b5 G.o id=some o->G.γ id≠some b:=fun id o E h=>S.imm id o b E h hK;obtain⟨o',h1,h2⟩:=u0v hM j S.obs hg aL G.o;have m:=h1.lk;have aK:∀id,I2 (b5 o' id)=false:=fun id=>by
  cases h:b5 o' id with
  | none=>rfl
  | some u =>
    obtain⟨z,d,q⟩:=(m id).2 u h;have:=hg id;rw[d] at this;cases z with
    | box T cs=>obtain⟨ds,rfl⟩:=q.kind; rfl
    | arr T fr t xs v=>obtain⟨ds,rfl⟩:=q.kind; rfl
    | grd=>cases this
 have hS:Sat X (up G w' o'):=by
  refine⟨S.base,j.os.trans S.os,j.tape.trans S.tape,j.output.trans S.output,Nat.le_trans S.size j.size,fun i hi aI=>?_,fun id u V=>?_,fun id aA u aB c E aD P aH=>?_,fun id u c E P=>?_,fun id u c E P=>?_,fun i hi=>?_,S.kfrom,fun id c _ Q=>?_,fun i v h=>?_⟩
  ·rw[<- S.block i hi aI];exact hw.block i (by omega)
  ·obtain⟨z,d,q⟩:=(m id).2 u V;obtain⟨aB,g3,g4⟩:=h2 id z d d;rw[show b5 o' id=some u from V] at g3
   grind
  ·obtain⟨x,d,_⟩:=(m id).2 u E;obtain⟨x',q,_⟩:=(m aA).2 aB aD;exact S.inj id aA x x' c d q P aH
  ·obtain⟨x,d,_⟩:=(m id).2 u E;exact S.imm id x c d P
  ·obtain⟨x,d,_⟩:=(m id).2 u E;exact S.own id x c d P
  ·by_cases e:i=b
   ·subst e;exact hu.g
   ·exact(S.klt i hi).same j.size (hw.block i e)
  ·rw[show b5 (up G w' o').o id=b5 o' id from rfl,aK id] at Q;cases Q
  ·obtain⟨bb,d,q⟩:=AVR.sim hM (S.pin i v h);rw[show bb=_ from d] at q
   grind
 have aF:∀e:List (Nat×Sl),(∀t s,b5 e t=some s->(PathP s.p a->AVR G s.a (a.tmps.getD t undef))/\(¬PathP s.p a->a.tmps.getD t undef=undef))->∃e',Oi e e'/\∀t f,b5 e' t=some f->(PathP f.p a->AVR (up G w' o') f.a (a.tmps.getD t undef))/\(¬PathP f.p a->a.tmps.getD t undef=undef):=by
  intro e he
  -- the slots that are seen turn, the hidden ones stay
  have aG:∀l:List (Nat×Sl),∃y,Oi l y/\∀t s,b5 l t=some s->b5 e t=some s->∃f,b5 y t=some f/\(PathP f.p a->AVR (up G w' o') f.a (a.tmps.getD t undef))/\(¬PathP f.p a->a.tmps.getD t undef=undef):=by
   intro l
   induction l with
   | nil=>exact⟨[],rfl,fun _ _ h=>by cases h⟩
   | cons x r ih =>
     obtain⟨W,p0,Y⟩:=x;obtain⟨r',F,h4⟩:=ih;by_cases hv:b5 e W=some ⟨p0,Y⟩/\PathP p0 a
     ·obtain⟨q1,q2⟩:=he W _ hv.1;obtain⟨a1,d,q⟩:=AVR.sim hM (q1 hv.2);refine⟨(W,⟨p0,a1⟩) :: r',⟨a1,r',rfl,d,F⟩,fun t s H aJ=>?_⟩;rw[lK] at H ⊢
      grind
     ·refine⟨(W,⟨p0,Y⟩) :: r',⟨Y,r',rfl,HavA.refl Y,F⟩,fun t s H aJ=>?_⟩;rw[lK] at H ⊢
      grind
  obtain⟨e',F,h4⟩:=aG e;refine⟨e',F,fun t f aC=>?_⟩;have:∀{l y:List (Nat×Sl)},Oi l y->∀{f},b5 y t=some f->∃s,b5 l t=some s:=by
   intro l
   induction l with
   | nil=>intro y hl f h; rw[show y=[] from hl] at h; cases h
   | cons x r ih =>
     obtain⟨W,p0,Y⟩:=x;rintro y ⟨b1,r',rfl,d,q⟩ f h;rw[lK] at h ⊢
     grind
  obtain⟨s,H⟩:=this F aC;obtain⟨s2,d,q⟩:=h4 t s H H;rw[aC] at d;cases d;exact q
 obtain⟨e',F,h4⟩:=aF e hE.val;exact⟨o',e',h1,F,hS,hE.defers,hE.size,h4⟩
def grd(j:Nat)(b:Bool)(o:Oper):Oper:={ o with guard:=some (j,b) }
def nx(o:Option (Prop×St)):St:=match o with
 | some (_,s)=>s
 | none=>⟨[],[]⟩
theorem Kg{o:Option (Prop×St)}{V:Prop}(h:o.map Prod.fst=some V):o=some (V,nx o):=by
 cases o with
 | none=>cases h
 | some x =>
   cases h;rfl
section
variable {P:Program} {n:Nat} {y:World×(Nat->Prop)×(Nat->Prop)×(Nat->Value->Prop)×Nat} {st:St} {Q:Exit->Act->World->Prop} {Γ:p8} {T:List Ct} {ρ:Type} {r:ρ}
theorem jA[a:HG P Γ][c:HT P T][e:M1 P](k:List Nat){id:Nat}{l:List Oper}{b:Bool}(d:FX (cx P n y) (nx (I5 b n Γ T l k st)) .normal Q)(h:(I5 b n Γ T l k st).map Prod.fst=some True:=by kernel_rfl):VX (cx P n y) st (.region id l.toArray b) Q:=za a.h c.h _ _ (Kg h) d
theorem jB[a:HG P Γ][c:HT P T][f:M1 P](k:List Nat){V:Prop}[Decidable V]{e:Option ρ}{id:Nat}{l:List Oper}{b:Bool}(H:gd V e=some r)(d:e=some r->FX (cx P n y) (nx (I5 b n Γ T l k st)) .normal Q)(h:(I5 b n Γ T l k st).map Prod.fst=some V:=by kernel_rfl):VX (cx P n y) st (.region id l.toArray b) Q:=zb a.h c.h _ _ H (Kg h) d
theorem iA[a:HG P Γ][d:HT P T][f:M1 P](k:List Nat){id:Nat}{l:List Oper}{b:Bool}{c:Code}(e:VX (cx P n y) (nx (I5 b n Γ T l k st)) c Q)(h:(I5 b n Γ T l k st).map Prod.fst=some True:=by kernel_rfl):VX (cx P n y) st (.seq (.region id l.toArray b) c) Q:=qa a.h d.h _ _ (Kg h) e
theorem iB[a:HG P Γ][d:HT P T][g:M1 P](k:List Nat){V:Prop}[Decidable V]{e:Option ρ}{id:Nat}{l:List Oper}{b:Bool}{c:Code}(H:gd V e=some r)(f:e=some r->VX (cx P n y) (nx (I5 b n Γ T l k st)) c Q)(h:(I5 b n Γ T l k st).map Prod.fst=some V:=by kernel_rfl):VX (cx P n y) st (.seq (.region id l.toArray b) c) Q:=qb a.h d.h _ _ H (Kg h) f
end
section
variable {P:Program} {Q:Exit->Act->World->Prop} {l:List Oper} {o:Oper}
end
def WV(d:Nat)(T:TypeId)(t:Ty)(cs:List AV)(st:St):Option St:=match H8 ((d,.box T cs) :: st.o) 24 t cs,Ap d 0 true .bool ([]:List Bool) st.o with
 | some (x,[],_),some o'=>some ⟨(d,⟨[],.d false (.pt t) x⟩) :: Fj d 0 true .bool ([]:List Bool) st.e,o'⟩
 | _,_=>none
def evX(n:Nat)(Γ:p8)(T:List Ct)(l:List Oper)(i:Nat)(keep:List Nat)(t:Ty)(st:St):Option (Prop×St):=bif S7 n 0 [] l&&X3 st.e then(match Di Γ T l (l.take i) st [] with
    | some (V,st1,_)=>(match I1 l i with
      | some ⟨some d,.box T1 x,_,_,_,none⟩=>(match rd st1 [] x with
        | some v=>(match Cq v with
          | some cs=>bif Am st1.o d&&X3 st1.e&&Ic st1.e&&Nat.blt d 500000 then(match WV d T1 t cs st1 with
            | some st2=>bif X3 st2.e then(match Di Γ T l (l.drop (i+1)) st2 [] with
              | some (W,st3,_)=>some (V/\W,cut keep st3)
              | none=>none) else none
            | none=>none) else none
          | none=>none)
        | none=>none)
      | _=>none)
    | none=>none) else none
theorem D0G{X:Cx}{G:Gh}{a:Act}{st f:St}{d:Nat}{T:TypeId}{t:Ty}{cs:List AV}(h:WV d T t cs st=some f)(W:Ic st.e=true)(hp:X3 st.e=true)(F:Nat.blt d 500000=true)(hd:b5 st.o d=none)(y:d<X.n)(S:Sat X G)(z:G.o=st.o)(P:EnvR X.n G st.e a){us:Array Value}(hA:AVRs G cs us.toList) :
  ∃G',G'.w=G.w.alloc (.cells us T)/\Sat X G'/\G'.o=f.o/\EnvR X.n G' f.e (a.put (some d) (.pointer (some ⟨G.w.heap.size,0,none⟩))):=by
 obtain⟨G1,w1,Q,V,q,r⟩:=VK S (T:=T) (by rw[z]; exact hd) hA;have hl:b5 G1.o d=some (.box T cs):=by rw[q,lK,if_pos rfl]
 obtain⟨_,b,H,hb⟩:=r;cases hb;obtain⟨b',vs,g1,g2,Y,g4⟩:=Q.obs d _ hl;rw[H] at g2;cases g2;unfold WV at h;split at h
 ·rename_i x fl g i hz;cases h;rw[<- z,<- q] at i;have v:Ap d 0 true .bool ([]:List Bool) G1.o=some g:=by
   rw[q,z];unfold Ap;rw[Nat.beq_refl];exact hz
  have j:JY G1 d 0 true .bool ([]:List Bool) g:=fun u hu=>by
   rcases hu with ⟨_,T1,aC,t1,aB,aA,l,_⟩ | ⟨_,⟨_,_,_,_,_,_,l⟩,_⟩
   ·grind
   grind
  have hB:G1.B<=G.w.heap.size:=by
   rw[V.hB];exact Nat.le_trans S.le S.size
  have S2:=WL Q hl (fun k c=>by
   rw[g1] at c;cases c;exact⟨⟨_,_,Y⟩,hB⟩) j v F
  refine⟨Fk G1 d g,w1,S2,rfl,?_⟩;have E:=P.mono V;have m:EnvR X.n (Fk G1 d g) (Fj d 0 true .bool ([]:List Bool) st.e) a:=⟨P.defers,P.size,fun k s c=>by
   obtain⟨b,l,h2⟩:=JZ W c;obtain⟨h3,h4⟩:=E.val k _ l
   grind[RV]⟩
  refine EnvR.put (st:=⟨Fj d 0 true .bool ([]:List Bool) st.e,g⟩) m y (fun _ h=>by cases h) (fun k s c x i=>?_) ⟨fun _=>?_,fun h=>(h (fun _ h=>by cases h)).elim⟩
  ·obtain⟨b,l,_⟩:=JZ W c;rw[HO hp k _ l] at i;cases i
  ·have hR:=Ga (K':=(Fk G1 d g).K) Q (fun k c=>.inl c) 24 i (fun _ h=>by cases h) g4;exact⟨_,0,vs,rfl,⟨.inr (.inl g1),fun e=>by cases e⟩,Y.at,RT.up hR (fun k c=>⟨c.1,fun e=>by cases e⟩)⟩
 grind
theorem zX{P:Program}{n:Nat}{y:World×(Nat->Prop)×(Nat->Prop)×(Nat->Value->Prop)×Nat}{st:St}{Q:Exit->Act->World->Prop}{Γ:p8}{T:List Ct}(r:B2 P Γ)(hT:∀c∈T,Ok P c)(i:Nat)(b:List Nat)(t:Ty)(st':St){V W:Prop}{id:Nat}{l:List Oper}
  (h:evX n Γ T l i b t st=some (V/\W,st')) (e:V/\W) (hc:FX (cx P n y) st' .normal Q):VX (cx P n y) st (.region id l.toArray false) Q:=by
 unfold evX at h;rw[ce] at h;split at h
 ·rename_i g;rw[ba] at g;split at h
  ·rename_i V1 aA aB g1;split at h
   ·rename_i d T1 x ty F q hn;split at h
    ·rename_i v Y;split at h
     ·rename_i cs j;rw[ce] at h;split at h
      ·rename_i w;simp only[ba] at w;obtain⟨⟨⟨f1,z⟩,f3⟩,f4⟩:=w;split at h
       ·rename_i f k;rw[ce] at h;split at h
        ·rename_i u;split at h
         ·rename_i W1 m s g3;simp only[oi,pj] at h;obtain⟨e1,e2⟩:=h;rw[<- e1] at e;refine C0K (X:=cx P n y) r hT b g.1 g.2 g1 e.1 hn z fun o G a S ho E K hK=>?_;obtain⟨hA,_⟩:=JF j (D2 E (p:=[]) (fun _ h=>by cases h) Y);obtain⟨H,k1,k2,k3,k4⟩:=D0G k f3 z f4 (DZ f1) (o _ rfl) S ho E hA;have:=hK f W1 m s H _ u g3 e.2 (by grind) k2 k3 k4;unfold BF;rw[if_pos (by rfl)];unfold Oper.wp;simp only[execOp];rw[k1] at this;exact this
         grind
        grind
       grind
      grind
     grind
    grind
   grind
  grind
 grind
section
variable {P:Program} {n:Nat} {y:World×(Nat->Prop)×(Nat->Prop)×(Nat->Value->Prop)×Nat} {st:St} {Q:Exit->Act->World->Prop} {Γ:p8} {T:List Ct} {ρ:Type} {r:ρ} {l:List Oper} {id i:Nat} {V:Prop} [Decidable V]
def n3{α β:Type}(o:Option (α×β×St)):St:=match o with
 | some (_,_,s)=>s
 | none=>⟨[],[]⟩
theorem c8{P:Program}{Γ:p8}[HG P Γ]{f:FuncId}{ps:List q9}{c:Type}[Inhabited c]{F:C8 ps->Option c}{R:c->AV}{Z:c->D4 ps}{b:Func}{a:Code}(rs:List ResultVar)(e:P.funcs[f]?=some b)
 (h:∀y x r,F x=some r->∀Q,RY (cx P b.ntmps y) Γ rs ps R Z r .normal Q->RY (cx P b.ntmps y) Γ rs ps R Z r .ret Q->VX (cx P b.ntmps y) ⟨Q6 0 ps x,J9 0 ps x⟩ a Q)
 (g:b.body=some a:=by rfl) (j:b.results=rs.toArray:=by kernel_rfl) (i:CY P f=true:=by kernel_rfl) (d:(Nat.ble ps.length b.ntmps&&AT ps)=true:=by kernel_rfl):Ok P (c7 f ps F R Z):=okL rs e rfl j h g i d
end
theorem hz{P:Program}{T:List Ct}(h:∀c∈T,Ok P c):HT P T:=⟨h⟩
instance (priority:=low){P:Program}:HT P []:=⟨@tn P⟩
def Kh(f:FuncId)(ps:List q9){ζ:Type}(R:ζ->AV)(Z:ζ->D4 ps)(v:ζ):Ct:=⟨f,ps,fun _=>⟨True,R v,Z v⟩⟩
section
variable {P:Program} {n:Nat} {y:World×(Nat->Prop)×(Nat->Prop)×(Nat->Value->Prop)×Nat} {st:St} {Q:Exit->Act->World->Prop} {Γ:p8} {T:List Ct} {ρ:Type} {r:ρ} {f:FuncId} {ps:List q9} {ζ:Type} [Inhabited ζ] {F:C8 ps->Option ζ} {R:ζ->AV} {Z:ζ->D4 ps} {V:Prop} [Decidable V] {x:ζ} {g:ζ->Option ρ} {id:Nat} {l:List Oper} {b:Bool}
theorem iD[a:HG P Γ][e:HT P T][j:M1 P](_:Ok P (c7 f ps F R Z))(k:List Nat){c:Code}(H:gd V (lt x g)=some r)(d:∀v,g v=some r->VX (cx P n y) (nx (I5 b n Γ (Kh f ps R Z v :: T) l k st)) c Q)(h:(I5 b n Γ T l k st).map Prod.fst=some V:=by kernel_rfl)(i:nx (I5 b n Γ T l k st)=nx (I5 b n Γ (Kh f ps R Z x :: T) l k st):=by kernel_rfl):VX (cx P n y) st (.seq (.region id l.toArray b) c) Q :=
 qd a.h e.h k (fun v=>nx (I5 b n Γ (Kh f ps R Z v :: T) l k st)) H ((Kg h).trans (congrArg (fun s=>some (V,s)) i)) d
theorem jD[a:HG P Γ][d:HT P T][i:M1 P](_:Ok P (c7 f ps F R Z))(k:List Nat)(H:gd V (lt x g)=some r)(c:∀v,g v=some r->FX (cx P n y) (nx (I5 b n Γ (Kh f ps R Z v :: T) l k st)) .normal Q)(h:(I5 b n Γ T l k st).map Prod.fst=some V:=by kernel_rfl)(e:nx (I5 b n Γ T l k st)=nx (I5 b n Γ (Kh f ps R Z x :: T) l k st):=by kernel_rfl):VX (cx P n y) st (.region id l.toArray b) Q :=
 zd a.h d.h k (fun v=>nx (I5 b n Γ (Kh f ps R Z v :: T) l k st)) H ((Kg h).trans (congrArg (fun s=>some (V,s)) e)) c
end
end Go.Proofs.Xv
end
