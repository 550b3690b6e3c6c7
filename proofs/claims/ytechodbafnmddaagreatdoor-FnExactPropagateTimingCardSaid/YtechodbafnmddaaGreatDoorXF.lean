/- Plain facts on C0p functions: sizes, copies, comparisons. Over any program. -/
import Derived.Test.YtechodbafnmddaaGreatDoorXD
import Derived.Test.YtechodbafnmddaaGreatDoorXA
import Derived.Lib.SliceRun
import Derived.Sort.Grow
set_option maxHeartbeats 0
section
namespace Go.Proofs.Xd
open Go Go.Proofs.Xv Go.Proofs.Xl
theorem lE{a b:Type}{x:a}{f:a->b}:lt x f=f x:=rfl
theorem Q5{o:Option Int}{m n:Nat}{l:Int}{k:Int->Option Int}(h:o=some (u6 m l))(a:∀v,0<=v->v<=l->k v=some (u6 n v))(_:0<=l) :
  gd (o.isSome=true/\True) (lt (vl o) fun v=>if(decide (v<0))=true then some (-1) else k v)=some (u6 (m+n) l):=by
 subst h;rw[gP ⟨rfl,trivial⟩];show(if(decide (u6 m l<0))=true then some (-1) else k (u6 m l))=_
 grind[u6]
theorem Gn{s n:Nat}{l:Int}{k:Option Int}(d:s<=9223372036854775807)(e:0<=l)(b:l<=9223372036854775807)(a:0<=l-(s:Int)->k=some (u6 n (l-(s:Int)))) :
  gd (b7 (l-(s:Int))/\True) (if(decide (l-(s:Int)<0))=true then some (-1) else k)=some (u6 (s+n) l):=by
 rw[gP ⟨oo,trivial⟩];by_cases c:l-(s:Int)<0
 ·rw[if_pos (by grind),D0C c]
 ·rw[if_neg (by grind),a (by omega),D0B (by omega)]
theorem AE{v:Int}(h:0<=v):some v=some (u6 0 v):=by rw[x0M h]
theorem I0l{T:Type}(xs:List T)(d:T)(c:T->Nat){F:(Int×Int->Option Int)->Int×Int->Option Int}{M:Int}
  (b:∀g (v:Int) (i:Nat),i<xs.length->0<=v->v<=M->F g (v,(i:Int))=if u6 (c (xs.getD i d)) v<0 then some (-1) else g (u6 (c (xs.getD i d)) v,(i:Int)+1))
  (f:∀g (v:Int) (i:Nat),xs.length<=i->F g (v,(i:Int))=some v):∀(n i:Nat) (v:Int),0<=v->v<=M->i<=xs.length->xs.length-i<n->K5 F n (v,(i:Int))=some (u6 ((xs.drop i).map c).sum v)
 | 0,i,v,_,_,_,h=>by omega
 | n+1,i,v,hv,hM,hi,hn=>by
   show F (K5 F n) (v,(i:Int))=_;by_cases h:i<xs.length
   ·rw[b _ _ _ h hv hM];have e:xs.drop i=xs.getD i d :: xs.drop (i+1):=by
     rw[List.drop_eq_getElem_cons h,gq,List.getElem?_eq_getElem h]; rfl
    rw[e,List.map_cons,List.sum_cons];split
    ·rename_i a;rw[u0B a]
    ·rename_i a;rw[u0A (by omega)];have:=I0l xs d c b f n (i+1) (u6 (c (xs.getD i d)) v) (by omega) (by have:=(I0m (n:=c (xs.getD i d)) hv).2; omega) (by omega) (by omega)
     grind
   grind[List.drop_eq_nil_of_le,AE]
theorem Gp{T:Type}{xs:List T}{d:T}{c:T->Nat}{F:(Int×Int->Option Int)->Int×Int->Option Int}{l:Int}(e:xs.length<=9223372036854775807)(j:0<=l)(b:l<=9223372036854775807)
  (a:∀g (v:Int) (i:Nat),i<xs.length->0<=v->v<=9223372036854775807->F g (v,(i:Int))=if u6 (c (xs.getD i d)) v<0 then some (-1) else g (u6 (c (xs.getD i d)) v,(i:Int)+1))
  (f:∀g (v:Int) (i:Nat),xs.length<=i->F g (v,(i:Int))=some v) :
  gd (b7 (l-(xs.length:Int))/\True) (if(decide (l-(xs.length:Int)<0))=true then some (-1) else lp F (l-(xs.length:Int),0))=some (u6 (xs.length+(xs.map c).sum) l):=by
 refine Gn e j b fun h=>?_;have:=I0l xs d c a f P7 0 (l-(xs.length:Int)) h (by omega) (by omega) (by grind[P7])
 grind[lp]
theorem HZ{o:Option Int}{m i a:Nat}{v:Int}{g:Int×Int->Option Int}{k:Option Int}(h:o=some (u6 m v))(hi:i<a)(b:a<=9223372036854775807) :
  (if(decide ((i:Int) < (a:Int)))=true then gd (ix (i:Int) a/\o.isSome=true/\True) (lt (vl o) fun v3=>if(decide (v3<0))=true then some (-1) else gd (b7 ((i:Int)+1)/\True) (g (v3,(i:Int)+1))) else k) =
    if u6 m v<0 then some (-1) else g (u6 m v,(i:Int)+1):=by
 subst h;rw[if_pos (by grind),gP ⟨oo,rfl,trivial⟩];show(if(decide (u6 m v<0))=true then some (-1) else gd (b7 ((i:Int)+1)/\True) (g (u6 m v,(i:Int)+1)))=_;rw[gP ⟨oo,trivial⟩]
 grind
theorem L0h{m i a:Nat}{v:Int}{g:Int×Int->Option Int}{k:Option Int}(hi:i<a)(f:a<=9223372036854775807)(e:m<=9223372036854775807)(b:0<=v)(d:v<=9223372036854775807) :
  (if(decide ((i:Int) < (a:Int)))=true then gd (ix (i:Int) a/\b7 (v-(m:Int))/\True) (lt (v-(m:Int)) fun v3=>if(decide (v3<0))=true then some (-1) else gd (b7 ((i:Int)+1)/\True) (g (v3,(i:Int)+1))) else k) =
    if u6 m v<0 then some (-1) else g (u6 m v,(i:Int)+1):=by
 rw[if_pos (by grind),gP ⟨oo,oo,trivial⟩];show(if(decide (v-(m:Int)<0))=true then some (-1) else gd (b7 ((i:Int)+1)/\True) (g (v-(m:Int),(i:Int)+1)))=_;rw[gP ⟨oo,trivial⟩];by_cases c:v-(m:Int)<0
 ·rw[if_pos (by grind),if_pos (by grind[B0T])]
 ·rw[if_neg (by grind),Yi (by omega),if_neg c]
theorem Gq{c i:Nat}{a b:Option Int}(h:c<=i):(if(decide ((i:Int) < (c:Int)))=true then a else b)=b:=if_neg (by grind)
theorem M1{a b:Type}[Inhabited a]{o:Option a}{x:a}{k:a->Option b}{r:Option b}(h:o=some x)(c:k x=r):gd (o.isSome=true/\True) (lt (vl o) k)=r:=by
 subst h;rw[gP ⟨rfl,trivial⟩];exact c
theorem E0A{b:Type}(a:List b)(z _:b)(s:Nat)(h:s<a.length):(a.take s++List.replicate (a.length-s) z).length=a.length:=by
 grind
theorem I0h{T:Type}(xs:List T)(z d:T){F:(Int×List T->Option (List T))->Int×List T->Option (List T)}
  (a:∀g (i:Nat) (ys:List T),i<xs.length->ys.length=xs.length->F g ((i:Int),ys)=g ((i:Int)+1,ys.set i (xs.getD i d)))
  (b:∀g (i:Nat) ys,xs.length<=i->F g ((i:Int),ys)=some ys):∀(n i:Nat),i<=xs.length->xs.length-i<n->K5 F n ((i:Int),xs.take i++List.replicate (xs.length-i) z)=some xs
 | 0,i,_,h=>by omega
 | n+1,i,hi,hn=>by
   show F (K5 F n) ((i:Int),_)=_;by_cases h:i<xs.length
   ·rw[a _ _ _ h (E0A xs z d i h),w0g xs z d i h];have:=I0h xs z d a b n (i+1) (by omega) (by omega)
    grind
   grind[z0l]
theorem BF{T:Type}{xs:List T}{z d:T}{F:(Int×List T->Option (List T))->Int×List T->Option (List T)}{b:Nat}(e:xs.length<=1048576)(a:b<=4096)
  (c:∀g (i:Nat) (ys:List T),i<xs.length->ys.length=xs.length->F g ((i:Int),ys)=g ((i:Int)+1,ys.set i (xs.getD i d)))
  (f:∀g (i:Nat) ys,xs.length<=i->F g ((i:Int),ys)=some ys) :
  gd ((0<=(xs.length:Int)/\(xs.length:Int)=(xs.length:Int)/\(xs.length:Int).toNat*b<=281474976710656/\(xs.length:Int)<=9223372036854775807)/\True) (lp F (0,List.replicate (xs.length:Int).toNat z))=some xs:=by
 have h:xs.length*b<=1048576*4096:=Nat.mul_le_mul e a;rw[gP ⟨⟨by omega,rfl,by grind,by omega⟩,trivial⟩,Int.toNat_natCast];have:=I0h xs z d c f P7 0 (by omega) (by grind[P7])
 grind[lp]
theorem Fi{T:Type}{o:Option T}[Inhabited T]{x:T}{i a:Nat}{b:List T}{g:Int×List T->Option (List T)}{k:Option (List T)}(h:o=some x)(hi:i<a)(c:a<=9223372036854775807)(d:b.length=a) :
  (if(decide ((i:Int) < (a:Int)))=true then gd (ix (i:Int) a/\o.isSome=true/\ix (i:Int) b.length/\(i:Int).toNat<b.length/\True) (lt (vl o) fun v4=>gd (b7 ((i:Int)+1)/\True) (g ((i:Int)+1,b.set (i:Int).toNat v4))) else k)=g ((i:Int)+1,b.set i x):=by
 subst h;rw[if_pos (by grind),gP ⟨oo,rfl,oo,by omega,trivial⟩];rw[lE,vS,gP ⟨oo,trivial⟩,Int.toNat_natCast]
theorem Vu{T:Type}{x:T}{i a:Nat}{b:List T}{g:Int×List T->Option (List T)}{k:Option (List T)}(hi:i<a)(d:a<=9223372036854775807)(c:b.length=a) :
  (if(decide ((i:Int) < (a:Int)))=true then gd (ix (i:Int) a/\ix (i:Int) b.length/\(i:Int).toNat<b.length/\True) (gd (b7 ((i:Int)+1)/\True) (g ((i:Int)+1,b.set (i:Int).toNat x))) else k)=g ((i:Int)+1,b.set i x):=by
 rw[if_pos (by grind),gP ⟨oo,oo,by omega,trivial⟩,gP ⟨oo,trivial⟩,Int.toNat_natCast]
theorem BG{T:Type}{c i:Nat}{a b:Option T}(h:c<=i):(if(decide ((i:Int) < (c:Int)))=true then a else b)=b:=if_neg (by grind)
theorem M3{o:Option Bool}{k r:Option Bool}(h:o=some true)(a:k=r):gd (o.isSome=true/\True) (if(!vl o)=true then some false else k)=r:=by
 subst h;rw[gP ⟨rfl,trivial⟩];exact a
theorem Rc{p:Prop}[Decidable p]{k r:Option Bool}(h:p)(a:k=r):(if(!decide p)=true then some false else k)=r:=by
 grind
theorem Y0{x:Int}{k r:Option Bool}(a:k=r):(if(x != x)=true then some false else k)=r:=by
 grind
theorem Ae{x:Bool}{k r:Option Bool}(a:k=r):(if(x != x)=true then some false else k)=r:=by
 grind
theorem M0m{x:Bool}{k r:Option Bool}(a:k=r):(if(!(x==x))=true then some false else k)=r:=by
 grind
theorem I0X(a:Nat){F:(Int->Option Bool)->Int->Option Bool}(b:∀g (i:Nat),i<a->F g (i:Int)=g ((i:Int)+1))(c:∀g (i:Nat),a<=i->F g (i:Int)=some true):∀(n i:Nat),i<=a->a-i<n->K5 F n (i:Int)=some true
 | 0,i,_,h=>by omega
 | n+1,i,hi,hn=>by
   show F (K5 F n) (i:Int)=_;by_cases h:i<a
   ·rw[b _ _ h]
    exact_mod_cast I0X a b c n (i+1) (by omega) (by omega)
   grind
theorem BH{a:Nat}{F:(Int->Option Bool)->Int->Option Bool}(d:a<=9223372036854775807)(b:∀g (i:Nat),i<a->F g (i:Int)=g ((i:Int)+1))(c:∀g (i:Nat),a<=i->F g (i:Int)=some true) :
  (if((a:Int) != (a:Int))=true then some false else lp F 0)=some true :=
 Y0 (I0X a b c P7 0 (by omega) (by grind[P7]))
theorem Fj{o:Option Bool}{i a:Nat}{g:Int->Option Bool}{k:Option Bool}(h:o=some true)(hi:i<a)(b:a<=9223372036854775807) :
  (if(decide ((i:Int) < (a:Int)))=true then gd (ix (i:Int) a/\ix (i:Int) a/\o.isSome=true/\True) (if(!vl o)=true then some false else gd (b7 ((i:Int)+1)/\True) (g ((i:Int)+1))) else k)=g ((i:Int)+1):=by
 subst h;rw[if_pos (by grind),gP ⟨oo,oo,rfl,trivial⟩,vS,if_neg (by simp),gP ⟨oo,trivial⟩]
theorem Vw{b:Bool}{i a:Nat}{g:Int->Option Bool}{k:Option Bool}(h:b=false)(hi:i<a)(c:a<=9223372036854775807) :
  (if(decide ((i:Int) < (a:Int)))=true then gd (ix (i:Int) a/\ix (i:Int) a/\True) (if b=true then some false else gd (b7 ((i:Int)+1)/\True) (g ((i:Int)+1))) else k)=g ((i:Int)+1):=by
 subst h;rw[if_pos (by grind),gP ⟨oo,oo,trivial⟩,if_neg (by simp),gP ⟨oo,trivial⟩]
theorem R8{t:Ty}{a:List (c7 t)}{i:Nat}{d:c7 t}{m:Nat}(h:i<a.length)(b:h9 (.sl t) a<=m):h9 t (a.getD i d)<=m:=by
 grind[CC,J0c]
theorem C4{t:Ty}{a:List (c7 t)}{m:Nat}(b:h9 (.sl t) a<=m):a.length<=m:=by
 grind[CC]
theorem cF{s t:Ty}{x:c7 (.pr s t)}{m:Nat}(h:h9 (.pr s t) x<=m):h9 s x.1<=m:=by
 grind[Ba]
theorem cS{s t:Ty}{x:c7 (.pr s t)}{m:Nat}(h:h9 (.pr s t) x<=m):h9 t x.2<=m:=by
 grind[Ba]
theorem N2{t:Ty}{a:List (c7 t)}{i:Nat}{d:c7 t}(h:i<a.length)(b:wf (.sl t) a):wf t (a.getD i d):=by
 rw[gq,List.getElem?_eq_getElem h];exact b.2 _ (List.getElem_mem h)
theorem dlt{i n:Nat}:decide ((i:Int) < (n:Int))=decide (i<n):=by
 grind
theorem Ry{n:Nat}(h:n<=9223372036854775807):n+1<P7:=by grind[P7]
theorem E0f{b a:Type}{F:(b->Option a)->b->Option a}{s:b}{r:Option a}(h:∀n,0<n->K5 F n s=r):lp F s=r:=h P7 (by grind[P7])
theorem OF{b e c:Type}{n:Nat}(l:n<=9223372036854775807)(mk:Nat->b->e)(f:Nat->b->Option b)(x:Nat->b->Option c)(I:Nat->b->Prop){J:b->Option c}{F:(e->Option c)->e->Option c}
  (o:∀g i s,i<n->I i s->F g (mk i s)=match f i s with | some s'=>g (mk (i+1) s') | none=>x i s) (r:∀i s s',i<n->I i s->f i s=some s'->I (i+1) s') (q:∀g s,I n s->F g (mk n s)=J s)
  (a:Nat->b->Option c) (r0:∀s,I n s->a n s=J s) (t:∀i s,i<n->I i s->a i s=match f i s with | some s'=>a (i+1) s' | none=>x i s) (k:Nat) (j:k<=n) (s:b) (h:I k s):lp F (mk k s)=a k s:=by
 have d:∀(m i:Nat) (s:b),i<=n->n-i<m->I i s->K5 F m (mk i s)=a i s:=by
  intro m
  induction m with
  | zero=>omega
  | succ m u =>
    grind[hi,K5]
 exact d P7 k s j (by have:=Ry l; omega) h
theorem KE{a:Type}{n:Nat}(j:n<=9223372036854775807)(c:Nat->Bool)(x:Nat->Option a){e:Option a}{F:(Int->Option a)->Int->Option a}(k:Nat)(d:k<=n)(l:∀g (i:Nat),k<=i->i<n->F g (i:Int)=if c i=true then x i else g ((i:Int)+1))
  (f:∀g,F g (n:Int)=e):lp F (k:Int)=match(List.range' k (n-k)).find? c with | some i=>x i | none=>e:=by
 have:=OF j (fun i (_:Unit)=>(i:Int)) (fun i _=>if c i=true then none else some ()) (fun i _=>x i) (fun i _=>k<=i) (J:=fun _=>e) (F:=F)
  (fun g i s h b=>by
    grind) (fun _ _ _ _ h _=>Nat.le_succ_of_le h) (fun g _ _=>f g) (fun i _=>match(List.range' i (n-i)).find? c with | some i=>x i | none=>e) (fun _ _=>by simp) (fun i s h _=>by
    have m:n-i=(n-(i+1))+1:=by omega
    grind[List.range'_succ]) k d () (Nat.le_refl _)
 simpa using this
theorem K4{a:Type}{n:Nat}(j:n<=9223372036854775807)(c:Nat->Bool)(x:Option a){e:Option a}{F:(Int->Option a)->Int->Option a}(d:∀g (i:Nat),i<n->F g (i:Int)=if c i=true then x else g ((i:Int)+1))
  (f:∀g,F g (n:Int)=e):lp F 0=if(List.range n).any c=true then x else e:=by
 have:=KE j c (fun _=>x) 0 (Nat.zero_le _) (fun g i _ h=>d g i h) f;rw[Nat.sub_zero,<- List.range_eq_range'] at this;refine Eq.trans this ?_;cases h:(List.range n).find? c with
 | none =>
   rw[if_neg];rw[List.find?_eq_none] at h;intro k;obtain⟨i,b,l⟩:=List.any_eq_true.1 k;exact h i b l
 | some i =>
   rw[if_pos];exact List.any_eq_true.2 ⟨i,List.mem_of_find?_eq_some h,List.find?_some h⟩
theorem E0h{a:Type}{n:Nat}(h:n<=9223372036854775807)(c:Nat->Bool)(x:Option a){e:Option a}{F:(Int->Option a)->Int->Option a}(k:Nat)(d:k<=n)(b:∀g (i:Nat),k<=i->i<n->F g (i:Int)=if c i=true then x else g ((i:Int)+1))
  (f:∀g,F g (n:Int)=e):lp F (k:Int)=if((List.range n).any fun i=>decide (k<=i)&&c i)=true then x else e:=by
 refine(KE h c (fun _=>x) k d b f).trans ?_
 grind
def fN{σ:Type}(f:Nat->σ->σ):Nat->σ->σ
 | 0,s=>s
 | n+1,s=>f n (fN f n s)
theorem lF{a e d:Type}{n:Nat}(l:n<=9223372036854775807)(mk:Nat->a->e)(f:Nat->a->a)(I:Nat->a->Prop){J:a->Option d}{F:(e->Option d)->e->Option d}
  (k:∀g i s,i<n->I i s->F g (mk i s)=g (mk (i+1) (f i s))) (o:∀i s,i<n->I i s->I (i+1) (f i s)) (t:∀g s,I n s->F g (mk n s)=J s) (s:a) (j:I 0 s):lp F (mk 0 s)=J (fN f n s):=by
 have c:∀(m i:Nat),i<=n->n-i<m->I i (fN f i s)->K5 F m (mk i (fN f i s))=J (fN f n s):=by
  intro m
  induction m with
  | zero=>omega
  | succ m q =>
    intro i hi r b;show F (K5 F m) (mk i _)=_;by_cases h:i<n
    ·rw[k _ _ _ h b];exact q (i+1) (by omega) (by omega) (o _ _ h b)
    grind
 exact c P7 0 (Nat.zero_le _) (by have:=Ry l; omega) j
theorem Og{a k d:Type}{n:Nat}(r:n<=9223372036854775807)(mk:Nat->a->k)(f:Nat->a->a)(c:Nat->Bool)(x:Option d)(I:Nat->a->Prop){J:a->Option d}{F:(k->Option d)->k->Option d}
  (q:∀g i s,i<n->I i s->F g (mk i s)=if c i=true then x else g (mk (i+1) (f i s))) (t:∀i s,i<n->I i s->c i=false->I (i+1) (f i s)) (w:∀g s,I n s->F g (mk n s)=J s) (s:a) (o:I 0 s) :
  lp F (mk 0 s)=if(List.range n).any c=true then x else J (fN f n s):=by
 have e:∀(m i:Nat),i<=n->n-i<m->I i (fN f i s)->(∀j,j<i->c j=false)->K5 F m (mk i (fN f i s))=if(List.range n).any c=true then x else J (fN f n s):=by
  intro m
  induction m with
  | zero=>omega
  | succ m u =>
    intro i hi v b y;show F (K5 F m) (mk i _)=_;by_cases h:i<n
    ·rw[q _ _ _ h b];cases hci:c i with
     | true=>grind
     | false =>
       rw[if_neg (by simp)];refine u (i+1) (by omega) (by omega) (t _ _ h b hci) (fun j l=>?_)
       grind
    grind
 exact e P7 0 (Nat.zero_le _) (by have:=Ry r; omega) o (fun j l=>absurd l (Nat.not_lt_zero j))
theorem Rj{n:Nat}(p q:Nat->Bool):((List.range n).any fun i=>p i||q i)=((List.range n).any p||(List.range n).any q):=by
 grind
theorem Dy{n:Nat}{c:Nat->Bool}:(!(List.range n).any c)=true↔∀i,i<n->c i=false:=by
 grind
theorem V7{a:Type}(l:List a)(d:a)(p:a->Bool):((List.range l.length).any fun i=>p (l.getD i d))=l.any p:=by
 rw[Bool.eq_iff_iff,List.any_eq_true,List.any_eq_true];constructor
 ·grind
 ·rintro⟨x,b,e⟩;obtain⟨i,c,f⟩:=List.getElem_of_mem b;refine⟨i,List.mem_range.2 c,?_⟩
  grind
theorem NW{n:Nat}{p q:Nat->Bool}(h:∀i,i<n->p i=q i):(List.range n).any p=(List.range n).any q:=by
 grind
theorem CN{a:Type}{i n:Nat}{V:Prop}[Decidable V]{c:Bool}{x e:Option a}{g:Int->Option a}(h:i<n)(d:n<=9223372036854775807)(b:V) :
  (if(decide ((i:Int) < (n:Int)))=true then gd V (if c=true then x else gd (b7 ((i:Int)+1)/\True) (g ((i:Int)+1))) else e)=if c=true then x else g ((i:Int)+1):=by
 rw[if_pos (by grind),gP b,gP ⟨oo,trivial⟩]
theorem E0W{a:Type}{i n:Nat}{V W:Prop}[Decidable V][Decidable W]{c:Bool}{x e:Option a}{g:Int->Option a}(h:i<n)(f:n<=9223372036854775807)(b:V)(d:W) :
  (if(decide ((i:Int) < (n:Int)))=true then gd V (gd W (if c=true then x else gd (b7 ((i:Int)+1)/\True) (g ((i:Int)+1)))) else e)=if c=true then x else g ((i:Int)+1):=by
 rw[if_pos (by grind),gP b,gP d,gP ⟨oo,trivial⟩]
theorem aE{b:Type}{n:Nat}{a e:Option b}:(if(decide ((n:Int) < (n:Int)))=true then a else e)=e:=if_neg (by simp)
theorem Ik{i n:Nat}{o:Option Bool}{g:Int->Option Int}{e:Option Int}{b:Bool}(h:i<n)(c:n<=9223372036854775807)(a:o=some b) :
  (if(decide ((i:Int) < (n:Int)))=true then gd (ix (i:Int) n/\o.isSome=true/\True) (if(vl o)=true then some (i:Int) else gd (b7 ((i:Int)+1)/\True) (g ((i:Int)+1))) else e)=if b=true then some (i:Int) else g ((i:Int)+1):=by
 subst a;rw[if_pos (by grind),gP ⟨oo,rfl,trivial⟩,gP ⟨oo,trivial⟩,vS]
theorem DA{n:Nat}(d:n<=9223372036854775807)(b:Nat->Bool){F:(Int->Option Int)->Int->Option Int}(a:∀g (i:Nat),i<n->F g (i:Int)=if b i=true then some (i:Int) else g ((i:Int)+1))(c:∀g,F g (n:Int)=some (-1)) :
  lp F 0=some (match(List.range n).find? b with | some i=>(i:Int) | none => -1):=by
 have:=KE d b (fun i=>some (i:Int)) 0 (Nat.zero_le _) (fun g i _ h=>a g i h) c;rw[Nat.sub_zero,<- List.range_eq_range'] at this
 grind
theorem Il{n:Nat}{b:Nat->Bool}{o:Option Int}(h:o=some (match(List.range n).find? b with | some i=>(i:Int) | none => -1)):gd (o.isSome=true/\True) (lt (vl o) fun v0=>some (decide (0<=v0)))=some ((List.range n).any b):=by
 subst h;rw[gP ⟨rfl,trivial⟩,lE,vS];cases h:(List.range n).find? b with
 | none =>
   grind
 | some i =>
   have:(List.range n).any b=true:=List.any_eq_true.2 ⟨i,List.mem_of_find?_eq_some h,List.find?_some h⟩;rw[this];simp
end Go.Proofs.Xd
end
section
namespace Go.Proofs.Xv
open Go Go.RowKit Go.Proofs.Sv
def DS(P:Program)(op:TypeId->Ty->Bool):Nat->List Field->Ty->Bool
 | _,[],_=>false
 | off,[f],y=>Nat.beq f.offset off&&Nat.beq (P.cellsOf f.type) (sz y)&&op f.type y
 | off,f :: r,.pr a b=>Nat.beq f.offset off&&Nat.beq (P.cellsOf f.type) (sz a)&&op f.type a&&DS P op (off+sz a) r b
 | _,_,_=>false
def Ll(P:Program):Nat->TypeId->Ty->Bool
 | 0,_,_=>false
 | n+1,T,y=>match P.underlying T with
   | some (.int k)=>decide (y=.int k)
   | some .bool=>decide (y=.bool)
   | some .string=>decide (y=.str)
   | some (.slice E)=>match y with
     | .sl e=>Ll P n E e
     | _=>false
   | some (.struct fs)=>Nat.beq (P.cellsOf T) (sz y)&&DS P (Ll P n) 0 fs.toList y
   | _=>false
def FP(w:World)(k:Nat):Prop:=k<w.heap.size
theorem y0I(k:IntKind):k.min=lo k/\k.max=hi k:=by cases k <;> exact⟨rfl,rfl⟩
theorem v0g{P:Program}{E:TypeId}{e:Ty}{w:World}{H:Type}{enc:TypeId×Value->H}{sp:Nat->Bool}{W:Bool}(Y:∀{j:Nat} {cs:List Value} {x:DataW H×List MemPlace},DataW.trod enc P w 0 sp W j E cs=some x->∃z:c7 e,RT (FP w) w e cs z)
  {T:TypeId} {j:Nat} {cs:List Value} {x:DataW H×List MemPlace} (hT:P.underlying T=some (.slice E)) (h:DataW.trod enc P w 0 sp W j T cs=some x):∃z:List (c7 e),RT (FP w) w (.sl e) cs z:=by
 rcases DataW.trod_slice hT h with ⟨rfl,_⟩ | ⟨a,len,cap,elems,rest,n,rfl,rfl,_,_,hlc,hcm,hel,hat,_,_⟩
 ·exact⟨[],none,0,rfl,Nat.le_refl _,by omega,.inl rfl⟩
 ·have m:cap<=9223372036854775807:=by unfold maxLen at hcm; omega
  have d:∀i,i<len->∃c:List Value,w.cells? 0 (a.add (i*P.cellsOf E)) (P.cellsOf E)=some c/\∃y:c7 e,RT (FP w) w e c y:=by
   intro i hi;have g:=hat i hi;rw[List.getElem?_eq_getElem (by omega)] at g;cases f:w.cells? 0 (a.add (i*P.cellsOf E)) (P.cellsOf E) with
   | none=>rw[f] at g; cases g
   | some c =>
     rw[f] at g;simp only[Option.bind_some] at g;exact⟨c,rfl,Y g⟩
  by_cases G:len=0
  ·subst G;exact⟨[],some a,cap,rfl,Nat.zero_le _,m,.inl rfl⟩
  ·have V:P.cellsOf E=sz e:=by
    obtain⟨c,f,y,Q⟩:=d 0 (by omega);have:=(World.cells?_some f).2.1;rw[<- this]; exact RT.len Q
   have l:0<P.cellsOf E:=by rw[V]; exact GP e
   obtain⟨b,o,rfl⟩:∃b o,a=⟨b,o,none⟩:=by
    obtain⟨c,f,_⟩:=d 0 (by omega);have F:a.add (0*P.cellsOf E)=a:=by simp[Addr.add]
    rw[F] at f;exact⟨a.block,a.off,(KJ l f).1⟩
   have X:b<w.heap.size:=by
    obtain⟨c,f,_⟩:=d 0 (by omega);have F:(Addr.mk b o none).add (0*P.cellsOf E)=⟨b,o,none⟩:=by simp[Addr.add]
    rw[F] at f;have q:=KJ l f;exact q.2.2.lt (by rw[q.2.1]; exact l)
   have r:∀k,k<=len->∃(cs:List Value) (s:List (c7 e)),s.length=k/\At w b o cs/\AllR (RT (FP w) w e) cs s:=by
    intro k
    induction k with
    | zero=>exact fun _=>⟨[],[],rfl,Sd,rfl⟩
    | succ k ih =>
      intro hk;obtain⟨cs,s,q,v,u⟩:=ih (by omega);obtain⟨c,f,y,Q⟩:=d k (by omega);have t:(Addr.mk b o none).add (k*P.cellsOf E)=⟨b,o+k*P.cellsOf E,none⟩:=by
       unfold Addr.add;split
       ·rename_i G; rw[G]; rfl
       ·rfl
      rw[t] at f;have h4:=(KJ l f).2.2;refine⟨cs++c,s++[y],by simp[q],v.app ?_,AllR.app (AllR.one Q) u⟩;have:cs.length=k*P.cellsOf E:=by rw[u.len (fun c x h=>RT.len h),q,V]
      rw[this]; exact h4
   obtain⟨cs,s,q,v,u⟩:=r len (Nat.le_refl _);subst q;exact⟨s,some ⟨b,o,none⟩,cap,rfl,hlc,m,.inr ⟨b,o,cs,rfl,X,v,u⟩⟩
theorem p0a{P:Program}{w:World}{H:Type}{enc:TypeId×Value->H}{sp:Nat->Bool}{v:Bool}{u:TypeId->Ty->Bool}
  (s:∀{T:TypeId} {y:Ty},u T y=true->∀{fuel:Nat} {cs:List Value} {x:DataW H×List MemPlace},DataW.trod enc P w 0 sp v fuel T cs=some x->∃z:c7 y,RT (FP w) w y cs z) {cs:List Value} :
  ∀{fs:List Field} {off:Nat} {y:Ty},DS P u off fs y=true->cs.length=off+sz y->(∀f∈fs,∃n x,DataW.trod enc P w 0 sp v n f.type ((cs.drop f.offset).take (P.cellsOf f.type))=some x)->∃z:c7 y,RT (FP w) w y (cs.drop off) z:=by
 intro fs
 induction fs with
 | nil=>grind[DS]
 | cons f r W =>
   intro off y h j m;cases r with
   | nil =>
     have h:(Nat.beq f.offset off&&Nat.beq (P.cellsOf f.type) (sz y)&&u f.type y)=true:=by
      cases y <;> exact h
     simp only[ba] at h;obtain⟨⟨i,d⟩,E⟩:=h;have i:=nb i;have d:=nb d;obtain⟨n,x,l⟩:=m f (by simp)
     grind[List.take_of_length_le,List.length_drop]
   | cons g X =>
     cases y with
     | pr a b =>
       simp only[DS,ba] at h;obtain⟨⟨⟨i,d⟩,E⟩,F⟩:=h;have i:=nb i;have d:=nb d;obtain⟨n,x,l⟩:=m f (by simp);rw[i,d] at l;obtain⟨G,t⟩:=s E l;have c:cs.length=off+sz a+sz b:=by rw[j]; simp only[sz]; omega
       obtain⟨Q,o⟩:=W F c (fun V q=>m V (List.mem_cons_of_mem _ q));refine⟨(G,Q),(cs.drop off).take (sz a),cs.drop (off+sz a),?_,t,o⟩
       grind[List.drop_drop,List.take_append_drop]
     | int k=>grind[DS]
     | bool=>grind[DS]
     | str=>grind[DS]
     | sl e=>grind[DS]
     | pt e=>grind[DS]
theorem n0n{P:Program}{w:World}{H:Type}{enc:TypeId×Value->H}{sp:Nat->Bool}{o:Bool}:∀{n:Nat} {T:TypeId} {y:Ty},Ll P n T y=true->∀{fuel:Nat} {cs:List Value} {x:DataW H×List MemPlace},DataW.trod enc P w 0 sp o fuel T cs=some x->∃z:c7 y,RT (FP w) w y cs z:=by
 intro n
 induction n with
 | zero=>intro T y h; cases h
 | succ n g =>
   intro T y h fuel cs x c;unfold Ll at h;split at h
   ·rename_i k a;have d:y=.int k:=by simpa using h
    subst d;obtain⟨m,rfl,_,q⟩:=DataW.trod_int a c;refine⟨m,rfl,?_⟩;simp only[Lit.wf,ba,dq] at q
    grind[y0I]
   ·rename_i a;have d:y=.bool:=by simpa using h
    subst d;obtain⟨b,rfl,_⟩:=DataW.trod_bool a c;exact⟨b,rfl⟩
   ·rename_i a;have d:y=.str:=by simpa using h
    subst d;obtain⟨s,rfl,_,t⟩:=DataW.trod_string a c;exact⟨s,rfl,by grind[maxLen]⟩
   ·rename_i E a;split at h
    ·exact v0g (g h) a c
    grind
   ·rename_i v a;rw[ba] at h;obtain⟨j,r⟩:=n0m a c;have u:=nb h.1;have:=p0a (cs:=cs) (fun l=>g l) h.2 (by omega) (fun f e=>by
     obtain⟨i,hi,rfl⟩:=List.getElem_of_mem e;exact r i _ (by grind))
    grind
   grind
theorem O0m{P:Program}{H:Type}{enc:TypeId×Value->H}{T:TypeId}{y:Ty}{n:Nat}(g:Ll P n T y=true){e:Array Field}(j:P.underlying T=some (.struct e)){W:World}{r:Reach}{a:Nat}{v:Value}{d:DataW H}{p:List MemPlace}
  (b:Value.okWide P W r a T v) (h:DataW.Trod enc P W 0 (fun _=>true) true T v d p):∃(cs:List Value) (x:c7 y),v=.agg cs.toArray/\RT (FP W) W y cs x:=by
 obtain⟨cs,rfl,_⟩:=WideShapes.okWide_struct j b;obtain⟨f,i⟩:=h;obtain⟨x,c⟩:=n0n g i;exact⟨cs.toList,x,by simp,c⟩
theorem O0n{P:Program}{H:Type}{enc:TypeId×Value->H}{T E:TypeId}{y:Ty}{n:Nat}(j:Ll P n T y=true)(l:P.underlying T=some (.slice E)){W:World}{r:Reach}{b:Nat}{v:Value}{d:DataW H}{p:List MemPlace}
  (c:Value.okWide P W r b T v) (h:DataW.Trod enc P W 0 (fun _=>true) true T v d p):∃x:c7 y,RT (FP W) W y [v] x:=by
 obtain⟨a,e,i,rfl⟩:=WideShapes.okWide_slice l c;obtain⟨f,k⟩:=h;obtain⟨x,g⟩:=n0n j k;exact⟨x,g⟩
theorem WE.below{w w':World}(h:WE none w w'):Below w.heap.size w w':=⟨h.os,h.tape,h.output,h.size,fun k a=>h.block k a (by simp)⟩
theorem Yv{P:Program}{ops:Array Oper}{Q:Exit->Act->World->Prop}{o:Oper}{r:List Oper}{a:Act}{w:World}(b:AP P ops Q o (wpList P ops Q r) a w):wpList P ops Q (o :: r) a w:=by
 grind[wpList,AP]
theorem s0n{P:Program}{n:Nat}{e:y9}{ty:TypeId}{w:World}{T T' E:TypeId}{x y:Operand}{q:Option Addr}{m c:Nat}(h:P.underlying T=some (.slice E))(j:Sv.ev e x=some (.slice q m c))(k:Sv.ev e y=some (.slice none 0 0)) :
  D6 P n e (.binOp .eql T x y T') ty w (.bool q.isNone) w:=by
 intro a f i b g d;have:=Lib.run_eql_slice_nil w T E q m c 0 0 h;simp only[execOp,d.ev j,d.ev k];simp[eqGuard,this,Result.andThen]
theorem q0J{X:Cx}{G:Gh}{a:Act}{ops:Array Oper}{Q:Exit->Act->World->Prop}{d:Nat}{b:Op}{ty:TypeId}{pos:String}{after:Array Edge}{v:Value}{K:Act->World->Prop}
  (h:∀dst pos after g,(execOp a.eval ⟨dst,b,ty,pos,after,g⟩).run X.P G.w=.ok (.value v) G.w) (e:K (a.put (some d) v) G.w):AP X.P ops Q ⟨some d,b,ty,pos,after,none⟩ K a G.w:=by
 unfold AP;have c:Region.wanted ⟨some d,b,ty,pos,after,none⟩ (yielded ops a.tmps)=true:=rfl;rw[if_pos c];unfold Oper.wp;rw[h (some d) pos after none];exact e
theorem x0s{X:Cx}{st:St}{Q:Exit->Act->World->Prop}{id T E c t3 i:Nat}{F H T':TypeId}{y m:String}{aA aC:Array Edge}{f:Bool}{e:Ty}{xs:List (c7 e)}
  (hU:X.P.underlying T=some (.slice E)) (h0:a8 st.e c=some ⟨[],.d f (.sl e) xs⟩) (aJ:R6 st.e=true) (h3:Nat.blt t3 X.n=true) (h4:Nat.blt i X.n=true)
  (ht:xs=[]->FX X ⟨(i,⟨[],.d true .bool true⟩) :: (t3,⟨[],.d f (.sl e) xs⟩) :: st.e,st.o⟩ .normal Q) (hf:FX X ⟨(i,⟨[],.d true .bool false⟩) :: (t3,⟨[],.d f (.sl e) xs⟩) :: st.e,st.o⟩ .normal Q) :
  VX X st (.region id [⟨some t3,.move (.tmp c),F,y,aA,none⟩,⟨some i,.binOp .eql T (.tmp t3) (.const (.slice none 0 0)) T',H,m,aC,none⟩].toArray false) Q:=by
 intro G a S ho Y;have h3:t3<X.n:=by simpa using h3
 have h4:i<X.n:=by simpa using h4
 refine wp_region_lit ?_;have hu:=(Y.val c _ h0).1 (fun _ h=>by cases h);have aG:=hu;obtain⟨q,j,hv,aD,u,aF⟩:=aG;simp only[List.cons.injEq,and_true] at hv;have aK:a.eval (.tmp c)=a.tmps.getD c undef:=rfl;obtain⟨v,W,k⟩:N7 X G a (.move (.tmp c)) F (.d f (.sl e) xs):=C2 Y [.tmp c] (v:=a.eval (.tmp c)) (q6 (by grind[AM,K7])) (by grind);refine Yv (q0J W ?_);have aH:∀(t:Nat) (s:Sl),a8 st.e t=some s->∀d,∀x∈s.p,x.1≠d:=fun t s hs d x hx=>by grind[FI]
 have V:=EnvR.put (st:=st) (p:=[]) (r:=.d f (.sl e) xs) Y h3 (fun _ h=>by cases h) (fun t s hs=>aH t s hs t3) (v:=v) ⟨fun _=>k,fun h=>(h (fun _ h=>by cases h)).elim⟩;have z:=k;obtain⟨q,j,hv,aD,u,aF⟩:=z;simp only[List.cons.injEq,and_true] at hv;have aB:(a.put (some t3) v).eval (.tmp t3)=.slice q xs.length j:=by
  show(a.put (some t3) v).tmps.getD t3 undef=_;rw[SG (by rw[Y.size]; exact h3),if_pos rfl,hv]
 have hx:Sv.ev (F2 (a.put (some t3) v) [.tmp t3]) (.tmp t3)=some (.slice q xs.length j):=by rw[K7 (by simp),aB]
 obtain⟨v2,g,aI⟩:N7 X G (a.put (some t3) v) (.binOp .eql T (.tmp t3) (.const (.slice none 0 0)) T') H (.d true .bool q.isNone):=C2 (st:=⟨(t3,⟨[],.d f (.sl e) xs⟩) :: st.e,st.o⟩) V [.tmp t3] (s0n hU hx rfl) rfl;refine Yv (q0J g ?_);have l:∀b,q.isNone=b->EnvR X.n G ((i,⟨[],.d true .bool b⟩) :: (t3,⟨[],.d f (.sl e) xs⟩) :: st.e) ((a.put (some t3) v).put (some i) v2):=fun b hb=>EnvR.put (st:=⟨(t3,⟨[],.d f (.sl e) xs⟩) :: st.e,st.o⟩) (p:=[]) V h4 (fun _ h=>by cases h) (fun t s hs x hx=>by
   grind[lK]) ⟨fun _=>hb ▸ aI,fun h=>(h (fun _ h=>by cases h)).elim⟩
 show Q .normal _ G.w;cases hq:q with
 | none =>
   refine ht ?_ G _ S ho (l true (by grind))
   grind
 | some ad=>exact hf G _ S ho (l false (by grind))
end Go.Proofs.Xv
end
section
namespace Go.Proofs.Xv
open Go Go.RowKit Go.Proofs.Sv Go.Proofs.Xl
def U0P(P:Program)(f:FuncId)(F:List Int->Option (List Int)):Prop:=BX P f=true/\∀(E:TypeId) (xs ys:List Int),F xs=some ys->ys.length=xs.length/\(∀y∈ys,y∈xs) /\
 ∀(w:World) (g:Option Nat) (v:Value),Own w E 1 g v xs.length (xs.map (Value.int .i64))->Calls P f #[v] w fun en w'=>en=.returned (.tuple #[])/\WE g w w'/\Own w' E 1 g v ys.length (ys.map (Value.int .i64))
theorem v0i{X:Cx}{G:Gh}{a:Act}{ops:Array Oper}{Q:Exit->Act->World->Prop}{d f:Nat}{b:Op}{ty:TypeId}{pos:String}{after:Array Edge}{vs:Array Value}{K:Act->World->Prop}
  (h:∀dst pos after g,(execOp a.eval ⟨dst,b,ty,pos,after,g⟩).run X.P G.w=.ok (.enter f vs) G.w) (c:Calls X.P f vs G.w fun en w'=>∃v,en=.returned v/\K (a.put (some d) v) w'):AP X.P ops Q ⟨some d,b,ty,pos,after,none⟩ K a G.w:=by
 unfold AP;have e:Region.wanted ⟨some d,b,ty,pos,after,none⟩ (yielded ops a.tmps)=true:=rfl;rw[if_pos e];unfold Oper.wp;rw[h (some d) pos after none];refine Calls.mono c ?_
 grind
end Go.Proofs.Xv
end
section
namespace Go.Proofs.Xl
end Go.Proofs.Xl
namespace Go.Proofs.Xv
open Go Go.RowKit Go.Proofs.Sv Go.Proofs.Xl
/- What all data of a result are. -/
mutual
def wfA:AV->Prop
 | .d _ t x=>wf t x
 | .agg xs=>Tm xs
 | .tup xs=>Tm xs
 | .ow _ _ t xs=>wf (.sl t) xs
 | _=>True
def Tm:List AV->Prop
 | []=>True
 | a :: r=>wfA a/\Tm r
end
def Jn:(ps:List o6)->F0 ps->Prop
 | [],_=>True
 | .io _ t :: _,z=>wf t z
 | .dat _ :: r,z=>Jn r z
 | .agg _ :: r,z=>Jn r z
 | .fn _ _ :: r,z=>Jn r z
 | .nof _ :: r,z=>Jn r z
 | .nil :: r,z=>Jn r z
 | .os _ _ :: r,z=>Jn r z
mutual
theorem ResR.wf{K:Bool->Nat->Prop}{w:World}:∀{a:AV} {u:Value} {gs:List (Option Nat)},ResR K w a u gs->wfA a
 | .v _,_,_,_=>trivial
 | .d _ _ _,_,_,h=>RT.wf h.1
 | .agg _,_,_,⟨_,_,h⟩=>ResRs.wf h
 | .tup _,_,_,⟨_,_,h⟩=>ResRs.wf h
 | .ow _ _ _ _,_,_,⟨_,_,_,_,h1,h2⟩=>C0f h1 h2
 | .ob _ _,_,_,_=>trivial
 | .ptr _ _,_,_,_=>trivial
 | .pel ..,_,_,_=>trivial
 | .os _ _,_,_,_=>trivial
 | .fn _ _,_,_,_=>trivial
 | .gel _ _,_,_,_=>trivial
 | .og _,_,_,_=>trivial
theorem ResRs.wf{K:Bool->Nat->Prop}{w:World}:∀{as':List AV} {us:List Value} {gs:List (Option Nat)},ResRs K w as' us gs->Tm as'
 | [],_,_,_=>trivial
 | _ :: _,_,_,⟨_,_,_,_,_,_,h1,h2⟩=>⟨ResR.wf h1,ResRs.wf h2⟩
end
theorem IOR.wf{K:Nat->Prop}{w:World}{go:Option Nat}:∀{ps:List o6} {z:F0 ps},IOR K w go ps z->Jn ps z
 | [],_,_=>trivial
 | .io _ _ :: _,_,⟨_,_,_,_,h⟩=>RT.wf h
 | .dat _ :: r,_,h=>IOR.wf (ps:=r) h
 | .agg _ :: r,_,h=>IOR.wf (ps:=r) h
 | .fn _ _ :: r,_,h=>IOR.wf (ps:=r) h
 | .nof _ :: r,_,h=>IOR.wf (ps:=r) h
 | .nil :: r,_,h=>IOR.wf (ps:=r) h
 | .os _ _ :: r,_,h=>IOR.wf (ps:=r) h
theorem Yw{n:Nat}:∀{a b:List Oper} {i:Nat} {seen:List Nat},R5 n i seen (a++b)=true->R5 n i seen a=true/\∃sn,R5 n (i+a.length) sn b=true/\(∀d∈seen,d∈sn)/\∀o∈a,∀d,o.dst=some d->d∈sn
 | [],b,i,seen,h=>⟨rfl,seen,by grind,fun _ h=>h,fun _ h=>by cases h⟩
 | o :: r,b,i,seen,h=>by
   simp only[List.cons_append,R5,ba] at h ⊢;obtain⟨⟨e,j⟩,c⟩:=h;obtain⟨f,sn,g,k3,k4⟩:=Yw c
   grind
theorem x0K{l:List Oper}{i:Nat}{o:Oper}(h:I4 l i=some o):l=l.take i++o :: l.drop (i+1)/\i<l.length/\(l.take i).length=i:=by
 have h:=n0p h
 grind[hi,Nat.lt_or_ge,List.getElem?_eq_none,List.length_take,List.getElem?_eq_getElem,List.drop_eq_getElem_cons,List.take_append_drop]
section
variable {X:Cx} {Γ:p9} {T:List Ct}
end
theorem v0D{X:Cx}{st:St}{Q:Exit->Act->World->Prop}{Γ:p9}{T:List Ct}(u:B6 X.P Γ)(hT:∀c∈T,Ok X.P c){id i:Nat}{l:List Oper}(g:List Nat)(E:R5 X.n 0 [] l=true)(aJ:R6 st.e=true){V:Prop}{b:St}{aB:List C1}(h1:Bt Γ T l (l.take i) st []=some (V,b,aB))(hV:V){o:Oper}(hn:I4 l i=some o)(_:R6 b.e=true)
  (aF:(∀d,o.dst=some d->d<X.n)->∀G a,Sat X G->G.o=b.o->EnvR X.n G b.e a->∀K:Act->World->Prop,(∀st2 W st3 rs3 G' a',R6 st2.e=true->Bt Γ T l (l.drop (i+1)) st2 []=some (W,st3,rs3)->W->FX X (cut g st3) .normal Q->Sat X G'->G'.o=st2.o->EnvR X.n G' st2.e a'->K a' G'.w)->AP X.P l.toArray Q o K a G.w):VX X st (.region id l.toArray false) Q:=by
 intro G a S ho hE;obtain⟨el,aK,aC⟩:=x0K hn;refine wp_region_lit ?_;have f:=E;rw[el] at f;obtain⟨k1,sn,m,-,k4⟩:=Yw f;rw[aC,Nat.zero_add] at m;simp only[R5,ba] at m;obtain⟨⟨m,-⟩,k3⟩:=m;have aA:∀d,o.dst=some d->d<X.n:=fun d hd=>by
  rw[hd] at m;simp only[ba] at m;simpa using m.1
 obtain⟨h,e1,e2,e3⟩:=KV (He (K:=fun q _=>q=b) h1 hV rfl);have aH:h.length=i:=by grind
 have:=SJ u hT (ops:=l.toArray) (all:=l) rfl (Q:=Q) (rest:=o :: l.drop (i+1)) h 0 [] st G a (fun j hj=>by
   grind) (by grind) (fun j oj dj hj=>by omega) (fun t s ht x hx=>by grind[FI]) e2 S ho hE
  (fun G1 a1 S1 v z=>by
    rw[e3] at v z;refine Yv (aF aA G1 a1 S1 v z _ fun st2 W st3 rs3 G2 a2 aI g1 g2 g3 S2 Y H=>?_);obtain⟨k,f1,f2,f3⟩:=KV (He (K:=fun q _=>q=st3) g1 g2 rfl);have:=SJ u hT (ops:=l.toArray) (all:=l) rfl (Q:=Q) (rest:=[]) k (i+1) _ st2 G2 a2 (fun j hj=>by
      grind) (by rw[f1]; exact k3) (fun j oj dj hj q1 q2=>by
      grind) (fun t s ht x hx=>by grind[FI]) f2 S2 Y H
     (fun G3 a3 S3 r y=>by
       rw[f3] at r y;obtain⟨G4,S4,aD,F,aG⟩:=SN g S3 r y;have:=g3 G4 a3 S4 aD aG
       rwa [F] at this)
    grind)
 grind
theorem gdC{V:Prop}[Decidable V]{a:Type}{e:Option a}{r:a}{C:Prop}(H:gd V e=some r)(k:e=some r->C):V/\C:=⟨(Hf H).1,k (Hf H).2⟩
end Go.Proofs.Xv
end
section
namespace Go.Proofs.Xv
open Go Go.RowKit Go.Proofs.Sv Go.Proofs.Xl
def AllS{α:Type}(R:α->α->Prop):List α->List α->Prop
 | [],ys=>ys=[]
 | x :: r,ys=>∃y r',ys=y :: r'/\R x y/\AllS R r r'
def Df:(t:Ty)->c7 t->c7 t->Prop
 | .int _,_,_=>True
 | .bool,x,y=>y=x
 | .str,x,y=>y=x
 | .sl e,x,y=>AllS (Df e) x y
 | .pt e,x,y=>Df e x y
 | .pr a b,x,y=>Df a x.1 y.1/\Df b x.2 y.2
theorem AllS.refl{a:Type}{R:a->a->Prop}(h:∀x,R x x):∀xs:List a,AllS R xs xs
 | []=>rfl
 | x :: r=>⟨x,r,rfl,h x,AllS.refl h r⟩
theorem Lm:∀(t:Ty) (x:c7 t),Df t x x
 | .int _,_=>trivial
 | .bool,_=>rfl
 | .str,_=>rfl
 | .sl e,x=>AllS.refl (Lm e) x
 | .pt e,x=>Lm e x
 | .pr a b,x=>⟨Lm a x.1,Lm b x.2⟩
theorem AllS.len{a:Type}{R:a->a->Prop}:∀{xs ys:List a},AllS R xs ys->ys.length=xs.length
 | [],_,h=>by rw[show _=[] from h]
 | _ :: _,_,⟨_,_,e,_,h⟩=>by rw[e,List.length_cons,List.length_cons,AllS.len h]
theorem AllS.all{a:Type}{R:a->a->Prop}{p q:a->Prop}(b:∀x y,R x y->p x->q y):∀{xs ys:List a},AllS R xs ys->(∀x∈xs,p x)->∀y∈ys,q y
 | [],_,h,_,y,hy=>by rw[show _=[] from h] at hy; cases hy
 | x :: r,_,⟨y',r',e,h1,h2⟩,hp,y,hy=>by
   subst e;rcases List.mem_cons.1 hy with rfl | hy
   ·grind
   ·exact AllS.all b h2 (fun x c=>hp x (by grind)) y hy
def Sim(k:IntKind)(u u':Value):Prop:=u'=u∨∃x x',u=.int k x/\u'=.int k x'/\lo k<=x'/\x'<=hi k
def Tn(k:IntKind)(w w':World):Prop:=∀b o u,w.cell? ⟨b,o,none⟩=some u->∃u',w'.cell? ⟨b,o,none⟩=some u'/\Sim k u u'
def SimL(k:IntKind):List Value->List Value->Prop
 | [],vs=>vs=[]
 | u :: r,vs=>∃u' r',vs=u' :: r'/\Sim k u u'/\SimL k r r'
theorem SimL.refl{k:IntKind}:∀us:List Value,SimL k us us
 | []=>rfl
 | u :: r=>⟨u,r,rfl,.inl rfl,SimL.refl r⟩
theorem SimL.split{k:IntKind}{b:List Value}:∀{a cs:List Value},SimL k (a++b) cs->∃a' b',cs=a'++b'/\SimL k a a'/\SimL k b b'
 | [],cs,h=>⟨[],cs,rfl,rfl,h⟩
 | u :: r,cs,⟨u',r',e,h1,h2⟩=>by
   obtain⟨a',b',f,d,c⟩:=SimL.split h2;exact⟨u' :: a',b',by grind,⟨u',a',rfl,h1,d⟩,c⟩
theorem At.sim{k:IntKind}{w w':World}(a:Tn k w w'){b:Nat}:∀{ds:List Value} {o:Nat},At w b o ds->∃ds',At w' b o ds'/\SimL k ds ds'
 | [],o,_=>⟨[],fun i u h=>by grind,rfl⟩
 | d :: r,o,h=>by
   obtain⟨c,f,g⟩:=At.sim a (At.tail h);obtain⟨e,m,j⟩:=a b o d (h 0 d rfl);refine⟨e :: c,fun i u l=>?_,e,c,rfl,j,g⟩;cases i with
   | zero=>grind
   | succ i =>
     have:=f i u (by grind)
     rwa [show o+1+i=o+(i+1) by omega] at this
theorem AllR.sim{k:IntKind}{a:Type}{R R':List Value->a->Prop}{S:a->a->Prop}(b:∀c c' x,SimL k c c'->R c x->∃x',R' c' x'/\S x x'):∀{cs cs':List Value} {xs:List a},SimL k cs cs'->AllR R cs xs->∃xs',AllR R' cs' xs'/\AllS S xs xs'
 | cs,cs',[],hs,h=>by
   rw[show cs=[] from h] at hs;exact⟨[],hs,rfl⟩
 | _,cs',x :: r,hs,⟨c,d,e,h1,h2⟩=>by
   subst e;obtain⟨c',j,rfl,i,n⟩:=hs.split;obtain⟨x',l,o⟩:=b c c' x i h1;obtain⟨f,m,g⟩:=AllR.sim b n h2;exact⟨x' :: f,⟨c',j,rfl,l,m⟩,x',f,rfl,o,g⟩
theorem To{k:IntKind}{u:Value}{cs:List Value}(h:SimL k [u] cs)(e:∀x,u≠.int k x):cs=[u]:=by
 obtain⟨d,b,rfl,a,c⟩:=h;rw[show b=[] from c];rcases a with rfl | ⟨x,_,rfl,_⟩
 ·rfl
 grind
theorem RT.sim{k:IntKind}{K:Nat->Prop}{w w':World}(m:Tn k w w'):∀{t:Ty} {cs cs':List Value} {x:c7 t},SimL k cs cs'->RT K w t cs x->∃x',RT K w' t cs' x'/\Df t x x'
 | .int k0,cs,cs',x,f,h=>by
   obtain⟨rfl,i⟩:=h;obtain⟨Q,G,rfl,g,n⟩:=f;rw[show G=[] from n];rcases g with rfl | ⟨x0,x',e,rfl,q,h5⟩
   ·exact⟨x,⟨rfl,i⟩,trivial⟩
   ·cases e;exact⟨x',⟨rfl,q,h5⟩,trivial⟩
 | .bool,cs,cs',x,f,h=>by
   rw[show cs=_ from h] at f;exact⟨x,To f (fun _ h=>by cases h),rfl⟩
 | .str,cs,cs',x,f,h=>by
   rw[h.1] at f;exact⟨x,⟨To f (fun _ h=>by cases h),h.2⟩,rfl⟩
 | .sl e,cs,cs',xs,f,⟨p,cap,i,g,n,q⟩=>by
   rw[i] at f;have v:=To f (fun _ h=>by cases h);rcases q with rfl | ⟨b,o,ds,hp,hb,hat,hall⟩
   ·exact⟨[],⟨p,cap,v,g,n,.inl rfl⟩,rfl⟩
   ·obtain⟨l,u,s⟩:=At.sim m hat;obtain⟨y,r,j⟩:=AllR.sim (fun c z x f E=>RT.sim m (t:=e) f E) s hall;exact⟨y,⟨p,cap,by rw[v,j.len],by rw[j.len]; exact g,n,.inr ⟨b,o,l,hp,hb,u,r⟩⟩,j⟩
 | .pt e,cs,cs',x,f,⟨b,o,ds,i,hb,hat,g⟩=>by
   rw[i] at f;have v:=To f (fun _ h=>by cases h);obtain⟨l,u,s⟩:=At.sim m hat;obtain⟨x',r,j⟩:=RT.sim m (t:=e) s g;exact⟨x',⟨b,o,l,v,hb,u,r⟩,j⟩
 | .pr a b,cs,cs',x,f,⟨c,d,h,i,g⟩=>by
   subst h;obtain⟨z,H,rfl,n,q⟩:=f.split;obtain⟨F,u,s⟩:=RT.sim m (t:=a) n i;obtain⟨P,r,j⟩:=RT.sim m (t:=b) q g;exact⟨(F,P),⟨z,H,rfl,u,r⟩,s,j⟩
mutual
def HavA:AV->AV->Prop
 | .d fr t x,b=>bif D8 t then b=.d fr t x else ∃x',b=.d fr t x'/\Df t x x'/\(wf t x->wf t x')
 | .agg xs,b=>∃ys,b=.agg ys/\HavAs xs ys
 | .tup xs,b=>∃ys,b=.tup ys/\HavAs xs ys
 | .fn f xs,b=>∃ys,b=.fn f ys/\HavAs xs ys
 | a,b=>b=a
def HavAs:List AV->List AV->Prop
 | [],ys=>ys=[]
 | x :: r,ys=>∃y r',ys=y :: r'/\HavA x y/\HavAs r r'
end
def HavO:Ob->Ob->Prop
 | .box T cs,b=>∃ds,b=.box T ds/\HavAs cs ds
 | .arr T fr t xs v,b=>bif D8 t then b=.arr T fr t xs v else ∃xs',b=.arr T fr t xs' v/\AllS (Df t) xs xs'
 | a,b=>b=a
theorem C0t{fr:Bool}{t:Ty}{x:c7 t}{b:AV}:HavA (.d fr t x) b=(bif D8 t then b=.d fr t x else ∃x',b=.d fr t x'/\Df t x x'/\(wf t x->wf t x')):=by grind[HavA]
theorem Yx{T:TypeId}{fr:Bool}{t:Ty}{xs:List (c7 t)}{v:Nat}{b:Ob}:HavO (.arr T fr t xs v) b=(bif D8 t then b=.arr T fr t xs v else ∃xs',b=.arr T fr t xs' v/\AllS (Df t) xs xs'):=rfl
def Pn:List (Nat×Sl)->List (Nat×Sl)->Prop
 | [],ys=>ys=[]
 | (t,⟨p,a⟩) :: r,ys=>∃b r',ys=(t,⟨p,b⟩) :: r'/\HavA a b/\Pn r r'
def HavL:List (Nat×Ob)->List (Nat×Ob)->Prop
 | [],ys=>ys=[]
 | (i,a) :: r,ys=>∃b r',ys=(i,b) :: r'/\HavO a b/\HavL r r'
mutual
theorem HavA.refl:∀a,HavA a a
 | .d c t x=>by
   simp only[C0t,ce]
   grind[Lm]
 | .agg b=>⟨b,rfl,HavAs.refl b⟩
 | .tup b=>⟨b,rfl,HavAs.refl b⟩
 | .fn f b=>⟨b,rfl,HavAs.refl b⟩
 | .v _ | .ptr .. | .pel .. | .os .. | .ow .. | .gel .. | .og .. | .ob ..=>by grind[HavA]
theorem HavAs.refl:∀as,HavAs as as
 | []=>by grind[HavAs]
 | a :: r=>by unfold HavAs; exact⟨a,r,rfl,HavA.refl a,HavAs.refl r⟩
end
theorem HavO.refl:∀a,HavO a a
 | .box T b=>⟨b,rfl,HavAs.refl b⟩
 | .arr T c t d v=>by
   simp only[Yx,ce]
   grind[AllS.refl,Lm]
 | .grd ..=>rfl
def L0Z:Ob->Ob->Prop
 | .box T _,b=>∃ds,b=.box T ds
 | .arr T fr t _ v,b=>∃ys,b=.arr T fr t ys v
 | a,b=>b=a
theorem HavO.kind:∀{a b:Ob},HavO a b->L0Z a b
 | .box _ _,_,⟨ds,h,_⟩=>⟨ds,h⟩
 | .arr _ _ _ xs _,b,h=>by
   rw[Yx,ce] at h;split at h
   ·exact⟨xs,h⟩
   ·obtain⟨c,h,_⟩:=h; exact⟨c,h⟩
 | .grd ..,_,h=>h
theorem HavL.lk:∀{o o':List (Nat×Ob)},HavL o o'->∀i,(∀ob,a8 o i=some ob->∃ob',a8 o' i=some ob'/\HavO ob ob')/\(∀ob',a8 o' i=some ob'->∃ob,a8 o i=some ob/\HavO ob ob')
 | [],o',h,i=>by rw[show o'=[] from h]; exact⟨(fun _ h=>by cases h),fun _ h=>by cases h⟩
 | (j,a) :: r,_,⟨b,r',e,h1,h2⟩,i=>by
   subst e;rw[lK,lK];by_cases c:j=i
   ·grind
   ·rw[if_neg c,if_neg c];exact HavL.lk h2 i
def up(G:Gh)(w':World)(o':List (Nat×Ob)):Gh:=⟨G.ρ,G.γ,G.K,w',o',G.B,G.δ⟩
section
variable {k:IntKind} {G:Gh} {w':World} (hM:Tn k G.w w')
include hM
mutual
theorem AVR.sim:∀{a:AV} {u:Value},AVR G a u->∃b,HavA a b/\∀o',HavL G.o o'->AVR (up G w' o') b u
 | .v x,u,h=>⟨.v x,rfl,fun _ _=>h⟩
 | .d fr t x,u,h=>by
   simp only[C0t,ce];split
   ·rename_i n;exact⟨.d fr t x,rfl,fun _ _=>RT.free n h⟩
   ·obtain⟨m,c,g⟩:=RT.sim (K:=rg G fr) hM (SimL.refl [u]) h;exact⟨.d fr t m,⟨m,rfl,g,fun _=>RT.wf c⟩,fun _ _=>c⟩
 | .agg xs,u,⟨us,e,h⟩=>by
   obtain⟨j,c,g⟩:=AVRs.sim h;exact⟨.agg j,⟨j,rfl,c⟩,fun o' i=>⟨us,e,g o' i⟩⟩
 | .tup xs,u,⟨us,e,h⟩=>by
   obtain⟨j,c,g⟩:=AVRs.sim h;exact⟨.tup j,⟨j,rfl,c⟩,fun o' i=>⟨us,e,g o' i⟩⟩
 | .fn f xs,u,⟨us,e,h⟩=>by
   obtain⟨j,c,g⟩:=AVRs.sim h;exact⟨.fn f j,⟨j,rfl,c⟩,fun o' i=>⟨us,e,g o' i⟩⟩
 | .ptr id off,u,⟨⟨T,cs,c⟩,g⟩=>⟨.ptr id off,rfl,fun o' i=>by
    obtain⟨ob,k,l⟩:=(i.lk id).1 _ c;obtain⟨ds,rfl⟩:=l.kind;exact⟨⟨T,ds,k⟩,g⟩⟩
 | .pel id ver kk s off,u,⟨h0,T,fr,t,xs,ver',c,g,h3⟩=>⟨.pel id ver kk s off,rfl,fun o' i=>by
    obtain⟨ob,k,l⟩:=(i.lk id).1 _ c;obtain⟨j,rfl⟩:=l.kind;exact⟨h0,T,fr,t,j,ver',k,g,h3⟩⟩
 | .os id ver,u,⟨h0,T,fr,t,xs,ver',c,g,h3⟩=>⟨.os id ver,rfl,fun o' i=>by
    obtain⟨ob,k,l⟩:=(i.lk id).1 _ c;obtain⟨j,rfl⟩:=l.kind;exact⟨h0,T,fr,t,j,ver',k,g,h3⟩⟩
 | .gel id kk,u,⟨⟨T,Te,fr,t,xs,hole,c⟩,g⟩=>⟨.gel id kk,rfl,fun o' i=>by
    obtain⟨ob,k,l⟩:=(i.lk id).1 _ c;have:=l.kind;rw[show ob=_ from this] at k;exact⟨⟨T,Te,fr,t,xs,hole,k⟩,g⟩⟩
 | .og id,u,⟨h0,⟨T,Te,fr,t,xs,hole,c⟩,g⟩=>⟨.og id,rfl,fun o' i=>by
    obtain⟨ob,k,l⟩:=(i.lk id).1 _ c;have:=l.kind;rw[show ob=_ from this] at k;exact⟨h0,⟨T,Te,fr,t,xs,hole,k⟩,g⟩⟩
 | .ow ..,_,h=>h.elim
 | .ob ..,_,h=>h.elim
theorem AVRs.sim:∀{as':List AV} {us:List Value},AVRs G as' us->∃bs,HavAs as' bs/\∀o',HavL G.o o'->AVRs (up G w' o') bs us
 | [],us,h=>⟨[],by grind[HavAs],fun _ _=>h⟩
 | a :: r,us,⟨u,us',e,h1,h2⟩=>by
   obtain⟨b,i,d⟩:=AVR.sim h1;obtain⟨bs,g,f⟩:=AVRs.sim h2;have:=hM;exact⟨b :: bs,by unfold HavAs; grind,fun o' c=>⟨u,us',e,d o' c,f o' c⟩⟩
end
theorem ObR.sim{b:Nat}(l:WE (some b) G.w w'){id:Nat}:∀{ob:Ob},ObR G id ob->J3 (some ob)=false->G.γ id≠some b->∃ob',HavO ob ob'/\∀o',HavL G.o o'->ObR (up G w' o') id ob'
 | .box T cs,⟨b',us,h1,h2,h3,h4⟩,_,hb=>by
   obtain⟨ds,j,f⟩:=AVRs.sim hM h4;exact⟨.box T ds,⟨ds,rfl,j⟩,fun o' q=>⟨b',us,h1,h2,h3.we l (fun i e h=>by grind),f o' q⟩⟩
 | .arr T fr t xs v,⟨cs,h1,h2,h3⟩,_,hb=>by
   have a:=h1.we l (fun i e h=>by grind);simp only[Yx,ce];split
   ·rename_i n;exact⟨.arr T fr t xs v,rfl,fun o' _=>⟨cs,a,h2.mapR (fun c x g=>RT.free n g),h3⟩⟩
   ·obtain⟨d,j,f⟩:=AllR.sim (k:=k) (R':=RT (rg G fr) w' t) (S:=Df t) (fun c r x m g=>RT.sim hM m g) (SimL.refl cs) h2;exact⟨.arr T fr t d v,⟨d,rfl,f⟩,fun o' _=>⟨cs,by rw[f.len]; exact a,j,h3⟩⟩
 | .grd ..,_,h,_=>by cases h
theorem v0l{b:Nat}(m:WE (some b) G.w w')(c:∀id o,a8 G.o id=some o->ObR G id o)(n:∀id,J3 (a8 G.o id)=false)(f:∀id o,a8 G.o id=some o->G.γ id≠some b) :
  ∀l:List (Nat×Ob),∃l',HavL l l'/\∀i ob,a8 l i=some ob->a8 G.o i=some ob->∃ob',a8 l' i=some ob'/\∀o',HavL G.o o'->ObR (up G w' o') i ob'
 | []=>⟨[],rfl,fun _ _ h=>by cases h⟩
 | (j,a) :: r=>by
   obtain⟨d,e,u⟩:=v0l m c n f r;by_cases k:a8 G.o j=some a
   ·obtain⟨g,q,t⟩:=ObR.sim hM m (c j a k) (by grind) (f j a k);refine⟨(j,g) :: d,⟨g,d,rfl,q,e⟩,fun i ob hi s=>?_⟩;rw[lK] at hi ⊢
    grind
   ·refine⟨(j,a) :: d,⟨a,d,rfl,HavO.refl a,e⟩,fun i ob hi s=>?_⟩;rw[lK] at hi ⊢
    grind
end
theorem Sat.hav{X:Cx}{G:Gh}(S:Sat X G){k:IntKind}{w':World}(hM:Tn k G.w w'){b:Nat}(hw:Wr b G.w w')(hK:G.K b)(hb:X.w0.heap.size<=b)(hu:UF w' b)(hg:∀id,J3 (a8 G.o id)=false){e:List (Nat×Sl)}{a:Act}(hE:EnvR X.n G e a) :
  ∃o' e',HavL G.o o'/\Pn e e'/\Sat X (up G w' o')/\EnvR X.n (up G w' o') e' a:=by
 have j:=WE.of_wr hw;have aH:∀id o,a8 G.o id=some o->G.γ id≠some b:=fun id o E h=>S.imm id o b E h hK;obtain⟨o',h1,h2⟩:=v0l hM j S.obs hg aH G.o;have m:=h1.lk;have aL:∀id,J3 (a8 o' id)=false:=fun id=>by
  cases h:a8 o' id with
  | none=>rfl
  | some u =>
    obtain⟨z,d,q⟩:=(m id).2 u h;have:=hg id;rw[d] at this;cases z with
    | box T cs=>obtain⟨ds,rfl⟩:=q.kind; rfl
    | arr T fr t xs v=>obtain⟨ds,rfl⟩:=q.kind; rfl
    | grd=>cases this
 have hS:Sat X (up G w' o'):=by
  refine⟨S.base,j.os.trans S.os,j.tape.trans S.tape,j.output.trans S.output,Nat.le_trans S.size j.size,fun i hi aF=>?_,fun id u V=>?_,fun id aC u Q c E aK Y aJ=>?_,fun id u c E Y=>?_,fun id u c E Y=>?_,fun i hi=>?_,S.kfrom,fun id c _ aA=>?_,fun i v h=>?_⟩
  ·rw[<- S.block i hi aF];exact hw.block i (by omega)
  ·obtain⟨z,d,q⟩:=(m id).2 u V;obtain⟨Q,g3,g4⟩:=h2 id z d d;rw[show a8 o' id=some u from V] at g3
   grind
  ·obtain⟨x,d,_⟩:=(m id).2 u E;obtain⟨x',q,_⟩:=(m aC).2 Q aK;exact S.inj id aC x x' c d q Y aJ
  ·obtain⟨x,d,_⟩:=(m id).2 u E;exact S.imm id x c d Y
  ·obtain⟨x,d,_⟩:=(m id).2 u E;exact S.own id x c d Y
  ·by_cases e:i=b
   ·subst e;exact hu.g
   ·exact(S.klt i hi).same j.size (hw.block i e)
  ·rw[show a8 (up G w' o').o id=a8 o' id from rfl,aL id] at aA;cases aA
  ·obtain⟨bb,d,q⟩:=AVR.sim hM (S.pin i v h);rw[show bb=_ from d] at q
   grind
 have aD:∀e:List (Nat×Sl),(∀t s,a8 e t=some s->(PathP s.p a->AVR G s.a (a.tmps.getD t undef))/\(¬PathP s.p a->a.tmps.getD t undef=undef))->∃e',Pn e e'/\∀t f,a8 e' t=some f->(PathP f.p a->AVR (up G w' o') f.a (a.tmps.getD t undef))/\(¬PathP f.p a->a.tmps.getD t undef=undef):=by
  intro e he
  -- the slots that are seen turn, the hidden ones stay
  have aG:∀l:List (Nat×Sl),∃y,Pn l y/\∀t s,a8 l t=some s->a8 e t=some s->∃f,a8 y t=some f/\(PathP f.p a->AVR (up G w' o') f.a (a.tmps.getD t undef))/\(¬PathP f.p a->a.tmps.getD t undef=undef):=by
   intro l
   induction l with
   | nil=>exact⟨[],rfl,fun _ _ h=>by cases h⟩
   | cons x r ih =>
     obtain⟨t0,p0,P⟩:=x;obtain⟨W,F,h4⟩:=ih;by_cases hv:a8 e t0=some ⟨p0,P⟩/\PathP p0 a
     ·obtain⟨q1,q2⟩:=he t0 _ hv.1;obtain⟨a1,d,q⟩:=AVR.sim hM (q1 hv.2);refine⟨(t0,⟨p0,a1⟩) :: W,⟨a1,W,rfl,d,F⟩,fun t s H aI=>?_⟩;rw[lK] at H ⊢
      grind
     ·refine⟨(t0,⟨p0,P⟩) :: W,⟨P,W,rfl,HavA.refl P,F⟩,fun t s H aI=>?_⟩;rw[lK] at H ⊢
      grind
  obtain⟨e',F,h4⟩:=aG e;refine⟨e',F,fun t f aB=>?_⟩;have:∀{l y:List (Nat×Sl)},Pn l y->∀{f},a8 y t=some f->∃s,a8 l t=some s:=by
   intro l
   induction l with
   | nil=>intro y hl f h; rw[show y=[] from hl] at h; cases h
   | cons x r ih =>
     obtain⟨t0,p0,P⟩:=x;rintro y ⟨b1,W,rfl,d,q⟩ f h;rw[lK] at h ⊢
     grind
  obtain⟨s,H⟩:=this F aB;obtain⟨s2,d,q⟩:=h4 t s H H;rw[aB] at d;cases d;exact q
 obtain⟨e',F,h4⟩:=aD e hE.val;exact⟨o',e',h1,F,hS,hE.defers,hE.size,h4⟩
def grd(j:Nat)(b:Bool)(o:Oper):Oper:={ o with guard:=some (j,b) }
def NP(P:Program)(f:FuncId)(T1:TypeId)(t1:Ty)(T2:TypeId)(t2:Ty)(ps:List o6)(F:c7 t1->c7 t2->A4 ps->Option (c7 t1×c7 t2)):Prop :=
 BX P f=true/\D8 t1=true/\D8 t2=true/\∀x1 x2 xs z,F x1 x2 xs=some z->∀(w:World) (vs:List Value) (b1 b2:Nat) (cs1 cs2:List Value) (K:Nat->Prop),((∀k,K k->k<w.heap.size)/\WK P w fun k=>k=b1∨k=b2)->b1≠b2->¬K b1->¬K b2 ->
  Blk w b1 cs1 T1->RT K w t1 cs1 x1->Blk w b2 cs2 T2->RT K w t2 cs2 x2->ArgsR K w none ps xs vs ->
  Calls P f (.pointer (some ⟨b1,0,none⟩) :: .pointer (some ⟨b2,0,none⟩) :: vs).toArray w fun en w'=>en=.returned (.tuple #[])/\∃w1 ds1 ds2,WE (some b2) w w1/\Blk w1 b2 ds2 T2/\RT K w1 t2 ds2 z.2/\WE (some b1) w1 w'/\Blk w' b1 ds1 T1/\RT K w' t1 ds1 z.1
def Tp(st:St)(f:FuncId)(T1:TypeId)(t1:Ty)(T2:TypeId)(t2:Ty)(ps:List o6):Op->Option ((Nat×Nat)×c7 t1×c7 t2×A4 ps)
 | .call ⟨.value x,xs,_⟩=>match rd st [] x,N6 st [] xs.toList with
   | some (.fn g []),some (.ptr i1 0 :: .ptr i2 0 :: as')=>bif Nat.beq g f&&!Nat.beq i1 i2 then(match M9 st.o [.io T1 t1] [.ptr i1 0],M9 st.o [.io T2 t2] [.ptr i2 0],M9 st.o ps as' with
     | some (x1,_,_),some (x2,_,_),some (y,[],none)=>some ((i1,i2),x1.1,x2.1,y)
     | _,_,_=>none) else none
   | _,_=>none
 | _=>none
def Tq(st:St)(d:Nat)(T1:TypeId)(t1:Ty)(T2:TypeId)(t2:Ty)(i1 i2:Nat)(z:c7 t1×c7 t2):St:=⟨(d,⟨[],.tup []⟩) :: st.e,(i1,.box T1 (A7 false t1 z.1)) :: (i2,.box T2 (A7 false t2 z.2)) :: st.o⟩
theorem Sat.putB{X:Cx}{G:Gh}(S:Sat X G){id b:Nat}{T:TypeId}{t:Ty}{d:List AV}{w':World}{ds:List Value}{z:c7 t}(s:D8 t=true)(j:a8 G.o id=some (.box T d))(e:G.γ id=some b)(f:WE (some b) G.w w')(v:Blk w' b ds T){K:Nat->Prop}(m:RT K w' t ds z) :
  Sat X (G.put id (.box T (A7 false t z)) (G.ρ id) (some b) w')/\GLe G (G.put id (.box T (A7 false t z)) (G.ρ id) (some b) w'):=by
 have c:=S.obs id _ j;obtain⟨i,E,l,H,x,F⟩:=c;rw[e] at l;cases l;exact S.put (id:=id) (ob:=.box T (A7 false t z)) (r:=G.ρ id) (g:=some b) (w':=w') (go:=some b) ⟨(fun T P h=>⟨rfl,_,_,rfl⟩),(fun T n y q u h=>by grind),by rw[j]; rfl⟩
  (fun i a=>by grind) f (fun i a=>.inl a) (fun k=>⟨b,ds,by simp[Gh.put],by grind[Gh.put],v,Bm (RT.free s m)⟩)
theorem r0L{o:List (Nat×Ob)}{T:TypeId}{t:Ty}{i:Nat}{x:A4 [.io T t]}{l:List Nat}{io:Option Nat}(h:M9 o [.io T t] [.ptr i 0]=some (x,l,io)):l=[]/\io=some i/\∃cs,a8 o i=some (.box T cs):=by
 cases hA:CY o (.io T t) (.ptr i 0) with
 | none=>grind[M9]
 | some r =>
   obtain⟨y,d,b⟩:=r;simp only[M9,hA] at h;have a:(match a8 o i with
    | some (.box c cs)=>bif Nat.beq T c then(match H7 o 24 t cs with
      | some (x,[],_)=>some (x,([]:List Nat),some i)
      | _=>none) else none
    | _=>none)=some (y,d,b):=hA
   split at a
   ·rename_i c cs e;rw[ce] at a
    grind[nb,oi,pj]
   grind
theorem C0h{X:Cx}{G:Gh}{a:Act}{st:St}{ops:Array Oper}{Q:Exit->Act->World->Prop}{K:Act->World->Prop}{f:FuncId}{T1:TypeId}{t1:Ty}{v:TypeId}{t2:Ty}{ps:List o6}{F:c7 t1->c7 t2->A4 ps->Option (c7 t1×c7 t2)}(m:NP X.P f T1 t1 v t2 ps F)(S:Sat X G)(ho:G.o=st.o)(hE:EnvR X.n G st.e a)
  {d:Nat} {op:Op} {ty:TypeId} {pos:String} {after:Array Edge} {i1 i2:Nat} {x1:c7 t1} {x2:c7 t2} {y:A4 ps} (c:Tp st f T1 t1 v t2 ps op=some ((i1,i2),x1,x2,y)) (hd:d<X.n) (hs:∀t s,a8 st.e t=some s->∀x∈s.p,x.1≠d)
  {z:c7 t1×c7 t2} (hz:F x1 x2 y=some z) (hK:∀a' G',Sat X G'->G'.o=(Tq st d T1 t1 v t2 i1 i2 z).o->EnvR X.n G' (Tq st d T1 t1 v t2 i1 i2 z).e a'->K a' G'.w):AP X.P ops Q ⟨some d,op,ty,pos,after,none⟩ K a G.w:=by
 obtain⟨V,f1,f2,u⟩:=m;unfold Tp at c;split at c
 ·rename_i x0 xs Ts;split at c
  ·rename_i g l j bE h1 h2;rw[ce] at c;split at c
   ·rename_i W;rw[ba,Bool.not_eq_true'] at W;have hg:g=f:=nb W.1;have r:l≠j:=fun e=>by
     simp_all
    subst hg;split at c
    ·rename_i y1 l1 bD y2 l2 bH y3 a1 a2 a3;simp only[oi,pj] at c;obtain⟨⟨rfl,rfl⟩,rfl,rfl,rfl⟩:=c;obtain⟨cs,hv,hc⟩:=D9 hE (p:=[]) (fun _ h=>by cases h) h1;have hA:=Ca hE (p:=[]) (fun _ h=>by cases h) h2;obtain⟨u1,bI,aT,aU,aF⟩:=hA;obtain⟨u2,Y,aJ,aO,aX⟩:=aF;rw[<- ho] at a1 a2 a3;have i:∀id∈([]:List Nat),∃ob,a8 G.o id=some ob:=fun _ h=>by cases h
     obtain⟨rfl,rfl,k1,o1⟩:=r0L a1;obtain⟨rfl,rfl,k2,o2⟩:=r0L a2;obtain⟨_,bA,r1,q1⟩:=KP S i a1 (fun _ h=>by cases h) (fun _ _ h=>by cases h) (us:=[u1]) ⟨u1,[],rfl,aU,rfl⟩;obtain⟨_,bB,r2,q2⟩:=KP S i a2 (fun _ h=>by cases h) (fun _ _ h=>by cases h) (us:=[u2]) ⟨u2,[],rfl,aO,rfl⟩;obtain⟨_,aP,r3,q3⟩:=KP S i a3 (fun _ h=>by cases h) (fun _ h=>by cases h) aX;have aD:aP=none:=by
      rcases q3 with ⟨_,e⟩ | ⟨_,_,_,_,e,_⟩ | ⟨_,_,_,_,_,_,e,_⟩
      ·exact e
      ·cases e
      ·cases e
     subst aD;obtain⟨H,aG,v1,e1,aZ,aM,B1,R1,-⟩:=r1;obtain⟨E,aH,v2,e2,bG,aS,B2,R2,-⟩:=r2;have q:G.γ l=some H:=by
      rcases q1 with ⟨e,_⟩ | ⟨id,b,T,cs',e,eb,h3,h4⟩ | ⟨_,_,_,_,_,_,_,_,_,e⟩
      ·cases e
      ·grind
      ·cases e
     have aB:G.γ j=some E:=by
      rcases q2 with ⟨e,_⟩ | ⟨id,b,T,cs',e,eb,h3,h4⟩ | ⟨_,_,_,_,_,_,_,_,_,e⟩
      ·cases e
      ·grind
      ·cases e
     have hb:H≠E:=fun e=>r (S.inj l j _ _ H o1 o2 q (by grind));have aK:∀k,Av G [] k->k<G.w.heap.size:=fun k m=>by
      rcases m with m | ⟨_,m,_⟩
      ·exact(S.klt k m).lt
      grind
     have hC:=u _ _ _ _ hz G.w Y H E aG aH (Av G []) ⟨aK,S.wk.sub fun k m=>by
      rcases m with rfl | rfl
      ·exact S.own l _ _ o1 q
      ·exact S.own j _ _ o2 aB⟩ hb aM aS B1 R1 B2 R2 r3
     haveI:C7 X.P g:=⟨V⟩
     refine v0i (f:=g) (fun aY pos after gg=>?_) (Calls.mono hC ?_)
     ·have e3:xs.map a.eval=(xs.toList.map a.eval).toArray:=by rw[<- Array.toList_map]
      have aQ:cs=[]:=hc;have eu:xs.toList.map a.eval=.pointer (some ⟨H,0,none⟩) :: .pointer (some ⟨E,0,none⟩) :: Y:=by
       rw[aT,aJ];simp only[List.cons.injEq] at e1 e2;rw[e1.1,e2.1]
      simp only[execOp,resolve,e3,eu,hv,aQ];simp[Deferred.ofValue,invoke,Sb]
     ·rintro en w' ⟨rfl,w1,bF,bC,aW,aV,aL,aC,aI,aR⟩;obtain⟨S1,L1⟩:=S.putB f2 o2 aB aW aV aL;have aN:a8 (G.put j (.box v (A7 false t2 z.2)) (G.ρ j) (some E) w1).o l=some (.box T1 k1):=by
       show a8 ((j,_) :: G.o) l=_;rw[lK,if_neg (Ne.symm r)];exact o1
      have aA:(G.put j (.box v (A7 false t2 z.2)) (G.ρ j) (some E) w1).γ l=some H:=by
       simp only[Gh.put,if_neg r];exact q
      obtain⟨S2,L2⟩:=S1.putB f1 aN aA aC aI aR;refine⟨_,rfl,hK _ _ S2 (by show(l,_) :: (j,_) :: G.o=_; rw[ho]; rfl) ?_⟩;exact EnvR.put (p:=[]) ((hE.mono L1).mono L2) hd (fun _ h=>by cases h) hs ⟨fun _=>⟨[],rfl,rfl⟩,fun h=>(h (fun _ h=>by cases h)).elim⟩
    grind
   grind
  grind
 grind
def O0i(n:Nat)(Γ:p9)(T:List Ct)(l:List Oper)(i:Nat)(f:FuncId)(T1:TypeId)(t1:Ty)(T2:TypeId)(t2:Ty)(ps:List o6)(st:St):Option (Prop×St×Nat×(Nat×Nat)×c7 t1×c7 t2×A4 ps) :=
 bif R5 n 0 [] l&&R6 st.e then(match Bt Γ T l (l.take i) st [] with
  | some (V,st1,_)=>(match I4 l i with
    | some ⟨some d,op,_,_,_,none⟩=>bif R6 st1.e then(match Tp st1 f T1 t1 T2 t2 ps op with
      | some (ii,x1,x2,xs)=>some (V,st1,d,ii,x1,x2,xs)
      | none=>none) else none
    | _=>none)
  | none=>none) else none
def O0h(Γ:p9)(T:List Ct)(l:List Oper)(i:Nat)(keep:List Nat)(st2:St):Option (Prop×St):=bif R6 st2.e then(match Bt Γ T l (l.drop (i+1)) st2 [] with
    | some (W,st3,_)=>some (W,cut keep st3)
    | none=>none) else none
def ev2(n:Nat)(Γ:p9)(T:List Ct)(l:List Oper)(i:Nat)(keep:List Nat)(f:FuncId)(T1:TypeId)(t1:Ty)(T2:TypeId)(t2:Ty)(ps:List o6)(st:St)(z:c7 t1×c7 t2):Option (Prop×(c7 t1×c7 t2×A4 ps)×Prop×St):=match O0i n Γ T l i f T1 t1 T2 t2 ps st with
 | some (V,st1,d,ii,x1,x2,xs)=>(match O0h Γ T l i keep (Tq st1 d T1 t1 T2 t2 ii.1 ii.2 z) with
   | some (W,st3)=>some (V,(x1,x2,xs),W,st3)
   | none=>none)
 | none=>none
theorem zT{P:Program}{n:Nat}{y:World×(Nat->Prop)×(Nat->Prop)×(Nat->Value->Prop)×Nat}{st:St}{Q:Exit->Act->World->Prop}{Γ:p9}{T:List Ct}{ρ:Type}{r:ρ}(o:B6 P Γ)(hT:∀c∈T,Ok P c){f:FuncId}{E:TypeId}{t1:Ty}{Y:TypeId}{t2:Ty}{ps:List o6}{F:c7 t1->c7 t2->A4 ps->Option (c7 t1×c7 t2)}(hk:NP P f E t1 Y t2 ps F)
  (i:Nat) (e:List Nat) (S:c7 t1×c7 t2->St) (W:c7 t1×c7 t2->Prop) {x1:c7 t1} {x2:c7 t2} {xs:A4 ps} [Inhabited (c7 t1×c7 t2)] {V:Prop} [Decidable V] {g:c7 t1×c7 t2->Option ρ} {id:Nat} {l:List Oper} (H:gd (V/\(F x1 x2 xs).isSome=true/\True) (lt (vl (F x1 x2 xs)) g)=some r)
  (h:∀z,ev2 n Γ T l i e f E t1 Y t2 ps st z=some (V,(x1,x2,xs),W z,S z)) (hc:∀z,g z=some r->W z/\FX (cx P n y) (S z) .normal Q):VX (cx P n y) st (.region id l.toArray false) Q:=by
 obtain⟨⟨hV,hs,-⟩,H⟩:=Hf H;obtain⟨z,hz⟩:=Option.isSome_iff_exists.1 hs;rw[hz] at H;have H:g z=some r:=H;have k:=h z;obtain⟨c1,c2⟩:=hc z H;unfold ev2 at k;split at k
 ·rename_i V' aA d ii y1 y2 ys b;split at k
  ·rename_i W' aC h2;simp only[oi,pj] at k;obtain⟨rfl,⟨rfl,rfl,rfl⟩,eW,eS⟩:=k;unfold O0i at b;rw[ce] at b;split at b
   ·rename_i m;simp only[ba] at m;split at b
    ·rename_i V1 w aB g1;split at b
     ·rename_i d' op ty aG q hn;rw[ce] at b;split at b
      ·rename_i v;split at b
       ·rename_i j z1 z2 zs ha;simp only[oi,pj] at b;obtain⟨rfl,rfl,rfl,rfl,rfl,rfl,rfl⟩:=b;refine v0D (X:=cx P n y) o hT e m.1 m.2 g1 hV hn v fun u G a S' ho hE K hK=>?_;refine C0h (i1:=j.1) (i2:=j.2) hk S' ho hE ha (u _ rfl) (fun t s ht x hx=>by grind[FI]) hz fun a' G' aH aF aD=>?_;unfold O0h at h2
        grind
       grind
      grind
     grind
    grind
   grind
  grind
 grind
def Ln:List o6->Bool
 | []=>true
 | .dat t :: r=>D8 t&&Ln r
 | .agg t :: r=>D8 t&&Ln r
 | _=>false
def Tr(K:Nat->Prop)(w:World)(b1 b2:Nat)(o:List (Nat×Ob)):Gh:=⟨fun i=>.pointer (some ⟨bif Nat.beq i 500000 then b1 else b2,0,none⟩),fun i=>some (bif Nat.beq i 500000 then b1 else b2),K,w,o,w.heap.size,fun _ _=>False⟩
def B0U{t1 t2:Ty}(T1 T2:TypeId)(ps:List o6)(x1:c7 t1)(x2:c7 t2)(xs:A4 ps):St:=⟨(0,⟨[],.ptr 500000 0⟩) :: (1,⟨[],.ptr 500001 0⟩) :: N8 2 ps xs,[(500000,.box T1 (A7 false t1 x1)),(500001,.box T2 (A7 false t2 x2))]⟩
def QU(st:St)(T1:TypeId)(t1:Ty)(T2:TypeId)(t2:Ty)(z:c7 t1×c7 t2):Prop:=match a8 st.o 500000,a8 st.o 500001 with
 | some (.box U1 cs1),some (.box U2 cs2)=>bif Nat.beq U1 T1&&Nat.beq U2 T2 then(match H7 st.o 24 t1 cs1,H7 st.o 24 t2 cs2 with
   | some (y1,_,_),some (y2,_,_)=>y1=z.1/\y2=z.2
   | _,_=>False) else False
 | _,_=>False
theorem Yy{G:Gh}{K:Nat->Prop}{w:World}:∀{ps:List o6} {i:Nat} {x:A4 ps} {vs:List Value},Ln ps=true->ArgsR K w none ps x vs->∀t s,a8 (N8 i ps x) t=some s->i<=t/\s.p=[]/\∃u,vs[t-i]?=some u/\AVR G s.a u
 | [],i,x,vs,_,h,t,s,ht=>by cases ht
 | .dat ty :: r,i,x,vs,hf,⟨v,us,e,h1,h⟩,t,s,ht=>by
   subst e;unfold Ln at hf;rw[ba] at hf;unfold N8 at ht;rw[lK] at ht;split at ht
   ·rename_i e; subst e; cases ht; exact⟨Nat.le_refl _,rfl,v,by simp,RT.free hf.1 h1⟩
   ·obtain⟨d,c,u,f,b⟩:=Yy (ps:=r) (i:=i+1) hf.2 h t s ht;exact⟨by omega,c,u,by grind,b⟩
 | .agg ty :: r,i,x,vs,hf,⟨v,us,e,h1,h⟩,t,s,ht=>by
   subst e;unfold Ln at hf;rw[ba] at hf;unfold N8 at ht;rw[lK] at ht;split at ht
   ·rename_i e; subst e; cases ht; exact⟨Nat.le_refl _,rfl,_,by simp,v,rfl,Bm (RT.free hf.1 h1)⟩
   ·obtain⟨d,c,u,f,b⟩:=Yy (ps:=r) (i:=i+1) hf.2 h t s ht;exact⟨by omega,c,u,by grind,b⟩
theorem Po{a b:Ob}{i:Nat}{o:Ob}(h:a8 [(500000,a),(500001,b)] i=some o):(i=500000/\o=a)∨(i=500001/\o=b):=by
 rw[lK] at h;split at h
 ·grind
 ·rw[lK] at h;split at h
  ·grind
  ·cases h
def Tt(b1 b2:Nat):Nat->Value->Prop:=fun i v=>(i=0/\v=.pointer (some ⟨b1,0,none⟩))∨(i=1/\v=.pointer (some ⟨b2,0,none⟩))
theorem s0k{P:Program}{n:Nat}{K:Nat->Prop}{w:World}{c a:Nat}{r s:TypeId}{t1 t2:Ty}{x1:c7 t1}{x2:c7 t2}{d f:List Value}(x:D8 t1=true)(G:D8 t2=true)(g:(∀k,K k->k<w.heap.size)/\WK P w fun k=>k=c∨k=a)(z:c≠a)(T:¬K c)(F:¬K a)(Q:Blk w c d r)(V:RT K w t1 d x1)(t:Blk w a f s)(E:RT K w t2 f x2) :
  Sat (cx P n ⟨w,fun k=>k=c∨k=a,K,Tt c a,w.heap.size⟩) (Tr K w c a [(500000,.box r (A7 false t1 x1)),(500001,.box s (A7 false t2 x2))]):=by
 have W:=g.2;have l:=g.1;have l:∀k,K k->UFg w w.heap.size k:=fun k m=>⟨l k m,fun h=>absurd (l k m) (Nat.not_lt.2 h)⟩;refine⟨⟨rfl,Nat.le_refl _,W⟩,rfl,rfl,rfl,Nat.le_refl _,fun _ _ _=>rfl,fun i o h=>?_,fun i j o X b h y e q=>?_,fun i o b h e=>?_,fun i o b h e=>?_,l,fun k m=>.inl m,fun _ _ h=>h.elim,fun i v e=>by
  rcases e with ⟨rfl,rfl⟩ | ⟨rfl,rfl⟩
  ·exact⟨⟨_,_,rfl⟩,c,rfl,rfl⟩
  ·exact⟨⟨_,_,rfl⟩,a,rfl,rfl⟩⟩
 ·rcases Po h with ⟨rfl,rfl⟩ | ⟨rfl,rfl⟩
  ·exact⟨c,d,rfl,rfl,Q,Bm (RT.free x V)⟩
  ·exact⟨a,f,rfl,rfl,t,Bm (RT.free G E)⟩
 ·rcases Po h with ⟨rfl,rfl⟩ | ⟨rfl,rfl⟩ <;> rcases Po y with ⟨rfl,rfl⟩ | ⟨rfl,rfl⟩
  ·rfl
  ·have H:some c=some b:=e;have u:some a=some b:=q
   grind
  ·have H:some a=some b:=e;have u:some c=some b:=q
   grind
  ·rfl
 ·rcases Po h with ⟨rfl,rfl⟩ | ⟨rfl,rfl⟩
  ·have e:some c=some b:=e;cases e; exact T
  ·have e:some a=some b:=e;cases e; exact F
 ·rcases Po h with ⟨rfl,rfl⟩ | ⟨rfl,rfl⟩
  ·have e:some c=some b:=e;cases e; exact .inr (.inl rfl)
  ·have e:some a=some b:=e;cases e; exact .inr (.inr rfl)
theorem I0I{P:Program}{f:FuncId}{H:TypeId}{t1:Ty}{x:TypeId}{t2:Ty}{ps:List o6}{F:c7 t1->c7 t2->A4 ps->Option (c7 t1×c7 t2)}{q:Func}{r:Code}{n:Nat}(hf:P.funcs[f]?=some q)(hn:q.ntmps=n)(hb:q.body=some r)(hr:q.results=#[])(he:BX P f=true)(j:(Nat.ble (ps.length+2) n&&Ln ps&&D8 t1&&D8 t2)=true)
  (h:∀y x1 x2 xs z,F x1 x2 xs=some z->∀Q,(∀st,QU st H t1 x t2 z->FX (cx P n y) st .normal Q/\FX (cx P n y) st .ret Q)->VX (cx P n y) (B0U H x ps x1 x2 xs) r Q):NP P f H t1 x t2 ps F:=by
 simp only[ba] at j;obtain⟨⟨⟨j,aC⟩,f1⟩,f2⟩:=j;have j:=Nat.le_of_ble_eq_true j;refine⟨he,f1,f2,fun x1 x2 xs z hz w m b c g aM K hK Y aF aI B1 R1 B2 R2 hA=>?_⟩;have aJ:=hA.len;refine calls_of_wp hf hb ?_;have hS:=s0k (P:=P) (n:=n) f1 f2 hK Y aF aI B1 R1 B2 R2;have:=h ⟨w,fun k=>k=b∨k=c,K,Tt b c,w.heap.size⟩ x1 x2 xs z hz (bodyPost P q fun en w'=>en=.returned (.tuple #[])/\∃w1 ds1 ds2,WE (some c) w w1/\Blk w1 c ds2 x/\RT K w1 t2 ds2 z.2/\WE (some b) w1 w'/\Blk w' b ds1 H/\RT K w' t1 ds1 z.1) (fun st aD=>?_) (Tr K w b c _) { tmps:=(Value.pointer (some ⟨b,0,none⟩) :: Value.pointer (some ⟨c,0,none⟩) :: m).toArray++Array.replicate (q.ntmps-(Value.pointer (some ⟨b,0,none⟩) :: Value.pointer (some ⟨c,0,none⟩) :: m).toArray.size) undef,defers:=[] } hS rfl ⟨rfl,by grind,fun t s E=>?_⟩
 ·exact this
 ·have W:∀G a,Sat (cx P n ⟨w,fun k=>k=b∨k=c,K,Tt b c,w.heap.size⟩) G->G.o=st.o->EnvR n G st.e a->a.defers=[]/\∃v,(results q a.tmps).run P G.w=.ok v G.w/\(v=.tuple #[]/\∃w1 ds1 ds2,WE (some c) w w1/\Blk w1 c ds2 x/\RT K w1 t2 ds2 z.2/\WE (some b) w1 G.w/\Blk G.w b ds1 H/\RT K G.w t1 ds1 z.1):=fun G a S T V=>by
   obtain⟨us,e1,e0,-⟩:=Yd (X:=cx P n ⟨w,fun k=>k=b∨k=c,K,Tt b c,w.heap.size⟩) (Γ:=[]) (rs:=[]) (fun _ _ h=>by cases h) S T V rfl trivial;have e0:us=[]:=e0;subst e0;refine⟨V.defers,_,Yg (rs:=[]) hr e1,rfl,?_⟩;have d:=aD;unfold QU at d;rw[<- T] at d;split at d
   ·rename_i U1 c1 U2 c2 h1 h2;rw[ce] at d;split at d
    ·rename_i hb;rw[ba] at hb;have u1:=nb hb.1;have u2:=nb hb.2;subst u1; subst u2;split at d
     ·rename_i y1 l1 aK y2 l2 aN d1 d2;obtain⟨z1,z2⟩:=d;subst z1; subst z2;obtain⟨_,aL,k1,k2⟩:=S.pin 0 (.pointer (some ⟨b,0,none⟩)) (.inl ⟨rfl,rfl⟩);cases k2;obtain⟨_,aA,g1,g2,g3,g4⟩:=S.obs 500000 _ h1;rw[k1] at g2;cases g2;obtain⟨_,aP,m1,m2⟩:=S.pin 1 (.pointer (some ⟨c,0,none⟩)) (.inr ⟨rfl,rfl⟩);cases m2;obtain⟨_,aH,p1,p2,p3,p4⟩:=S.obs 500001 _ h2;rw[m1] at p2;cases p2;have r1:=RT.up (DH (K':=fun _=>True) S (fun _ _=>trivial) 24 d1 (fun _ _ _ _=>trivial) g4) (fun _ _=>trivial:∀k,_->(fun _:Nat=>True) k);have r2:=RT.up (DH (K':=fun _=>True) S (fun _ _=>trivial) 24 d2 (fun _ _ _ _=>trivial) p4) (fun _ _=>trivial:∀k,_->(fun _:Nat=>True) k);have l:=KG G.w b g.toArray;have hH:(G.w.setRow b g.toArray).heap[b]?=some (.cells g.toArray U1 (0,0)):=setRow_heap G.w b aA.toArray g.toArray U1 (0,0) g3;refine⟨G.w.setRow b g.toArray,aA,aH,⟨l.os.trans S.os,l.tape.trans S.tape,l.output.trans S.output,by rw[l.size]; exact S.size,fun k hk hg=>?_⟩,?_,RT.free f2 r2,⟨l.os.symm,l.tape.symm,l.output.symm,by simp_all,fun k hk hg=>(l.block k (fun e=>hg (by rw[e]))).symm⟩,g3,RT.free f1 r1⟩
      ·by_cases e:k=b
       ·rw[e,hH]; exact B1.symm
       ·rw[l.block k e];refine S.block k hk (fun h=>?_)
        grind
      ·show(G.w.setRow b g.toArray).heap[c]?=_;rw[l.block c (fun e=>Y e.symm)];exact p3
     grind
    grind
   grind
  refine⟨fun G a S T V=>?_,fun G a S T V=>?_⟩
  ·obtain⟨k1,v,k2,rfl,k3⟩:=W G a S T V;exact⟨k1,_,k2,rfl,k3⟩
  ·obtain⟨k1,v,k2,rfl,k3⟩:=W G a S T V;exact⟨k1,_,k2,rfl,k3⟩
 ·have aO:∀(i:Nat) (u:Value),(Value.pointer (some ⟨b,0,none⟩) :: Value.pointer (some ⟨c,0,none⟩) :: m)[i]?=some u->((Value.pointer (some ⟨b,0,none⟩) :: Value.pointer (some ⟨c,0,none⟩) :: m).toArray++Array.replicate (q.ntmps-(Value.pointer (some ⟨b,0,none⟩) :: Value.pointer (some ⟨c,0,none⟩) :: m).toArray.size) undef).getD i undef=u:=fun i u hu=>by
   have aG:i < (Value.pointer (some ⟨b,0,none⟩) :: Value.pointer (some ⟨c,0,none⟩) :: m).length:=by
    rcases Nat.lt_or_ge i (Value.pointer (some ⟨b,0,none⟩) :: Value.pointer (some ⟨c,0,none⟩) :: m).length with h' | h'
    ·exact h'
    ·rw[List.getElem?_eq_none h'] at hu; cases hu
   rw[Array.getD_eq_getD_getElem?,Array.getElem?_append_left (by rw[List.size_toArray]; exact aG),List.getElem?_toArray,hu];rfl
  have aB:s.p=[]/\∃u,(Value.pointer (some ⟨b,0,none⟩) :: Value.pointer (some ⟨c,0,none⟩) :: m)[t]?=some u/\AVR (Tr K w b c [(500000,.box H (A7 false t1 x1)),(500001,.box x (A7 false t2 x2))]) s.a u:=by
   unfold B0U at E;simp only[lK] at E;split at E
   ·rename_i e; subst e; cases E;exact⟨rfl,_,rfl,⟨_,_,rfl⟩,b,rfl,rfl⟩
   ·split at E
    ·rename_i e; subst e; cases E;exact⟨rfl,_,rfl,⟨_,_,rfl⟩,c,rfl,rfl⟩
    ·obtain⟨a1,a2,u,a3,a4⟩:=Yy (G:=Tr K w b c [(500000,.box H (A7 false t1 x1)),(500001,.box x (A7 false t2 x2))]) aC hA t s E
     grind
  obtain⟨h1,u,h2,h3⟩:=aB;rw[h1];refine⟨fun _=>?_,fun hn=>(hn (fun _ h=>by cases h)).elim⟩
  grind
def nx(o:Option (Prop×St)):St:=match o with
 | some (_,s)=>s
 | none=>⟨[],[]⟩
theorem Lo{o:Option (Prop×St)}{V:Prop}(h:o.map Prod.fst=some V):o=some (V,nx o):=by
 cases o with
 | none=>cases h
 | some x =>
   cases h;rfl
section
variable {P:Program} {n:Nat} {y:World×(Nat->Prop)×(Nat->Prop)×(Nat->Value->Prop)×Nat} {st:St} {Q:Exit->Act->World->Prop} {Γ:p9} {T:List Ct} {ρ:Type} {r:ρ}
theorem jA[a:HG P Γ][d:HT P T][e:M4 P](k:List Nat){id:Nat}{l:List Oper}{b:Bool}(c:FX (cx P n y) (nx (J6 b n Γ T l k st)) .normal Q)(h:(J6 b n Γ T l k st).map Prod.fst=some True:=by kernel_rfl):VX (cx P n y) st (.region id l.toArray b) Q:=za a.h d.h _ _ (Lo h) c
theorem jB[a:HG P Γ][d:HT P T][f:M4 P](k:List Nat){V:Prop}[Decidable V]{e:Option ρ}{id:Nat}{l:List Oper}{b:Bool}(H:gd V e=some r)(c:e=some r->FX (cx P n y) (nx (J6 b n Γ T l k st)) .normal Q)(h:(J6 b n Γ T l k st).map Prod.fst=some V:=by kernel_rfl):VX (cx P n y) st (.region id l.toArray b) Q:=zb a.h d.h _ _ H (Lo h) c
theorem iA[a:HG P Γ][e:HT P T][f:M4 P](k:List Nat){id:Nat}{l:List Oper}{b:Bool}{c:Code}(d:VX (cx P n y) (nx (J6 b n Γ T l k st)) c Q)(h:(J6 b n Γ T l k st).map Prod.fst=some True:=by kernel_rfl):VX (cx P n y) st (.seq (.region id l.toArray b) c) Q:=qa a.h e.h _ _ (Lo h) d
theorem iB[a:HG P Γ][f:HT P T][g:M4 P](k:List Nat){V:Prop}[Decidable V]{e:Option ρ}{id:Nat}{l:List Oper}{b:Bool}{c:Code}(H:gd V e=some r)(d:e=some r->VX (cx P n y) (nx (J6 b n Γ T l k st)) c Q)(h:(J6 b n Γ T l k st).map Prod.fst=some V:=by kernel_rfl):VX (cx P n y) st (.seq (.region id l.toArray b) c) Q:=qb a.h f.h _ _ H (Lo h) d
end
theorem Yz{e:List (Nat×Sl)}:∀{keep:List Nat} {t:Nat} {s:Sl},a8 (Hb e keep) t=some s->t∈keep
 | [],t,s,h=>by cases h
 | k :: r,t,s,h=>by
   unfold Hb at h;split at h
   ·rw[lK] at h;split at h
    ·grind
    ·exact List.mem_cons_of_mem _ (Yz h)
   ·exact List.mem_cons_of_mem _ (Yz h)
def Jo(f:Nat->Value):List Nat->y9
 | []=>[]
 | t :: r=>(t,f t) :: Jo f r
theorem v0O{f:Nat->Value}:∀{keep:List Nat} {t:Nat},t∈keep->lk (Jo f keep) t=some (f t)
 | k :: r,t,h=>by
   show lk ((k,f k) :: Jo f r) t=_;rw[CU];split
   ·grind
   ·rename_i e;exact v0O ((List.mem_cons.1 h).resolve_left (fun h=>e h.symm))
theorem r0f{f:Nat->Value}:∀{keep:List Nat} {t:Nat} {v:Value},lk (Jo f keep) t=some v->f t=v
 | [],t,v,h=>by cases h
 | k :: r,t,v,h=>by
   have h:lk ((k,f k) :: Jo f r) t=some v:=h;rw[CU] at h;split at h
   ·grind
   ·exact r0f h
theorem D0D{X:Cx}{st:St}{c:Code}{Q:Exit->Act->World->Prop}(b:List Nat)(m l:Nat)(H:a8 st.e m=some ⟨[],.v (.pointer none)⟩)
  (h:∀f w Q',J0 X.n .normal ((l,.bool false) :: Jo f b) w Q'->VS X.P X.n c ((m,.pointer none) :: Jo f b) w Q')
  (k:FX X ⟨(l,⟨[],.d true .bool false⟩) :: Hb st.e b,st.o⟩ .normal Q):VX X st c Q:=by
 intro G a S T q;have W:a.tmps.getD m undef=.pointer none:=(q.val m _ H).1 (fun _ h=>nomatch h);refine h (fun t=>a.tmps.getD t undef) G.w Q (fun r g=>k G r S T ?_) a ⟨q.defers,q.size,fun t v i=>?_⟩
 ·refine⟨g.1,g.2.1,fun t s i=>?_⟩;rw[lK] at i;split at i
  ·rename_i e; cases i; subst e;refine⟨fun _=>?_,fun y=>absurd (fun x u=>nomatch u) y⟩;show RT (rg G true) G.w .bool [r.tmps.getD l undef] false;rw[g.2.2 l (.bool false) (by rw[CU,if_pos rfl])];exact rfl
  ·rename_i z;obtain⟨F,V⟩:=SM i;have E:=g.2.2 t (a.tmps.getD t undef) (by rw[CU,if_neg z]; grind[v0O,Yz]);have j:∀a,PathP s.p a:=fun a=>by rw[V]; exact fun x u=>nomatch u
   refine⟨fun _=>?_,fun y=>absurd (j r) y⟩;rw[E];exact(q.val t s F).1 (j a)
 grind[CU,r0f]
def YA(Q:Exit->Act->World->Prop)(K:Act->World->Prop):Exit->Act->World->Prop
 | .normal,a,w=>K a w
 | x,a,w=>Q x a w
theorem x0r{P:Program}{o:Oper}{Q:Exit->Act->World->Prop}{K N:Act->World->Prop}{a:Act}{w:World}(h:o.wp P a w N (YA Q K)):o.wp P a w N Q:=by
 unfold Oper.wp at h ⊢;generalize (execOp a.eval o).run P w=r at h ⊢;cases r with
 | ok n c=>cases n <;> exact h
 | halt b c=>cases b <;> exact h
theorem Tu{ops:Array Oper}{L:Array Bool}{i:Nat}(h:i∈Region.ready .any ops L):i<ops.size:=by
 grind[Region.ready]
section
variable {P:Program} {Q:Exit->Act->World->Prop} {l:List Oper} {o:Oper}
theorem Pp{i:Nat}(h:i<l.length):(l++[o])[i]?=l[i]?:=List.getElem?_append_left h
theorem YB:(l++[o])[l.length]?=some o:=by simp
theorem Jp{L:Array Bool}{i:Nat}{d:Bool}(a:L.size=l.length)(h:i<l.length):(L.push false).getD i d=L.getD i d:=by
 rw[Array.getD_eq_getD_getElem?,Array.getD_eq_getD_getElem?,Array.getElem?_push];rw[if_neg (by omega)]
theorem n0e{L:Array Bool}{d:Bool}(a:L.size=l.length):(L.push false).getD l.length d=false:=by
 rw[Array.getD_eq_getD_getElem?,Array.getElem?_push,if_pos (by omega)];rfl
theorem y0p{L:Array Bool}{i:Nat}(a:L.size=l.length)(h:i<l.length):(L.push false).setIfInBounds i true=(L.setIfInBounds i true).push false:=by
 grind
def YC(l:List Oper):Bool:=l.all fun o=>match o.guard with
 | some (j,_)=>Nat.blt j l.length
 | none=>true
theorem t0C{i:Nat}{oi:Oper}(a:YC l=true)(hi:l[i]?=some oi)(t:Array Value):Region.wanted oi (yielded (l++[o]).toArray t)=Region.wanted oi (yielded l.toArray t):=by
 have:=List.all_eq_true.1 a oi (List.mem_of_getElem? hi);unfold Region.wanted;cases e:oi.guard with
 | none=>rfl
 | some p =>
   obtain⟨j,b⟩:=p;rw[e] at this;have c:j<l.length:=by simpa using this
   grind[yielded,Pp]
theorem z0x(H:Z6 0 l=true)(hg:YC l=true)(aH:∀k∈S8 o,k<l.length)(hw:∀D:Nat->Bool,Ha D l->(∀k∈S8 o,D k=true)->∀k,k<l.length->D k=true) :
  ∀(fuel:Nat) (L:Array Bool) (a:Act) (w:World),L.size=l.length->Ha (fun k=>L.getD k false) l->wpAny P .any l.toArray (YA Q fun a w=>wpOp P (l++[o]).toArray Q l.length (Q .normal) a w) fuel L a w->wpAny P .any (l++[o]).toArray Q (fuel+1) (L.push false) a w:=by
 have z:∀(i:Nat) (o:Oper) (k:Nat),l[i]?=some o->k∈S8 o->k<i:=by
  have:∀{m:List Oper} {i:Nat},Z6 i m=true->∀j o k,m[j]?=some o->k∈S8 o->k<i+j:=by
   intro m
   induction m with
   | nil=>grind
   | cons o0 r ih =>
     intro i h j o k hj E;simp only[Z6,ba,List.all_eq_true] at h;cases j with
     | zero=>simp_all
     | succ j=>grind
  intro i o k n d;have:=this H i o k n d; omega
 have aA:∀(L:Array Bool),L.size=l.length->Region.ready .any l.toArray L=[]->∀i,i<l.length->L.getD i false=true:=by
  intro L b x i
  induction i using Nat.strongRecOn with
  | ind i aF =>
    intro hi;cases h:L.getD i false with
    | true=>rfl
    | false =>
      have:i∈Region.ready .any l.toArray L:=mem_ready.2 ⟨by
       grind,l[i],by grind,fun e u H=>aF e.on (z i l[i] e.on (List.getElem?_eq_getElem hi) (Dc.2 ⟨e,u,H,rfl⟩)) (by have:=z i l[i] e.on (List.getElem?_eq_getElem hi) (Dc.2 ⟨e,u,H,rfl⟩); omega)⟩
      rw[x] at this; cases this
 have v:∀(L:Array Bool),L.size=l.length->(∀i,i<l.length->L.getD i false=true)->Region.ready .any (l++[o]).toArray ((L.push false).setIfInBounds l.length true)=[]:=by
  intro L b h;cases x:Region.ready .any (l++[o]).toArray ((L.push false).setIfInBounds l.length true) with
  | nil=>rfl
  | cons i r =>
    have hi:i∈Region.ready .any (l++[o]).toArray ((L.push false).setIfInBounds l.length true):=by rw[x]; simp
    obtain⟨n,-,-,-⟩:=mem_ready.1 hi;have c:i<l.length+1:=by simpa using Tu hi
    by_cases e:i=l.length
    ·subst e;have T:l.length < (L.push false).size:=by simp; omega
     rw[Array.getD_eq_getD_getElem?,Array.getElem?_setIfInBounds,if_pos rfl,if_pos T] at n;cases n
    ·rw[getD_set_ne true (Ne.symm e),Jp b (by omega)] at n;have d:=h i (by omega);have T:i<L.size:=by omega
     rw[Array.getD_eq_getD_getElem?,Array.getElem?_eq_getElem T] at n d;have n:L[i]=false:=n;have d:L[i]=true:=d;rw[d] at n;cases n
 have aB:∀(L:Array Bool),L.size=l.length->(∀i,i<l.length->L.getD i false=true)->(∀k∈S8 o,k<l.length)->l.length∈Region.ready .any (l++[o]).toArray (L.push false):=by
  intro L b h E;refine mem_ready.2 ⟨n0e b,o,by grind,fun e u H=>?_⟩;have E:=E e.on (Dc.2 ⟨e,u,H,rfl⟩);rw[Jp b E];exact h _ E
 -- the last one ready: all others are done
 have s:∀(L:Array Bool) (i:Nat),L.size=l.length->Ha (fun k=>L.getD k false) l->i∈Region.ready .any (l++[o]).toArray (L.push false)->(i<l.length/\i∈Region.ready .any l.toArray L)∨(i=l.length/\∀k,k<l.length->L.getD k false=true):=by
  intro L i b t hi;obtain⟨n,oi,d,q⟩:=mem_ready.1 hi;have c:i<l.length+1:=by simpa using Tu hi
  rw[List.getElem?_toArray] at d;by_cases e:i=l.length
  ·subst e;rw[YB] at d;cases d;refine .inr ⟨rfl,hw (fun k=>L.getD k false) t fun k E=>?_⟩;obtain⟨e,u,g,rfl⟩:=Dc.1 E;have:=q e u g;by_cases aC:e.on<l.length
   ·rwa [Jp b aC] at this
   ·by_cases aD:e.on=l.length
    ·rw[aD,n0e b] at this; cases this
    ·rw[Array.getD_eq_getD_getElem?,Array.getElem?_eq_none (by simp; omega)] at this;cases this
  ·have f:i<l.length:=by omega
   rw[Pp f] at d;refine .inl ⟨f,mem_ready.2 ⟨by rwa [Jp b f] at n,oi,by rw[List.getElem?_toArray]; exact d,fun e u g=>?_⟩⟩;have:=q e u g
   rwa [Jp b (Nat.lt_trans (z i oi e.on d (Dc.2 ⟨e,u,g,rfl⟩)) f)] at this
 have V:∀(L:Array Bool) (i:Nat),L.size=l.length->i∈Region.ready .any l.toArray L->i∈Region.ready .any (l++[o]).toArray (L.push false):=by
  intro L i b hi;obtain⟨n,oi,d,q⟩:=mem_ready.1 hi;have c:i<l.length:=by simpa using Tu hi
  rw[List.getElem?_toArray] at d;refine mem_ready.2 ⟨by rwa [Jp b c],oi,by rw[List.getElem?_toArray,Pp c]; exact d,fun e u g=>?_⟩;rw[Jp b (Nat.lt_trans (z i oi e.on d (Dc.2 ⟨e,u,g,rfl⟩)) c)];exact q e u g
 intro fuel
 induction fuel with
 | zero =>
   rintro L a w b t ⟨x,hq⟩;have ha:=aA L b x;refine⟨fun Y=>?_,fun i hi=>?_⟩
   ·grind
   ·rcases s L i b t hi with ⟨_,d⟩ | ⟨rfl,_⟩
    ·grind
    ·exact wpOp_mono (fun a' w' h=>⟨v L b ha,h⟩) hq
 | succ fuel ih =>
   rintro L a w b t ⟨h0,n⟩;refine⟨fun Y=>?_,fun i hi=>?_⟩
   ·exfalso;cases x:Region.ready .any l.toArray L with
    | nil =>
      grind
    | cons i r =>
      have:=V L i b (by grind);rw[Y] at this;cases this
   ·rcases s L i b t hi with ⟨c,d⟩ | ⟨rfl,ha⟩
    ·have q:=n i d;obtain⟨_,oi,g2,g3⟩:=mem_ready.1 d;rw[List.getElem?_toArray] at g2;have X:∀k,(L.setIfInBounds i true).getD k false=if k=i then true else L.getD k false:=fun k=>by
      by_cases y:k=i
      ·simp_all
      ·rw[if_neg y]; exact getD_set_ne false (Ne.symm y)
     have F:Ha (fun k=>(L.setIfInBounds i true).getD k false) l:=fun k o' E hD m hm=>by
      simp only[X] at hD ⊢;by_cases aG:m=i
      ·grind
      ·rw[if_neg aG];by_cases y:k=i
       ·grind[Dc]
       ·rw[if_neg y] at hD;exact t k o' E hD m hm
     rw[y0p b c];unfold wpOp at q ⊢;rw[List.getElem?_toArray,g2] at q;rw[List.getElem?_toArray,Pp c,g2];simp only[t0C (o:=o) hg g2] at q ⊢;split at q
     ·rename_i G;rw[if_pos G];rcases q with q | q
      ·exact .inl (Oper.wp_mono (fun a' w' h=>ih _ a' w' (by grind) F h) (x0r q))
      ·exact .inr q
     ·rename_i G;rw[if_neg G];exact ih _ _ _ (by grind) F q
    ·have x:Region.ready .any l.toArray L=[]:=by
      cases x:Region.ready .any l.toArray L with
      | nil=>rfl
      | cons i r =>
        have f:i∈Region.ready .any l.toArray L:=by rw[x]; simp
        obtain⟨W,-,-,-⟩:=mem_ready.1 f;have c:i<l.length:=by simpa using Tu f
        have q2:=ha i c;have T:i<L.size:=by omega
        rw[Array.getD_eq_getD_getElem?,Array.getElem?_eq_getElem T] at W q2;have W:L[i]=false:=W;have q2:L[i]=true:=q2;rw[q2] at W;cases W
     exact wpOp_mono (fun a' w' h=>⟨fun _=>h,fun j hj=>by rw[v L b ha] at hj; cases hj⟩) (h0 x)
end
def Pq:List Oper->Option (List Oper×Oper)
 | []=>none
 | [o]=>some ([],o)
 | o :: r=>match Pq r with
   | some (l,x)=>some (o :: l,x)
   | none=>none
theorem n0D:∀{l l0:List Oper} {o:Oper},Pq l=some (l0,o)->l=l0++[o]
 | [],_,_,h=>by cases h
 | [a],_,_,h=>by
   simp only[Pq,oi,pj] at h
   grind
 | a :: b :: r,_,_,h=>by
   unfold Pq at h;split at h
   ·rename_i l x c;simp only[oi,pj] at h;obtain⟨rfl,rfl⟩:=h;rw[List.cons_append,<- n0D c]
   grind
def Tv(l0:List Oper)(o:Oper):Bool:=(S8 o).all (fun k=>Nat.blt k l0.length)&&(List.range l0.length).all fun k=>X4 k ((I4 (V2 [] (l0++[o])) l0.length).getD [])
def evU(n:Nat)(Γ:p9)(T:List Ct)(l:List Oper)(keep:List Nat)(f:FuncId)(T1:TypeId)(t1:Ty)(T2:TypeId)(t2:Ty)(ps:List o6)(st:St)(z:c7 t1×c7 t2):Option (Prop×(c7 t1×c7 t2×A4 ps)×Prop×St):=match Pq l with
 | some (l0,⟨some d,op,ty,pos,after,none⟩)=>bif R5 n 0 [] l&&Z6 0 l&&Z6 0 l0&&R6 st.e&&YC l0&&Tv l0 ⟨some d,op,ty,pos,after,none⟩ then(match Bt Γ T l0 l0 st [] with
   | some (V,st1,rs)=>bif KZ (V2 [] l0) rs.reverse&&R6 st1.e then(match Tp st1 f T1 t1 T2 t2 ps op with
     | some (ii,x1,x2,xs)=>some (V,(x1,x2,xs),True,cut keep (Tq st1 d T1 t1 T2 t2 ii.1 ii.2 z))
     | none=>none) else none
   | none=>none) else none
 | _=>none
theorem r0W{a:List Oper}{o:Oper}(l:Z6 0 (a++[o])=true)(h:Tv a o=true)(D:Nat->Bool)(u:Ha D a)(y:∀k∈S8 o,D k=true):∀k,k<a.length->D k=true:=by
 unfold Tv at h;rw[ba] at h;have x:=List.all_eq_true.1 h.1;have t:=List.all_eq_true.1 h.2;have e:=XN (all:=a++[o]) (rest:=a++[o]) (acc:=[]) (fun j=>by simp) l (fun i m h=>by grind);intro k q;have g:=DO.1 (t k (List.mem_range.2 q));rw[AN] at g;cases hbm:(V2 [] (a++[o]))[a.length]? with
 | none=>grind
 | some m =>
   rw[hbm] at g;obtain⟨E,w⟩:=e a.length m hbm;have:=w (fun j=>D j&&Nat.blt j a.length) (fun i n hi b j c=>by
    rw[ba] at b;have d:i<a.length:=by simpa using b.2
    rw[Pp d] at hi;have s:=u i n hi b.1 j c;have v:j<a.length:=by
     have f:∀{m:List Oper} {i:Nat},Z6 i m=true->∀j o k,m[j]?=some o->k∈S8 o->k<i+j:=by
      intro m
      induction m with
      | nil=>grind
      | cons z r F =>
        intro i h j o k c q;simp only[Z6,ba,List.all_eq_true] at h;cases j with
        | zero=>simp_all
        | succ j=>grind
     have:=f l i n j (by grind) c;omega
    simp_all) o YB (fun j c=>by
    grind) k g
   grind
theorem zU{P:Program}{n:Nat}{y:World×(Nat->Prop)×(Nat->Prop)×(Nat->Value->Prop)×Nat}{st:St}{Q:Exit->Act->World->Prop}{Γ:p9}{T:List Ct}{ρ:Type}{r:ρ}(aC:B6 P Γ)(hT:∀c∈T,Ok P c)[hm:M4 P]{f:FuncId}{T1:TypeId}{t1:Ty}{T2:TypeId}{t2:Ty}{ps:List o6}{F:c7 t1->c7 t2->A4 ps->Option (c7 t1×c7 t2)}(hk:NP P f T1 t1 T2 t2 ps F)
  (q:List Nat) (S:c7 t1×c7 t2->St) (W:c7 t1×c7 t2->Prop) {x1:c7 t1} {x2:c7 t2} {xs:A4 ps} [Inhabited (c7 t1×c7 t2)] {V:Prop} [Decidable V] {g:c7 t1×c7 t2->Option ρ} {id:Nat} {l:List Oper} (H:gd (V/\(F x1 x2 xs).isSome=true/\True) (lt (vl (F x1 x2 xs)) g)=some r)
  (h:∀z,evU n Γ T l q f T1 t1 T2 t2 ps st z=some (V,(x1,x2,xs),W z,S z)) (hc:∀z,g z=some r->W z/\FX (cx P n y) (S z) .normal Q):VX (cx P n y) st (.region id l.toArray true) Q:=by
 obtain⟨⟨hV,hs,-⟩,H⟩:=Hf H;obtain⟨z,hz⟩:=Option.isSome_iff_exists.1 hs;rw[hz] at H;have H:g z=some r:=H;have m:=h z;obtain⟨-,c2⟩:=hc z H;unfold evU at m;split at m
 ·rename_i e d op ty pos after hl;rw[ce] at m;split at m
  ·rename_i hb;simp only[ba] at hb;obtain⟨⟨⟨⟨⟨b1,b2⟩,b3⟩,b4⟩,b5⟩,b6⟩:=hb;have el:=n0D hl;split at m
   ·rename_i V' aA aL g1;rw[ce] at m;split at m
    ·rename_i v;rw[ba] at v;split at m
     ·rename_i ii y1 y2 ys ha;simp only[oi,pj] at m;obtain⟨rfl,⟨rfl,rfl,rfl⟩,-,eS⟩:=m;intro G a Sa ho hE;obtain⟨recs,e1,e2,e3,e4⟩:=KV (He (K:=fun aI rs=>KZ (V2 [] e) rs.reverse=true/\aI=aA) g1 hV ⟨v.1,rfl⟩);rw[List.append_nil,List.reverse_reverse] at e3;refine wp_region_any hm.h ?_;have u:Ext G.w { G.w with drawn:=G.w.drawn+1 }:=(Below.refl _ _).drew;obtain⟨S1,L1⟩:=Sa.ext u;rw[el] at b1;obtain⟨k1,sn,k2,-,-⟩:=Yw (a:=e) (b:=[⟨some d,op,ty,pos,after,none⟩]) b1;have aG:d<n:=by
       have hd:=(XP b1).1 e.length ⟨some d,op,ty,pos,after,none⟩ d YB rfl;exact hd.1
      have aH:=r0x aC hT (X:=cx P n y) (Q:=YA Q fun a w=>wpOp P (e++[(⟨some d,op,ty,pos,after,none⟩:Oper)]).toArray Q e.length (Q .normal) a w) (l:=e) (recs:=recs) (st:=st) e1 e2 (FI b4) k1 b3 e3 (fun G' a' S' Y E=>by
        rw[e4] at Y E;show wpOp P (e++[(⟨some d,op,ty,pos,after,none⟩:Oper)]).toArray Q e.length (Q .normal) a' G'.w;have aO:=C0h (i1:=ii.1) (i2:=ii.2) (ty:=ty) (pos:=pos) (after:=after) (ops:=(e++[(⟨some d,op,ty,pos,after,none⟩:Oper)]).toArray) (Q:=Q) (K:=Q .normal) hk S' Y E ha aG (fun t s ht x hx=>by grind[FI]) hz fun a2 G2 aF aD aB=>by
         obtain⟨G3,S3,aK,aM,aN⟩:=SN q aF aD aB;have:=c2 G3 a2 S3 (by grind) (by grind)
         grind
        grind[AP,wpOp]) e.length (Array.replicate e.length false) { G with w:={ G.w with drawn:=G.w.drawn+1 } } a
       (by grind) (by simp) (fun i o _ hD=>by
         by_cases hi:i<e.length
         ·simp_all
         grind) S1 (fun id=>by
         have:∀{recs:List C1} {i:Nat} {st:St},(∀j,(Array.replicate e.length false).getD j false=false)->C8 (fun k=>(Array.replicate e.length false).getD k false) i recs st=st:=by
          intro recs
          induction recs with
          | nil=>intro i st _; rfl
          | cons R r ih=>grind[C8]
         rw[this (fun j=>by by_cases hj:j<e.length <;> simp[hj])]
         grind) (by
         have:∀{recs:List C1} {i:Nat} {st:St},(∀j,(Array.replicate e.length false).getD j false=false)->C8 (fun k=>(Array.replicate e.length false).getD k false) i recs st=st:=by
          intro recs
          induction recs with
          | nil=>intro i st _; rfl
          | cons R r ih=>grind[C8]
         rw[this (fun j=>by by_cases hj:j<e.length <;> simp[hj])];exact hE.mono L1)
      have aJ:=z0x (Q:=Q) b3 b5 (fun k hk=>by
       have:=b6;unfold Tv at this
       simp_all) (r0W (by grind) b6) e.length (Array.replicate e.length false) a _ (by simp) (fun i o _ hD=>by
        by_cases hi:i<e.length
        ·simp_all
        grind) aH
      grind
     grind
    grind
   grind
  grind
 grind
def YD(d:Nat)(T:TypeId)(t:Ty)(cs:List AV)(st:St):Option St:=match H7 ((d,.box T cs) :: st.o) 24 t cs,AR d 0 true .bool ([]:List Bool) st.o with
 | some (x,[],_),some o'=>some ⟨(d,⟨[],.d false (.pt t) x⟩) :: FM d 0 true .bool ([]:List Bool) st.e,o'⟩
 | _,_=>none
def evX(n:Nat)(Γ:p9)(T:List Ct)(l:List Oper)(i:Nat)(keep:List Nat)(t:Ty)(st:St):Option (Prop×St):=bif R5 n 0 [] l&&R6 st.e then(match Bt Γ T l (l.take i) st [] with
    | some (V,st1,_)=>(match I4 l i with
      | some ⟨some d,.box T1 x,_,_,_,none⟩=>(match rd st1 [] x with
        | some v=>(match CV v with
          | some cs=>bif AO st1.o d&&R6 st1.e&&Jm st1.e&&Nat.blt d 500000 then(match YD d T1 t cs st1 with
            | some st2=>bif R6 st2.e then(match Bt Γ T l (l.drop (i+1)) st2 [] with
              | some (W,st3,_)=>some (V/\W,cut keep st3)
              | none=>none) else none
            | none=>none) else none
          | none=>none)
        | none=>none)
      | _=>none)
    | none=>none) else none
theorem E0T{X:Cx}{G:Gh}{a:Act}{st f:St}{d:Nat}{T:TypeId}{t:Ty}{cs:List AV}(h:YD d T t cs st=some f)(hn:Jm st.e=true)(hp:R6 st.e=true)(v:Nat.blt d 500000=true)(hd:a8 st.o d=none)(y:d<X.n)(S:Sat X G)(F:G.o=st.o)(r:EnvR X.n G st.e a){us:Array Value}(hA:AVRs G cs us.toList) :
  ∃G',G'.w=G.w.alloc (.cells us T)/\Sat X G'/\G'.o=f.o/\EnvR X.n G' f.e (a.put (some d) (.pointer (some ⟨G.w.heap.size,0,none⟩))):=by
 obtain⟨g,w1,P,Y,H,E⟩:=Xx S (T:=T) (by rw[F]; exact hd) hA;have hl:a8 g.o d=some (.box T cs):=by rw[H,lK,if_pos rfl]
 obtain⟨_,b,z,hb⟩:=E;cases hb;obtain⟨b',vs,g1,g2,W,g4⟩:=P.obs d _ hl;rw[z] at g2;cases g2;unfold YD at h;split at h
 ·rename_i x fl i j hz;cases h;rw[<- F,<- H] at j;have V:AR d 0 true .bool ([]:List Bool) g.o=some i:=by
   rw[H,F];unfold AR;rw[Nat.beq_refl];exact hz
  have m:Li g d 0 true .bool ([]:List Bool) i:=fun u hu=>by
   rcases hu with ⟨_,T1,aC,t1,aB,aA,l,_⟩ | ⟨_,⟨_,_,_,_,_,_,l⟩,_⟩
   ·grind
   grind
  have hB:g.B<=G.w.heap.size:=by
   rw[Y.hB];exact Nat.le_trans S.le S.size
  have S2:=Yq P hl (fun k c=>by
   rw[g1] at c;cases c;exact⟨⟨_,_,W⟩,hB⟩) m V v
  refine⟨FN g d i,w1,S2,rfl,?_⟩;have Q:=r.mono Y;have q:EnvR X.n (FN g d i) (FM d 0 true .bool ([]:List Bool) st.e) a:=⟨r.defers,r.size,fun k s c=>by
   obtain⟨b,l,h2⟩:=Lj hn c;obtain⟨h3,h4⟩:=Q.val k _ l
   grind[Ti]⟩
  refine EnvR.put (st:=⟨FM d 0 true .bool ([]:List Bool) st.e,i⟩) q y (fun _ h=>by cases h) (fun k s c x j=>?_) ⟨fun _=>?_,fun h=>(h (fun _ h=>by cases h)).elim⟩
  ·obtain⟨b,l,_⟩:=Lj hn c;rw[FI hp k _ l] at j;cases j
  ·have hR:=DH (K':=(FN g d i).K) P (fun k c=>.inl c) 24 j (fun _ h=>by cases h) g4;exact⟨_,0,vs,rfl,⟨.inr (.inl g1),fun e=>by cases e⟩,W.at,RT.up hR (fun k c=>⟨c.1,fun e=>by cases e⟩)⟩
 grind
theorem zX{P:Program}{n:Nat}{y:World×(Nat->Prop)×(Nat->Prop)×(Nat->Value->Prop)×Nat}{st:St}{Q:Exit->Act->World->Prop}{Γ:p9}{T:List Ct}(j:B6 P Γ)(hT:∀c∈T,Ok P c)(i:Nat)(b:List Nat)(t:Ty)(st':St){V W:Prop}{id:Nat}{l:List Oper}
  (h:evX n Γ T l i b t st=some (V/\W,st')) (e:V/\W) (hc:FX (cx P n y) st' .normal Q):VX (cx P n y) st (.region id l.toArray false) Q:=by
 unfold evX at h;rw[ce] at h;split at h
 ·rename_i f;rw[ba] at f;split at h
  ·rename_i V1 F aA g1;split at h
   ·rename_i d T1 x ty aB m hn;split at h
    ·rename_i v hv;split at h
     ·rename_i cs r;rw[ce] at h;split at h
      ·rename_i z;simp only[ba] at z;obtain⟨⟨⟨Y,E⟩,f3⟩,f4⟩:=z;split at h
       ·rename_i k s;rw[ce] at h;split at h
        ·rename_i g;split at h
         ·rename_i W1 q u g3;simp only[oi,pj] at h;obtain⟨e1,e2⟩:=h;rw[<- e1] at e;refine v0D (X:=cx P n y) j hT b f.1 f.2 g1 e.1 hn E fun o G a S ho w K H=>?_;obtain⟨hA,_⟩:=KL r (D9 w (p:=[]) (fun _ h=>by cases h) hv);obtain⟨G',k1,k2,k3,k4⟩:=E0T s f3 E f4 (FF Y) (o _ rfl) S ho w hA;have:=H k W1 q u G' _ g g3 e.2 (by grind) k2 k3 k4;unfold AP;rw[if_pos (by rfl)];unfold Oper.wp;simp only[execOp];rw[k1] at this;exact this
         grind
        grind
       grind
      grind
     grind
    grind
   grind
  grind
 grind
section
variable {P:Program} {n:Nat} {y:World×(Nat->Prop)×(Nat->Prop)×(Nat->Value->Prop)×Nat} {st:St} {Q:Exit->Act->World->Prop} {Γ:p9} {T:List Ct} {ρ:Type} {r:ρ} {l:List Oper} {id i:Nat} {V:Prop} [Decidable V]
def n3{α β:Type}(o:Option (α×β×St)):St:=match o with
 | some (_,_,s)=>s
 | none=>⟨[],[]⟩
theorem c8{P:Program}{Γ:p9}[HG P Γ]{f:FuncId}{ps:List o6}{c:Type}[Inhabited c]{F:A4 ps->Option c}{R:c->AV}{Z:c->F0 ps}{b:Func}{a:Code}(rs:List ResultVar)(i:P.funcs[f]?=some b)
 (h:∀y x r,F x=some r->∀Q,Tl (cx P b.ntmps y) Γ rs ps R Z r .normal Q->Tl (cx P b.ntmps y) Γ rs ps R Z r .ret Q->VX (cx P b.ntmps y) ⟨N8 0 ps x,K8 0 ps x⟩ a Q)
 (e:b.body=some a:=by rfl) (g:b.results=rs.toArray:=by kernel_rfl) (j:BX P f=true:=by kernel_rfl) (d:(Nat.ble ps.length b.ntmps&&Br ps)=true:=by kernel_rfl):Ok P (b9 f ps F R Z):=okL rs i rfl g h e j d
end
theorem hz{P:Program}{T:List Ct}(h:∀c∈T,Ok P c):HT P T:=⟨h⟩
instance (priority:=low){P:Program}:HT P []:=⟨@tn P⟩
def Lp(f:FuncId)(ps:List o6){ζ:Type}(R:ζ->AV)(Z:ζ->F0 ps)(v:ζ):Ct:=⟨f,ps,fun _=>⟨True,R v,Z v⟩⟩
section
variable {P:Program} {n:Nat} {y:World×(Nat->Prop)×(Nat->Prop)×(Nat->Value->Prop)×Nat} {st:St} {Q:Exit->Act->World->Prop} {Γ:p9} {T:List Ct} {ρ:Type} {r:ρ} {f:FuncId} {ps:List o6} {ζ:Type} [Inhabited ζ] {F:A4 ps->Option ζ} {R:ζ->AV} {Z:ζ->F0 ps} {V:Prop} [Decidable V] {x:ζ} {g:ζ->Option ρ} {id:Nat} {l:List Oper} {b:Bool}
theorem iD[a:HG P Γ][i:HT P T][j:M4 P](_:Ok P (b9 f ps F R Z))(k:List Nat){c:Code}(H:gd V (lt x g)=some r)(d:∀v,g v=some r->VX (cx P n y) (nx (J6 b n Γ (Lp f ps R Z v :: T) l k st)) c Q)(h:(J6 b n Γ T l k st).map Prod.fst=some V:=by kernel_rfl)(e:nx (J6 b n Γ T l k st)=nx (J6 b n Γ (Lp f ps R Z x :: T) l k st):=by kernel_rfl):VX (cx P n y) st (.seq (.region id l.toArray b) c) Q :=
 qd a.h i.h k (fun v=>nx (J6 b n Γ (Lp f ps R Z v :: T) l k st)) H ((Lo h).trans (congrArg (fun s=>some (V,s)) e)) d
theorem jD[a:HG P Γ][e:HT P T][i:M4 P](_:Ok P (b9 f ps F R Z))(k:List Nat)(H:gd V (lt x g)=some r)(c:∀v,g v=some r->FX (cx P n y) (nx (J6 b n Γ (Lp f ps R Z v :: T) l k st)) .normal Q)(h:(J6 b n Γ T l k st).map Prod.fst=some V:=by kernel_rfl)(d:nx (J6 b n Γ T l k st)=nx (J6 b n Γ (Lp f ps R Z x :: T) l k st):=by kernel_rfl):VX (cx P n y) st (.region id l.toArray b) Q :=
 zd a.h e.h k (fun v=>nx (J6 b n Γ (Lp f ps R Z v :: T) l k st)) H ((Lo h).trans (congrArg (fun s=>some (V,s)) d)) c
end
end Go.Proofs.Xv
end
