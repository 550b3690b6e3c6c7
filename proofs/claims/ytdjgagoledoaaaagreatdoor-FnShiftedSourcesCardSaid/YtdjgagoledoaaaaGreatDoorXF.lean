/- Plain facts on B0W functions: sizes, copies, comparisons. Over any program. -/
import Derived.Test.YtdjgagoledoaaaaGreatDoorXD
import Derived.Test.YtdjgagoledoaaaaGreatDoorXA
import Derived.Lib.SliceRun
import Derived.Sort.Grow
set_option maxHeartbeats 0
section
namespace Go.Proofs.Xd
open Go Go.Proofs.Xv Go.Proofs.Xl
theorem lE{a b:Type}{x:a}{f:a->b}:lt x f=f x:=rfl
theorem I0E{t:Ty}{a:List (j6 t)}{i:Nat}{d:j6 t}{m:Nat}(h:i<a.length)(b:cnt (.sl t) a<=m):cnt t (a.getD i d)<=m:=by
 grind[AM,C0h]
theorem BW{t:Ty}{a:List (j6 t)}{m:Nat}(b:cnt (.sl t) a<=m):a.length<=m:=by
 grind[AM]
theorem cF{s t:Ty}{x:j6 (.pr s t)}{m:Nat}(h:cnt (.pr s t) x<=m):cnt s x.1<=m:=by
 grind[J8]
theorem cS{s t:Ty}{x:j6 (.pr s t)}{m:Nat}(h:cnt (.pr s t) x<=m):cnt t x.2<=m:=by
 grind[J8]
theorem Z3{t:Ty}{a:List (j6 t)}{i:Nat}{d:j6 t}(h:i<a.length)(b:wf (.sl t) a):wf t (a.getD i d):=by
 rw[gq,List.getElem?_eq_getElem h];exact b.2 _ (List.getElem_mem h)
theorem dlt{i n:Nat}:decide ((i:Int) < (n:Int))=decide (i<n):=by
 grind
theorem QM{n:Nat}(h:n<=9223372036854775807):n+1<V8:=by grind[V8]
theorem D0W{a ρ:Type}{F:(a->Option ρ)->a->Option ρ}{s:a}{r:Option ρ}(h:∀n,0<n->J6 F n s=r):lp F s=r:=h V8 (by grind[V8])
theorem Np{b c ρ:Type}{n:Nat}(h:n<=9223372036854775807)(mk:Nat->b->c)(f:Nat->b->Option b)(x:Nat->b->Option ρ)(I:Nat->b->Prop){J:b->Option ρ}{F:(c->Option ρ)->c->Option ρ}
  (r:∀g i s,i<n->I i s->F g (mk i s)=match f i s with | some s'=>g (mk (i+1) s') | none=>x i s) (l:∀i s s',i<n->I i s->f i s=some s'->I (i+1) s') (o:∀g s,I n s->F g (mk n s)=J s)
  (a:Nat->b->Option ρ) (r0:∀s,I n s->a n s=J s) (t:∀i s,i<n->I i s->a i s=match f i s with | some s'=>a (i+1) s' | none=>x i s) (k:Nat) (j:k<=n) (s:b) (e:I k s):lp F (mk k s)=a k s:=by
 have d:∀(m i:Nat) (s:b),i<=n->n-i<m->I i s->J6 F m (mk i s)=a i s:=by
  intro m
  induction m with
  | zero=>omega
  | succ m q =>
    grind[hi,J6]
 exact d V8 k s j (by have:=QM h; omega) e
theorem JD{ρ:Type}{n:Nat}(d:n<=9223372036854775807)(c:Nat->Bool)(x:Nat->Option ρ){e:Option ρ}{F:(Int->Option ρ)->Int->Option ρ}(k:Nat)(f:k<=n)(j:∀g (i:Nat),k<=i->i<n->F g (i:Int)=if c i=true then x i else g ((i:Int)+1))
  (a:∀g,F g (n:Int)=e):lp F (k:Int)=match(List.range' k (n-k)).find? c with | some i=>x i | none=>e:=by
 have:=Np d (fun i (_:Unit)=>(i:Int)) (fun i _=>if c i=true then none else some ()) (fun i _=>x i) (fun i _=>k<=i) (J:=fun _=>e) (F:=F)
  (fun g i s h b=>by
    grind) (fun _ _ _ _ h _=>Nat.le_succ_of_le h) (fun g _ _=>a g) (fun i _=>match(List.range' i (n-i)).find? c with | some i=>x i | none=>e) (fun _ _=>by simp) (fun i s h _=>by
    have l:n-i=(n-(i+1))+1:=by omega
    grind[List.range'_succ]) k f () (Nat.le_refl _)
 simpa using this
theorem H9{ρ:Type}{n:Nat}(f:n<=9223372036854775807)(c:Nat->Bool)(x:Option ρ){e:Option ρ}{F:(Int->Option ρ)->Int->Option ρ}(d:∀g (i:Nat),i<n->F g (i:Int)=if c i=true then x else g ((i:Int)+1))
  (a:∀g,F g (n:Int)=e):lp F 0=if(List.range n).any c=true then x else e:=by
 have:=JD f c (fun _=>x) 0 (Nat.zero_le _) (fun g i _ h=>d g i h) a;rw[Nat.sub_zero,<- List.range_eq_range'] at this;refine Eq.trans this ?_;cases h:(List.range n).find? c with
 | none =>
   rw[if_neg];rw[List.find?_eq_none] at h;intro j;obtain⟨i,k,b⟩:=List.any_eq_true.1 j;exact h i k b
 | some i =>
   rw[if_pos];exact List.any_eq_true.2 ⟨i,List.mem_of_find?_eq_some h,List.find?_some h⟩
theorem D0X{ρ:Type}{n:Nat}(d:n<=9223372036854775807)(c:Nat->Bool)(x:Option ρ){e:Option ρ}{F:(Int->Option ρ)->Int->Option ρ}(k:Nat)(f:k<=n)(a:∀g (i:Nat),k<=i->i<n->F g (i:Int)=if c i=true then x else g ((i:Int)+1))
  (b:∀g,F g (n:Int)=e):lp F (k:Int)=if((List.range n).any fun i=>decide (k<=i)&&c i)=true then x else e:=by
 refine(JD d c (fun _=>x) k f a b).trans ?_
 grind
def fN{σ:Type}(f:Nat->σ->σ):Nat->σ->σ
 | 0,s=>s
 | n+1,s=>f n (fN f n s)
theorem lF{a c ρ:Type}{n:Nat}(o:n<=9223372036854775807)(mk:Nat->a->c)(f:Nat->a->a)(I:Nat->a->Prop){J:a->Option ρ}{F:(c->Option ρ)->c->Option ρ}
  (l:∀g i s,i<n->I i s->F g (mk i s)=g (mk (i+1) (f i s))) (e:∀i s,i<n->I i s->I (i+1) (f i s)) (q:∀g s,I n s->F g (mk n s)=J s) (s:a) (k:I 0 s):lp F (mk 0 s)=J (fN f n s):=by
 have d:∀(m i:Nat),i<=n->n-i<m->I i (fN f i s)->J6 F m (mk i (fN f i s))=J (fN f n s):=by
  intro m
  induction m with
  | zero=>omega
  | succ m j =>
    intro i hi r b;show F (J6 F m) (mk i _)=_;by_cases h:i<n
    ·rw[l _ _ _ h b];exact j (i+1) (by omega) (by omega) (e _ _ h b)
    grind
 exact d V8 0 (Nat.zero_le _) (by have:=QM o; omega) k
theorem MN{a d ρ:Type}{n:Nat}(t:n<=9223372036854775807)(mk:Nat->a->d)(f:Nat->a->a)(c:Nat->Bool)(x:Option ρ)(I:Nat->a->Prop){J:a->Option ρ}{F:(d->Option ρ)->d->Option ρ}
  (r:∀g i s,i<n->I i s->F g (mk i s)=if c i=true then x else g (mk (i+1) (f i s))) (l:∀i s,i<n->I i s->c i=false->I (i+1) (f i s)) (u:∀g s,I n s->F g (mk n s)=J s) (s:a) (q:I 0 s) :
  lp F (mk 0 s)=if(List.range n).any c=true then x else J (fN f n s):=by
 have e:∀(m i:Nat),i<=n->n-i<m->I i (fN f i s)->(∀j,j<i->c j=false)->J6 F m (mk i (fN f i s))=if(List.range n).any c=true then x else J (fN f n s):=by
  intro m
  induction m with
  | zero=>omega
  | succ m o =>
    intro i hi w b v;show F (J6 F m) (mk i _)=_;by_cases h:i<n
    ·rw[r _ _ _ h b];cases hci:c i with
     | true=>grind
     | false =>
       rw[if_neg (by simp)];refine o (i+1) (by omega) (by omega) (l _ _ h b hci) (fun j k=>?_)
       grind
    grind
 exact e V8 0 (Nat.zero_le _) (by have:=QM t; omega) q (fun j k=>absurd k (Nat.not_lt_zero j))
theorem Qy{n:Nat}(p q:Nat->Bool):((List.range n).any fun i=>p i||q i)=((List.range n).any p||(List.range n).any q):=by
 grind
theorem BS{n:Nat}{c:Nat->Bool}:(!(List.range n).any c)=true↔∀i,i<n->c i=false:=by
 grind
theorem U9{a:Type}(l:List a)(d:a)(p:a->Bool):((List.range l.length).any fun i=>p (l.getD i d))=l.any p:=by
 rw[Bool.eq_iff_iff,List.any_eq_true,List.any_eq_true];constructor
 ·grind
 ·rintro⟨x,b,e⟩;obtain⟨i,c,f⟩:=List.getElem_of_mem b;refine⟨i,List.mem_range.2 c,?_⟩
  grind
theorem MD{n:Nat}{p q:Nat->Bool}(h:∀i,i<n->p i=q i):(List.range n).any p=(List.range n).any q:=by
 grind
theorem BV{ρ:Type}{i n:Nat}{V:Prop}[Decidable V]{c:Bool}{x e:Option ρ}{g:Int->Option ρ}(h:i<n)(b:n<=9223372036854775807)(a:V) :
  (if(decide ((i:Int) < (n:Int)))=true then gd V (if c=true then x else gd (j0 ((i:Int)+1)/\True) (g ((i:Int)+1))) else e)=if c=true then x else g ((i:Int)+1):=by
 rw[if_pos (by grind),gP a,gP ⟨oo,trivial⟩]
theorem E0T{ρ:Type}{i n:Nat}{V W:Prop}[Decidable V][Decidable W]{c:Bool}{x e:Option ρ}{g:Int->Option ρ}(h:i<n)(d:n<=9223372036854775807)(b:V)(a:W) :
  (if(decide ((i:Int) < (n:Int)))=true then gd V (gd W (if c=true then x else gd (j0 ((i:Int)+1)/\True) (g ((i:Int)+1)))) else e)=if c=true then x else g ((i:Int)+1):=by
 rw[if_pos (by grind),gP b,gP a,gP ⟨oo,trivial⟩]
theorem aE{ρ:Type}{n:Nat}{a e:Option ρ}:(if(decide ((n:Int) < (n:Int)))=true then a else e)=e:=if_neg (by simp)
theorem Hh{i n:Nat}{o:Option Bool}{g:Int->Option Int}{e:Option Int}{b:Bool}(h:i<n)(c:n<=9223372036854775807)(a:o=some b) :
  (if(decide ((i:Int) < (n:Int)))=true then gd (ix (i:Int) n/\o.isSome=true/\True) (if(vl o)=true then some (i:Int) else gd (j0 ((i:Int)+1)/\True) (g ((i:Int)+1))) else e)=if b=true then some (i:Int) else g ((i:Int)+1):=by
 subst a;rw[if_pos (by grind),gP ⟨oo,rfl,trivial⟩,gP ⟨oo,trivial⟩,vS]
theorem CH{n:Nat}(d:n<=9223372036854775807)(b:Nat->Bool){F:(Int->Option Int)->Int->Option Int}(a:∀g (i:Nat),i<n->F g (i:Int)=if b i=true then some (i:Int) else g ((i:Int)+1))(c:∀g,F g (n:Int)=some (-1)) :
  lp F 0=some (match(List.range n).find? b with | some i=>(i:Int) | none => -1):=by
 have:=JD d b (fun i=>some (i:Int)) 0 (Nat.zero_le _) (fun g i _ h=>a g i h) c;rw[Nat.sub_zero,<- List.range_eq_range'] at this
 grind
theorem Hi{n:Nat}{b:Nat->Bool}{o:Option Int}(h:o=some (match(List.range n).find? b with | some i=>(i:Int) | none => -1)):gd (o.isSome=true/\True) (lt (vl o) fun v0=>some (decide (0<=v0)))=some ((List.range n).any b):=by
 subst h;rw[gP ⟨rfl,trivial⟩,lE,vS];cases h:(List.range n).find? b with
 | none =>
   grind
 | some i =>
   have:(List.range n).any b=true:=List.any_eq_true.2 ⟨i,List.mem_of_find?_eq_some h,List.find?_some h⟩;rw[this];simp
end Go.Proofs.Xd
end
section
namespace Go.Proofs.Xv
open Go Go.RowKit Go.Proofs.Sv
def Dc(P:Program)(op:TypeId->Ty->Bool):Nat->List Field->Ty->Bool
 | _,[],_=>false
 | off,[f],y=>Nat.beq f.offset off&&Nat.beq (P.cellsOf f.type) (sz y)&&op f.type y
 | off,f :: r,.pr a b=>Nat.beq f.offset off&&Nat.beq (P.cellsOf f.type) (sz a)&&op f.type a&&Dc P op (off+sz a) r b
 | _,_,_=>false
def Om(P:Program):Nat->TypeId->Ty->Bool
 | 0,_,_=>false
 | n+1,T,y=>match P.underlying T with
   | some (.int k)=>decide (y=.int k)
   | some .bool=>decide (y=.bool)
   | some .string=>decide (y=.str)
   | some (.slice E)=>match y with
     | .sl e=>Om P n E e
     | _=>false
   | some (.struct fs)=>Nat.beq (P.cellsOf T) (sz y)&&Dc P (Om P n) 0 fs.toList y
   | _=>false
def Cn(w:World)(k:Nat):Prop:=k<w.heap.size
theorem y0T(k:IntKind):k.min=lo k/\k.max=hi k:=by cases k <;> exact⟨rfl,rfl⟩
theorem v0c{P:Program}{E:TypeId}{e:Ty}{w:World}{H:Type}{enc:TypeId×Value->H}{sp:Nat->Bool}{V:Bool}(hE:∀{j:Nat} {cs:List Value} {x:DataW H×List MemPlace},DataW.trod enc P w 0 sp V j E cs=some x->∃z:j6 e,RT (Cn w) w e cs z)
  {T:TypeId} {j:Nat} {cs:List Value} {x:DataW H×List MemPlace} (hT:P.underlying T=some (.slice E)) (h:DataW.trod enc P w 0 sp V j T cs=some x):∃z:List (j6 e),RT (Cn w) w (.sl e) cs z:=by
 rcases DataW.trod_slice hT h with ⟨rfl,_⟩ | ⟨a,len,cap,elems,rest,n,rfl,rfl,_,_,hlc,hcm,hel,hat,_,_⟩
 ·exact⟨[],none,0,rfl,Nat.le_refl _,by omega,.inl rfl⟩
 ·have m:cap<=9223372036854775807:=by unfold maxLen at hcm; omega
  have d:∀i,i<len->∃c:List Value,w.cells? 0 (a.add (i*P.cellsOf E)) (P.cellsOf E)=some c/\∃y:j6 e,RT (Cn w) w e c y:=by
   intro i hi;have g:=hat i hi;rw[List.getElem?_eq_getElem (by omega)] at g;cases f:w.cells? 0 (a.add (i*P.cellsOf E)) (P.cellsOf E) with
   | none=>rw[f] at g; cases g
   | some c =>
     rw[f] at g;simp only[Option.bind_some] at g;exact⟨c,rfl,hE g⟩
  by_cases G:len=0
  ·subst G;exact⟨[],some a,cap,rfl,Nat.zero_le _,m,.inl rfl⟩
  ·have W:P.cellsOf E=sz e:=by
    obtain⟨c,f,y,Q⟩:=d 0 (by omega);have:=(World.cells?_some f).2.1;rw[<- this]; exact RT.len Q
   have l:0<P.cellsOf E:=by rw[W]; exact Rx e
   obtain⟨b,o,rfl⟩:∃b o,a=⟨b,o,none⟩:=by
    obtain⟨c,f,_⟩:=d 0 (by omega);have F:a.add (0*P.cellsOf E)=a:=by simp[Addr.add]
    rw[F] at f;exact⟨a.block,a.off,(JN l f).1⟩
   have X:b<w.heap.size:=by
    obtain⟨c,f,_⟩:=d 0 (by omega);have F:(Addr.mk b o none).add (0*P.cellsOf E)=⟨b,o,none⟩:=by simp[Addr.add]
    rw[F] at f;have r:=JN l f;exact r.2.2.lt (by rw[r.2.1]; exact l)
   have q:∀k,k<=len->∃(cs:List Value) (s:List (j6 e)),s.length=k/\At w b o cs/\AllR (RT (Cn w) w e) cs s:=by
    intro k
    induction k with
    | zero=>exact fun _=>⟨[],[],rfl,Rw,rfl⟩
    | succ k Y =>
      intro hk;obtain⟨cs,s,r,v,u⟩:=Y (by omega);obtain⟨c,f,y,Q⟩:=d k (by omega);have t:(Addr.mk b o none).add (k*P.cellsOf E)=⟨b,o+k*P.cellsOf E,none⟩:=by
       unfold Addr.add;split
       ·rename_i G; rw[G]; rfl
       ·rfl
      rw[t] at f;have h4:=(JN l f).2.2;refine⟨cs++c,s++[y],by simp[r],v.app ?_,AllR.app (AllR.one Q) u⟩;have:cs.length=k*P.cellsOf E:=by rw[u.len (fun c x h=>RT.len h),r,W]
      rw[this]; exact h4
   obtain⟨cs,s,r,v,u⟩:=q len (Nat.le_refl _);subst r;exact⟨s,some ⟨b,o,none⟩,cap,rfl,hlc,m,.inr ⟨b,o,cs,rfl,X,v,u⟩⟩
theorem o0D{P:Program}{w:World}{H:Type}{enc:TypeId×Value->H}{sp:Nat->Bool}{v:Bool}{q:TypeId->Ty->Bool}
  (s:∀{T:TypeId} {y:Ty},q T y=true->∀{fuel:Nat} {cs:List Value} {x:DataW H×List MemPlace},DataW.trod enc P w 0 sp v fuel T cs=some x->∃z:j6 y,RT (Cn w) w y cs z) {cs:List Value} :
  ∀{fs:List Field} {off:Nat} {y:Ty},Dc P q off fs y=true->cs.length=off+sz y->(∀f∈fs,∃n x,DataW.trod enc P w 0 sp v n f.type ((cs.drop f.offset).take (P.cellsOf f.type))=some x)->∃z:j6 y,RT (Cn w) w y (cs.drop off) z:=by
 intro fs
 induction fs with
 | nil=>grind[Dc]
 | cons f r F =>
   intro off y h j l;cases r with
   | nil =>
     have h:(Nat.beq f.offset off&&Nat.beq (P.cellsOf f.type) (sz y)&&q f.type y)=true:=by
      cases y <;> exact h
     simp only[ba] at h;obtain⟨⟨i,d⟩,E⟩:=h;have i:=nb i;have d:=nb d;obtain⟨n,x,t⟩:=l f (by simp)
     grind[List.take_of_length_le,List.length_drop]
   | cons g X =>
     cases y with
     | pr a b =>
       simp only[Dc,ba] at h;obtain⟨⟨⟨i,d⟩,E⟩,G⟩:=h;have i:=nb i;have d:=nb d;obtain⟨n,x,t⟩:=l f (by simp);rw[i,d] at t;obtain⟨W,u⟩:=s E t;have c:cs.length=off+sz a+sz b:=by rw[j]; simp only[sz]; omega
       obtain⟨Q,o⟩:=F G c (fun V m=>l V (List.mem_cons_of_mem _ m));refine⟨(W,Q),(cs.drop off).take (sz a),cs.drop (off+sz a),?_,u,o⟩
       grind[List.drop_drop,List.take_append_drop]
     | int k=>grind[Dc]
     | bool=>grind[Dc]
     | str=>grind[Dc]
     | sl e=>grind[Dc]
     | pt e=>grind[Dc]
theorem v0d{P:Program}{w:World}{H:Type}{enc:TypeId×Value->H}{sp:Nat->Bool}{l:Bool}:∀{n:Nat} {T:TypeId} {y:Ty},Om P n T y=true->∀{fuel:Nat} {cs:List Value} {x:DataW H×List MemPlace},DataW.trod enc P w 0 sp l fuel T cs=some x->∃z:j6 y,RT (Cn w) w y cs z:=by
 intro n
 induction n with
 | zero=>intro T y h; cases h
 | succ n g =>
   intro T y h fuel cs x d;unfold Om at h;split at h
   ·rename_i k a;have c:y=.int k:=by simpa using h
    subst c;obtain⟨m,rfl,_,q⟩:=DataW.trod_int a d;refine⟨m,rfl,?_⟩;simp only[Lit.wf,ba,dq] at q
    grind[y0T]
   ·rename_i a;have c:y=.bool:=by simpa using h
    subst c;obtain⟨b,rfl,_⟩:=DataW.trod_bool a d;exact⟨b,rfl⟩
   ·rename_i a;have c:y=.str:=by simpa using h
    subst c;obtain⟨s,rfl,_,t⟩:=DataW.trod_string a d;exact⟨s,rfl,by grind[maxLen]⟩
   ·rename_i E a;split at h
    ·exact v0c (g h) a d
    grind
   ·rename_i u a;rw[ba] at h;obtain⟨j,r⟩:=m0N a d;have v:=nb h.1;have:=o0D (cs:=cs) (fun o=>g o) h.2 (by omega) (fun f e=>by
     obtain⟨i,hi,rfl⟩:=List.getElem_of_mem e;exact r i _ (by grind))
    grind
   grind
theorem I0q{w:World}:∀k,Cn w k->k<w.heap.size:=fun _ h=>h
theorem R0E{P:Program}{H:Type}{enc:TypeId×Value->H}{T E:TypeId}{y:Ty}{n:Nat}(b:Om P n T y=true)(g:P.underlying T=some (.slice E)){W:World}{r:Reach}{base:Nat}{v:Value}{d:DataW H}{p:List MemPlace}
  (i:Value.okWide P W r base T v) (h:DataW.Trod enc P W 0 (fun _=>true) true T v d p):∃x:j6 y,RT (Cn W) W y [v] x:=by
 obtain⟨a,j,k,rfl⟩:=WideShapes.okWide_slice g i;obtain⟨f,c⟩:=h;obtain⟨x,e⟩:=v0d b c;exact⟨x,e⟩
theorem WE.below{w w':World}(h:WE none w w'):Below w.heap.size w w':=⟨h.os,h.tape,h.output,h.size,fun k a=>h.block k a (by simp)⟩
theorem y0R{P:Program}{f:FuncId}{ps:List Par}{F:s9 ps->Option Bool}{Z:Bool->B6 ps}(h:Ok P (k6 f ps F (fun r=>.d true .bool r) Z)){w:World}{vs:List Value}{x:s9 ps}(i:ArgsR (Cn w) w none ps x vs)(b:F x=some true) :
  Calls P f vs.toArray w fun en w'=>en=.returned (.bool true)/\Below w.heap.size w w':=by
 refine Calls.mono (h.2 x (by show(F x).isSome=true; grind) w vs none (Cn w) I0q i) ?_;rintro en w' ⟨v,g,e,c,_,_,a,_⟩;refine⟨?_,WE.below c⟩;have a:RT _ w' .bool [v] (Xl.vl (F x))/\g=[]:=a;rw[b] at a;have j:[v]=[Value.bool true]:=a.1
 grind
theorem On{P:Program}{ops:Array Oper}{Q:Exit->Act->World->Prop}{o:Oper}{r:List Oper}{a:Act}{w:World}(b:N5 P ops Q o (wpList P ops Q r) a w):wpList P ops Q (o :: r) a w:=by
 grind[wpList,N5]
theorem r0X{P:Program}{n:Nat}{e:C4}{ty:TypeId}{w:World}{T T' E:TypeId}{x y:Operand}{q:Option Addr}{m c:Nat}(k:P.underlying T=some (.slice E))(j:Sv.ev e x=some (.slice q m c))(h:Sv.ev e y=some (.slice none 0 0)) :
  H4 P n e (.binOp .eql T x y T') ty w (.bool q.isNone) w:=by
 intro a i f b g d;have:=Lib.run_eql_slice_nil w T E q m c 0 0 k;simp only[execOp,d.ev j,d.ev h];simp[eqGuard,this,Result.andThen]
theorem q0l{X:Cx}{G:Gh}{a:Act}{ops:Array Oper}{Q:Exit->Act->World->Prop}{d:Nat}{b:Op}{ty:TypeId}{pos:String}{after:Array Edge}{v:Value}{K:Act->World->Prop}
  (h:∀dst pos after g,(execOp a.eval ⟨dst,b,ty,pos,after,g⟩).run X.P G.w=.ok (.value v) G.w) (c:K (a.put (some d) v) G.w):N5 X.P ops Q ⟨some d,b,ty,pos,after,none⟩ K a G.w:=by
 unfold N5;have e:Region.wanted ⟨some d,b,ty,pos,after,none⟩ (yielded ops a.tmps)=true:=rfl;rw[if_pos e];unfold Oper.wp;rw[h (some d) pos after none];exact c
theorem x0g{X:Cx}{st:St}{Q:Exit->Act->World->Prop}{id T E g c i:Nat}{F z T':TypeId}{y W:String}{aF aA:Array Edge}{f:Bool}{e:Ty}{xs:List (j6 e)}
  (hU:X.P.underlying T=some (.slice E)) (h0:b9 st.e g=some ⟨[],.d f (.sl e) xs⟩) (aJ:K5 st.e=true) (h3:Nat.blt c X.n=true) (h4:Nat.blt i X.n=true)
  (ht:xs=[]->FX X ⟨(i,⟨[],.d true .bool true⟩) :: (c,⟨[],.d f (.sl e) xs⟩) :: st.e,st.o⟩ .normal Q) (hf:FX X ⟨(i,⟨[],.d true .bool false⟩) :: (c,⟨[],.d f (.sl e) xs⟩) :: st.e,st.o⟩ .normal Q) :
  VX X st (.region id [⟨some c,.move (.tmp g),F,y,aF,none⟩,⟨some i,.binOp .eql T (.tmp c) (.const (.slice none 0 0)) T',z,W,aA,none⟩].toArray false) Q:=by
 intro G a S ho hE;have h3:c<X.n:=by simpa using h3
 have h4:i<X.n:=by simpa using h4
 refine wp_region_lit ?_;have hu:=(hE.val g _ h0).1 (fun _ h=>by cases h);have aC:=hu;obtain⟨q,j,hv,aG,V,aB⟩:=aC;simp only[List.cons.injEq,and_true] at hv;have aK:a.eval (.tmp g)=a.tmps.getD g undef:=rfl;obtain⟨v,u,m⟩:M6 X G a (.move (.tmp g)) F (.d f (.sl e) xs):=B8 hE [.tmp g] (v:=a.eval (.tmp g)) (Cb (by grind[AR,K1])) (by grind);refine On (q0l u ?_);have aH:∀(t:Nat) (s:Sl),b9 st.e t=some s->∀d,∀x∈s.p,x.1≠d:=fun t s hs d x hx=>by grind[Bc]
 have Y:=EnvR.put (st:=st) (p:=[]) (r:=.d f (.sl e) xs) hE h3 (fun _ h=>by cases h) (fun t s hs=>aH t s hs c) (v:=v) ⟨fun _=>m,fun h=>(h (fun _ h=>by cases h)).elim⟩;have H:=m;obtain⟨q,j,hv,aG,V,aB⟩:=H;simp only[List.cons.injEq,and_true] at hv;have aI:(a.put (some c) v).eval (.tmp c)=.slice q xs.length j:=by
  show(a.put (some c) v).tmps.getD c undef=_;rw[Sc (by rw[hE.size]; exact h3),if_pos rfl,hv]
 have hx:Sv.ev (D5 (a.put (some c) v) [.tmp c]) (.tmp c)=some (.slice q xs.length j):=by rw[K1 (by simp),aI]
 obtain⟨v2,k,aD⟩:M6 X G (a.put (some c) v) (.binOp .eql T (.tmp c) (.const (.slice none 0 0)) T') z (.d true .bool q.isNone):=B8 (st:=⟨(c,⟨[],.d f (.sl e) xs⟩) :: st.e,st.o⟩) Y [.tmp c] (r0X hU hx rfl) rfl;refine On (q0l k ?_);have l:∀b,q.isNone=b->EnvR X.n G ((i,⟨[],.d true .bool b⟩) :: (c,⟨[],.d f (.sl e) xs⟩) :: st.e) ((a.put (some c) v).put (some i) v2):=fun b hb=>EnvR.put (st:=⟨(c,⟨[],.d f (.sl e) xs⟩) :: st.e,st.o⟩) (p:=[]) Y h4 (fun _ h=>by cases h) (fun t s hs x hx=>by
   grind[lK]) ⟨fun _=>hb ▸ aD,fun h=>(h (fun _ h=>by cases h)).elim⟩
 show Q .normal _ G.w;cases hq:q with
 | none =>
   refine ht ?_ G _ S ho (l true (by grind))
   grind
 | some ad=>exact hf G _ S ho (l false (by grind))
end Go.Proofs.Xv
end
section
namespace Go.Proofs.Xv
open Go Go.RowKit Go.Proofs.Sv Go.Proofs.Xl
theorem CD{X:Cx}{st:St}{x:Exit}{Q:Exit->Act->World->Prop}(id:Nat)(st':St)(h:Gq id st=some st')(c:Nat.blt id 500000=true)(k:FX X st' x Q):FX X st x Q:=fun G a S g e=>by
 obtain⟨j,i,b,f,d⟩:=YK h c S g e;have:=k j a i b d
 grind
theorem m0P{X:Cx}{G:Gh}{a:Act}{ops:Array Oper}{Q:Exit->Act->World->Prop}{d f:Nat}{b:Op}{ty:TypeId}{pos:String}{after:Array Edge}{vs:Array Value}{K:Act->World->Prop}
  (h:∀dst pos after g,(execOp a.eval ⟨dst,b,ty,pos,after,g⟩).run X.P G.w=.ok (.enter f vs) G.w) (c:Calls X.P f vs G.w fun en w'=>∃v,en=.returned v/\K (a.put (some d) v) w'):N5 X.P ops Q ⟨some d,b,ty,pos,after,none⟩ K a G.w:=by
 unfold N5;have e:Region.wanted ⟨some d,b,ty,pos,after,none⟩ (yielded ops a.tmps)=true:=rfl;rw[if_pos e];unfold Oper.wp;rw[h (some d) pos after none];refine Calls.mono c ?_
 grind
end Go.Proofs.Xv
end
section
namespace Go.Proofs.Xl
class Alw where
 alp:{ζ ρ:Type}->(ζ->Prop)->(ζ->Option ρ)->Option ρ
 alp_some:∀{ζ ρ:Type} {p:ζ->Prop} {f:ζ->Option ρ} {r:ρ},alp p f=some r->∀z,p z->f z=some r
 alp_of:∀{ζ ρ:Type} {p:ζ->Prop} {f:ζ->Option ρ} {r:ρ} (z:ζ),p z->(∀z,p z->f z=some r)->alp p f=some r
 alp_u:∀{ζ:Type} {p:ζ->Prop} {f:ζ->Option Unit},(∀z,p z->f z=some ())->alp p f=some ()
theorem alw:Nonempty Alw:=by
 classical
 refine⟨⟨fun p f=>if h:∃r,∀z,p z->f z=some r then some h.choose else none,?_,?_,?_⟩⟩
 ·intro b a p f r H z hz;split at H
  ·grind
  grind
 ·intro b a p f r z hz h;have c:∃r,∀z,p z->f z=some r:=⟨r,h⟩
  grind
 ·simp_all
end Go.Proofs.Xl
namespace Go.Proofs.Xv
open Go Go.RowKit Go.Proofs.Sv Go.Proofs.Xl
def YO(P:Program)(f:FuncId)(ps:List Par){ζ:Type}(pre:s9 ps->Prop)(post:ζ->Prop)(res:ζ->s9 ps->FY ps):Prop:=Ar P f=true/\∀(x:s9 ps),pre x->∀(w:World) (vs:List Value) (go:Option Nat) (K:Nat->Prop),(∀k,K k->k<w.heap.size)->ArgsR K w go ps x vs ->
 Calls P f vs.toArray w fun en w'=>∃z,post z/\Kc ⟨f,ps,res z⟩ x w go K en w'
theorem okE{P:Program}{Γ:p5}(aF:x9 P Γ){f:FuncId}{ps:List Par}{ζ:Type}{pre:s9 ps->Prop}{post:ζ->Prop}{d:ζ->s9 ps->FY ps}{F:Func}{l:Code}{n:Nat}(rs:List ResultVar)(hf:P.funcs[f]?=some F)(hn:F.ntmps=n)(hb:F.body=some l)(hr:F.results=rs.toArray)(he:Ar P f=true)(g:(Nat.ble ps.length n&&Ab ps&&!F4 ps)=true)
  (h:∀y x,Xv.wfs ps x->pre x->(cx P n y).base=(cx P n y).w0.heap.size->∀Q,(∀z st,post z->Gm Γ st rs (d z x).r ps (d z x).z->FX (cx P n y) st .normal Q/\FX (cx P n y) st .ret Q)->VX (cx P n y) ⟨L5 0 ps x,H7 0 ps x⟩ l Q):YO P f ps pre post d:=by
 refine⟨he,fun x aA w H m K hK V=>?_⟩;simp only[ba] at g;obtain⟨⟨g,Y⟩,q⟩:=g;have q:¬F4 ps=true:=by simpa using q
 have g:=Nat.le_of_ble_eq_true g;have aG:=V.len;refine calls_of_wp hf hb ?_;have:=h ⟨w,fun k=>m=some k,K,HY (r6 0 ps m),M0 ps w⟩ x V.wfs aA (Yu q) (bodyPost P F fun en w'=>∃z,post z/\Kc ⟨f,ps,d z⟩ x w m K en w') (fun z st aD aC=>?_) (CZ K w m (Au ps H) (M0 ps w) (H7 0 ps x)) { tmps:=H.toArray++Array.replicate (F.ntmps-H.toArray.size) undef,defers:=[] } (m0x hK V) rfl ⟨rfl,by grind,fun t s ht=>?_⟩
 ·exact this
 ·have aB:∀G a,Sat (cx P n ⟨w,fun k=>m=some k,K,HY (r6 0 ps m),M0 ps w⟩) G->G.o=st.o->EnvR n G st.e a->a.defers=[]/\∃v,(results F a.tmps).run P G.w=.ok v G.w/\∃z,post z/\Kc ⟨f,ps,d z⟩ x w m K (.returned v) G.w:=fun G a S X W=>by
   obtain⟨h1,v,h2,h3⟩:=YA (c:=⟨f,ps,d z⟩) aF Y V hr aC G a S X W
   grind
  exact⟨fun G a S X W=>aB G a S X W,fun G a S X W=>aB G a S X W⟩
 ·obtain⟨_,a2,u,a3,a4⟩:=DU (i:=0) (o:=H7 0 ps x) (r0:=Au ps H) (B:=M0 ps w) (g0:=m) Y V (fun _=>rfl) (fun z hz=>by
   rcases Gl (i:=0) V with ⟨h0,_⟩ | ⟨j,b,T,t,z',cs,h0,_⟩ | ⟨j,E,t,xs,cs,h0,_⟩
   ·grind
   ·rw[h0] at hz ⊢;cases List.mem_singleton.1 hz;rw[lK,if_pos rfl]
   grind) t s ht
  rw[a2];refine⟨fun _=>?_,fun hn=>(hn (fun _ h=>by cases h)).elim⟩;have aH:t<H.length:=by
   rcases Nat.lt_or_ge t H.length with h' | h'
   ·exact h'
   ·grind
  rw[Array.getD_eq_getD_getElem?,Array.getElem?_append_left (by omega)]
  grind
abbrev kE(P:Program)(f:FuncId)(ps:List Par){ρ:Type}(pre:s9 ps->Prop)(post:ρ->Prop)(R:ρ->AV)(Z:ρ->B6 ps):Prop:=YO P f ps pre post (fun(e:ρ) _=>⟨True,R e,Z e⟩)
def N0n(X:Cx)(Γ:p5)(rs:List ResultVar)(ps:List Par){ρ:Type}(post:ρ->Prop)(R:ρ->AV)(Z:ρ->B6 ps)(x:Exit)(Q:Exit->Act->World->Prop):Prop :=
 ∀{st:St} (e:ρ),post e->Og Γ st rs ps (R e) (Z e)=some (R e,Z e)->FX X st x Q
theorem GZ{P:Program}{Γ:p5}(i:x9 P Γ){f:FuncId}{ps:List Par}{ρ:Type}{F:s9 ps->Option Unit}{pre:s9 ps->Prop}{post:ρ->Prop}{R:ρ->AV}{Z:ρ->B6 ps}{d:Func}{a:Code}{n:Nat}(rs:List ResultVar)
  (m:∀x,Xv.wfs ps x->pre x->F x=some ()) (s:P.funcs[f]?=some d) (o:d.ntmps=n) (l:d.body=some a) (k:d.results=rs.toArray) (c:Ar P f=true) (g:(Nat.ble ps.length n&&Ab ps&&!F4 ps)=true)
  (h:∀y x r,F x=some r->(cx P n y).base=(cx P n y).w0.heap.size->∀Q,N0n (cx P n y) Γ rs ps post R Z .normal Q->N0n (cx P n y) Γ rs ps post R Z .ret Q->VX (cx P n y) ⟨L5 0 ps x,H7 0 ps x⟩ a Q):kE P f ps pre post R Z :=
 okE i rs s o l k c g fun y x q b t Q j=>h y x () (m x q b) t Q (fun e b c=>(j e _ b (SE c)).1) (fun e b c=>(j e _ b (SE c)).2)
/- What all data of a result are. -/
mutual
def HC:AV->Prop
 | .d _ t x=>wf t x
 | .agg xs=>SO xs
 | .tup xs=>SO xs
 | .ow _ _ t xs=>wf (.sl t) xs
 | _=>True
def SO:List AV->Prop
 | []=>True
 | a :: r=>HC a/\SO r
end
def DY:(ps:List Par)->B6 ps->Prop
 | [],_=>True
 | .io _ t :: _,z=>wf t z
 | .dat _ :: r,z=>DY r z
 | .agg _ :: r,z=>DY r z
 | .fn _ _ :: r,z=>DY r z
 | .nof _ :: r,z=>DY r z
 | .nil :: r,z=>DY r z
 | .os _ _ :: r,z=>DY r z
mutual
theorem ResR.wf{K:Bool->Nat->Prop}{w:World}:∀{a:AV} {u:Value} {gs:List (Option Nat)},ResR K w a u gs->HC a
 | .v _,_,_,_=>trivial
 | .d _ _ _,_,_,h=>RT.wf h.1
 | .agg _,_,_,⟨_,_,h⟩=>ResRs.wf h
 | .tup _,_,_,⟨_,_,h⟩=>ResRs.wf h
 | .ow _ _ _ _,_,_,⟨_,_,_,_,h1,h2⟩=>B0K h1 h2
 | .ob _ _,_,_,_=>trivial
 | .ptr _ _,_,_,_=>trivial
 | .pel ..,_,_,_=>trivial
 | .os _ _,_,_,_=>trivial
 | .fn _ _,_,_,_=>trivial
 | .gel _ _,_,_,_=>trivial
 | .og _,_,_,_=>trivial
theorem ResRs.wf{K:Bool->Nat->Prop}{w:World}:∀{as':List AV} {us:List Value} {gs:List (Option Nat)},ResRs K w as' us gs->SO as'
 | [],_,_,_=>trivial
 | _ :: _,_,_,⟨_,_,_,_,_,_,h1,h2⟩=>⟨ResR.wf h1,ResRs.wf h2⟩
end
theorem IOR.wf{K:Nat->Prop}{w:World}{go:Option Nat}:∀{ps:List Par} {z:B6 ps},IOR K w go ps z->DY ps z
 | [],_,_=>trivial
 | .io _ _ :: _,_,⟨_,_,_,_,h⟩=>RT.wf h
 | .dat _ :: r,_,h=>IOR.wf (ps:=r) h
 | .agg _ :: r,_,h=>IOR.wf (ps:=r) h
 | .fn _ _ :: r,_,h=>IOR.wf (ps:=r) h
 | .nof _ :: r,_,h=>IOR.wf (ps:=r) h
 | .nil :: r,_,h=>IOR.wf (ps:=r) h
 | .os _ _ :: r,_,h=>IOR.wf (ps:=r) h
def Z0(ps:List Par){ρ:Type}(post:ρ->Prop)(R:ρ->AV)(Z:ρ->B6 ps)(z:ρ):Prop:=post z/\HC (R z)/\DY ps (Z z)
def YP(st:St)(ps:List Par)(f:FuncId):Op->Option (s9 ps×List Nat×Option Nat)
 | .call ⟨.value x,xs,_⟩=>match rd st [] x,L9 st [] xs.toList with
   | some (.fn g caps),some as'=>bif Nat.beq g f then L4 st.o ps (as'++caps) else none
   | _,_=>none
 | _=>none
def YQ(st:St)(d:Nat){ps:List Par}(res:s9 ps->FY ps)(x:s9 ps)(l:List Nat)(io:Option Nat):Option St :=
 bif CV st.o (H5 d 0 (res x).r).2.1&&(Cg l||(BB (res x).r&&isNone io)) then some ⟨(d,⟨[],(H5 d 0 (res x).r).1⟩) :: st.e,((H5 d 0 (res x).r).2.1++As st.o ps (res x).z io)++st.o⟩ else none
theorem I0a{X:Cx}{G:Gh}{a:Act}{st:St}{ops:Array Oper}{Q:Exit->Act->World->Prop}{K:Act->World->Prop}{f:FuncId}{ps:List Par}{ζ:Type}{pre:s9 ps->Prop}{post:ζ->Prop}{i:ζ->s9 ps->FY ps}(hk:YO X.P f ps pre post i)(S:Sat X G)(ho:G.o=st.o)(W:EnvR X.n G st.e a)
  {d:Nat} {op:Op} {ty:TypeId} {pos:String} {after:Array Edge} (H:¬F4 ps=true) {x:s9 ps} {l:List Nat} {io:Option Nat} (b:YP st ps f op=some (x,l,io)) (aA:NO l io=true) (hd:d<X.n) (hs:∀t s,b9 st.e t=some s->∀x∈s.p,x.1≠d)
  (E:pre x) (hK:∀z,post z->HC (i z x).r->DY ps (i z x).z->∃st',YQ st d (i z) x l io=some st'/\∀a' G',Sat X G'->G'.o=st'.o->EnvR X.n G' st'.e a'->K a' G'.w):N5 X.P ops Q ⟨some d,op,ty,pos,after,none⟩ K a G.w:=by
 unfold YP at b;split at b
 ·rename_i x0 xs Ts;split at b
  ·rename_i g aD aG h1 h2;rw[ce] at b;split at b
   ·rename_i j;have j:g=f:=nb j;subst j;obtain⟨cs,hv,hc⟩:=D0 W (p:=[]) (fun _ h=>by cases h) h1;have hA:=AX W (p:=[]) (fun _ h=>by cases h) h2;rw[<- ho] at b;obtain⟨Y,go,aB,y⟩:=r0i S (d:=d) (AVRs.app hc hA) H b aA;obtain⟨q,k⟩:=hk
    haveI:Rs X.P g:=⟨q⟩
    refine m0P (f:=g) (fun aF pos after gg=>?_) (Calls.mono (k x E G.w _ go _ Y aB) ?_)
    ·have m:xs.map a.eval=(xs.toList.map a.eval).toArray:=by rw[<- Array.toList_map]
     simp only[execOp,resolve,m,hv];simp[Deferred.ofValue,invoke,Xs]
    ·rintro en w' ⟨z,hz,c⟩;obtain⟨_,_,_,_,_,_,F,u⟩:=c;have T:=ResR.wf F;have V:=IOR.wf u;have c:Kc ⟨g,ps,i z⟩ x G.w go (Y3 G l) en w':=⟨_,_,by omega,by omega,by omega,by omega,F,u⟩;obtain⟨st',m,e2⟩:=hK z hz T V;unfold YQ at m;rw[ce] at m;split at m
     ·rename_i hb;rw[ba,<- ho] at hb;cases m;obtain⟨v,G',rfl,rfl,hS,hL,hO,aC⟩:=y (i z) hb en w' c;refine⟨v,rfl,e2 _ G' hS (by grind) ?_⟩;exact EnvR.put (p:=[]) (W.mono hL) hd (fun _ h=>by cases h) hs ⟨fun _=>aC,fun h=>(h (fun _ h=>by cases h)).elim⟩
     grind
   grind
  grind
 grind
theorem SP{n:Nat}:∀{a b:List Oper} {i:Nat} {seen:List Nat},I7 n i seen (a++b)=true->I7 n i seen a=true/\∃sn,I7 n (i+a.length) sn b=true/\(∀d∈seen,d∈sn)/\∀o∈a,∀d,o.dst=some d->d∈sn
 | [],b,i,seen,h=>⟨rfl,seen,by grind,fun _ h=>h,fun _ h=>by cases h⟩
 | o :: r,b,i,seen,h=>by
   simp only[List.cons_append,I7,ba] at h ⊢;obtain⟨⟨k,f⟩,c⟩:=h;obtain⟨e,sn,g,j,k4⟩:=SP c
   grind
theorem YR{l:List Oper}{i:Nat}{o:Oper}(h:B9 l i=some o):l=l.take i++o :: l.drop (i+1)/\i<l.length/\(l.take i).length=i:=by
 have h:=XY h
 grind[hi,Nat.lt_or_ge,List.getElem?_eq_none,List.length_take,List.getElem?_eq_getElem,List.drop_eq_getElem_cons,List.take_append_drop]
section
variable {X:Cx} {Γ:p5} {T:List Ct}
theorem n0A(bG:x9 X.P Γ)(hT:∀c∈T,Ok X.P c){l:List Oper}{recs:List A7}{ol:Oper}{st:St}{Q:Exit->Act->World->Prop}(hl:recs.map (·.o)++[ol]=l)(aU:Ge Γ T l st recs)(bC:∀t s,b9 st.e t=some s->s.p=[])
  (bB:I7 X.n 0 [] l=true) (aA:O9 0 l=true) (E:DT (H6 [] l) recs=true) (bR:∀k,k<recs.length->M7 k ((B9 (H6 [] l) recs.length).getD [])=true) (bJ:∀G' a',Sat X G'->G'.o=(recs.foldl C5 st).o->EnvR X.n G' (recs.foldl C5 st).e a'->∀K:Act->World->Prop,(∀a2 w2,Q .normal a2 w2->K a2 w2)->N5 X.P l.toArray Q ol K a' G'.w) :
  ∀(fuel:Nat) (listed:Array Bool) (G:Gh) (a:Act),((List.range l.length).filter fun i=>!listed.getD i true).length<=fuel->listed.size=l.length->listed.getD recs.length false=false->DS (fun k=>listed.getD k false) l->Sat X G->(∀id,b9 G.o id=b9 (A3 (fun k=>listed.getD k false) 0 recs st).o id) ->
   EnvR X.n G (A3 (fun k=>listed.getD k false) 0 recs st).e a->wpAny X.P .any l.toArray Q fuel listed a G.w:=by
 have cA:recs.length+1=l.length:=by rw[<- hl]; simp
 have aO:l[recs.length]?=some ol:=by rw[<- hl,List.getElem?_append_right (by simp)]; simp
 have bU:∀(j:Nat) (R:A7),recs[j]?=some R->l[j]?=some R.o:=fun j R h=>by
  have hj:j<recs.length:=by
   rcases Nat.lt_or_ge j recs.length with h' | h'
   ·exact h'
   ·rw[List.getElem?_eq_none h'] at h; cases h
  rw[<- hl,List.getElem?_append_left (by simpa using hj),List.getElem?_map,h]; rfl
 have bO:∀(j:Nat) (o:Oper),j<recs.length->l[j]?=some o->∃R,recs[j]?=some R/\R.o=o:=fun j o hj h=>by
  grind
 have aV:=Si (all:=l) (rest:=l) (acc:=[]) (fun j=>by simp) aA (fun i m h=>by grind);have aH:=Sj bB;have bA:∀(i:Nat) (o:Oper) (k:Nat),l[i]?=some o->k∈O8 o->k<i:=by
  have:∀{m:List Oper} {i:Nat},O9 i m=true->∀j o k,m[j]?=some o->k∈O8 o->k<i+j:=by
   intro m
   induction m with
   | nil=>grind
   | cons o0 r ih =>
     intro i h j o k hj u;simp only[O9,ba,List.all_eq_true] at h;cases j with
     | zero=>simp only[List.getElem?_cons_zero,oi] at hj; subst hj; have:=h.1 k u; simpa using this
     | succ j=>grind
  intro i o k f H;have:=this aA i o k f H; omega
 -- all is done: the end
 have aL:∀(fuel:Nat) (listed:Array Bool) (a:Act) (w:World),listed.size=l.length->(∀i,i<l.length->listed.getD i false=true)->Q .normal a w->wpAny X.P .any l.toArray Q fuel listed a w:=by
  intro fuel listed a w aX aD hq;have hr:Region.ready .any l.toArray listed=[]:=by
   cases hr:Region.ready .any l.toArray listed with
   | nil=>rfl
   | cons i r =>
     have hi:i∈Region.ready .any l.toArray listed:=by rw[hr]; simp
     obtain⟨f,o,H,_⟩:=mem_ready.1 hi;have bQ:i<l.length:=by
      rcases Nat.lt_or_ge i l.length with h | h
      ·exact h
      ·rw[List.getElem?_toArray,List.getElem?_eq_none h] at H; cases H
     have:=aD i bQ;have hs:i<listed.size:=by omega
     rw[Array.getD_eq_getD_getElem?,Array.getElem?_eq_getElem hs] at this f;simp only[Option.getD_some] at this f;rw[this] at f; cases f
  cases fuel with
  | zero=>exact⟨hr,hq⟩
  | succ fuel=>exact⟨fun _=>hq,fun i hi=>by grind⟩
 intro fuel
 induction fuel with
 | zero =>
   intro listed G a hf aX aF aB S hO hE;have bW:(List.range l.length).filter (fun i=>!listed.getD i true)=[]:=List.eq_nil_of_length_eq_zero (by omega);have:recs.length∈(List.range l.length).filter (fun i=>!listed.getD i true):=List.mem_filter.2 ⟨List.mem_range.2 (by omega),by
    grind⟩
   grind
 | succ fuel ih =>
   intro listed G a hf aX aF aB S hO hE;refine⟨fun hr=>False.elim ?_,fun i hi=>?_⟩
   · -- nothing is ready: all is done
     have aD:∀i,i<l.length->listed.getD i false=true:=by
      intro i
      induction i using Nat.strongRecOn with
      | ind i bI =>
        intro hi;cases h:listed.getD i false with
        | true=>rfl
        | false =>
          have:i∈Region.ready .any l.toArray listed:=mem_ready.2 ⟨by
           grind,l[i],by grind,fun e he hb=>bI e.on (bA i l[i] e.on (List.getElem?_eq_getElem hi) (Aa.2 ⟨e,he,hb,rfl⟩)) (by have:=bA i l[i] e.on (List.getElem?_eq_getElem hi) (Aa.2 ⟨e,he,hb,rfl⟩); omega)⟩
          rw[hr] at this; cases this
     have:=aD recs.length (by omega);rw[aF] at this; cases this
   ·obtain⟨aK,o,ho,cC⟩:=mem_ready.1 hi;rw[List.getElem?_toArray] at ho;have aY:i<l.length:=by
     rcases Nat.lt_or_ge i l.length with h | h
     ·exact h
     ·grind
    have aZ:listed.getD i false=false:=by
     have hs:i<listed.size:=by omega
     rw[Array.getD_eq_getD_getElem?,Array.getElem?_eq_getElem hs] at aK ⊢;exact aK
    -- what stands ahead of i is done
    have cB:∀k∈((B9 (H6 [] l) i).getD []),k<i/\listed.getD k false=true:=by
     intro k u;rw[W3] at u;cases hb:(H6 [] l)[i]? with
     | none=>grind
     | some m =>
       rw[hb] at u;obtain⟨g1,g2⟩:=aV i m hb;exact⟨g1 k u,g2 _ aB o ho (fun k' aM=>by obtain⟨e,he,bT,rfl⟩:=Aa.1 aM; grind) k u⟩
    by_cases bP:i=recs.length
    · -- the last one
      subst bP;rw[aO] at ho;cases ho;have hD:∀j,j<recs.length->listed.getD (0+j) false=true:=fun j hj=>by
       rw[Nat.zero_add]
       grind[P9]
      rw[Yb (D:=fun k=>listed.getD k false) hD] at hO hE;obtain⟨S',L'⟩:=S.congr (o':=(recs.foldl C5 st).o) (fun i=>(hO i).symm);have aI:=bJ ⟨G.ρ,G.γ,G.K,G.w,(recs.foldl C5 st).o,G.B,G.δ⟩ a S' rfl (hE.mono L') (wpAny X.P .any l.toArray Q fuel (listed.setIfInBounds recs.length true)) (fun a2 w2 hq=>aL fuel _ a2 w2 (by grind) (fun j hj=>by
       by_cases aR:j=recs.length
       ·subst aR;have hs:recs.length<listed.size:=by omega
        simp[hs]
       ·rw[getD_set_ne false (Ne.symm aR)];have:=hD j (by omega)
        rwa [Nat.zero_add] at this) hq)
      unfold wpOp;rw[List.getElem?_toArray,aO];unfold N5 at aI;simp only;split
      ·grind
      ·grind
    obtain⟨R,hR,rfl⟩:=bO i o (by omega) ho;have bV:∀k,listed.getD k false=true->k<l.length->∀m∈((B9 (H6 [] l) k).getD []),m<k/\listed.getD m false=true:=by
     intro k u v m hm;rw[W3] at hm;cases hb:(H6 [] l)[k]? with
     | none=>grind
     | some b =>
       rw[hb] at hm;obtain⟨g1,g2⟩:=aV k b hb;exact⟨g1 m hm,g2 _ aB l[k] (List.getElem?_eq_getElem v) (fun k' aM=>aB k l[k] (List.getElem?_eq_getElem v) u k' aM) m hm⟩
    have bX:∀k,k<l.length->∀m∈((B9 (H6 [] l) k).getD []),m<k:=by
     intro k v m hm;rw[W3] at hm;cases hb:(H6 [] l)[k]? with
     | none=>grind
     | some b=>grind
    -- ordered with i: done exactly if earlier in the text
    have aG:∀k,k<l.length->k≠i->(M7 k ((B9 (H6 [] l) i).getD [])||M7 i ((B9 (H6 [] l) k).getD []))=true->listed.getD k false=decide (k<i):=by
     intro k v bZ h;rw[Bool.or_eq_true] at h;rcases h with h | h
     ·grind[P9]
     ·grind[P9]
    obtain⟨sj,aJ,bF,⟨q,aW,hq⟩,hg⟩:=Yc (i:=0) aU hR;rw[Nat.zero_add] at aJ
    -- the slots and objects that i looks at are as in the text's order
    have aS:∀t,t∈Ye R->b9 sj.e t=b9 (A3 (fun k=>listed.getD k false) 0 recs st).e t:=by
     intro t ht;rw[aJ];refine NQ (fun k R' u W=>?_) rfl;rw[Nat.zero_add];by_cases g:k=i
     ·grind
     ·have F:=Gg E u hR g;have v:k<l.length:=by
       rcases Nat.lt_or_ge k l.length with h | h
       ·exact h
       ·grind
      simp only[CY,ba] at F;have W:R'.o.dst=some t:=W;rw[W] at F;simp only[ba] at F;have f:=F.1.1;rw[Bool.or_eq_true] at f;rcases f with f | f
      ·grind[P9]
      ·exact(aG k v g (by omega)).symm
    have bD:∀id,id∈R.fp++R.obs.map Prod.fst->b9 sj.o id=b9 G.o id:=by
     intro id aN;rw[hO,aJ];refine NR (fun k R' u W=>?_) rfl;rw[Nat.zero_add];by_cases g:k=i
     ·grind
     ·have F:=Gg E u hR g;have v:k<l.length:=by
       rcases Nat.lt_or_ge k l.length with h | h
       ·exact h
       ·grind
      simp only[CY,ba] at F;have f:=F.2;rw[Bool.or_eq_true] at f;obtain⟨y,hy,bL⟩:=W;rcases f with f | f
      ·simp only[NS,List.all_eq_true] at f;have:=f id (by grind)
       grind[P9]
      ·exact(aG k v g (Bool.or_comm _ _ ▸ f)).symm
    have aT:∀x∈R.p,b9 sj.e x.1=b9 (A3 (fun k=>listed.getD k false) 0 recs st).e x.1:=fun x hx=>aS x.1 (List.mem_append.2 (.inr (List.mem_map_of_mem hx)));have bS:=g0T bF aT;have aP:Y4 Γ T ⟨(A3 (fun k=>listed.getD k false) 0 recs st).e,G.o⟩ R.p R.o=some (q,R.av,R.obs,R.fp) :=
     k0E (e:=sj.e) (o:=sj.o) (fun t ht=>aS t (List.mem_append.2 (.inl (m0Y ht)))) aW (fun id aN=>bD id (List.mem_append.2 (.inl aN)))
    have hd:∀d,R.o.dst=some d->d<X.n/\(∀x∈R.p,x.1≠d)/\∀t s,b9 (A3 (fun k=>listed.getD k false) 0 recs st).e t=some s->∀x∈s.p,x.1≠d:=by
     intro d hd;refine⟨(aH.1 i R.o d ho hd).1,fun x hx e=>?_,fun t s ht x hx e=>?_⟩
     ·have f:=NT E i R hR;rw[Nat.zero_add,ba] at f;have H:=f.1;simp only[Yf,hd] at H
      grind[P9]
     ·rcases Yh ht with h | ⟨k,Rk,u,Y,hsp⟩
      ·grind
      ·rw[Nat.zero_add] at Y;have g:i≠k:=fun e'=>by grind
       have v:k<l.length:=by
        rcases Nat.lt_or_ge k l.length with h | h
        ·exact h
        ·grind
       have F:=Gg E hR u g;simp only[CY,ba,hd] at F;have H:=F.1.2;rw[Bool.or_eq_true] at H;rcases H with H | H
       ·rw[P9.2 (List.mem_map.2 ⟨x,by rw[<- hsp]; exact hx,e⟩)] at H; cases H
       ·rw[(bV k Y v i (P9.1 H)).2] at aZ; cases aZ
    have V:∀k,(listed.setIfInBounds i true).getD k false=if k=i then true else listed.getD k false:=fun k=>by
     by_cases g:k=i
     ·subst g;have hs:k<listed.size:=by omega
      simp[hs]
     ·rw[if_neg g]; exact getD_set_ne false (Ne.symm g)
    have aI:=NP (st:=⟨(A3 (fun k=>listed.getD k false) 0 recs st).e,G.o⟩) (K:=wpAny X.P .any l.toArray Q fuel (listed.setIfInBounds i true)) bG hT (ops:=l.toArray) (all:=l) rfl (Q:=Q) S rfl hE bS aP (fun F=>hq (Yd (fun x hx=>(aT x hx).symm) F)) hg hd (fun a' G' S' _ bM bH=>by
     refine ih (listed.setIfInBounds i true) G' a' ?_ (by grind) (by grind) ?_ S' ?_ ?_
     ·have:((List.range l.length).filter fun j=>!(listed.setIfInBounds i true).getD j true).length < ((List.range l.length).filter fun j=>!listed.getD j true).length:=by
       refine Yg (fun j hj=>?_) ⟨i,List.mem_range.2 aY,by simp only[aK]; rfl,?_⟩
       ·by_cases aQ:i=j
        ·subst aQ;have hs:i<listed.size:=by omega
         simp[hs] at hj
        ·rwa [getD_set_ne true aQ] at hj
       ·have hs:i<listed.size:=by omega
        simp[hs]
      omega
     ·intro k o u Y m hm;simp only[V] at Y ⊢;by_cases bK:m=i
      ·grind
      ·rw[if_neg bK];by_cases g:k=i
       ·subst g;rw[ho] at u;cases u;obtain⟨e,he,bT,rfl⟩:=Aa.1 hm
        grind
       ·rw[if_neg g] at Y;exact aB k o u Y m hm
     ·intro id;rw[bM];by_cases W:Gf R id
      ·rw[Ya (D:=fun k=>(listed.setIfInBounds i true).getD k false) (st':=⟨[],G.o⟩) hR W (by grind) (fun k Rk bN u aC=>?_)]
       ·rfl
       ·rw[Nat.zero_add];simp only[V,if_neg (show k≠i by omega)];have v:k<l.length:=by
         rcases Nat.lt_or_ge k l.length with h | h
         ·exact h
         ·grind
        have F:=Gg E u hR (show k≠i by omega);simp only[CY,ba] at F;have f:=F.2;rw[Bool.or_eq_true] at f;obtain⟨y,hy,bL⟩:=aC;obtain⟨z,hz,bY⟩:=W;rcases f with f | f
        ·simp only[NS,List.all_eq_true] at f;have:=f id (by grind[List.mem_map_of_mem])
         grind[P9,List.mem_map_of_mem]
        grind
      ·have e1:=Sg ⟨[],G.o⟩ R id W;simp only[C5] at e1;rw[e1,hO];refine NR (fun k Rk u aC=>?_) rfl;rw[Nat.zero_add];simp only[V];rw[if_neg (fun e=>by grind)]
     ·refine bH.congr (fun t=>?_);by_cases W:DR R t
      ·have bE:=w0N aW W;rw[XZ (D:=fun k=>(listed.setIfInBounds i true).getD k false) (st':=⟨(A3 (fun k=>listed.getD k false) 0 recs st).e,G.o⟩) hR W bE (by grind) (fun k Rk bN u aC=>by
        have:=aH.2 i k R.o Rk.o t ho (bU k Rk u) W aC;omega)]
       rfl
      ·have e1:=Sf ⟨(A3 (fun k=>listed.getD k false) 0 recs st).e,G.o⟩ R t W;simp only[C5] at e1;rw[e1];refine NQ (fun k Rk u aC=>?_) rfl;rw[Nat.zero_add];simp only[V];rw[if_neg (fun e=>by grind)])
    unfold wpOp;rw[List.getElem?_toArray,ho];unfold N5 at aI;simp only;split
    ·grind
    grind
end
theorem YS{X:Cx}{st:St}{Q:Exit->Act->World->Prop}{Γ:p5}{T:List Ct}(u:x9 X.P Γ)(hT:∀c∈T,Ok X.P c){id i:Nat}{l:List Oper}(g:List Nat)(z:I7 X.n 0 [] l=true)(aK:K5 st.e=true){V:Prop}{f:St}{F:List A7}(h1:N8 Γ T l (l.take i) st []=some (V,f,F))(hV:V){o:Oper}(hn:B9 l i=some o)(_:K5 f.e=true)
  (aD:(∀d,o.dst=some d->d<X.n)->∀G a,Sat X G->G.o=f.o->EnvR X.n G f.e a->∀K:Act->World->Prop,(∀st2 W st3 rs3 G' a',K5 st2.e=true->N8 Γ T l (l.drop (i+1)) st2 []=some (W,st3,rs3)->W->FX X (cut g st3) .normal Q->Sat X G'->G'.o=st2.o->EnvR X.n G' st2.e a'->K a' G'.w)->N5 X.P l.toArray Q o K a G.w):VX X st (.region id l.toArray false) Q:=by
 intro G a S ho hE;obtain⟨el,aI,Y⟩:=YR hn;refine wp_region_lit ?_;have b:=z;rw[el] at b;obtain⟨k1,sn,q,-,k4⟩:=SP b;rw[Y,Nat.zero_add] at q;simp only[I7,ba] at q;obtain⟨⟨q,-⟩,k3⟩:=q;have aG:∀d,o.dst=some d->d<X.n:=fun d hd=>by
  rw[hd] at q;simp only[ba] at q;simpa using q.1
 obtain⟨h,e1,e2,e3⟩:=Bb (Ad (K:=fun k _=>k=f) h1 hV rfl);have aH:h.length=i:=by grind
 have:=HS u hT (ops:=l.toArray) (all:=l) rfl (Q:=Q) (rest:=o :: l.drop (i+1)) h 0 [] st G a (fun j hj=>by
   grind) (by grind) (fun j oj dj hj=>by omega) (fun t s ht x hx=>by grind[Bc]) e2 S ho hE
  (fun G1 a1 S1 y E=>by
    rw[e3] at y E;refine On (aD aG G1 a1 S1 y E _ fun st2 W st3 rs3 G2 a2 aJ g1 g2 g3 S2 aC H=>?_);obtain⟨m,f1,f2,f3⟩:=Bb (Ad (K:=fun k _=>k=st3) g1 g2 rfl);have:=HS u hT (ops:=l.toArray) (all:=l) rfl (Q:=Q) (rest:=[]) m (i+1) _ st2 G2 a2 (fun j hj=>by
      grind) (by rw[f1]; exact k3) (fun j oj dj hj q1 q2=>by
      grind) (fun t s ht x hx=>by grind[Bc]) f2 S2 aC H
     (fun G3 a3 S3 v r=>by
       rw[f3] at v r;obtain⟨G4,S4,aA,aB,aF⟩:=Gj g S3 v r;have:=g3 G4 a3 S4 aA aF
       rwa [aB] at this)
    grind)
 grind
def N0e(n:Nat)(Γ:p5)(T:List Ct)(l:List Oper)(i:Nat)(f:FuncId)(ps:List Par)(st:St):Option (Prop×St×Nat×s9 ps×List Nat×Option Nat) :=
 bif I7 n 0 [] l&&K5 st.e&&!F4 ps then(match N8 Γ T l (l.take i) st [] with
  | some (V,st1,_)=>(match B9 l i with
    | some ⟨some d,op,_,_,_,none⟩=>bif K5 st1.e then(match YP st1 ps f op with
      | some (x,m,io)=>bif NO m io then some (V,st1,d,x,m,io) else none
      | none=>none) else none
    | _=>none)
  | none=>none) else none
def YT(Γ:p5)(T:List Ct)(l:List Oper)(i:Nat)(keep:List Nat){ps:List Par}(res:s9 ps->FY ps)(st1:St)(d:Nat)(x:s9 ps)(m:List Nat)(io:Option Nat):Option (Prop×St):=match YQ st1 d res x m io with
 | some st2=>bif K5 st2.e then(match N8 Γ T l (l.drop (i+1)) st2 [] with
   | some (W,st3,_)=>some (W,cut keep st3)
   | none=>none) else none
 | none=>none
def Oo(n:Nat)(Γ:p5)(T:List Ct)(l:List Oper)(i:Nat)(keep:List Nat)(f:FuncId){ps:List Par}(pre:s9 ps->Prop)(res:s9 ps->FY ps)(st:St):Option (Prop×Prop×St):=match N0e n Γ T l i f ps st with
 | some (V,st1,d,x,m,io)=>(match YT Γ T l i keep res st1 d x m io with
   | some (W,st3)=>some (V/\pre x,W,st3)
   | none=>none)
 | none=>none
theorem K3{V:Prop}[Decidable V]{ρ:Type}{e:Option ρ}{r:ρ}{C:Prop}(H:gd V e=some r)(k:e=some r->C):V/\C:=⟨(L7 H).1,k (L7 H).2⟩
theorem zE[Alw]{P:Program}{n:Nat}{y:World×(Nat->Prop)×(Nat->Prop)×(Nat->Value->Prop)×Nat}{st:St}{Q:Exit->Act->World->Prop}{Γ:p5}{T:List Ct}{ρ:Type}{r:ρ}(v:x9 P Γ)(hT:∀c∈T,Ok P c){f:FuncId}{ps:List Par}{j:Type}[Inhabited j]{pre:s9 ps->Prop}{post:j->Prop}{R:j->AV}{Z:j->B6 ps}(hk:kE P f ps pre post R Z)
  (i:Nat) (e:List Nat) (S:j->St) (W:j->Prop) {V:Prop} [Decidable V] {g:j->Option ρ} {id:Nat} {l:List Oper} (H:gd V (Alw.alp (Z0 ps post R Z) g)=some r) (h:∀z,Oo n Γ T l i e f pre (fun _=>⟨True,R z,Z z⟩) st=some (V,W z,S z)) (hc:∀z,Z0 ps post R Z z->g z=some r->W z/\FX (cx P n y) (S z) .normal Q):VX (cx P n y) st (.region id l.toArray false) Q:=by
 obtain⟨hV,H0⟩:=L7 H;have HH:=Alw.alp_some H0;clear H0 H;have k:=h default;unfold Oo at k;split at k
 ·rename_i V' Y d x m io b;have aA:(V'/\pre x)=V:=by
   split at k
   ·grind
   ·cases k
  subst aA;have h2:∀z,YT Γ T l i e (fun _=>⟨True,R z,Z z⟩) Y d x m io=some (W z,S z):=fun z=>by
   grind[Oo]
  clear k h;unfold N0e at b;rw[ce] at b;split at b
  ·rename_i o;simp only[ba] at o;have q:¬F4 ps=true:=by simpa using o.2
   split at b
   ·rename_i V1 aC aD g1;split at b
    ·rename_i d' op ty aG w hn;rw[ce] at b;split at b
     ·rename_i u;split at b
      ·rename_i x' m' aF ha;rw[ce] at b;split at b
       ·rename_i F;simp only[oi,pj] at b;obtain⟨rfl,rfl,rfl,rfl,rfl,rfl⟩:=b;refine YS (X:=cx P n y) v hT e o.1.1 o.1.2 g1 hV.1 hn u fun aB G a S' ho hE K hK=>?_;refine I0a hk S' ho hE q ha F (aB _ rfl) (fun t s ht x hx=>by grind[Bc]) hV.2 fun z E hR hI=>?_;have hz:Z0 ps post R Z z:=⟨E,hR,hI⟩;have h3:=h2 z;unfold YT at h3
        grind
       grind
      grind
     grind
    grind
   grind
  grind
 grind
end Go.Proofs.Xv
end
section
namespace Go.Proofs.Xv
open Go Go.RowKit Go.Proofs.Sv Go.Proofs.Xl
def AllS{α:Type}(R:α->α->Prop):List α->List α->Prop
 | [],ys=>ys=[]
 | x :: r,ys=>∃y r',ys=y :: r'/\R x y/\AllS R r r'
def x7:(t:Ty)->j6 t->j6 t->Prop
 | .int _,_,_=>True
 | .bool,x,y=>y=x
 | .str,x,y=>y=x
 | .sl e,x,y=>AllS (x7 e) x y
 | .pt e,x,y=>x7 e x y
 | .pr a b,x,y=>x7 a x.1 y.1/\x7 b x.2 y.2
theorem AllS.refl{a:Type}{R:a->a->Prop}(h:∀x,R x x):∀xs:List a,AllS R xs xs
 | []=>rfl
 | x :: r=>⟨x,r,rfl,h x,AllS.refl h r⟩
theorem Kn:∀(t:Ty) (x:j6 t),x7 t x x
 | .int _,_=>trivial
 | .bool,_=>rfl
 | .str,_=>rfl
 | .sl e,x=>AllS.refl (Kn e) x
 | .pt e,x=>Kn e x
 | .pr a b,x=>⟨Kn a x.1,Kn b x.2⟩
theorem AllS.len{a:Type}{R:a->a->Prop}:∀{xs ys:List a},AllS R xs ys->ys.length=xs.length
 | [],_,h=>by rw[show _=[] from h]
 | _ :: _,_,⟨_,_,e,_,h⟩=>by rw[e,List.length_cons,List.length_cons,AllS.len h]
theorem AllS.all{a:Type}{R:a->a->Prop}{p q:a->Prop}(b:∀x y,R x y->p x->q y):∀{xs ys:List a},AllS R xs ys->(∀x∈xs,p x)->∀y∈ys,q y
 | [],_,h,_,y,hy=>by rw[show _=[] from h] at hy; cases hy
 | x :: r,_,⟨y',r',e,h1,h2⟩,hp,y,hy=>by
   subst e;rcases List.mem_cons.1 hy with rfl | hy
   ·grind
   ·exact AllS.all b h2 (fun x c=>hp x (by grind)) y hy
def Sim(k:IntKind)(u u':Value):Prop:=u'=u∨∃x x',u=.int k x/\u'=.int k x'/\lo k<=x'/\x'<=hi k
def Oq(k:IntKind)(w w':World):Prop:=∀b o u,w.cell? ⟨b,o,none⟩=some u->∃u',w'.cell? ⟨b,o,none⟩=some u'/\Sim k u u'
def SimL(k:IntKind):List Value->List Value->Prop
 | [],vs=>vs=[]
 | u :: r,vs=>∃u' r',vs=u' :: r'/\Sim k u u'/\SimL k r r'
theorem SimL.refl{k:IntKind}:∀us:List Value,SimL k us us
 | []=>rfl
 | u :: r=>⟨u,r,rfl,.inl rfl,SimL.refl r⟩
theorem SimL.split{k:IntKind}{b:List Value}:∀{a cs:List Value},SimL k (a++b) cs->∃a' b',cs=a'++b'/\SimL k a a'/\SimL k b b'
 | [],cs,h=>⟨[],cs,rfl,rfl,h⟩
 | u :: r,cs,⟨u',r',e,h1,h2⟩=>by
   obtain⟨a',b',f,d,c⟩:=SimL.split h2;exact⟨u' :: a',b',by grind,⟨u',a',rfl,h1,d⟩,c⟩
theorem At.sim{k:IntKind}{w w':World}(c:Oq k w w'){b:Nat}:∀{ds:List Value} {o:Nat},At w b o ds->∃ds',At w' b o ds'/\SimL k ds ds'
 | [],o,_=>⟨[],fun i u h=>by grind,rfl⟩
 | d :: r,o,h=>by
   obtain⟨a,j,f⟩:=At.sim c (At.tail h);obtain⟨e,m,g⟩:=c b o d (h 0 d rfl);refine⟨e :: a,fun i u l=>?_,e,a,rfl,g,f⟩;cases i with
   | zero=>grind
   | succ i =>
     have:=j i u (by grind)
     rwa [show o+1+i=o+(i+1) by omega] at this
theorem AllR.sim{k:IntKind}{a:Type}{R R':List Value->a->Prop}{S:a->a->Prop}(b:∀c c' x,SimL k c c'->R c x->∃x',R' c' x'/\S x x'):∀{cs cs':List Value} {xs:List a},SimL k cs cs'->AllR R cs xs->∃xs',AllR R' cs' xs'/\AllS S xs xs'
 | cs,cs',[],hs,h=>by
   rw[show cs=[] from h] at hs;exact⟨[],hs,rfl⟩
 | _,cs',x :: r,hs,⟨c,d,e,h1,h2⟩=>by
   subst e;obtain⟨c',g,rfl,o,m⟩:=hs.split;obtain⟨x',n,j⟩:=b c c' x o h1;obtain⟨f,i,l⟩:=AllR.sim b m h2;exact⟨x' :: f,⟨c',g,rfl,n,i⟩,x',f,rfl,j,l⟩
theorem SQ{k:IntKind}{u:Value}{cs:List Value}(h:SimL k [u] cs)(d:∀x,u≠.int k x):cs=[u]:=by
 obtain⟨e,c,rfl,b,a⟩:=h;rw[show c=[] from a];rcases b with rfl | ⟨x,_,rfl,_⟩
 ·rfl
 grind
theorem RT.sim{k:IntKind}{K:Nat->Prop}{w w':World}(n:Oq k w w'):∀{t:Ty} {cs cs':List Value} {x:j6 t},SimL k cs cs'->RT K w t cs x->∃x',RT K w' t cs' x'/\x7 t x x'
 | .int k0,cs,cs',x,f,h=>by
   obtain⟨rfl,l⟩:=h;obtain⟨Q,G,rfl,g,m⟩:=f;rw[show G=[] from m];rcases g with rfl | ⟨x0,x',e,rfl,q,h5⟩
   ·exact⟨x,⟨rfl,l⟩,trivial⟩
   ·cases e;exact⟨x',⟨rfl,q,h5⟩,trivial⟩
 | .bool,cs,cs',x,f,h=>by
   rw[show cs=_ from h] at f;exact⟨x,SQ f (fun _ h=>by cases h),rfl⟩
 | .str,cs,cs',x,f,h=>by
   rw[h.1] at f;exact⟨x,⟨SQ f (fun _ h=>by cases h),h.2⟩,rfl⟩
 | .sl e,cs,cs',xs,f,⟨p,cap,l,g,m,q⟩=>by
   rw[l] at f;have v:=SQ f (fun _ h=>by cases h);rcases q with rfl | ⟨b,o,ds,hp,hb,hat,hall⟩
   ·exact⟨[],⟨p,cap,v,g,m,.inl rfl⟩,rfl⟩
   ·obtain⟨j,s,u⟩:=At.sim n hat;obtain⟨y,r,i⟩:=AllR.sim (fun c z x f E=>RT.sim n (t:=e) f E) u hall;exact⟨y,⟨p,cap,by rw[v,i.len],by rw[i.len]; exact g,m,.inr ⟨b,o,j,hp,hb,s,r⟩⟩,i⟩
 | .pt e,cs,cs',x,f,⟨b,o,ds,l,hb,hat,g⟩=>by
   rw[l] at f;have v:=SQ f (fun _ h=>by cases h);obtain⟨j,s,u⟩:=At.sim n hat;obtain⟨x',r,i⟩:=RT.sim n (t:=e) u g;exact⟨x',⟨b,o,j,v,hb,s,r⟩,i⟩
 | .pr a b,cs,cs',x,f,⟨c,d,h,l,g⟩=>by
   subst h;obtain⟨z,H,rfl,m,q⟩:=f.split;obtain⟨F,s,u⟩:=RT.sim n (t:=a) m l;obtain⟨P,r,i⟩:=RT.sim n (t:=b) q g;exact⟨(F,P),⟨z,H,rfl,s,r⟩,u,i⟩
mutual
def HavA:AV->AV->Prop
 | .d fr t x,b=>bif D4 t then b=.d fr t x else ∃x',b=.d fr t x'/\x7 t x x'/\(wf t x->wf t x')
 | .agg xs,b=>∃ys,b=.agg ys/\HavAs xs ys
 | .tup xs,b=>∃ys,b=.tup ys/\HavAs xs ys
 | .fn f xs,b=>∃ys,b=.fn f ys/\HavAs xs ys
 | a,b=>b=a
def HavAs:List AV->List AV->Prop
 | [],ys=>ys=[]
 | x :: r,ys=>∃y r',ys=y :: r'/\HavA x y/\HavAs r r'
end
def HavO:Ob->Ob->Prop
 | .box T cs,b=>∃ds,b=.box T ds/\HavAs cs ds
 | .arr T fr t xs v,b=>bif D4 t then b=.arr T fr t xs v else ∃xs',b=.arr T fr t xs' v/\AllS (x7 t) xs xs'
 | a,b=>b=a
theorem C0a{fr:Bool}{t:Ty}{x:j6 t}{b:AV}:HavA (.d fr t x) b=(bif D4 t then b=.d fr t x else ∃x',b=.d fr t x'/\x7 t x x'/\(wf t x->wf t x')):=by grind[HavA]
theorem YU{T:TypeId}{fr:Bool}{t:Ty}{xs:List (j6 t)}{v:Nat}{b:Ob}:HavO (.arr T fr t xs v) b=(bif D4 t then b=.arr T fr t xs v else ∃xs',b=.arr T fr t xs' v/\AllS (x7 t) xs xs'):=rfl
def Ko:List (Nat×Sl)->List (Nat×Sl)->Prop
 | [],ys=>ys=[]
 | (t,⟨p,a⟩) :: r,ys=>∃b r',ys=(t,⟨p,b⟩) :: r'/\HavA a b/\Ko r r'
def HavL:List (Nat×Ob)->List (Nat×Ob)->Prop
 | [],ys=>ys=[]
 | (i,a) :: r,ys=>∃b r',ys=(i,b) :: r'/\HavO a b/\HavL r r'
def YV(a b:St):Prop:=∃e o,b=⟨e,o⟩/\Ko a.e e/\HavL a.o o
mutual
theorem HavA.refl:∀a,HavA a a
 | .d c t x=>by
   simp only[C0a,ce]
   grind[Kn]
 | .agg b=>⟨b,rfl,HavAs.refl b⟩
 | .tup b=>⟨b,rfl,HavAs.refl b⟩
 | .fn f b=>⟨b,rfl,HavAs.refl b⟩
 | .v _ | .ptr .. | .pel .. | .os .. | .ow .. | .gel .. | .og .. | .ob ..=>by grind[HavA]
theorem HavAs.refl:∀as,HavAs as as
 | []=>by grind[HavAs]
 | a :: r=>by unfold HavAs; exact⟨a,r,rfl,HavA.refl a,HavAs.refl r⟩
end
theorem HavO.refl:∀a,HavO a a
 | .box T b=>⟨b,rfl,HavAs.refl b⟩
 | .arr T d t c v=>by
   simp only[YU,ce]
   grind[AllS.refl,Kn]
 | .grd ..=>rfl
def L0z:Ob->Ob->Prop
 | .box T _,b=>∃ds,b=.box T ds
 | .arr T fr t _ v,b=>∃ys,b=.arr T fr t ys v
 | a,b=>b=a
theorem HavO.kind:∀{a b:Ob},HavO a b->L0z a b
 | .box _ _,_,⟨ds,h,_⟩=>⟨ds,h⟩
 | .arr _ _ _ xs _,b,h=>by
   rw[YU,ce] at h;split at h
   ·exact⟨xs,h⟩
   ·obtain⟨c,h,_⟩:=h; exact⟨c,h⟩
 | .grd ..,_,h=>h
theorem HavL.lk:∀{o o':List (Nat×Ob)},HavL o o'->∀i,(∀ob,b9 o i=some ob->∃ob',b9 o' i=some ob'/\HavO ob ob')/\(∀ob',b9 o' i=some ob'->∃ob,b9 o i=some ob/\HavO ob ob')
 | [],o',h,i=>by rw[show o'=[] from h]; exact⟨(fun _ h=>by cases h),fun _ h=>by cases h⟩
 | (j,a) :: r,_,⟨b,r',e,h1,h2⟩,i=>by
   subst e;rw[lK,lK];by_cases c:j=i
   ·grind
   ·rw[if_neg c,if_neg c];exact HavL.lk h2 i
def up(G:Gh)(w':World)(o':List (Nat×Ob)):Gh:=⟨G.ρ,G.γ,G.K,w',o',G.B,G.δ⟩
section
variable {k:IntKind} {G:Gh} {w':World} (hM:Oq k G.w w')
include hM
mutual
theorem AVR.sim:∀{a:AV} {u:Value},AVR G a u->∃b,HavA a b/\∀o',HavL G.o o'->AVR (up G w' o') b u
 | .v x,u,h=>⟨.v x,rfl,fun _ _=>h⟩
 | .d fr t x,u,h=>by
   simp only[C0a,ce];split
   ·rename_i n;exact⟨.d fr t x,rfl,fun _ _=>RT.free n h⟩
   ·obtain⟨m,c,g⟩:=RT.sim (K:=rg G fr) hM (SimL.refl [u]) h;exact⟨.d fr t m,⟨m,rfl,g,fun _=>RT.wf c⟩,fun _ _=>c⟩
 | .agg xs,u,⟨us,e,h⟩=>by
   obtain⟨j,c,g⟩:=AVRs.sim h;exact⟨.agg j,⟨j,rfl,c⟩,fun o' i=>⟨us,e,g o' i⟩⟩
 | .tup xs,u,⟨us,e,h⟩=>by
   obtain⟨j,c,g⟩:=AVRs.sim h;exact⟨.tup j,⟨j,rfl,c⟩,fun o' i=>⟨us,e,g o' i⟩⟩
 | .fn f xs,u,⟨us,e,h⟩=>by
   obtain⟨j,c,g⟩:=AVRs.sim h;exact⟨.fn f j,⟨j,rfl,c⟩,fun o' i=>⟨us,e,g o' i⟩⟩
 | .ptr id off,u,⟨⟨T,cs,c⟩,g⟩=>⟨.ptr id off,rfl,fun o' i=>by
    obtain⟨ob,k,l⟩:=(i.lk id).1 _ c;obtain⟨ds,rfl⟩:=l.kind;exact⟨⟨T,ds,k⟩,g⟩⟩
 | .pel id ver kk s off,u,⟨h0,T,fr,t,xs,ver',c,g,h3⟩=>⟨.pel id ver kk s off,rfl,fun o' i=>by
    obtain⟨ob,k,l⟩:=(i.lk id).1 _ c;obtain⟨j,rfl⟩:=l.kind;exact⟨h0,T,fr,t,j,ver',k,g,h3⟩⟩
 | .os id ver,u,⟨h0,T,fr,t,xs,ver',c,g,h3⟩=>⟨.os id ver,rfl,fun o' i=>by
    obtain⟨ob,k,l⟩:=(i.lk id).1 _ c;obtain⟨j,rfl⟩:=l.kind;exact⟨h0,T,fr,t,j,ver',k,g,h3⟩⟩
 | .gel id kk,u,⟨⟨T,Te,fr,t,xs,hole,c⟩,g⟩=>⟨.gel id kk,rfl,fun o' i=>by
    obtain⟨ob,k,l⟩:=(i.lk id).1 _ c;have:=l.kind;rw[show ob=_ from this] at k;exact⟨⟨T,Te,fr,t,xs,hole,k⟩,g⟩⟩
 | .og id,u,⟨h0,⟨T,Te,fr,t,xs,hole,c⟩,g⟩=>⟨.og id,rfl,fun o' i=>by
    obtain⟨ob,k,l⟩:=(i.lk id).1 _ c;have:=l.kind;rw[show ob=_ from this] at k;exact⟨h0,⟨T,Te,fr,t,xs,hole,k⟩,g⟩⟩
 | .ow ..,_,h=>h.elim
 | .ob ..,_,h=>h.elim
theorem AVRs.sim:∀{as':List AV} {us:List Value},AVRs G as' us->∃bs,HavAs as' bs/\∀o',HavL G.o o'->AVRs (up G w' o') bs us
 | [],us,h=>⟨[],by grind[HavAs],fun _ _=>h⟩
 | a :: r,us,⟨u,us',e,h1,h2⟩=>by
   obtain⟨b,g,f⟩:=AVR.sim h1;obtain⟨bs,i,d⟩:=AVRs.sim h2;have:=hM;exact⟨b :: bs,by unfold HavAs; grind,fun o' c=>⟨u,us',e,f o' c,d o' c⟩⟩
end
theorem ObR.sim{b:Nat}(l:WE (some b) G.w w'){id:Nat}:∀{ob:Ob},ObR G id ob->I2 (some ob)=false->G.γ id≠some b->∃ob',HavO ob ob'/\∀o',HavL G.o o'->ObR (up G w' o') id ob'
 | .box T cs,⟨b',us,h1,h2,h3,h4⟩,_,hb=>by
   obtain⟨ds,j,f⟩:=AVRs.sim hM h4;exact⟨.box T ds,⟨ds,rfl,j⟩,fun o' m=>⟨b',us,h1,h2,h3.we l (fun i e h=>by grind),f o' m⟩⟩
 | .arr T fr t xs v,⟨cs,h1,h2,h3⟩,_,hb=>by
   have a:=h1.we l (fun i e h=>by grind);simp only[YU,ce];split
   ·rename_i q;exact⟨.arr T fr t xs v,rfl,fun o' _=>⟨cs,a,h2.mapR (fun c x g=>RT.free q g),h3⟩⟩
   ·obtain⟨d,j,f⟩:=AllR.sim (k:=k) (R':=RT (rg G fr) w' t) (S:=x7 t) (fun c r x n g=>RT.sim hM n g) (SimL.refl cs) h2;exact⟨.arr T fr t d v,⟨d,rfl,f⟩,fun o' _=>⟨cs,by rw[f.len]; exact a,j,h3⟩⟩
 | .grd ..,_,h,_=>by cases h
theorem v0j{b:Nat}(g:WE (some b) G.w w')(c:∀id o,b9 G.o id=some o->ObR G id o)(n:∀id,I2 (b9 G.o id)=false)(f:∀id o,b9 G.o id=some o->G.γ id≠some b) :
  ∀l:List (Nat×Ob),∃l',HavL l l'/\∀i ob,b9 l i=some ob->b9 G.o i=some ob->∃ob',b9 l' i=some ob'/\∀o',HavL G.o o'->ObR (up G w' o') i ob'
 | []=>⟨[],rfl,fun _ _ h=>by cases h⟩
 | (j,a) :: r=>by
   obtain⟨d,k,t⟩:=v0j g c n f r;by_cases m:b9 G.o j=some a
   ·obtain⟨e,q,u⟩:=ObR.sim hM g (c j a m) (by grind) (f j a m);refine⟨(j,e) :: d,⟨e,d,rfl,q,k⟩,fun i ob hi s=>?_⟩;rw[lK] at hi ⊢
    grind
   ·refine⟨(j,a) :: d,⟨a,d,rfl,HavO.refl a,k⟩,fun i ob hi s=>?_⟩;rw[lK] at hi ⊢
    grind
end
theorem Sat.hav{X:Cx}{G:Gh}(S:Sat X G){k:IntKind}{w':World}(hM:Oq k G.w w'){b:Nat}(hw:Wr b G.w w')(hK:G.K b)(hb:X.w0.heap.size<=b)(hu:UF w' b)(hg:∀id,I2 (b9 G.o id)=false){e:List (Nat×Sl)}{a:Act}(hE:EnvR X.n G e a) :
  ∃o' e',HavL G.o o'/\Ko e e'/\Sat X (up G w' o')/\EnvR X.n (up G w' o') e' a:=by
 have j:=WE.of_wr hw;have aI:∀id o,b9 G.o id=some o->G.γ id≠some b:=fun id o z h=>S.imm id o b z h hK;obtain⟨o',h1,h2⟩:=v0j hM j S.obs hg aI G.o;have m:=h1.lk;have aJ:∀id,I2 (b9 o' id)=false:=fun id=>by
  cases h:b9 o' id with
  | none=>rfl
  | some u =>
    obtain⟨E,d,q⟩:=(m id).2 u h;have:=hg id;rw[d] at this;cases E with
    | box T cs=>obtain⟨ds,rfl⟩:=q.kind; rfl
    | arr T fr t xs v=>obtain⟨ds,rfl⟩:=q.kind; rfl
    | grd=>cases this
 have hS:Sat X (up G w' o'):=by
  refine⟨S.base,j.os.trans S.os,j.tape.trans S.tape,j.output.trans S.output,Nat.le_trans S.size j.size,fun i hi aK=>?_,fun id u aA=>?_,fun id Q u aC c z aD hc aH=>?_,fun id u c z hc=>?_,fun id u c z hc=>?_,fun i hi=>?_,S.kfrom,fun id c _ aB=>?_,fun i v h=>?_⟩
  ·rw[<- S.block i hi aK];exact hw.block i (by omega)
  ·obtain⟨E,d,q⟩:=(m id).2 u aA;obtain⟨aC,g3,g4⟩:=h2 id E d d;rw[show b9 o' id=some u from aA] at g3
   grind
  ·obtain⟨x,d,_⟩:=(m id).2 u z;obtain⟨x',q,_⟩:=(m Q).2 aC aD;exact S.inj id Q x x' c d q hc aH
  ·obtain⟨x,d,_⟩:=(m id).2 u z;exact S.imm id x c d hc
  ·obtain⟨x,d,_⟩:=(m id).2 u z;exact S.own id x c d hc
  ·by_cases e:i=b
   ·subst e;exact hu.g
   ·exact(S.klt i hi).same j.size (hw.block i e)
  ·rw[show b9 (up G w' o').o id=b9 o' id from rfl,aJ id] at aB;cases aB
  ·obtain⟨bb,d,q⟩:=AVR.sim hM (S.pin i v h);rw[show bb=_ from d] at q
   grind
 have aF:∀e:List (Nat×Sl),(∀t s,b9 e t=some s->(PathP s.p a->AVR G s.a (a.tmps.getD t undef))/\(¬PathP s.p a->a.tmps.getD t undef=undef))->∃e',Ko e e'/\∀t f,b9 e' t=some f->(PathP f.p a->AVR (up G w' o') f.a (a.tmps.getD t undef))/\(¬PathP f.p a->a.tmps.getD t undef=undef):=by
  intro e he
  -- the slots that are seen turn, the hidden ones stay
  have aL:∀l:List (Nat×Sl),∃y,Ko l y/\∀t s,b9 l t=some s->b9 e t=some s->∃f,b9 y t=some f/\(PathP f.p a->AVR (up G w' o') f.a (a.tmps.getD t undef))/\(¬PathP f.p a->a.tmps.getD t undef=undef):=by
   intro l
   induction l with
   | nil=>exact⟨[],rfl,fun _ _ h=>by cases h⟩
   | cons x r ih =>
     obtain⟨V,P,a0⟩:=x;obtain⟨Y,F,h4⟩:=ih;by_cases hv:b9 e V=some ⟨P,a0⟩/\PathP P a
     ·obtain⟨q1,q2⟩:=he V _ hv.1;obtain⟨a1,d,q⟩:=AVR.sim hM (q1 hv.2);refine⟨(V,⟨P,a1⟩) :: Y,⟨a1,Y,rfl,d,F⟩,fun t s H aG=>?_⟩;rw[lK] at H ⊢
      grind
     ·refine⟨(V,⟨P,a0⟩) :: Y,⟨a0,Y,rfl,HavA.refl a0,F⟩,fun t s H aG=>?_⟩;rw[lK] at H ⊢
      grind
  obtain⟨e',F,h4⟩:=aL e;refine⟨e',F,fun t f W=>?_⟩;have:∀{l y:List (Nat×Sl)},Ko l y->∀{f},b9 y t=some f->∃s,b9 l t=some s:=by
   intro l
   induction l with
   | nil=>intro y hl f h; rw[show y=[] from hl] at h; cases h
   | cons x r ih =>
     obtain⟨V,P,a0⟩:=x;rintro y ⟨b1,Y,rfl,d,q⟩ f h;rw[lK] at h ⊢
     grind
  obtain⟨s,H⟩:=this F W;obtain⟨s2,d,q⟩:=h4 t s H H;rw[W] at d;cases d;exact q
 obtain⟨e',F,h4⟩:=aF e hE.val;exact⟨o',e',h1,F,hS,hE.defers,hE.size,h4⟩
theorem p0g{w:World}{b:Nat}{a:Array Value}{T:TypeId}{k:IntKind}{o:Nat}{x y:Int}(j:w.heap[b]?=some (.cells a T (0,0)))(i:a[o]?=some (.int k x))(l:lo k<=y/\y<=hi k):Oq k w (w.setRow b (B7 a.toList o [.int k y]).toArray):=by
 intro d f u c;by_cases g:d=b
 ·subst g;unfold World.cell? at c ⊢;rw[show(⟨d,f,none⟩:Addr).block=d from rfl] at c ⊢;rw[j] at c;rw[setRow_heap w d a _ T (0,0) j];simp only[Option.isSome_none,Bool.false_eq_true,if_false] at c ⊢;have m:o<a.toList.length:=by
   rcases Nat.lt_or_ge o a.size with h | h
   ·omega
   ·grind
  rw[List.getElem?_toArray];unfold B7;rw[<- Array.getElem?_toList] at c i;by_cases e:f=o
  ·subst e;rw[i] at c;cases c;refine⟨.int k y,?_,.inr ⟨x,y,rfl,rfl,l⟩⟩
   grind
  ·refine⟨u,?_,.inl rfl⟩;rcases Nat.lt_or_ge f o with h | h
   ·rw[List.append_assoc,List.getElem?_append_left (by rw[List.length_take]; omega),List.getElem?_take_of_lt h];exact c
   ·rw[List.getElem?_append_right (by rw[List.length_append,List.length_take]; simp; omega),List.length_append,List.length_take,List.getElem?_drop,<- c];congr 1;simp only[List.length_cons,List.length_nil];omega
 ·unfold World.cell? at c ⊢;rw[show(⟨d,f,none⟩:Addr).block=d from rfl] at c ⊢;rw[Xu w b d _ g];exact⟨u,c,.inl rfl⟩
def Ot:Ty->Option IntKind
 | .int k=>some k
 | .pr a _=>Ot a
 | _=>none
theorem k0s{K:Nat->Prop}{w:World}{k:IntKind}:∀{t:Ty} {cs:List Value} {x:j6 t},Ot t=some k->RT K w t cs x->∃v,cs[0]?=some (.int k v)
 | .int k',cs,x,h,hr=>by
   cases h;exact⟨x,by rw[hr.1]; rfl⟩
 | .pr a b,cs,x,h,⟨c,d,e,h1,h2⟩=>by
   obtain⟨v,f⟩:=k0s (t:=a) h h1;refine⟨v,?_⟩;rw[e];cases c with
   | nil=>simp at f
   | cons y r=>simpa using f
def Ou:List (Nat×Ob)->Bool
 | []=>true
 | (_,.grd ..) :: _=>false
 | _ :: r=>Ou r
theorem YW:∀{o:List (Nat×Ob)},Ou o=true->∀i,I2 (b9 o i)=false
 | [],_,_=>rfl
 | (j,ob) :: r,h,i=>by
   rw[lK];cases ob with
   | grd=>cases h
   | box T a =>
     split
     ·rfl
     ·exact YW (o:=r) h i
   | arr =>
     split
     ·rfl
     ·exact YW (o:=r) h i
def evH(n:Nat)(Γ:p5)(T:List Ct)(l:List Oper)(i:Nat)(st:St):Option (Prop×St) :=
 bif I7 n 0 [] l&&K5 st.e then(match N8 Γ T l (l.take i) st [] with
  | some (V,st1,_)=>(match B9 l i with
    | some ⟨none,.store ti x y,_,_,_,none⟩=>(match rd st1 [] x,rd st1 [] y,b9 Γ ti with
      | some (.d true (.pt e) _),some (.d _ (.int k') _),some tt=>bif K5 st1.e&&Ou st1.o&&Nat.beq tt.size 1&&decide (Ot e=some k') then some (V,st1) else none
      | _,_,_=>none)
    | _=>none)
  | none=>none) else none
def N0c(Γ:p5)(T:List Ct)(l:List Oper)(i:Nat)(keep:List Nat)(st2:St):Option (Prop×St):=bif K5 st2.e then(match N8 Γ T l (l.drop (i+1)) st2 [] with
 | some (W,st3,_)=>some (W,cut keep st3)
 | none=>none) else none
theorem B0M{X:Cx}{G:Gh}{a:Act}{st:St}{Γ:p5}(H:x9 X.P Γ){ops:Array Oper}{Q:Exit->Act->World->Prop}{K:Act->World->Prop}(S:Sat X G)(ho:G.o=st.o)(V:EnvR X.n G st.e a)(j:X.base=X.w0.heap.size)
  {m ty:TypeId} {x y:Operand} {pos:String} {after:Array Edge} {k:IntKind} {e:Ty} {x0:j6 (.pt e)} {fr:Bool} {E:j6 (.int k)} {tt:TI} (hx:rd st [] x=some (.d true (.pt e) x0)) (he:Ot e=some k) (hy:rd st [] y=some (.d fr (.int k) E)) (ht:b9 Γ m=some tt) (hs:tt.size=1) (hg:Ou st.o=true)
  (hK:∀st' a' G',YV st st'->Sat X G'->G'.o=st'.o->EnvR X.n G' st'.e a'->K a' G'.w):N5 X.P ops Q ⟨none,.store m x y,ty,pos,after,none⟩ K a G.w:=by
 obtain⟨b,o,ds,g,⟨l,aA⟩,W,hd⟩:=D0 V (p:=[]) (fun _ h=>by cases h) hx;obtain⟨i,z⟩:=D0 V (p:=[]) (fun _ h=>by cases h) hy;obtain⟨v0,F⟩:=k0s he hd;have r:X.w0.heap.size<=b:=by
  have:=aA rfl;rw[S.base.1,j] at this;exact this
 obtain⟨f,T,c⟩:=(S.klt b l).2 r;have s:=W 0 _ F;rw[Nat.add_zero] at s;have t:f[o]?=some (.int k v0):=by
  unfold World.cell? at s;rw[show(⟨b,o,none⟩:Addr).block=b from rfl,c] at s;simpa using s
 have aC:o<f.size:=by
  rcases Nat.lt_or_ge o f.size with h | h
  ·exact h
  ·grind
 haveI:Info X.P m tt.size tt.bytes tt.zero:=⟨(H m _ ht).1⟩
 have hB:Blk G.w b f.toList T:=by unfold Blk; simpa using c
 have i:a.eval y=.int k E:=by simpa using i
 have g:a.eval x=.pointer (some ⟨b,o,none⟩):=by simpa using g
 have u:=Ru (P:=X.P) (T:=m) (o:=o) (vs:=[.int k E]) (v:=a.eval y) (by rw[i]; rfl) (by grind) rfl hB (by grind);have q:=RW (ty:=ty) g u;have hM:=p0g c t z;have aB:b<G.w.heap.size:=(S.klt b l).lt;obtain⟨o',e',h1,h2,h3,h4⟩:=S.hav hM (NE G.w b _) l r ⟨_,T,setRow_heap G.w b f _ T (0,0) c⟩ (fun id=>by grind[YW]) V;unfold N5;have Y:Region.wanted ⟨none,.store m x y,ty,pos,after,none⟩ (yielded ops a.tmps)=true:=rfl;rw[if_pos Y];unfold Oper.wp;rw[q none pos after none];exact hK ⟨e',o'⟩ _ _ ⟨e',o',rfl,h2,by grind⟩ h3 rfl h4
theorem zH[Alw]{P:Program}{n:Nat}{y:World×(Nat->Prop)×(Nat->Prop)×(Nat->Value->Prop)×Nat}{st:St}{Q:Exit->Act->World->Prop}{Γ:p5}{T:List Ct}{r:Unit}(f:x9 P Γ)(hT:∀c∈T,Ok P c)(d:(cx P n y).base=(cx P n y).w0.heap.size){e:Type}
  (i:Nat) (b:List Nat) (j:St) (E:e->St) (S:e->St) (W:e->Prop) {V:Prop} [Decidable V] {p:e->Prop} {g:e->Option Unit} {id:Nat} {l:List Oper} (H:gd V (Alw.alp p g)=some r) (h:evH n Γ T l i st=some (V,j)) (hS:∀st2,YV j st2->∃z,p z/\st2=E z)
  (h2:∀z,N0c Γ T l i b (E z)=some (W z,S z)) (hc:∀z,g z=some r->W z/\FX (cx P n y) (S z) .normal Q):VX (cx P n y) st (.region id l.toArray false) Q:=by
 obtain⟨hV,Y⟩:=L7 H;have HH:=Alw.alp_some Y;clear Y H;unfold evH at h;rw[ce] at h;split at h
 ·rename_i o;rw[ba] at o;split at h
  ·rename_i V1 F aA g1;split at h
   ·rename_i ti x yy ty aD v hn;split at h
    ·rename_i e0 x0 fr k y0 tt hx hy ht;rw[ce] at h;split at h
     ·rename_i m;simp only[ba,dq] at m;obtain⟨⟨⟨u,w⟩,s⟩,q⟩:=m;simp only[oi,pj] at h;obtain⟨rfl,rfl⟩:=h;refine YS (X:=cx P n y) f hT b o.1 o.2 g1 hV hn u fun _ G a S' ho hE K hK=>?_;refine B0M f S' ho hE d hx q hy ht (nb s) w fun t a' G' m aF aB aC=>?_;obtain⟨z,hz,rfl⟩:=hS t m;have h3:=h2 z;unfold N0c at h3
      grind
     grind
    grind
   grind
  grind
 grind
def N0b(n:Nat)(Γ:p5)(T:List Ct)(l:List Oper)(i:Nat)(st:St):Option (Prop×St) :=
 bif I7 n 0 [] l&&O9 0 l&&K5 st.e&&Nat.beq (i+1) l.length then(match N8 Γ T l (l.take i) st [] with
  | some (V,st1,rs1)=>bif DT (H6 [] l) rs1.reverse&&(List.range i).all fun k=>M7 k ((B9 (H6 [] l) i).getD []) then(match B9 l i with
    | some ⟨none,.store ti x y,_,_,_,none⟩=>(match rd st1 [] x,rd st1 [] y,b9 Γ ti with
      | some (.d true (.pt e) _),some (.d _ (.int k') _),some tt=>bif K5 st1.e&&Ou st1.o&&Nat.beq tt.size 1&&decide (Ot e=some k') then some (V,st1) else none
      | _,_,_=>none)
    | _=>none) else none
  | none=>none) else none
theorem Vl[Alw]{P:Program}{n:Nat}{y:World×(Nat->Prop)×(Nat->Prop)×(Nat->Value->Prop)×Nat}{st:St}{Q:Exit->Act->World->Prop}{Γ:p5}{T:List Ct}{r:Unit}(q:x9 P Γ)(hT:∀c∈T,Ok P c)[hm:K7 P](d:(cx P n y).base=(cx P n y).w0.heap.size){Y:Type}
  (i:Nat) (b:List Nat) (v:St) (E:Y->St) (S:Y->St) (W:Y->Prop) {V:Prop} [Decidable V] {p:Y->Prop} {g:Y->Option Unit} {id:Nat} {l:List Oper} (H:gd V (Alw.alp p g)=some r) (h:N0b n Γ T l i st=some (V,v)) (hS:∀st2,YV v st2->∃z,p z/\st2=E z)
  (h2:∀z,some (True,cut b (E z))=some (W z,S z)) (hc:∀z,g z=some r->W z/\FX (cx P n y) (S z) .normal Q):VX (cx P n y) st (.region id l.toArray true) Q:=by
 obtain⟨hV,H0⟩:=L7 H;have HH:=Alw.alp_some H0;clear H0 H;unfold N0b at h;rw[ce] at h;split at h
 ·rename_i hb;simp only[ba] at hb;obtain⟨⟨⟨aJ,aF⟩,aM⟩,aK⟩:=hb;have aV:i+1=l.length:=nb aK;split at h
  ·rename_i V1 F aC g1;rw[ce] at h;split at h
   ·rename_i aG;rw[ba,List.all_eq_true] at aG;split at h
    ·rename_i ti x yy ty aS aQ hn;split at h
     ·rename_i e0 x0 fr k y0 tt hx hy ht;rw[ce] at h;split at h
      ·rename_i hh;simp only[ba,dq] at hh;obtain⟨⟨⟨aU,aN⟩,aO⟩,aD⟩:=hh;simp only[oi,pj] at h;obtain⟨rfl,rfl⟩:=h;intro G a S' ho hE;obtain⟨el,aW,aT⟩:=YR hn;have aH:l.drop (i+1)=[]:=List.drop_eq_nil_of_le (by omega);rw[aH] at el;obtain⟨recs,e1,e2,e3,e4⟩:=Bb (Ad (K:=fun e rs=>e=F/\rs=aC) g1 hV ⟨rfl,rfl⟩);rw[List.append_nil] at e4;have m:recs.length=i:=by grind
       refine wp_region_any hm.h ?_;have u:Ext G.w { G.w with drawn:=G.w.drawn+1 }:=(Below.refl _ _).drew;obtain⟨S1,L1⟩:=S'.ext u;have t:∀{recs:List A7} {i:Nat} {st:St},A3 (fun k=>(Array.replicate l.length false).getD k false) i recs st=st:=by
        have aR:∀j,(Array.replicate l.length false).getD j false=false:=fun j=>by
         by_cases hj:j<l.length <;> simp[hj]
        intro recs
        induction recs with
        | nil=>intro i st; rfl
        | cons R r ih=>grind[A3]
       have:=n0A (X:=cx P n y) q hT (Q:=Q) (l:=l) (recs:=recs) (ol:=_) (st:=st) (by rw[e1]; exact el.symm) e2 (Bc aM) aJ aF (by grind) (fun k hk=>by grind) (fun G' a' S2 f s K hK=>by
         rw[e3] at f s;refine B0M q S2 f s d hx aD hy ht (nb aO) aN fun e a2 G2 hh aP aL aI=>hK _ _ ?_;obtain⟨z,hz,rfl⟩:=hS e hh;have h3:=h2 z;simp only[oi,pj] at h3;obtain⟨G3,S3,aB,aX,aA⟩:=Gj b aP aL aI;rw[h3.2] at aB aA;have:=(hc z (HH z hz)).2 G3 a2 S3 aB aA
         grind) l.length (Array.replicate l.length false) { G with w:={ G.w with drawn:=G.w.drawn+1 } } a
        (by grind) (by simp) (by rw[m]; simp[show i<l.length by omega]) (fun j o _ hD=>by
          by_cases hj:j<l.length
          ·simp[hj] at hD
          grind) S1 (fun id=>by grind) (by rw[t]; exact hE.mono L1)
       omega
      grind
     grind
    grind
   grind
  grind
 grind
def grd(j:Nat)(b:Bool)(o:Oper):Oper:={ o with guard:=some (j,b) }
theorem F0w{P:Program}{o:Oper}{j:Nat}{b:Bool}{a:Act}{w:World}{K:Act->World->Prop}{Q:Exit->Act->World->Prop}(h:o.wp P a w K Q):(grd j b o).wp P a w K Q:=h
theorem p0W{X:Cx}{Γ:p5}{T:List Ct}(v:x9 X.P Γ)(hT:∀c∈T,Ok X.P c){ops:Array Oper}{all:List Oper}(ha:ops=all.toArray){Q:Exit->Act->World->Prop}{rest:List Oper}{j:Nat}{oj:Oper}{y:Nat}{b f:Bool}(hj:B9 all j=some oj)(m:oj.dst=some y) :
  ∀(recs:List A7) (i:Nat) (seen:List Nat) (st:St) (G:Gh) (a:Act),(∀R∈recs,R.o.guard=none)->I7 X.n i seen (recs.map (·.o))=true->y∈seen->(∀t s,b9 st.e t=some s->∀x∈s.p,x.1∈seen)->b9 st.e y=some ⟨[],.d f .bool b⟩->Ge Γ T all st recs->Sat X G->G.o=st.o->EnvR X.n G st.e a ->
  (∀G' a',Sat X G'->G'.o=(recs.foldl C5 st).o->EnvR X.n G' (recs.foldl C5 st).e a'->wpList X.P ops Q rest a' G'.w)->wpList X.P ops Q (recs.map (fun R=>grd j b R.o)++rest) a G.w
 | [],i,seen,st,G,a,_,_,_,_,_,_,S,ho,hE,hK=>hK G a S ho hE
 | R :: r,i,seen,st,G,a,hgu,hreg,hdjs,hpath,hsl,⟨hp,⟨q,hab,hq⟩,hg,hrun⟩,S,ho,hE,hK=>by
   have u:=hgu R (by simp);have aC:R.p=[]:=by
    unfold BD at hp;rw[u] at hp;simpa using hp.symm
   simp only[List.map_cons,I7,ba] at hreg;obtain⟨⟨g,-⟩,Y⟩:=hreg;have k:∀d,R.o.dst=some d->d<X.n/\d ∉ seen:=fun d l=>by
    rw[l] at g;simp only[ba] at g;exact⟨by simp_all,HO g.2⟩
   have l:∀d,R.o.dst=some d->d<X.n/\(∀x∈R.p,x.1≠d)/\∀t s,b9 st.e t=some s->∀x∈s.p,x.1≠d:=fun d l=>⟨(k d l).1,fun x hx=>by grind,fun t s E x hx e=>(k d l).2 (e ▸ hpath t s E x hx)⟩
   have aA:∀{x:Nat},x∈seen->x∈(match R.o.dst with | some d=>d :: seen | none=>seen):=fun h=>by
    grind
   have z:=NP (K:=wpList X.P ops Q (r.map (fun R=>grd j b R.o)++rest)) v hT ha (Q:=Q) S ho hE hp hab hq hg l (fun a' G' S' _ F V=>by
    refine p0W (f:=f) v hT ha hj m r (i+1) _ (C5 st R) G' a' (fun R' aB=>hgu R' (by grind)) Y (aA hdjs) ?_ ?_ hrun S' F V hK
    ·intro t s E x hx;simp only[C5,Ci] at E;split at E
     ·grind[lK]
     grind
    ·simp only[C5,Ci];split
     ·rename_i d av H _;rw[lK,if_neg (fun(e:d=y)=>(k d H).2 (by grind))];omega
     omega)
   have hv:=(hE.val y _ hsl).1 (fun _ h=>by cases h);have e:=BA hv;have hy:=XU (a:=a) ha hj m;rw[e] at hy;simp only at hy;have hw:Region.wanted (grd j b R.o) (yielded ops a.tmps)=true:=by simp[Region.wanted,grd,hy]
   have W:Region.wanted R.o (yielded ops a.tmps)=true:=by simp[Region.wanted,u]
   unfold N5 at z;rw[if_pos W] at z;simp only[List.map_cons,List.cons_append];refine On ?_;unfold N5;rw[if_pos hw]
   grind[F0w]
def YX(dj:Nat)(b:Bool):List (Nat×AV)->List (Nat×Sl)->List (Nat×Sl)
 | [],e=>e
 | (d,v) :: r,e=>YX dj b r ((d,⟨[(dj,b)],v⟩) :: e)
def SR(n:Nat)(seen:List Nat):List Oper->List (Nat×AV)->Bool
 | [],[]=>true
 | o :: r,(d,_) :: s=>(match o.dst with | some d'=>Nat.beq d' d | none=>false)&&Nat.blt d n&&Gb d seen&&SR n (d :: seen) r s
 | _,_=>false
theorem m0A{X:Cx}{ops:Array Oper}{all:List Oper}(T:ops=all.toArray){Q:Exit->Act->World->Prop}{rest:List Oper}{j:Nat}{F:Oper}{c:Nat}{b f:Bool}(W:B9 all j=some F)(m:F.dst=some c) :
  ∀(l:List Oper) (dm:List (Nat×AV)) (seen:List Nat) (e:List (Nat×Sl)) (G:Gh) (a:Act),SR X.n seen l dm=true->c∈seen->(∀t s,b9 e t=some s->∀x∈s.p,x.1∈seen)->b9 e c=some ⟨[],.d f .bool (!b)⟩->EnvR X.n G e a ->
  (∀a',EnvR X.n G (YX c b dm e) a'->wpList X.P ops Q rest a' G.w)->wpList X.P ops Q (l.map (grd j b)++rest) a G.w
 | [],[],seen,e,G,a,_,_,_,_,hE,hK=>hK a hE
 | [],_ :: _,_,_,_,_,h,_,_,_,_,_=>by cases h
 | _ :: _,[],_,_,_,_,h,_,_,_,_,_=>by cases h
 | o :: r,(d,v) :: s,seen,e,G,a,h,hdjs,hpath,hsl,hE,hK=>by
   simp only[SR,ba] at h;obtain⟨⟨⟨H,y⟩,q⟩,Y⟩:=h;have u:o.dst=some d:=by
    split at H
    ·simp_all
    ·cases H
   have y:d<X.n:=by simpa using y
   have q:=HO q;have hv:=(hE.val c _ hsl).1 (fun _ h=>by cases h);have ev:=BA hv;have V:=XU (a:=a) T W m;rw[ev] at V;simp only at V;have hw:Region.wanted (grd j b o) (yielded ops a.tmps)=false:=by
    grind[Region.wanted,grd]
   simp only[List.map_cons,List.cons_append];refine On ?_;unfold N5;rw[if_neg (by grind)];have z:¬PathP [(c,b)] a:=fun hp=>by
    have:=hp (c,b) (by simp);simp only at this;rw[ev] at this;cases b <;> simp at this
   have E:EnvR X.n G ((d,⟨[(c,b)],v⟩) :: e) (a.put (grd j b o).dst undef):=by
    show EnvR X.n G _ (a.put o.dst undef);rw[u];exact EnvR.put (st:=⟨e,[]⟩) (p:=[(c,b)]) hE y (fun x g k=>by
     simp only[List.mem_singleton] at g;subst g;exact q (by rw[<- (show c=d from k)]; exact hdjs)) (fun t s i x g k=>q (k ▸ hpath t s i x g)) ⟨fun h=>(z h).elim,fun _=>rfl⟩
   exact m0A (f:=f) T W m r s (d :: seen) _ G _ Y (List.mem_cons_of_mem _ hdjs) (fun t s' i x g=>by
    rw[lK] at i;split at i
    ·cases i;simp only[List.mem_singleton] at g;subst g;exact List.mem_cons_of_mem _ hdjs
    ·exact List.mem_cons_of_mem _ (hpath t s' i x g)) (by
    rw[lK,if_neg (fun(k:d=c)=>q (by rw[k]; exact hdjs))];exact hsl) E hK
def SS(seen:List Nat)(e:List (Nat×Sl)):Bool:=e.all fun x=>x.2.p.all fun y=>M7 y.1 seen
theorem i0Z{a:List Nat}{e:List (Nat×Sl)}(h:SS a e=true):∀t s,b9 e t=some s->∀x∈s.p,x.1∈a:=by
 intro t s b x c;have:∃z∈e,z.2=s:=by
  clear h
  induction e with
  | nil=>cases b
  | cons y r d =>
    grind[lK,List.mem_cons_self,List.mem_cons_of_mem]
 obtain⟨z,hz,rfl⟩:=this
 grind[SS,List.all_eq_true,P9]
def Aw:List Oper->List Nat
 | []=>[]
 | o :: r=>match o.dst with
   | some d=>d :: Aw r
   | none=>Aw r
theorem YY{d:Nat}{l:List Oper}{o:Oper}(h:o∈l)(b:o.dst=some d):d∈Aw l:=by
 induction l with
 | nil=>cases h
 | cons x r a =>
   grind[Aw,List.mem_cons_self,List.mem_cons_of_mem]
def Gr(o:Oper):Oper:={ o with guard:=none }
def YZ(j:Nat)(b:Bool)(o:Oper):Bool:=match o.guard with
 | some (j',b')=>Nat.beq j j'&&(b==b')
 | none=>false
theorem E0n{j:Nat}{b:Bool}{o:Oper}(h:YZ j b o=true):grd j b (Gr o)=o:=by
 unfold YZ at h;split at h
 ·rename_i f c e;rw[ba] at h;have d:=nb h.1;have a:b=c:=by simpa using h.2
  subst d; subst a;unfold grd Gr;cases o
  grind
 grind
def N9(dj:Nat)(e:Bool)(st:St):St:=⟨(dj,⟨[],.d false .bool e⟩) :: st.e,st.o⟩
def Kp:List Nat->St->Option St
 | [],st=>some st
 | i :: r,st=>bif Nat.blt i 500000 then(match Gq i st with
   | some st'=>Kp r st'
   | none=>none) else none
theorem Za{X:Cx}{a:Act}:∀{ids:List Nat} {st st':St} {G:Gh},Kp ids st=some st'->Sat X G->G.o=st.o->EnvR X.n G st.e a->∃G',Sat X G'/\G'.o=st'.o/\G'.w=G.w/\EnvR X.n G' st'.e a
 | [],st,st',G,h,S,ho,hE=>by
   simp only[Kp,oi] at h
   grind
 | i :: r,st,st',G,h,S,ho,hE=>by
   unfold Kp at h;rw[ce] at h;split at h
   ·rename_i hi;split at h
    ·rename_i m f;obtain⟨q,g,c,k,b⟩:=YK f hi S ho hE;obtain⟨G3,s,d,l,j⟩:=Za h g c b
     grind
    grind
   grind
def SU(n:Nat)(Γ:p5)(T:List Ct)(l:List Oper)(i:Nat)(ids keep:List Nat)(st:St):Option (Prop×St) :=
 bif I7 n 0 [] l&&K5 st.e&&Nat.ble i l.length&&I7 n i (Aw (l.take i)) (l.drop i) then(match N8 Γ T l (l.take i) st [] with
  | some (V,st1,_)=>(match Kp ids st1 with
    | some st2=>bif K5 st2.e then(match N8 Γ T l (l.drop i) st2 [] with
      | some (W,st3,_)=>some (V/\W,cut keep st3)
      | none=>none) else none
    | none=>none)
  | none=>none) else none
theorem zF{P:Program}{n:Nat}{y:World×(Nat->Prop)×(Nat->Prop)×(Nat->Value->Prop)×Nat}{st:St}{Q:Exit->Act->World->Prop}{Γ:p5}{T:List Ct}{ρ:Type}{r:ρ}(k:x9 P Γ)(hT:∀c∈T,Ok P c)(i:Nat)(aD b:List Nat)(S':St){V:Prop}[Decidable V]{e:Option ρ}{id:Nat}{l:List Oper}(H:gd V e=some r)
  (h:SU n Γ T l i aD b st=some (V,S')) (hc:e=some r->FX (cx P n y) S' .normal Q):VX (cx P n y) st (.region id l.toArray false) Q:=by
 obtain⟨hV,H⟩:=L7 H;have hc:=hc H;unfold SU at h;rw[ce] at h;split at h
 ·rename_i hb;simp only[ba] at hb;obtain⟨⟨⟨E,aP⟩,aC⟩,aN⟩:=hb;split at h
  ·rename_i V1 aG aK g1;split at h
   ·rename_i aI g2;rw[ce] at h;split at h
    ·rename_i aM;split at h
     ·rename_i W aA aO g3;simp only[oi,pj] at h;obtain⟨rfl,rfl⟩:=h;intro G a S ho hE;have hi:i<=l.length:=Nat.le_of_ble_eq_true aC;have aL:(l.take i).length=i:=by rw[List.length_take]; omega
      refine wp_region_lit ?_;have u:=E;rw[<- List.take_append_drop i l] at u;obtain⟨k1,-⟩:=SP u;obtain⟨d,e1,e2,e3⟩:=Bb (Ad (K:=fun f _=>f=aG) g1 hV.1 rfl);have aJ:d.length=i:=by grind
      have:=HS (X:=cx P n y) k hT (ops:=l.toArray) (all:=l) rfl (Q:=Q) (rest:=l.drop i) d 0 [] st G a (fun q hq=>by
        rw[Nat.zero_add,<- List.getElem?_map,e1,List.getElem?_take_of_lt (by omega)]) (by grind) (fun q oq dq hq=>by omega) (fun t s ht x hx=>by grind[Bc]) e2 S ho hE
       (fun G1 a1 S1 v w=>by
         rw[e3] at v w;obtain⟨G2,S2,aB,aF,z⟩:=Za g2 S1 v w;rw[<- aF];obtain⟨g,f1,f2,f3⟩:=Bb (Ad (K:=fun f _=>f=aA) g3 hV.2 rfl);have:=HS (X:=cx P n y) k hT (ops:=l.toArray) (all:=l) rfl (Q:=Q) (rest:=[]) g i _ aI G2 a1 (fun q hq=>by
           rw[<- List.getElem?_map,f1,List.getElem?_drop]) (by rw[f1]; omega) (fun q oq dq hq q1 q2=>by
           refine YY (o:=oq) ?_ q2;rw[List.mem_iff_getElem?];exact⟨q,by grind⟩) (fun t s ht x hx=>by grind[Bc]) f2 S2 aB z
          (fun G3 a3 S3 m j=>by
            rw[f3] at m j;obtain⟨G4,S4,F,Y,aH⟩:=Gj b S3 m j;have:=hc G4 a3 S4 F aH
            rwa [Y] at this)
         grind)
      simp_all
     grind
    grind
   grind
  grind
 grind
def N0d(n:Nat)(Γ:p5)(T:List Ct)(l:List Oper)(i:Nat)(ids keep:List Nat)(st:St):Option (Prop×St) :=
 bif I7 n 0 [] l&&O9 0 l&&K5 st.e&&Nat.beq (i+1) l.length then(match N8 Γ T l (l.take i) st [] with
  | some (V,st1,rs1)=>bif DT (H6 [] l) rs1.reverse&&(List.range i).all fun k=>M7 k ((B9 (H6 [] l) i).getD []) then(match B9 l i with
    | some o=>(match o.dst,o.guard,Kp ids st1 with
      | none,none,some st2=>(match N8 Γ T l [o] st2 [] with
        | some (W,st3,_)=>some (V/\W,cut keep st3)
        | none=>none)
      | _,_,_=>none)
    | none=>none) else none
  | none=>none) else none
theorem zFD{P:Program}{n:Nat}{y:World×(Nat->Prop)×(Nat->Prop)×(Nat->Value->Prop)×Nat}{st:St}{Q:Exit->Act->World->Prop}{Γ:p5}{T:List Ct}{ρ:Type}{r:ρ}(x:x9 P Γ)(hT:∀c∈T,Ok P c)[hm:K7 P](i:Nat)(aC f:List Nat)(Y:St){V:Prop}[Decidable V]{e:Option ρ}{id:Nat}{l:List Oper}(H:gd V e=some r)
  (h:N0d n Γ T l i aC f st=some (V,Y)) (hc:e=some r->FX (cx P n y) Y .normal Q):VX (cx P n y) st (.region id l.toArray true) Q:=by
 obtain⟨hV,H⟩:=L7 H;have hc:=hc H;unfold N0d at h;rw[ce] at h;split at h
 ·rename_i hb;simp only[ba] at hb;obtain⟨⟨⟨aG,aB⟩,aI⟩,aH⟩:=hb;have aU:i+1=l.length:=nb aH;split at h
  ·rename_i V1 aJ aA g1;rw[ce] at h;split at h
   ·rename_i aD;rw[ba,List.all_eq_true] at aD;split at h
    ·rename_i o hn;split at h
     ·rename_i aK aR aX aP;split at h
      ·rename_i W b aW g3;simp only[oi,pj] at h;obtain⟨rfl,rfl⟩:=h;intro G a Y ho hE;obtain⟨el,aV,aT⟩:=YR hn;have aF:l.drop (i+1)=[]:=List.drop_eq_nil_of_le (by omega);rw[aF] at el;obtain⟨recs,e1,e2,e3,e4⟩:=Bb (Ad (K:=fun t rs=>t=aJ/\rs=aA) g1 hV.1 ⟨rfl,rfl⟩);rw[List.append_nil] at e4;have v:recs.length=i:=by grind
       obtain⟨m,f1,f2,f3⟩:=Bb (Ad (K:=fun t _=>t=b) g3 hV.2 rfl);obtain⟨R,rfl⟩:∃R,m=[R]:=by
        grind[List.length_map,List.length_eq_one_iff]
       simp only[List.map_cons,List.map_nil,List.cons.injEq,and_true] at f1;subst f1;obtain⟨q1,⟨q,q2,q3⟩,q4,_⟩:=f2;refine wp_region_any hm.h ?_;have F:Ext G.w { G.w with drawn:=G.w.drawn+1 }:=(Below.refl _ _).drew;obtain⟨S1,L1⟩:=Y.ext F;have E:∀{recs:List A7} {i:Nat} {st:St},A3 (fun k=>(Array.replicate l.length false).getD k false) i recs st=st:=by
        have aS:∀j,(Array.replicate l.length false).getD j false=false:=fun j=>by
         by_cases hj:j<l.length <;> simp[hj]
        intro recs
        induction recs with
        | nil=>intro i st; rfl
        | cons R r ih=>grind[A3]
       have:=n0A (X:=cx P n y) x hT (Q:=Q) (l:=l) (recs:=recs) (ol:=R.o) (st:=st) (by grind) e2 (Bc aI) aG aB (by grind) (fun k hk=>by grind) (fun G' a' S2 u z K hK=>by
         rw[e3] at u z;obtain⟨G2,S3,aO,aQ,aN⟩:=Za aP S2 u z;rw[<- aQ];refine NP (X:=cx P n y) (K:=K) x hT (ops:=l.toArray) (all:=l) rfl (Q:=Q) S3 aO aN q1 q2 q3 q4 (fun d hd=>by grind) fun a3 G3 S4 _ g s=>hK _ _ ?_;have f3:C5 aK R=b:=f3;have g:G3.o=b.o:=by rw[<- f3]; exact g
         have s:EnvR n G3 b.e a3:=by rw[<- f3]; exact s
         obtain⟨G5,S5,aM,aY,aL⟩:=Gj f S4 g s;have:=hc G5 a3 S5 aM aL
         grind) l.length (Array.replicate l.length false) { G with w:={ G.w with drawn:=G.w.drawn+1 } } a
        (by grind) (by simp) (by rw[v]; simp[show i<l.length by omega]) (fun j o _ hD=>by
          by_cases hj:j<l.length
          ·simp[hj] at hD
          grind) S1 (fun id=>by grind) (by rw[E]; exact hE.mono L1)
       omega
      grind
     grind
    grind
   grind
  grind
 grind
def Mq(P:Program)(f:FuncId)(T1:TypeId)(t1:Ty)(T2:TypeId)(t2:Ty)(ps:List Par)(F:j6 t1->j6 t2->s9 ps->Option (j6 t1×j6 t2)):Prop :=
 Ar P f=true/\D4 t1=true/\D4 t2=true/\∀x1 x2 xs z,F x1 x2 xs=some z->∀(w:World) (vs:List Value) (b1 b2:Nat) (cs1 cs2:List Value) (K:Nat->Prop),(∀k,K k->k<w.heap.size)->b1≠b2->¬K b1->¬K b2 ->
  Blk w b1 cs1 T1->RT K w t1 cs1 x1->Blk w b2 cs2 T2->RT K w t2 cs2 x2->ArgsR K w none ps xs vs ->
  Calls P f (.pointer (some ⟨b1,0,none⟩) :: .pointer (some ⟨b2,0,none⟩) :: vs).toArray w fun en w'=>en=.returned (.tuple #[])/\∃w1 ds1 ds2,WE (some b2) w w1/\Blk w1 b2 ds2 T2/\RT K w1 t2 ds2 z.2/\WE (some b1) w1 w'/\Blk w' b1 ds1 T1/\RT K w' t1 ds1 z.1
def SV(st:St)(f:FuncId)(T1:TypeId)(t1:Ty)(T2:TypeId)(t2:Ty)(ps:List Par):Op->Option ((Nat×Nat)×j6 t1×j6 t2×s9 ps)
 | .call ⟨.value x,xs,_⟩=>match rd st [] x,L9 st [] xs.toList with
   | some (.fn g []),some (.ptr i1 0 :: .ptr i2 0 :: as')=>bif Nat.beq g f&&!Nat.beq i1 i2 then(match L4 st.o [.io T1 t1] [.ptr i1 0],L4 st.o [.io T2 t2] [.ptr i2 0],L4 st.o ps as' with
     | some (x1,_,_),some (x2,_,_),some (y,[],none)=>some ((i1,i2),x1.1,x2.1,y)
     | _,_,_=>none) else none
   | _,_=>none
 | _=>none
def SW(st:St)(d:Nat)(T1:TypeId)(t1:Ty)(T2:TypeId)(t2:Ty)(i1 i2:Nat)(z:j6 t1×j6 t2):St:=⟨(d,⟨[],.tup []⟩) :: st.e,(i1,.box T1 (r5 false t1 z.1)) :: (i2,.box T2 (r5 false t2 z.2)) :: st.o⟩
theorem Sat.putB{X:Cx}{G:Gh}(S:Sat X G){id b:Nat}{T:TypeId}{t:Ty}{d:List AV}{w':World}{ds:List Value}{z:j6 t}(u:D4 t=true)(j:b9 G.o id=some (.box T d))(e:G.γ id=some b)(f:WE (some b) G.w w')(m:Blk w' b ds T){K:Nat->Prop}(q:RT K w' t ds z) :
  Sat X (G.put id (.box T (r5 false t z)) (G.ρ id) (some b) w')/\GLe G (G.put id (.box T (r5 false t z)) (G.ρ id) (some b) w'):=by
 have a:=S.obs id _ j;obtain⟨i,y,l,P,x,E⟩:=a;rw[e] at l;cases l;exact S.put (id:=id) (ob:=.box T (r5 false t z)) (r:=G.ρ id) (g:=some b) (w':=w') (go:=some b) ⟨(fun T F h=>⟨rfl,_,_,rfl⟩),(fun T n H s v h=>by grind),by rw[j]; rfl⟩
  (fun i c=>by grind) f (fun i c=>.inl c) (fun k=>⟨b,ds,by simp[Gh.put],by grind[Gh.put],m,AU (RT.free u q)⟩)
theorem r0m{o:List (Nat×Ob)}{T:TypeId}{t:Ty}{i:Nat}{x:s9 [.io T t]}{l:List Nat}{io:Option Nat}(h:L4 o [.io T t] [.ptr i 0]=some (x,l,io)):l=[]/\io=some i/\∃cs,b9 o i=some (.box T cs):=by
 cases hA:Cf o (.io T t) (.ptr i 0) with
 | none=>grind[L4]
 | some r =>
   obtain⟨y,d,b⟩:=r;simp only[L4,hA] at h;have a:(match b9 o i with
    | some (.box c cs)=>bif Nat.beq T c then(match F8 o 24 t cs with
      | some (x,[],_)=>some (x,([]:List Nat),some i)
      | _=>none) else none
    | _=>none)=some (y,d,b):=hA
   split at a
   ·rename_i c cs e;rw[ce] at a
    grind[nb,oi,pj]
   grind
theorem B0N{X:Cx}{G:Gh}{a:Act}{st:St}{ops:Array Oper}{Q:Exit->Act->World->Prop}{K:Act->World->Prop}{f:FuncId}{W:TypeId}{m:Ty}{H:TypeId}{j:Ty}{ps:List Par}{F:j6 m->j6 j->s9 ps->Option (j6 m×j6 j)}(v:Mq X.P f W m H j ps F)(S:Sat X G)(ho:G.o=st.o)(hE:EnvR X.n G st.e a)
  {d:Nat} {op:Op} {ty:TypeId} {pos:String} {after:Array Edge} {i1 i2:Nat} {x1:j6 m} {x2:j6 j} {y:s9 ps} (c:SV st f W m H j ps op=some ((i1,i2),x1,x2,y)) (hd:d<X.n) (hs:∀t s,b9 st.e t=some s->∀x∈s.p,x.1≠d)
  {z:j6 m×j6 j} (hz:F x1 x2 y=some z) (hK:∀a' G',Sat X G'->G'.o=(SW st d W m H j i1 i2 z).o->EnvR X.n G' (SW st d W m H j i1 i2 z).e a'->K a' G'.w):N5 X.P ops Q ⟨some d,op,ty,pos,after,none⟩ K a G.w:=by
 obtain⟨aA,f1,f2,u⟩:=v;unfold SV at c;split at c
 ·rename_i x0 xs Ts;split at c
  ·rename_i g r l bG h1 h2;rw[ce] at c;split at c
   ·rename_i aC;rw[ba,Bool.not_eq_true'] at aC;have hg:g=f:=nb aC.1;have q:r≠l:=fun e=>by
     simp_all
    subst hg;split at c
    ·rename_i y1 l1 bF y2 l2 bD y3 a1 a2 a3;simp only[oi,pj] at c;obtain⟨⟨rfl,rfl⟩,rfl,rfl,rfl⟩:=c;obtain⟨cs,hv,hc⟩:=D0 hE (p:=[]) (fun _ h=>by cases h) h1;have hA:=AX hE (p:=[]) (fun _ h=>by cases h) h2;obtain⟨u1,bH,aW,aT,aV⟩:=hA;obtain⟨u2,aD,aJ,aX,bA⟩:=aV;rw[<- ho] at a1 a2 a3;have i:∀id∈([]:List Nat),∃ob,b9 G.o id=some ob:=fun _ h=>by cases h
     obtain⟨rfl,rfl,k1,o1⟩:=r0m a1;obtain⟨rfl,rfl,k2,o2⟩:=r0m a2;obtain⟨_,bK,r1,q1⟩:=JS S i a1 (fun _ h=>by cases h) (fun _ _ h=>by cases h) (us:=[u1]) ⟨u1,[],rfl,aT,rfl⟩;obtain⟨_,bE,r2,q2⟩:=JS S i a2 (fun _ h=>by cases h) (fun _ _ h=>by cases h) (us:=[u2]) ⟨u2,[],rfl,aX,rfl⟩;obtain⟨_,aI,r3,q3⟩:=JS S i a3 (fun _ h=>by cases h) (fun _ h=>by cases h) bA;have aL:aI=none:=by
      rcases q3 with ⟨_,e⟩ | ⟨_,_,_,_,e,_⟩ | ⟨_,_,_,_,_,_,e,_⟩
      ·exact e
      ·cases e
      ·cases e
     subst aL;obtain⟨V,aF,v1,e1,bL,aN,B1,R1,-⟩:=r1;obtain⟨E,aR,v2,e2,bI,aZ,B2,R2,-⟩:=r2;have aB:G.γ r=some V:=by
      rcases q1 with ⟨e,_⟩ | ⟨id,b,T,cs',e,eb,h3,h4⟩ | ⟨_,_,_,_,_,_,_,_,_,e⟩
      ·cases e
      ·grind
      ·cases e
     have aG:G.γ l=some E:=by
      rcases q2 with ⟨e,_⟩ | ⟨id,b,T,cs',e,eb,h3,h4⟩ | ⟨_,_,_,_,_,_,_,_,_,e⟩
      ·cases e
      ·grind
      ·cases e
     have hb:V≠E:=fun e=>q (S.inj r l _ _ V o1 o2 aB (by grind));have aH:∀k,Y3 G [] k->k<G.w.heap.size:=fun k v=>by
      rcases v with v | ⟨_,v,_⟩
      ·exact(S.klt k v).lt
      grind
     have hC:=u _ _ _ _ hz G.w aD V E aF aR (Y3 G []) aH hb aN aZ B1 R1 B2 R2 r3
     haveI:Rs X.P g:=⟨aA⟩
     refine m0P (f:=g) (fun bC pos after gg=>?_) (Calls.mono hC ?_)
     ·have e3:xs.map a.eval=(xs.toList.map a.eval).toArray:=by rw[<- Array.toList_map]
      have aS:cs=[]:=hc;have eu:xs.toList.map a.eval=.pointer (some ⟨V,0,none⟩) :: .pointer (some ⟨E,0,none⟩) :: aD:=by
       rw[aW,aJ];simp only[List.cons.injEq] at e1 e2;rw[e1.1,e2.1]
      simp only[execOp,resolve,e3,eu,hv,aS];simp[Deferred.ofValue,invoke,Xs]
     ·rintro en w' ⟨rfl,w1,bJ,bB,aQ,aO,aU,aY,aP,aM⟩;obtain⟨S1,L1⟩:=S.putB f2 o2 aG aQ aO aU;have aK:b9 (G.put l (.box H (r5 false j z.2)) (G.ρ l) (some E) w1).o r=some (.box W k1):=by
       show b9 ((l,_) :: G.o) r=_;rw[lK,if_neg (Ne.symm q)];exact o1
      have Y:(G.put l (.box H (r5 false j z.2)) (G.ρ l) (some E) w1).γ r=some V:=by
       simp only[Gh.put,if_neg q];exact aB
      obtain⟨S2,L2⟩:=S1.putB f1 aK Y aY aP aM;refine⟨_,rfl,hK _ _ S2 (by show(r,_) :: (l,_) :: G.o=_; rw[ho]; rfl) ?_⟩;exact EnvR.put (p:=[]) ((hE.mono L1).mono L2) hd (fun _ h=>by cases h) hs ⟨fun _=>⟨[],rfl,rfl⟩,fun h=>(h (fun _ h=>by cases h)).elim⟩
    grind
   grind
  grind
 grind
def N0g(n:Nat)(Γ:p5)(T:List Ct)(l:List Oper)(i:Nat)(f:FuncId)(T1:TypeId)(t1:Ty)(T2:TypeId)(t2:Ty)(ps:List Par)(st:St):Option (Prop×St×Nat×(Nat×Nat)×j6 t1×j6 t2×s9 ps) :=
 bif I7 n 0 [] l&&K5 st.e then(match N8 Γ T l (l.take i) st [] with
  | some (V,st1,_)=>(match B9 l i with
    | some ⟨some d,op,_,_,_,none⟩=>bif K5 st1.e then(match SV st1 f T1 t1 T2 t2 ps op with
      | some (ii,x1,x2,xs)=>some (V,st1,d,ii,x1,x2,xs)
      | none=>none) else none
    | _=>none)
  | none=>none) else none
def N0f(Γ:p5)(T:List Ct)(l:List Oper)(i:Nat)(keep:List Nat)(st2:St):Option (Prop×St):=bif K5 st2.e then(match N8 Γ T l (l.drop (i+1)) st2 [] with
    | some (W,st3,_)=>some (W,cut keep st3)
    | none=>none) else none
def ev2(n:Nat)(Γ:p5)(T:List Ct)(l:List Oper)(i:Nat)(keep:List Nat)(f:FuncId)(T1:TypeId)(t1:Ty)(T2:TypeId)(t2:Ty)(ps:List Par)(st:St)(z:j6 t1×j6 t2):Option (Prop×(j6 t1×j6 t2×s9 ps)×Prop×St):=match N0g n Γ T l i f T1 t1 T2 t2 ps st with
 | some (V,st1,d,ii,x1,x2,xs)=>(match N0f Γ T l i keep (SW st1 d T1 t1 T2 t2 ii.1 ii.2 z) with
   | some (W,st3)=>some (V,(x1,x2,xs),W,st3)
   | none=>none)
 | none=>none
theorem zT{P:Program}{n:Nat}{y:World×(Nat->Prop)×(Nat->Prop)×(Nat->Value->Prop)×Nat}{st:St}{Q:Exit->Act->World->Prop}{Γ:p5}{T:List Ct}{ρ:Type}{r:ρ}(v:x9 P Γ)(hT:∀c∈T,Ok P c){f:FuncId}{T1:TypeId}{j:Ty}{Y:TypeId}{e:Ty}{ps:List Par}{F:j6 j->j6 e->s9 ps->Option (j6 j×j6 e)}(hk:Mq P f T1 j Y e ps F)
  (i:Nat) (k:List Nat) (S:j6 j×j6 e->St) (W:j6 j×j6 e->Prop) {x1:j6 j} {x2:j6 e} {xs:s9 ps} [Inhabited (j6 j×j6 e)] {V:Prop} [Decidable V] {g:j6 j×j6 e->Option ρ} {id:Nat} {l:List Oper} (H:gd (V/\(F x1 x2 xs).isSome=true/\True) (lt (vl (F x1 x2 xs)) g)=some r)
  (h:∀z,ev2 n Γ T l i k f T1 j Y e ps st z=some (V,(x1,x2,xs),W z,S z)) (hc:∀z,g z=some r->W z/\FX (cx P n y) (S z) .normal Q):VX (cx P n y) st (.region id l.toArray false) Q:=by
 obtain⟨⟨hV,hs,-⟩,H⟩:=L7 H;obtain⟨z,hz⟩:=Option.isSome_iff_exists.1 hs;rw[hz] at H;have H:g z=some r:=H;have m:=h z;obtain⟨c1,c2⟩:=hc z H;unfold ev2 at m;split at m
 ·rename_i V' aI d ii y1 y2 ys b;split at m
  ·rename_i W' aD h2;simp only[oi,pj] at m;obtain⟨rfl,⟨rfl,rfl,rfl⟩,eW,eS⟩:=m;unfold N0g at b;rw[ce] at b;split at b
   ·rename_i q;simp only[ba] at q;split at b
    ·rename_i V1 aA aB g1;split at b
     ·rename_i d' op ty aG w hn;rw[ce] at b;split at b
      ·rename_i u;split at b
       ·rename_i o z1 z2 zs ha;simp only[oi,pj] at b;obtain⟨rfl,rfl,rfl,rfl,rfl,rfl,rfl⟩:=b;refine YS (X:=cx P n y) v hT k q.1 q.2 g1 hV hn u fun E G a S' ho hE K hK=>?_;refine B0N (i1:=o.1) (i2:=o.2) hk S' ho hE ha (E _ rfl) (fun t s ht x hx=>by grind[Bc]) hz fun a' G' aH aC aF=>?_;unfold N0f at h2
        grind
       grind
      grind
     grind
    grind
   grind
  grind
 grind
def Kq:List Par->Bool
 | []=>true
 | .dat t :: r=>D4 t&&Kq r
 | .agg t :: r=>D4 t&&Kq r
 | _=>false
def SX(K:Nat->Prop)(w:World)(b1 b2:Nat)(o:List (Nat×Ob)):Gh:=⟨fun i=>.pointer (some ⟨bif Nat.beq i 500000 then b1 else b2,0,none⟩),fun i=>some (bif Nat.beq i 500000 then b1 else b2),K,w,o,w.heap.size,fun _ _=>False⟩
def B0D{t1 t2:Ty}(T1 T2:TypeId)(ps:List Par)(x1:j6 t1)(x2:j6 t2)(xs:s9 ps):St:=⟨(0,⟨[],.ptr 500000 0⟩) :: (1,⟨[],.ptr 500001 0⟩) :: L5 2 ps xs,[(500000,.box T1 (r5 false t1 x1)),(500001,.box T2 (r5 false t2 x2))]⟩
def PZ(st:St)(T1:TypeId)(t1:Ty)(T2:TypeId)(t2:Ty)(z:j6 t1×j6 t2):Prop:=match b9 st.o 500000,b9 st.o 500001 with
 | some (.box U1 cs1),some (.box U2 cs2)=>bif Nat.beq U1 T1&&Nat.beq U2 T2 then(match F8 st.o 24 t1 cs1,F8 st.o 24 t2 cs2 with
   | some (y1,_,_),some (y2,_,_)=>y1=z.1/\y2=z.2
   | _,_=>False) else False
 | _,_=>False
theorem Zb{G:Gh}{K:Nat->Prop}{w:World}:∀{ps:List Par} {i:Nat} {x:s9 ps} {vs:List Value},Kq ps=true->ArgsR K w none ps x vs->∀t s,b9 (L5 i ps x) t=some s->i<=t/\s.p=[]/\∃u,vs[t-i]?=some u/\AVR G s.a u
 | [],i,x,vs,_,h,t,s,ht=>by cases ht
 | .dat ty :: r,i,x,vs,hf,⟨v,us,e,h1,h⟩,t,s,ht=>by
   subst e;unfold Kq at hf;rw[ba] at hf;unfold L5 at ht;rw[lK] at ht;split at ht
   ·rename_i e; subst e; cases ht; exact⟨Nat.le_refl _,rfl,v,by simp,RT.free hf.1 h1⟩
   ·obtain⟨f,c,u,d,b⟩:=Zb (ps:=r) (i:=i+1) hf.2 h t s ht;exact⟨by omega,c,u,by grind,b⟩
 | .agg ty :: r,i,x,vs,hf,⟨v,us,e,h1,h⟩,t,s,ht=>by
   subst e;unfold Kq at hf;rw[ba] at hf;unfold L5 at ht;rw[lK] at ht;split at ht
   ·rename_i e; subst e; cases ht; exact⟨Nat.le_refl _,rfl,_,by simp,v,rfl,AU (RT.free hf.1 h1)⟩
   ·obtain⟨f,c,u,d,b⟩:=Zb (ps:=r) (i:=i+1) hf.2 h t s ht;exact⟨by omega,c,u,by grind,b⟩
theorem Ov{b a:Ob}{i:Nat}{o:Ob}(h:b9 [(500000,b),(500001,a)] i=some o):(i=500000/\o=b)∨(i=500001/\o=a):=by
 rw[lK] at h;split at h
 ·grind
 ·rw[lK] at h;split at h
  ·grind
  ·cases h
def SY(b1 b2:Nat):Nat->Value->Prop:=fun i v=>(i=0/\v=.pointer (some ⟨b1,0,none⟩))∨(i=1/\v=.pointer (some ⟨b2,0,none⟩))
theorem r0S{P:Program}{n:Nat}{K:Nat->Prop}{w:World}{c a:Nat}{t s:TypeId}{q l:Ty}{x1:j6 q}{x2:j6 l}{d f:List Value}(Q:D4 q=true)(T:D4 l=true)(g:∀k,K k->k<w.heap.size)(G:c≠a)(u:¬K c)(V:¬K a)(W:Blk w c d t)(y:RT K w q d x1)(E:Blk w a f s)(z:RT K w l f x2) :
  Sat (cx P n ⟨w,fun k=>k=c∨k=a,K,SY c a,w.heap.size⟩) (SX K w c a [(500000,.box t (r5 false q x1)),(500001,.box s (r5 false l x2))]):=by
 have g:∀k,K k->UFg w w.heap.size k:=fun k m=>⟨g k m,fun h=>absurd (g k m) (Nat.not_lt.2 h)⟩;refine⟨⟨rfl,Nat.le_refl _⟩,rfl,rfl,rfl,Nat.le_refl _,fun _ _ _=>rfl,fun i o h=>?_,fun i j o X b h x e r=>?_,fun i o b h e=>?_,fun i o b h e=>?_,g,fun k m=>.inl m,fun _ _ h=>h.elim,fun i v e=>by
  rcases e with ⟨rfl,rfl⟩ | ⟨rfl,rfl⟩
  ·exact⟨⟨_,_,rfl⟩,c,rfl,rfl⟩
  ·exact⟨⟨_,_,rfl⟩,a,rfl,rfl⟩⟩
 ·rcases Ov h with ⟨rfl,rfl⟩ | ⟨rfl,rfl⟩
  ·exact⟨c,d,rfl,rfl,W,AU (RT.free Q y)⟩
  ·exact⟨a,f,rfl,rfl,E,AU (RT.free T z)⟩
 ·rcases Ov h with ⟨rfl,rfl⟩ | ⟨rfl,rfl⟩ <;> rcases Ov x with ⟨rfl,rfl⟩ | ⟨rfl,rfl⟩
  ·rfl
  ·have F:some c=some b:=e;have H:some a=some b:=r
   grind
  ·have F:some a=some b:=e;have H:some c=some b:=r
   grind
  ·rfl
 ·rcases Ov h with ⟨rfl,rfl⟩ | ⟨rfl,rfl⟩
  ·have e:some c=some b:=e;cases e; exact u
  ·have e:some a=some b:=e;cases e; exact V
 ·rcases Ov h with ⟨rfl,rfl⟩ | ⟨rfl,rfl⟩
  ·have e:some c=some b:=e;cases e; exact .inr (.inl rfl)
  ·have e:some a=some b:=e;cases e; exact .inr (.inr rfl)
theorem I0b{P:Program}{f:FuncId}{H:TypeId}{m:Ty}{V:TypeId}{q:Ty}{ps:List Par}{F:j6 m->j6 q->s9 ps->Option (j6 m×j6 q)}{x:Func}{E:Code}{n:Nat}(hf:P.funcs[f]?=some x)(hn:x.ntmps=n)(hb:x.body=some E)(hr:x.results=#[])(he:Ar P f=true)(j:(Nat.ble (ps.length+2) n&&Kq ps&&D4 m&&D4 q)=true)
  (h:∀y x1 x2 xs z,F x1 x2 xs=some z->∀Q,(∀st,PZ st H m V q z->FX (cx P n y) st .normal Q/\FX (cx P n y) st .ret Q)->VX (cx P n y) (B0D H V ps x1 x2 xs) E Q):Mq P f H m V q ps F:=by
 simp only[ba] at j;obtain⟨⟨⟨j,aH⟩,f1⟩,f2⟩:=j;have j:=Nat.le_of_ble_eq_true j;refine⟨he,f1,f2,fun x1 x2 xs z hz w r b c g aQ K hK aB aD aI B1 R1 B2 R2 hA=>?_⟩;have aL:=hA.len;refine calls_of_wp hf hb ?_;have hS:=r0S (P:=P) (n:=n) f1 f2 hK aB aD aI B1 R1 B2 R2;have:=h ⟨w,fun k=>k=b∨k=c,K,SY b c,w.heap.size⟩ x1 x2 xs z hz (bodyPost P x fun en w'=>en=.returned (.tuple #[])/\∃w1 ds1 ds2,WE (some c) w w1/\Blk w1 c ds2 V/\RT K w1 q ds2 z.2/\WE (some b) w1 w'/\Blk w' b ds1 H/\RT K w' m ds1 z.1) (fun st aJ=>?_) (SX K w b c _) { tmps:=(Value.pointer (some ⟨b,0,none⟩) :: Value.pointer (some ⟨c,0,none⟩) :: r).toArray++Array.replicate (x.ntmps-(Value.pointer (some ⟨b,0,none⟩) :: Value.pointer (some ⟨c,0,none⟩) :: r).toArray.size) undef,defers:=[] } hS rfl ⟨rfl,by grind,fun t s T=>?_⟩
 ·exact this
 ·have aA:∀G a,Sat (cx P n ⟨w,fun k=>k=b∨k=c,K,SY b c,w.heap.size⟩) G->G.o=st.o->EnvR n G st.e a->a.defers=[]/\∃v,(results x a.tmps).run P G.w=.ok v G.w/\(v=.tuple #[]/\∃w1 ds1 ds2,WE (some c) w w1/\Blk w1 c ds2 V/\RT K w1 q ds2 z.2/\WE (some b) w1 G.w/\Blk G.w b ds1 H/\RT K G.w m ds1 z.1):=fun G a S W Y=>by
   obtain⟨us,e1,e0,-⟩:=Yw (X:=cx P n ⟨w,fun k=>k=b∨k=c,K,SY b c,w.heap.size⟩) (Γ:=[]) (rs:=[]) (fun _ _ h=>by cases h) S W Y rfl trivial;have e0:us=[]:=e0;subst e0;refine⟨Y.defers,_,Yz (rs:=[]) hr e1,rfl,?_⟩;have d:=aJ;unfold PZ at d;rw[<- W] at d;split at d
   ·rename_i U1 c1 U2 c2 h1 h2;rw[ce] at d;split at d
    ·rename_i hb;rw[ba] at hb;have u1:=nb hb.1;have u2:=nb hb.2;subst u1; subst u2;split at d
     ·rename_i y1 l1 aN y2 l2 aM d1 d2;obtain⟨z1,z2⟩:=d;subst z1; subst z2;obtain⟨_,aP,k1,k2⟩:=S.pin 0 (.pointer (some ⟨b,0,none⟩)) (.inl ⟨rfl,rfl⟩);cases k2;obtain⟨_,aC,g1,g2,g3,g4⟩:=S.obs 500000 _ h1;rw[k1] at g2;cases g2;obtain⟨_,aR,m1,m2⟩:=S.pin 1 (.pointer (some ⟨c,0,none⟩)) (.inr ⟨rfl,rfl⟩);cases m2;obtain⟨_,aK,p1,p2,p3,p4⟩:=S.obs 500001 _ h2;rw[m1] at p2;cases p2;have r1:=RT.up (DO (K':=fun _=>True) S (fun _ _=>trivial) 24 d1 (fun _ _ _ _=>trivial) g4) (fun _ _=>trivial:∀k,_->(fun _:Nat=>True) k);have r2:=RT.up (DO (K':=fun _=>True) S (fun _ _=>trivial) 24 d2 (fun _ _ _ _=>trivial) p4) (fun _ _=>trivial:∀k,_->(fun _:Nat=>True) k);have l:=NE G.w b g.toArray;have hH:(G.w.setRow b g.toArray).heap[b]?=some (.cells g.toArray U1 (0,0)):=setRow_heap G.w b aC.toArray g.toArray U1 (0,0) g3;refine⟨G.w.setRow b g.toArray,aC,aK,⟨l.os.trans S.os,l.tape.trans S.tape,l.output.trans S.output,by rw[l.size]; exact S.size,fun k hk hg=>?_⟩,?_,RT.free f2 r2,⟨l.os.symm,l.tape.symm,l.output.symm,by simp_all,fun k hk hg=>(l.block k (fun e=>hg (by rw[e]))).symm⟩,g3,RT.free f1 r1⟩
      ·by_cases e:k=b
       ·rw[e,hH]; exact B1.symm
       ·rw[l.block k e];refine S.block k hk (fun h=>?_)
        grind
      ·show(G.w.setRow b g.toArray).heap[c]?=_;rw[l.block c (fun e=>aB e.symm)];exact p3
     grind
    grind
   grind
  refine⟨fun G a S W Y=>?_,fun G a S W Y=>?_⟩
  ·obtain⟨k1,v,k2,rfl,k3⟩:=aA G a S W Y;exact⟨k1,_,k2,rfl,k3⟩
  ·obtain⟨k1,v,k2,rfl,k3⟩:=aA G a S W Y;exact⟨k1,_,k2,rfl,k3⟩
 ·have aO:∀(i:Nat) (u:Value),(Value.pointer (some ⟨b,0,none⟩) :: Value.pointer (some ⟨c,0,none⟩) :: r)[i]?=some u->((Value.pointer (some ⟨b,0,none⟩) :: Value.pointer (some ⟨c,0,none⟩) :: r).toArray++Array.replicate (x.ntmps-(Value.pointer (some ⟨b,0,none⟩) :: Value.pointer (some ⟨c,0,none⟩) :: r).toArray.size) undef).getD i undef=u:=fun i u hu=>by
   have aF:i < (Value.pointer (some ⟨b,0,none⟩) :: Value.pointer (some ⟨c,0,none⟩) :: r).length:=by
    rcases Nat.lt_or_ge i (Value.pointer (some ⟨b,0,none⟩) :: Value.pointer (some ⟨c,0,none⟩) :: r).length with h' | h'
    ·exact h'
    ·rw[List.getElem?_eq_none h'] at hu; cases hu
   rw[Array.getD_eq_getD_getElem?,Array.getElem?_append_left (by rw[List.size_toArray]; exact aF),List.getElem?_toArray,hu];rfl
  have aG:s.p=[]/\∃u,(Value.pointer (some ⟨b,0,none⟩) :: Value.pointer (some ⟨c,0,none⟩) :: r)[t]?=some u/\AVR (SX K w b c [(500000,.box H (r5 false m x1)),(500001,.box V (r5 false q x2))]) s.a u:=by
   unfold B0D at T;simp only[lK] at T;split at T
   ·rename_i e; subst e; cases T;exact⟨rfl,_,rfl,⟨_,_,rfl⟩,b,rfl,rfl⟩
   ·split at T
    ·rename_i e; subst e; cases T;exact⟨rfl,_,rfl,⟨_,_,rfl⟩,c,rfl,rfl⟩
    ·obtain⟨a1,a2,u,a3,a4⟩:=Zb (G:=SX K w b c [(500000,.box H (r5 false m x1)),(500001,.box V (r5 false q x2))]) aH hA t s T
     grind
  obtain⟨h1,u,h2,h3⟩:=aG;rw[h1];refine⟨fun _=>?_,fun hn=>(hn (fun _ h=>by cases h)).elim⟩
  grind
def nx(o:Option (Prop×St)):St:=match o with
 | some (_,s)=>s
 | none=>⟨[],[]⟩
theorem De{o:Option (Prop×St)}{V:Prop}(h:o.map Prod.fst=some V):o=some (V,nx o):=by
 cases o with
 | none=>cases h
 | some x =>
   cases h;rfl
section
variable {P:Program} {n:Nat} {y:World×(Nat->Prop)×(Nat->Prop)×(Nat->Value->Prop)×Nat} {st:St} {Q:Exit->Act->World->Prop} {Γ:p5} {T:List Ct} {ρ:Type} {r:ρ}
theorem jA[a:HG P Γ][d:HT P T][e:K7 P](k:List Nat){id:Nat}{l:List Oper}{b:Bool}(c:FX (cx P n y) (nx (I3 b n Γ T l k st)) .normal Q)(h:(I3 b n Γ T l k st).map Prod.fst=some True:=by kernel_rfl):VX (cx P n y) st (.region id l.toArray b) Q:=za a.h d.h _ _ (De h) c
theorem jB[a:HG P Γ][d:HT P T][f:K7 P](k:List Nat){V:Prop}[Decidable V]{e:Option ρ}{id:Nat}{l:List Oper}{b:Bool}(H:gd V e=some r)(c:e=some r->FX (cx P n y) (nx (I3 b n Γ T l k st)) .normal Q)(h:(I3 b n Γ T l k st).map Prod.fst=some V:=by kernel_rfl):VX (cx P n y) st (.region id l.toArray b) Q:=zb a.h d.h _ _ H (De h) c
theorem iA[a:HG P Γ][e:HT P T][f:K7 P](k:List Nat){id:Nat}{l:List Oper}{b:Bool}{c:Code}(d:VX (cx P n y) (nx (I3 b n Γ T l k st)) c Q)(h:(I3 b n Γ T l k st).map Prod.fst=some True:=by kernel_rfl):VX (cx P n y) st (.seq (.region id l.toArray b) c) Q:=qa a.h e.h _ _ (De h) d
theorem iB[a:HG P Γ][f:HT P T][g:K7 P](k:List Nat){V:Prop}[Decidable V]{e:Option ρ}{id:Nat}{l:List Oper}{b:Bool}{c:Code}(H:gd V e=some r)(d:e=some r->VX (cx P n y) (nx (I3 b n Γ T l k st)) c Q)(h:(I3 b n Γ T l k st).map Prod.fst=some V:=by kernel_rfl):VX (cx P n y) st (.seq (.region id l.toArray b) c) Q:=qb a.h f.h _ _ H (De h) d
end
theorem Zc{e:List (Nat×Sl)}:∀{keep:List Nat} {t:Nat} {s:Sl},b9 (Gi e keep) t=some s->t∈keep
 | [],t,s,h=>by cases h
 | k :: r,t,s,h=>by
   unfold Gi at h;split at h
   ·rw[lK] at h;split at h
    ·grind
    ·exact List.mem_cons_of_mem _ (Zc h)
   ·exact List.mem_cons_of_mem _ (Zc h)
def Ig(f:Nat->Value):List Nat->C4
 | []=>[]
 | t :: r=>(t,f t) :: Ig f r
theorem v0I{f:Nat->Value}:∀{keep:List Nat} {t:Nat},t∈keep->lk (Ig f keep) t=some (f t)
 | k :: r,t,h=>by
   show lk ((k,f k) :: Ig f r) t=_;rw[CO];split
   ·grind
   ·rename_i e;exact v0I ((List.mem_cons.1 h).resolve_left (fun h=>e h.symm))
theorem q0E{f:Nat->Value}:∀{keep:List Nat} {t:Nat} {v:Value},lk (Ig f keep) t=some v->f t=v
 | [],t,v,h=>by cases h
 | k :: r,t,v,h=>by
   have h:lk ((k,f k) :: Ig f r) t=some v:=h;rw[CO] at h;split at h
   ·grind
   ·exact q0E h
theorem D0q{X:Cx}{st:St}{c:Code}{Q:Exit->Act->World->Prop}(b:List Nat)(q m:Nat)(F:b9 st.e q=some ⟨[],.v (.pointer none)⟩)
  (h:∀f w Q',Rl X.n .normal ((m,.bool false) :: Ig f b) w Q'->VS X.P X.n c ((q,.pointer none) :: Ig f b) w Q')
  (k:FX X ⟨(m,⟨[],.d true .bool false⟩) :: Gi st.e b,st.o⟩ .normal Q):VX X st c Q:=by
 intro G a S H l;have W:a.tmps.getD q undef=.pointer none:=(l.val q _ F).1 (fun _ h=>nomatch h);refine h (fun t=>a.tmps.getD t undef) G.w Q (fun r g=>k G r S H ?_) a ⟨l.defers,l.size,fun t v i=>?_⟩
 ·refine⟨g.1,g.2.1,fun t s i=>?_⟩;rw[lK] at i;split at i
  ·rename_i e; cases i; subst e;refine⟨fun _=>?_,fun u=>absurd (fun x z=>nomatch z) u⟩;show RT (rg G true) G.w .bool [r.tmps.getD m undef] false;rw[g.2.2 m (.bool false) (by rw[CO,if_pos rfl])];exact rfl
  ·rename_i y;obtain⟨E,T⟩:=Sk i;have V:=g.2.2 t (a.tmps.getD t undef) (by rw[CO,if_neg y]; grind[v0I,Zc]);have j:∀a,PathP s.p a:=fun a=>by rw[T]; exact fun x z=>nomatch z
   refine⟨fun _=>?_,fun u=>absurd (j r) u⟩;rw[V];exact(l.val t s E).1 (j a)
 grind[CO,q0E]
def Zd(Q:Exit->Act->World->Prop)(K:Act->World->Prop):Exit->Act->World->Prop
 | .normal,a,w=>K a w
 | x,a,w=>Q x a w
theorem x0f{P:Program}{o:Oper}{Q:Exit->Act->World->Prop}{K N:Act->World->Prop}{a:Act}{w:World}(h:o.wp P a w N (Zd Q K)):o.wp P a w N Q:=by
 unfold Oper.wp at h ⊢;generalize (execOp a.eval o).run P w=r at h ⊢;cases r with
 | ok n c=>cases n <;> exact h
 | halt b c=>cases b <;> exact h
theorem SZ{ops:Array Oper}{L:Array Bool}{i:Nat}(h:i∈Region.ready .any ops L):i<ops.size:=by
 grind[Region.ready]
section
variable {P:Program} {Q:Exit->Act->World->Prop} {l:List Oper} {o:Oper}
theorem Ow{i:Nat}(h:i<l.length):(l++[o])[i]?=l[i]?:=List.getElem?_append_left h
theorem Ze:(l++[o])[l.length]?=some o:=by simp
theorem Ih{L:Array Bool}{i:Nat}{d:Bool}(a:L.size=l.length)(h:i<l.length):(L.push false).getD i d=L.getD i d:=by
 rw[Array.getD_eq_getD_getElem?,Array.getD_eq_getD_getElem?,Array.getElem?_push];rw[if_neg (by omega)]
theorem m0H{L:Array Bool}{d:Bool}(a:L.size=l.length):(L.push false).getD l.length d=false:=by
 rw[Array.getD_eq_getD_getElem?,Array.getElem?_push,if_pos (by omega)];rfl
theorem y0x{L:Array Bool}{i:Nat}(a:L.size=l.length)(h:i<l.length):(L.push false).setIfInBounds i true=(L.setIfInBounds i true).push false:=by
 grind
def Zf(l:List Oper):Bool:=l.all fun o=>match o.guard with
 | some (j,_)=>Nat.blt j l.length
 | none=>true
theorem t0m{i:Nat}{oi:Oper}(a:Zf l=true)(hi:l[i]?=some oi)(t:Array Value):Region.wanted oi (yielded (l++[o]).toArray t)=Region.wanted oi (yielded l.toArray t):=by
 have:=List.all_eq_true.1 a oi (List.mem_of_getElem? hi);unfold Region.wanted;cases e:oi.guard with
 | none=>rfl
 | some p =>
   obtain⟨j,b⟩:=p;rw[e] at this;have c:j<l.length:=by simpa using this
   grind[yielded,Ow]
theorem z0S(H:O9 0 l=true)(hg:Zf l=true)(aG:∀k∈O8 o,k<l.length)(hw:∀D:Nat->Bool,DS D l->(∀k∈O8 o,D k=true)->∀k,k<l.length->D k=true) :
  ∀(fuel:Nat) (L:Array Bool) (a:Act) (w:World),L.size=l.length->DS (fun k=>L.getD k false) l->wpAny P .any l.toArray (Zd Q fun a w=>wpOp P (l++[o]).toArray Q l.length (Q .normal) a w) fuel L a w->wpAny P .any (l++[o]).toArray Q (fuel+1) (L.push false) a w:=by
 have E:∀(i:Nat) (o:Oper) (k:Nat),l[i]?=some o->k∈O8 o->k<i:=by
  have:∀{m:List Oper} {i:Nat},O9 i m=true->∀j o k,m[j]?=some o->k∈O8 o->k<i+j:=by
   intro m
   induction m with
   | nil=>grind
   | cons o0 r ih =>
     intro i h j o k hj z;simp only[O9,ba,List.all_eq_true] at h;cases j with
     | zero=>simp_all
     | succ j=>grind
  intro i o k n c;have:=this H i o k n c; omega
 have Y:∀(L:Array Bool),L.size=l.length->Region.ready .any l.toArray L=[]->∀i,i<l.length->L.getD i false=true:=by
  intro L b x i
  induction i using Nat.strongRecOn with
  | ind i aC =>
    intro hi;cases h:L.getD i false with
    | true=>rfl
    | false =>
      have:i∈Region.ready .any l.toArray L:=mem_ready.2 ⟨by
       grind,l[i],by grind,fun e u H=>aC e.on (E i l[i] e.on (List.getElem?_eq_getElem hi) (Aa.2 ⟨e,u,H,rfl⟩)) (by have:=E i l[i] e.on (List.getElem?_eq_getElem hi) (Aa.2 ⟨e,u,H,rfl⟩); omega)⟩
      rw[x] at this; cases this
 have v:∀(L:Array Bool),L.size=l.length->(∀i,i<l.length->L.getD i false=true)->Region.ready .any (l++[o]).toArray ((L.push false).setIfInBounds l.length true)=[]:=by
  intro L b h;cases x:Region.ready .any (l++[o]).toArray ((L.push false).setIfInBounds l.length true) with
  | nil=>rfl
  | cons i r =>
    have hi:i∈Region.ready .any (l++[o]).toArray ((L.push false).setIfInBounds l.length true):=by rw[x]; simp
    obtain⟨n,-,-,-⟩:=mem_ready.1 hi;have d:i<l.length+1:=by simpa using SZ hi
    by_cases e:i=l.length
    ·subst e;have hs:l.length < (L.push false).size:=by simp; omega
     rw[Array.getD_eq_getD_getElem?,Array.getElem?_setIfInBounds,if_pos rfl,if_pos hs] at n;cases n
    ·rw[getD_set_ne true (Ne.symm e),Ih b (by omega)] at n;have c:=h i (by omega);have hs:i<L.size:=by omega
     rw[Array.getD_eq_getD_getElem?,Array.getElem?_eq_getElem hs] at n c;have n:L[i]=false:=n;have c:L[i]=true:=c;rw[c] at n;cases n
 have aA:∀(L:Array Bool),L.size=l.length->(∀i,i<l.length->L.getD i false=true)->(∀k∈O8 o,k<l.length)->l.length∈Region.ready .any (l++[o]).toArray (L.push false):=by
  intro L b h z;refine mem_ready.2 ⟨m0H b,o,by grind,fun e u H=>?_⟩;have z:=z e.on (Aa.2 ⟨e,u,H,rfl⟩);rw[Ih b z];exact h _ z
 -- the last one ready: all others are done
 have s:∀(L:Array Bool) (i:Nat),L.size=l.length->DS (fun k=>L.getD k false) l->i∈Region.ready .any (l++[o]).toArray (L.push false)->(i<l.length/\i∈Region.ready .any l.toArray L)∨(i=l.length/\∀k,k<l.length->L.getD k false=true):=by
  intro L i b t hi;obtain⟨n,oi,c,q⟩:=mem_ready.1 hi;have d:i<l.length+1:=by simpa using SZ hi
  rw[List.getElem?_toArray] at c;by_cases e:i=l.length
  ·subst e;rw[Ze] at c;cases c;refine .inr ⟨rfl,hw (fun k=>L.getD k false) t fun k z=>?_⟩;obtain⟨e,u,f,rfl⟩:=Aa.1 z;have:=q e u f;by_cases aD:e.on<l.length
   ·rwa [Ih b aD] at this
   ·by_cases aF:e.on=l.length
    ·rw[aF,m0H b] at this; cases this
    ·rw[Array.getD_eq_getD_getElem?,Array.getElem?_eq_none (by simp; omega)] at this;cases this
  ·have g:i<l.length:=by omega
   rw[Ow g] at c;refine .inl ⟨g,mem_ready.2 ⟨by rwa [Ih b g] at n,oi,by rw[List.getElem?_toArray]; exact c,fun e u f=>?_⟩⟩;have:=q e u f
   rwa [Ih b (Nat.lt_trans (E i oi e.on c (Aa.2 ⟨e,u,f,rfl⟩)) g)] at this
 have V:∀(L:Array Bool) (i:Nat),L.size=l.length->i∈Region.ready .any l.toArray L->i∈Region.ready .any (l++[o]).toArray (L.push false):=by
  intro L i b hi;obtain⟨n,oi,c,q⟩:=mem_ready.1 hi;have d:i<l.length:=by simpa using SZ hi
  rw[List.getElem?_toArray] at c;refine mem_ready.2 ⟨by rwa [Ih b d],oi,by rw[List.getElem?_toArray,Ow d]; exact c,fun e u f=>?_⟩;rw[Ih b (Nat.lt_trans (E i oi e.on c (Aa.2 ⟨e,u,f,rfl⟩)) d)];exact q e u f
 intro fuel
 induction fuel with
 | zero =>
   rintro L a w b t ⟨x,hq⟩;have ha:=Y L b x;refine⟨fun W=>?_,fun i hi=>?_⟩
   ·grind
   ·rcases s L i b t hi with ⟨_,c⟩ | ⟨rfl,_⟩
    ·grind
    ·exact wpOp_mono (fun a' w' h=>⟨v L b ha,h⟩) hq
 | succ fuel ih =>
   rintro L a w b t ⟨h0,n⟩;refine⟨fun W=>?_,fun i hi=>?_⟩
   ·exfalso;cases x:Region.ready .any l.toArray L with
    | nil =>
      grind
    | cons i r =>
      have:=V L i b (by grind);rw[W] at this;cases this
   ·rcases s L i b t hi with ⟨d,c⟩ | ⟨rfl,ha⟩
    ·have q:=n i c;obtain⟨_,oi,g2,g3⟩:=mem_ready.1 c;rw[List.getElem?_toArray] at g2;have T:∀k,(L.setIfInBounds i true).getD k false=if k=i then true else L.getD k false:=fun k=>by
      by_cases y:k=i
      ·simp_all
      ·rw[if_neg y]; exact getD_set_ne false (Ne.symm y)
     have F:DS (fun k=>(L.setIfInBounds i true).getD k false) l:=fun k o' z hD m hm=>by
      simp only[T] at hD ⊢;by_cases aB:m=i
      ·grind
      ·rw[if_neg aB];by_cases y:k=i
       ·grind[Aa]
       ·rw[if_neg y] at hD;exact t k o' z hD m hm
     rw[y0x b d];unfold wpOp at q ⊢;rw[List.getElem?_toArray,g2] at q;rw[List.getElem?_toArray,Ow d,g2];simp only[t0m (o:=o) hg g2] at q ⊢;split at q
     ·rename_i G;rw[if_pos G];rcases q with q | q
      ·exact .inl (Oper.wp_mono (fun a' w' h=>ih _ a' w' (by grind) F h) (x0f q))
      ·exact .inr q
     ·rename_i G;rw[if_neg G];exact ih _ _ _ (by grind) F q
    ·have x:Region.ready .any l.toArray L=[]:=by
      cases x:Region.ready .any l.toArray L with
      | nil=>rfl
      | cons i r =>
        have g:i∈Region.ready .any l.toArray L:=by rw[x]; simp
        obtain⟨X,-,-,-⟩:=mem_ready.1 g;have d:i<l.length:=by simpa using SZ g
        have q2:=ha i d;have hs:i<L.size:=by omega
        rw[Array.getD_eq_getD_getElem?,Array.getElem?_eq_getElem hs] at X q2;have X:L[i]=false:=X;have q2:L[i]=true:=q2;rw[q2] at X;cases X
     exact wpOp_mono (fun a' w' h=>⟨fun _=>h,fun j hj=>by rw[v L b ha] at hj; cases hj⟩) (h0 x)
end
def Ox:List Oper->Option (List Oper×Oper)
 | []=>none
 | [o]=>some ([],o)
 | o :: r=>match Ox r with
   | some (l,x)=>some (o :: l,x)
   | none=>none
theorem n0e:∀{l l0:List Oper} {o:Oper},Ox l=some (l0,o)->l=l0++[o]
 | [],_,_,h=>by cases h
 | [a],_,_,h=>by
   simp only[Ox,oi,pj] at h
   grind
 | a :: b :: r,_,_,h=>by
   unfold Ox at h;split at h
   ·rename_i l x c;simp only[oi,pj] at h;obtain⟨rfl,rfl⟩:=h;rw[List.cons_append,<- n0e c]
   grind
def Ta(l0:List Oper)(o:Oper):Bool:=(O8 o).all (fun k=>Nat.blt k l0.length)&&(List.range l0.length).all fun k=>M7 k ((B9 (H6 [] (l0++[o])) l0.length).getD [])
def evU(n:Nat)(Γ:p5)(T:List Ct)(l:List Oper)(keep:List Nat)(f:FuncId)(T1:TypeId)(t1:Ty)(T2:TypeId)(t2:Ty)(ps:List Par)(st:St)(z:j6 t1×j6 t2):Option (Prop×(j6 t1×j6 t2×s9 ps)×Prop×St):=match Ox l with
 | some (l0,⟨some d,op,ty,pos,after,none⟩)=>bif I7 n 0 [] l&&O9 0 l&&O9 0 l0&&K5 st.e&&Zf l0&&Ta l0 ⟨some d,op,ty,pos,after,none⟩ then(match N8 Γ T l0 l0 st [] with
   | some (V,st1,rs)=>bif DT (H6 [] l0) rs.reverse&&K5 st1.e then(match SV st1 f T1 t1 T2 t2 ps op with
     | some (ii,x1,x2,xs)=>some (V,(x1,x2,xs),True,cut keep (SW st1 d T1 t1 T2 t2 ii.1 ii.2 z))
     | none=>none) else none
   | none=>none) else none
 | _=>none
theorem r0z{a:List Oper}{o:Oper}(l:O9 0 (a++[o])=true)(h:Ta a o=true)(D:Nat->Bool)(u:DS D a)(y:∀k∈O8 o,D k=true):∀k,k<a.length->D k=true:=by
 unfold Ta at h;rw[ba] at h;have z:=List.all_eq_true.1 h.1;have s:=List.all_eq_true.1 h.2;have d:=Si (all:=a++[o]) (rest:=a++[o]) (acc:=[]) (fun j=>by simp) l (fun i m h=>by grind);intro k q;have f:=P9.1 (s k (List.mem_range.2 q));rw[W3] at f;cases hbm:(H6 [] (a++[o]))[a.length]? with
 | none=>grind
 | some m =>
   rw[hbm] at f;obtain⟨F,w⟩:=d a.length m hbm;have:=w (fun j=>D j&&Nat.blt j a.length) (fun i n hi b j c=>by
    rw[ba] at b;have e:i<a.length:=by simpa using b.2
    rw[Ow e] at hi;have t:=u i n hi b.1 j c;have v:j<a.length:=by
     have g:∀{m:List Oper} {i:Nat},O9 i m=true->∀j o k,m[j]?=some o->k∈O8 o->k<i+j:=by
      intro m
      induction m with
      | nil=>grind
      | cons E r x =>
        intro i h j o k c q;simp only[O9,ba,List.all_eq_true] at h;cases j with
        | zero=>simp_all
        | succ j=>grind
     have:=g l i n j (by grind) c;omega
    simp_all) o Ze (fun j c=>by
    grind) k f
   grind
theorem zU{P:Program}{n:Nat}{y:World×(Nat->Prop)×(Nat->Prop)×(Nat->Value->Prop)×Nat}{st:St}{Q:Exit->Act->World->Prop}{Γ:p5}{T:List Ct}{ρ:Type}{r:ρ}(aG:x9 P Γ)(hT:∀c∈T,Ok P c)[hm:K7 P]{f:FuncId}{T1:TypeId}{u:Ty}{T2:TypeId}{q:Ty}{ps:List Par}{F:j6 u->j6 q->s9 ps->Option (j6 u×j6 q)}(hk:Mq P f T1 u T2 q ps F)
  (v:List Nat) (S:j6 u×j6 q->St) (W:j6 u×j6 q->Prop) {x1:j6 u} {x2:j6 q} {xs:s9 ps} [Inhabited (j6 u×j6 q)] {V:Prop} [Decidable V] {g:j6 u×j6 q->Option ρ} {id:Nat} {l:List Oper} (H:gd (V/\(F x1 x2 xs).isSome=true/\True) (lt (vl (F x1 x2 xs)) g)=some r)
  (h:∀z,evU n Γ T l v f T1 u T2 q ps st z=some (V,(x1,x2,xs),W z,S z)) (hc:∀z,g z=some r->W z/\FX (cx P n y) (S z) .normal Q):VX (cx P n y) st (.region id l.toArray true) Q:=by
 obtain⟨⟨hV,hs,-⟩,H⟩:=L7 H;obtain⟨z,hz⟩:=Option.isSome_iff_exists.1 hs;rw[hz] at H;have H:g z=some r:=H;have m:=h z;obtain⟨-,c2⟩:=hc z H;unfold evU at m;split at m
 ·rename_i e d op ty pos after hl;rw[ce] at m;split at m
  ·rename_i hb;simp only[ba] at hb;obtain⟨⟨⟨⟨⟨b1,b2⟩,b3⟩,b4⟩,b5⟩,b6⟩:=hb;have el:=n0e hl;split at m
   ·rename_i V' aI aM g1;rw[ce] at m;split at m
    ·rename_i Y;rw[ba] at Y;split at m
     ·rename_i ii y1 y2 ys ha;simp only[oi,pj] at m;obtain⟨rfl,⟨rfl,rfl,rfl⟩,-,eS⟩:=m;intro G a Sa ho hE;obtain⟨recs,e1,e2,e3,e4⟩:=Bb (Ad (K:=fun aD rs=>DT (H6 [] e) rs.reverse=true/\aD=aI) g1 hV ⟨Y.1,rfl⟩);rw[List.append_nil,List.reverse_reverse] at e3;refine wp_region_any hm.h ?_;have aB:Ext G.w { G.w with drawn:=G.w.drawn+1 }:=(Below.refl _ _).drew;obtain⟨S1,L1⟩:=Sa.ext aB;rw[el] at b1;obtain⟨k1,sn,k2,-,-⟩:=SP (a:=e) (b:=[⟨some d,op,ty,pos,after,none⟩]) b1;have aK:d<n:=by
       have hd:=(Sj b1).1 e.length ⟨some d,op,ty,pos,after,none⟩ d Ze rfl;exact hd.1
      have aJ:=q0V aG hT (X:=cx P n y) (Q:=Zd Q fun a w=>wpOp P (e++[(⟨some d,op,ty,pos,after,none⟩:Oper)]).toArray Q e.length (Q .normal) a w) (l:=e) (recs:=recs) (st:=st) e1 e2 (Bc b4) k1 b3 e3 (fun G' a' S' E aA=>by
        rw[e4] at E aA;show wpOp P (e++[(⟨some d,op,ty,pos,after,none⟩:Oper)]).toArray Q e.length (Q .normal) a' G'.w;have aP:=B0N (i1:=ii.1) (i2:=ii.2) (ty:=ty) (pos:=pos) (after:=after) (ops:=(e++[(⟨some d,op,ty,pos,after,none⟩:Oper)]).toArray) (Q:=Q) (K:=Q .normal) hk S' E aA ha aK (fun t s ht x hx=>by grind[Bc]) hz fun a2 G2 aF aH aC=>by
         obtain⟨G3,S3,aO,aQ,aN⟩:=Gj v aF aH aC;have:=c2 G3 a2 S3 (by grind) (by grind)
         grind
        grind[N5,wpOp]) e.length (Array.replicate e.length false) { G with w:={ G.w with drawn:=G.w.drawn+1 } } a
       (by grind) (by simp) (fun i o _ hD=>by
         by_cases hi:i<e.length
         ·simp_all
         grind) S1 (fun id=>by
         have:∀{recs:List A7} {i:Nat} {st:St},(∀j,(Array.replicate e.length false).getD j false=false)->A3 (fun k=>(Array.replicate e.length false).getD k false) i recs st=st:=by
          intro recs
          induction recs with
          | nil=>intro i st _; rfl
          | cons R r ih=>grind[A3]
         rw[this (fun j=>by by_cases hj:j<e.length <;> simp[hj])]
         grind) (by
         have:∀{recs:List A7} {i:Nat} {st:St},(∀j,(Array.replicate e.length false).getD j false=false)->A3 (fun k=>(Array.replicate e.length false).getD k false) i recs st=st:=by
          intro recs
          induction recs with
          | nil=>intro i st _; rfl
          | cons R r ih=>grind[A3]
         rw[this (fun j=>by by_cases hj:j<e.length <;> simp[hj])];exact hE.mono L1)
      have aL:=z0S (Q:=Q) b3 b5 (fun k hk=>by
       have:=b6;unfold Ta at this
       simp_all) (r0z (by grind) b6) e.length (Array.replicate e.length false) a _ (by simp) (fun i o _ hD=>by
        by_cases hi:i<e.length
        ·simp_all
        grind) aJ
      grind
     grind
    grind
   grind
  grind
 grind
def VL(X:Cx)(l:List Oper)(i:Nat)(st:St)(Q:Exit->Act->World->Prop):Prop:=∀G a,Sat X G->G.o=st.o->EnvR X.n G st.e a->wpList X.P l.toArray Q (l.drop i) a G.w
theorem Vc{X:Cx}{l:List Oper}{id:Nat}{st:St}{Q:Exit->Act->World->Prop}(h:VL X l 0 st Q):VX X st (.region id l.toArray false) Q:=fun G a S c b=>wp_region_lit (h G a S c b)
def Tb(n:Nat)(Γ:p5)(T:List Ct)(l:List Oper)(i m:Nat)(st:St):Option (Prop×St):=bif SS (Aw (l.take i)) st.e&&I7 n i (Aw (l.take i)) ((l.drop i).take m) then(match N8 Γ T l ((l.drop i).take m) st [] with
    | some (V,st1,_)=>some (V,st1)
    | none=>none) else none
theorem C0e{P:Program}{n:Nat}{y:World×(Nat->Prop)×(Nat->Prop)×(Nat->Value->Prop)×Nat}{st g:St}{Q:Exit->Act->World->Prop}{Γ:p5}{T:List Ct}(r:x9 P Γ)(w:∀c∈T,Ok P c){l:List Oper}{i m:Nat}{V:Prop}(h:Tb n Γ T l i m st=some (V,g))(z:V)(k:VL (cx P n y) l (i+m) g Q):VL (cx P n y) l i st Q:=by
 intro G a S H F;unfold Tb at h;rw[ce] at h;split at h
 ·rename_i t;rw[ba] at t;split at h
  ·rename_i V' d rs g1;simp only[oi,pj] at h;obtain⟨rfl,rfl⟩:=h;obtain⟨f,u,Y,x⟩:=Bb (Ad (K:=fun j _=>j=d) g1 z rfl);have:=HS (X:=cx P n y) r w (ops:=l.toArray) (all:=l) rfl (Q:=Q) (rest:=l.drop (i+m)) f i _ st G a (fun q hq=>by
     have s:q<m:=by
      have:=congrArg List.length u;rw[List.length_map,List.length_take] at this;omega
     rw[<- List.getElem?_map,u,List.getElem?_take_of_lt s,List.getElem?_drop]) (by grind) (fun q v dq hq q1 W=>by
     refine YY (o:=v) ?_ W;rw[List.mem_iff_getElem?];exact⟨q,by grind⟩) (i0Z t.1) Y S H F
    (fun G3 E S3 e b=>by
      rw[x] at e b;exact k G3 E S3 e b)
   grind[List.drop_drop,List.take_append_drop]
  grind
 grind
def Ax(n:Nat)(Γ:p5)(T:List Ct)(l:List Oper)(i i0 m:Nat)(st:St):Option (Prop×St×Nat×Bool×Nat×Bool) :=
 match Tb n Γ T l i (i0-i) st with
 | some (V,st1)=>(match B9 l i0 with
   | some o=>(match o.guard with
     | some (j,b)=>(match B9 l j with
       | some oj=>(match oj.dst with
         | some dj=>(match b9 st1.e dj with
           | some ⟨[],.d _ .bool e⟩=>bif SS (Aw (l.take i0)) st1.e&&Nat.ble i i0&&Nat.blt j i0&&Nat.ble (i0+m) l.length&&((l.drop i0).take m).all (YZ j b) then some (V,st1,j,b,dj,e) else none
           | _=>none)
         | none=>none)
       | none=>none)
     | none=>none)
   | none=>none)
 | none=>none
def Gs(n:Nat)(Γ:p5)(T:List Ct)(l:List Oper)(i m:Nat)(st1:St):Option (Prop×St) :=
 bif I7 n 0 (Aw (l.take i)) (((l.drop i).take m).map Gr) then(match N8 Γ T l (((l.drop i).take m).map Gr) st1 [] with
  | some (W,st2,_)=>some (W,st2)
  | none=>none) else none
def DZ(n:Nat)(l:List Oper)(i m:Nat)(dm:List (Nat×AV))(dj:Nat)(b:Bool)(st1:St):Option (Prop×St) :=
 bif SR n (Aw (l.take i)) (((l.drop i).take m).map Gr) dm then some (True,⟨YX dj b dm st1.e,st1.o⟩) else none
theorem zGL{P:Program}{n:Nat}{y:World×(Nat->Prop)×(Nat->Prop)×(Nat->Value->Prop)×Nat}{st:St}{Q:Exit->Act->World->Prop}{Γ:p5}{T:List Ct}{ρ:Type}{r:ρ}(aG:x9 P Γ)(hT:∀c∈T,Ok P c)
  (a m:Nat) (dm:List (Nat×AV)) (E:St) (j:Nat) (b:Bool) (dj:Nat) (ST SF:St) (WT WF:Prop) {V:Prop} [Decidable V] {e:Bool} {A B:Option ρ} {i:Nat} {l:List Oper} (H:gd V (if e=true then A else B)=some r)
  (z:Ax n Γ T l i a m st=some (V,E,j,b,dj,e)) (hA:(bif b then Gs n Γ T l a m (N9 dj true E) else DZ n l a m dm dj b (N9 dj true E))=some (WT,ST)) (hB:(bif b then DZ n l a m dm dj b (N9 dj false E) else Gs n Γ T l a m (N9 dj false E))=some (WF,SF))
  (kA:A=some r->WT/\VL (cx P n y) l (a+m) ST Q) (kB:B=some r->WF/\VL (cx P n y) l (a+m) SF Q):VL (cx P n y) l i st Q:=by
 obtain⟨hV,H0⟩:=L7 H;clear H;unfold Ax at z;split at z
 ·rename_i V1 g g1;split at z
  ·rename_i o hn;split at z
   ·rename_i j' b' aZ;split at z
    ·rename_i oj hj;split at z
     ·rename_i k aF;split at z
      ·rename_i f e' aR;rw[ce] at z;split at z
       ·rename_i hc;simp only[ba] at hc;obtain⟨⟨⟨⟨aY,aK⟩,aJ⟩,aI⟩,aD⟩:=hc;simp only[oi,pj] at z;obtain⟨rfl,rfl,rfl,rfl,rfl,rfl⟩:=z;have aK:i<=a:=Nat.le_of_ble_eq_true aK;have aJ:j'<a:=by simpa using aJ
        have aI:a+m<=l.length:=Nat.le_of_ble_eq_true aI;rw[List.all_eq_true] at aD;have ei:i+(a-i)=a:=by omega
        refine C0e aG hT g1 hV ?_;rw[ei];intro G1 a1 S1 aH Y;have aN:(l.drop a).take m=(((l.drop a).take m).map Gr).map (grd j' b'):=by
         rw[List.map_map]
         conv=>lhs; rw[<- List.map_id ((l.drop a).take m)]
         exact List.map_congr_left fun o ho=>(E0n (aD o ho)).symm
        have aB:k∈Aw (l.take a):=by
         refine YY (o:=oj) ?_ aF;rw[List.mem_iff_getElem?];exact⟨j',by grind[List.getElem?_take_of_lt,XY]⟩
        have aL:=(Y.val k _ aR).1 (fun _ h=>by cases h);have aA:∀v,e'=v->EnvR n G1 (N9 k v g).e a1:=fun v hv=>by
         refine⟨Y.defers,Y.size,fun t s F=>?_⟩;simp only[N9] at F;rw[lK] at F;split at F
         ·rename_i hd;cases F;subst hd;subst hv;refine⟨fun _=>?_,fun h=>(h (fun _ h=>by cases h)).elim⟩;have:=BA aL;show RT _ _ _ _ _;rw[this];exact rfl
         ·exact Y.val t s F
        have aU:∀v,b9 (N9 k v g).e k=some ⟨[],.d false .bool v⟩:=fun v=>by
         simp only[N9]; rw[lK,if_pos rfl]
        have aC:∀v t s,b9 (N9 k v g).e t=some s->∀x∈s.p,x.1∈Aw (l.take a):=fun v t s F x hx=>by
         simp only[N9] at F;rw[lK] at F;split at F
         ·grind
         grind[i0Z]
        have el:l.drop a=(l.drop a).take m++l.drop (a+m):=by grind[List.drop_drop,List.take_append_drop]
        rw[el];have aW:∀(v:Bool) (W:Prop) (S3:St),e'=v->v=b'->Gs n Γ T l a m (N9 k v g)=some (W,S3)->W/\VL (cx P n y) l (a+m) S3 Q->wpList P l.toArray Q ((l.drop a).take m++l.drop (a+m)) a1 G1.w:=by
         intro v W S3 hv aO q hk;unfold Gs at q;rw[ce] at q;split at q
         ·rename_i aP;split at q
          ·rename_i W1 aQ aX g2;simp only[oi,pj] at q;obtain⟨rfl,rfl⟩:=q;obtain⟨u,f1,f2,f3⟩:=Bb (Ad (K:=fun aT _=>aT=aQ) g2 hk.1 rfl);have:=p0W (X:=cx P n y) aG hT (ops:=l.toArray) (all:=l) rfl (Q:=Q) (rest:=l.drop (a+m)) (b:=b') (f:=false) hj aF u 0 (Aw (l.take a)) (N9 k v g) G1 a1 (fun R hR=>by
             have:R.o∈((l.drop a).take m).map Gr:=by rw[<- f1]; exact List.mem_map_of_mem hR
             obtain⟨o',_,e⟩:=List.mem_map.1 this;rw[<- e]; rfl) (by rw[f1]; exact aP) aB (aC v) (by rw[<- aO]; exact aU v) f2 S1 aH (aA v hv)
            (fun G2 a2 S2 aM G=>by
              rw[f3] at aM G;exact hk.2 G2 a2 S2 aM G)
           have em:List.map (fun R:A7=>grd j' b' R.o) u=(l.drop a).take m:=by
            rw[aN,<- f1,List.map_map];rfl
           grind
          grind
         ·cases q
        have aV:∀(v:Bool) (W:Prop) (S3:St),e'=v->v=!b'->DZ n l a m dm k b' (N9 k v g)=some (W,S3)->W/\VL (cx P n y) l (a+m) S3 Q->wpList P l.toArray Q ((l.drop a).take m++l.drop (a+m)) a1 G1.w:=by
         intro v W S3 hv aO q hk;unfold DZ at q;rw[ce] at q;split at q
         ·rename_i aS;simp only[oi,pj] at q;obtain⟨rfl,rfl⟩:=q;have:=m0A (X:=cx P n y) (ops:=l.toArray) (all:=l) rfl (Q:=Q) (rest:=l.drop (a+m)) (b:=b') (f:=false) hj aF (((l.drop a).take m).map Gr) dm (Aw (l.take a)) (N9 k v g).e G1 a1 aS aB (aC v) (by grind) (aA v hv)
           (fun a2 G=>hk.2 G1 a2 S1 aH G)
          grind
         ·cases q
        grind
       grind
      grind
     grind
    grind
   grind
  grind
 grind
def Fa(n:Nat)(Γ:p5)(T:List Ct)(l:List Oper)(i:Nat)(keep:List Nat)(st:St):Option (Prop×St):=bif Nat.ble i l.length then(match Tb n Γ T l i (l.length-i) st with
 | some (V,s)=>some (V,cut keep s)
 | none=>none) else none
theorem zLE{P:Program}{n:Nat}{y:World×(Nat->Prop)×(Nat->Prop)×(Nat->Value->Prop)×Nat}{st:St}{Q:Exit->Act->World->Prop}{Γ:p5}{T:List Ct}{ρ:Type}{r:ρ}(g:x9 P Γ)(w:∀c∈T,Ok P c)(b:List Nat)(st':St){V:Prop}[Decidable V]{e:Option ρ}{i:Nat}{l:List Oper}(H:gd V e=some r)
  (h:Fa n Γ T l i b st=some (V,st')) (v:e=some r->FX (cx P n y) st' .normal Q):VL (cx P n y) l i st Q:=by
 obtain⟨q,o⟩:=L7 H;unfold Fa at h;rw[ce] at h;split at h
 ·rename_i hi;have hi:=Nat.le_of_ble_eq_true hi;split at h
  ·rename_i x s t;simp only[oi,pj] at h;obtain⟨rfl,rfl⟩:=h;refine C0e g w t q ?_;intro G a S m k;rw[show i+(l.length-i)=l.length by omega,List.drop_length];obtain⟨G4,u,d,f,j⟩:=Gj b S m k;have:=v o G4 a u d j;rw[f] at this;exact this
  grind
 grind
section
variable {P:Program} {n:Nat} {y:World×(Nat->Prop)×(Nat->Prop)×(Nat->Value->Prop)×Nat} {st:St} {Q:Exit->Act->World->Prop} {Γ:p5} {T:List Ct} {ρ:Type} {r:ρ} {l:List Oper} {id i:Nat} {V:Prop} [Decidable V]
theorem IX[a:HG P Γ][c:HT P T](k:List Nat){e:Option ρ}(H:gd V e=some r)(b:e=some r->FX (cx P n y) (nx (Fa n Γ T l i k st)) .normal Q)(h:(Fa n Γ T l i k st).map Prod.fst=some V:=by kernel_rfl):VL (cx P n y) l i st Q:=zLE a.h c.h _ _ H (De h) b
theorem iF[b:HG P Γ][d:HT P T](i:Nat)(a k:List Nat){e:Option ρ}(H:gd V e=some r)(c:e=some r->FX (cx P n y) (nx (SU n Γ T l i a k st)) .normal Q)(h:(SU n Γ T l i a k st).map Prod.fst=some V:=by kernel_rfl):VX (cx P n y) st (.region id l.toArray false) Q:=zF b.h d.h i a k _ H (De h) c
def n3{α β:Type}(o:Option (α×β×St)):St:=match o with
 | some (_,_,s)=>s
 | none=>⟨[],[]⟩
theorem L0p{a b:Type}{o:Option (a×b×St)}{V:a}{W:b}(h:o.map (fun x=>(x.1,x.2.1))=some (V,W)):o=some (V,W,n3 o):=by
 cases o with
 | none=>cases h
 | some x =>
   cases h;rfl
theorem iE[Alw][b:HG P Γ][e:HT P T]{f:FuncId}{ps:List Par}{a:Type}[Inhabited a]{pre:s9 ps->Prop}{post:a->Prop}{R:a->AV}{Z:a->B6 ps}(c:kE P f ps pre post R Z)(i:Nat)(k:List Nat){W:a->Prop}{g:a->Option ρ}(H:gd V (Alw.alp (Z0 ps post R Z) g)=some r)(d:∀z,Z0 ps post R Z z->g z=some r->W z/\FX (cx P n y) (n3 (Oo n Γ T l i k f pre (fun _=>⟨True,R z,Z z⟩) st)) .normal Q)(h:∀z,(Oo n Γ T l i k f pre (fun _=>⟨True,R z,Z z⟩) st).map (fun x=>(x.1,x.2.1))=some (V,W z):=by intro _; kernel_rfl):VX (cx P n y) st (.region id l.toArray false) Q :=
 zE b.h e.h c i k _ W H (fun z=>L0p (h z)) d
def Tc(n:Nat)(Γ:p5)(T:List Ct)(l:List Oper)(m:Nat)(dm:List (Nat×AV))(i0:Nat)(v:Bool)(o:Option (Prop×St×Nat×Bool×Nat×Bool)):Option (Prop×St):=match o with
 | some (_,st1,_,b,dj,_)=>bif (bif b then v else !v) then Gs n Γ T l i0 m (N9 dj v st1) else DZ n l i0 m dm dj b (N9 dj v st1)
 | none=>none
theorem Qd[k:HG P Γ][u:HT P T](a m:Nat)(c:List (Nat×AV)){q g:Prop}{e:Bool}{A B:Option ρ}(H:gd V (if e=true then A else B)=some r)
  (s:A=some r->q/\VL (cx P n y) l (a+m) (nx (Tc n Γ T l m c a true (Ax n Γ T l i a m st))) Q) (t:B=some r->g/\VL (cx P n y) l (a+m) (nx (Tc n Γ T l m c a false (Ax n Γ T l i a m st))) Q)
  (h:(Ax n Γ T l i a m st).map (fun x=>(x.1,x.2.2.2.2.2))=some (V,e):=by kernel_rfl) (d:(Tc n Γ T l m c a true (Ax n Γ T l i a m st)).map Prod.fst=some q:=by kernel_rfl) (f:(Tc n Γ T l m c a false (Ax n Γ T l i a m st)).map Prod.fst=some g:=by kernel_rfl):VL (cx P n y) l i st Q:=by
 cases ho:Ax n Γ T l i a m st with
 | none=>rw[ho] at h; cases h
 | some x =>
   obtain⟨z,o,j,b,v,w⟩:=x;rw[ho] at h d f s t;cases h;have d:=De d;have f:=De f;exact zGL k.h u.h a m c o j b v _ _ q g H ho (by cases b <;> exact d) (by cases b <;> exact f) s t
def Ii(n:Nat)(Γ:p5)(T:List Ct)(l:List Oper)(m:Nat)(dm:List (Nat×AV))(k:List Nat)(i0:Nat)(v:Bool)(o:Option (Prop×St×Nat×Bool×Nat×Bool)):Option (Prop×St):=match o with
 | some (_,st1,_,b,dj,_)=>bif (bif b then v else !v) then(match Gs n Γ T l i0 m (N9 dj v st1) with
   | some (W,s)=>(match Fa n Γ T l (i0+m) k s with
     | some (W2,s2)=>some (W/\W2,s2)
     | none=>none)
   | none=>none) else(match DZ n l i0 m dm dj b (N9 dj v st1) with
   | some (_,s)=>Fa n Γ T l (i0+m) k s
   | none=>none)
 | none=>none
theorem I0s[u:HG P Γ][E:HT P T]{m:Nat}{k:List Nat}{f:Nat}{v b:Bool}{c:St}{t:List (Nat×AV)}{j i:Nat}{e:Bool}{z W:Prop}{A:Option ρ}(h:(Ii n Γ T l m t k f v (some (z,c,j,b,i,e))).map Prod.fst=some W)
  (a:A=some r->W/\FX (cx P n y) (nx (Ii n Γ T l m t k f v (some (z,c,j,b,i,e)))) .normal Q):∃WT s,(bif (bif b then v else !v) then Gs n Γ T l f m (N9 i v c) else DZ n l f m t i b (N9 i v c))=some (WT,s)/\(A=some r->WT/\VL (cx P n y) l (f+m) s Q):=by
 have q:∀{s o:St} {W2:Prop},Fa n Γ T l (f+m) k s=some (W2,o)->W2->A=some r->FX (cx P n y) o .normal Q->VL (cx P n y) l (f+m) s Q:=fun {s o W2} d F g G=>by
  haveI:=Classical.propDecidable W2
  exact zLE u.h E.h k o (V:=W2) (e:=A) (by unfold gd; rw[if_pos F]; exact g) d fun _=>G
 unfold Ii at h a;dsimp only at h a;cases hc:(bif b then v else !v) with
 | true =>
   rw[hc] at h a;simp only[cond_true] at h a ⊢;cases d:Gs n Γ T l f m (N9 i v c) with
   | none=>rw[d] at h; cases h
   | some x =>
     obtain⟨W1,s⟩:=x;rw[d] at h a;dsimp only at h a;cases h2:Fa n Γ T l (f+m) k s with
     | none=>rw[h2] at h; cases h
     | some w =>
       obtain⟨W2,o⟩:=w;rw[h2] at h a;cases h;exact⟨W1,s,rfl,fun g=>⟨(a g).1.1,q h2 (a g).1.2 g (a g).2⟩⟩
 | false =>
   rw[hc] at h a;simp only[cond_false] at h a ⊢;cases d:DZ n l f m t i b (N9 i v c) with
   | none=>rw[d] at h; cases h
   | some x =>
     obtain⟨W1,s⟩:=x;have H:W1=True:=by
      unfold DZ at d;rw[ce] at d;split at d
      ·cases d; rfl
      ·cases d
     subst H;rw[d] at h a;dsimp only at h a;cases h2:Fa n Γ T l (f+m) k s with
     | none=>rw[h2] at h; cases h
     | some w =>
       obtain⟨W2,o⟩:=w;rw[h2] at h a;cases h;exact⟨True,s,rfl,fun g=>⟨trivial,q h2 (a g).1 g (a g).2⟩⟩
theorem iG[d:HG P Γ][u:HT P T](a m:Nat)(k:List Nat)(c:List (Nat×AV)){s o:Prop}{e:Bool}{A B:Option ρ}(H:gd V (if e=true then A else B)=some r)
  (q:A=some r->s/\FX (cx P n y) (nx (Ii n Γ T l m c k a true (Ax n Γ T l 0 a m st))) .normal Q) (g:B=some r->o/\FX (cx P n y) (nx (Ii n Γ T l m c k a false (Ax n Γ T l 0 a m st))) .normal Q)
  (h:(Ax n Γ T l 0 a m st).map (fun x=>(x.1,x.2.2.2.2.2))=some (V,e):=by kernel_rfl) (t:(Ii n Γ T l m c k a true (Ax n Γ T l 0 a m st)).map Prod.fst=some s:=by kernel_rfl) (i:(Ii n Γ T l m c k a false (Ax n Γ T l 0 a m st)).map Prod.fst=some o:=by kernel_rfl):VX (cx P n y) st (.region id l.toArray false) Q:=by
 refine Vc ?_;cases ho:Ax n Γ T l 0 a m st with
 | none=>rw[ho] at h; cases h
 | some x =>
   obtain⟨Y,f,j,b,w,X⟩:=x;rw[ho] at h t i q g;cases h;obtain⟨W1,z,F,W⟩:=I0s t q;obtain⟨W2,E,G,v⟩:=I0s i g;exact zGL d.h u.h a m c f j b w z E W1 W2 H ho (by cases b <;> exact F) (by cases b <;> exact G) W v
theorem l5{P:Program}{Γ:p5}[HG P Γ]{f:FuncId}{ps:List Par}{ρ:Type}[Inhabited ρ]{F:s9 ps->Option ρ}{R:ρ->AV}{Z:ρ->B6 ps}{b:Func}{a:Code}(rs:List ResultVar)(i:P.funcs[f]?=some b)
 (h:∀y x r,F x=some r->∀Q,SN (cx P b.ntmps y) Γ rs ps R Z r .normal Q->SN (cx P b.ntmps y) Γ rs ps R Z r .ret Q->VX (cx P b.ntmps y) ⟨L5 0 ps x,H7 0 ps x⟩ a Q)
 (g:b.body=some a:=by rfl) (e:b.results=rs.toArray:=by kernel_rfl) (d:Ar P f=true:=by kernel_rfl) (c:(Nat.ble ps.length b.ntmps&&Ab ps)=true:=by kernel_rfl):Ok P (k6 f ps F R Z):=okL rs i rfl e h g d c
end
theorem hz{P:Program}{T:List Ct}(h:∀c∈T,Ok P c):HT P T:=⟨h⟩
instance (priority:=low){P:Program}:HT P []:=⟨@tn P⟩
def Kr(f:FuncId)(ps:List Par){ζ:Type}(R:ζ->AV)(Z:ζ->B6 ps)(v:ζ):Ct:=⟨f,ps,fun _=>⟨True,R v,Z v⟩⟩
section
variable {P:Program} {n:Nat} {y:World×(Nat->Prop)×(Nat->Prop)×(Nat->Value->Prop)×Nat} {st:St} {Q:Exit->Act->World->Prop} {Γ:p5} {T:List Ct} {ρ:Type} {r:ρ} {f:FuncId} {ps:List Par} {ζ:Type} [Inhabited ζ] {F:s9 ps->Option ζ} {R:ζ->AV} {Z:ζ->B6 ps} {V:Prop} [Decidable V] {x:ζ} {g:ζ->Option ρ} {id:Nat} {l:List Oper} {b:Bool}
theorem iD[a:HG P Γ][i:HT P T][j:K7 P](_:Ok P (k6 f ps F R Z))(k:List Nat){c:Code}(H:gd V (lt x g)=some r)(e:∀v,g v=some r->VX (cx P n y) (nx (I3 b n Γ (Kr f ps R Z v :: T) l k st)) c Q)(h:(I3 b n Γ T l k st).map Prod.fst=some V:=by kernel_rfl)(d:nx (I3 b n Γ T l k st)=nx (I3 b n Γ (Kr f ps R Z x :: T) l k st):=by kernel_rfl):VX (cx P n y) st (.seq (.region id l.toArray b) c) Q :=
 qd a.h i.h k (fun v=>nx (I3 b n Γ (Kr f ps R Z v :: T) l k st)) H ((De h).trans (congrArg (fun s=>some (V,s)) d)) e
theorem jD[a:HG P Γ][e:HT P T][i:K7 P](_:Ok P (k6 f ps F R Z))(k:List Nat)(H:gd V (lt x g)=some r)(d:∀v,g v=some r->FX (cx P n y) (nx (I3 b n Γ (Kr f ps R Z v :: T) l k st)) .normal Q)(h:(I3 b n Γ T l k st).map Prod.fst=some V:=by kernel_rfl)(c:nx (I3 b n Γ T l k st)=nx (I3 b n Γ (Kr f ps R Z x :: T) l k st):=by kernel_rfl):VX (cx P n y) st (.region id l.toArray b) Q :=
 zd a.h e.h k (fun v=>nx (I3 b n Γ (Kr f ps R Z v :: T) l k st)) H ((De h).trans (congrArg (fun s=>some (V,s)) c)) d
end
end Go.Proofs.Xv
end
