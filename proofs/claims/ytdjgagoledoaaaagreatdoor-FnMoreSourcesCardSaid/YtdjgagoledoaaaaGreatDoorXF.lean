/- Plain facts on B0U functions: sizes, copies, comparisons. Over any program. -/
import Derived.Test.YtdjgagoledoaaaaGreatDoorXD
import Derived.Test.YtdjgagoledoaaaaGreatDoorXA
import Derived.Lib.SliceRun
import Derived.Sort.Grow
set_option maxHeartbeats 0
section
namespace Go.Proofs.Xd
open Go Go.Proofs.Xv Go.Proofs.Xl
theorem lE{a b:Type}{x:a}{f:a->b}:lt x f=f x:=rfl
theorem I0C{t:Ty}{a:List (j5 t)}{i:Nat}{d:j5 t}{m:Nat}(h:i<a.length)(b:cnt (.sl t) a<=m):cnt t (a.getD i d)<=m:=by
 grind[AF,C0f]
theorem Bj{t:Ty}{a:List (j5 t)}{m:Nat}(b:cnt (.sl t) a<=m):a.length<=m:=by
 grind[AF]
theorem cF{s t:Ty}{x:j5 (.pr s t)}{m:Nat}(h:cnt (.pr s t) x<=m):cnt s x.1<=m:=by
 grind[J1]
theorem cS{s t:Ty}{x:j5 (.pr s t)}{m:Nat}(h:cnt (.pr s t) x<=m):cnt t x.2<=m:=by
 grind[J1]
theorem Y6{t:Ty}{a:List (j5 t)}{i:Nat}{d:j5 t}(h:i<a.length)(b:wf (.sl t) a):wf t (a.getD i d):=by
 rw[gq,List.getElem?_eq_getElem h];exact b.2 _ (List.getElem_mem h)
theorem dlt{i n:Nat}:decide ((i:Int) < (n:Int))=decide (i<n):=by
 grind
theorem QG{n:Nat}(h:n<=9223372036854775807):n+1<U7:=by grind[U7]
theorem D0S{a ρ:Type}{F:(a->Option ρ)->a->Option ρ}{s:a}{r:Option ρ}(h:∀n,0<n->I9 F n s=r):lp F s=r:=h U7 (by grind[U7])
theorem Ni{b c ρ:Type}{n:Nat}(j:n<=9223372036854775807)(mk:Nat->b->c)(f:Nat->b->Option b)(x:Nat->b->Option ρ)(I:Nat->b->Prop){J:b->Option ρ}{F:(c->Option ρ)->c->Option ρ}
  (t:∀g i s,i<n->I i s->F g (mk i s)=match f i s with | some s'=>g (mk (i+1) s') | none=>x i s) (l:∀i s s',i<n->I i s->f i s=some s'->I (i+1) s') (o:∀g s,I n s->F g (mk n s)=J s)
  (a:Nat->b->Option ρ) (r0:∀s,I n s->a n s=J s) (q:∀i s,i<n->I i s->a i s=match f i s with | some s'=>a (i+1) s' | none=>x i s) (k:Nat) (e:k<=n) (s:b) (h:I k s):lp F (mk k s)=a k s:=by
 have d:∀(m i:Nat) (s:b),i<=n->n-i<m->I i s->I9 F m (mk i s)=a i s:=by
  intro m
  induction m with
  | zero=>omega
  | succ m r =>
    grind[hi,I9]
 exact d U7 k s e (by have:=QG j; omega) h
theorem Jz{ρ:Type}{n:Nat}(d:n<=9223372036854775807)(c:Nat->Bool)(x:Nat->Option ρ){e:Option ρ}{F:(Int->Option ρ)->Int->Option ρ}(k:Nat)(b:k<=n)(l:∀g (i:Nat),k<=i->i<n->F g (i:Int)=if c i=true then x i else g ((i:Int)+1))
  (a:∀g,F g (n:Int)=e):lp F (k:Int)=match(List.range' k (n-k)).find? c with | some i=>x i | none=>e:=by
 have:=Ni d (fun i (_:Unit)=>(i:Int)) (fun i _=>if c i=true then none else some ()) (fun i _=>x i) (fun i _=>k<=i) (J:=fun _=>e) (F:=F)
  (fun g i s h f=>by
    grind) (fun _ _ _ _ h _=>Nat.le_succ_of_le h) (fun g _ _=>a g) (fun i _=>match(List.range' i (n-i)).find? c with | some i=>x i | none=>e) (fun _ _=>by simp) (fun i s h _=>by
    have j:n-i=(n-(i+1))+1:=by omega
    grind[List.range'_succ]) k b () (Nat.le_refl _)
 simpa using this
theorem H5{ρ:Type}{n:Nat}(b:n<=9223372036854775807)(c:Nat->Bool)(x:Option ρ){e:Option ρ}{F:(Int->Option ρ)->Int->Option ρ}(j:∀g (i:Nat),i<n->F g (i:Int)=if c i=true then x else g ((i:Int)+1))
  (a:∀g,F g (n:Int)=e):lp F 0=if(List.range n).any c=true then x else e:=by
 have:=Jz b c (fun _=>x) 0 (Nat.zero_le _) (fun g i _ h=>j g i h) a;rw[Nat.sub_zero,<- List.range_eq_range'] at this;refine Eq.trans this ?_;cases h:(List.range n).find? c with
 | none =>
   rw[if_neg];rw[List.find?_eq_none] at h;intro d;obtain⟨i,k,f⟩:=List.any_eq_true.1 d;exact h i k f
 | some i =>
   rw[if_pos];exact List.any_eq_true.2 ⟨i,List.mem_of_find?_eq_some h,List.find?_some h⟩
theorem D0T{ρ:Type}{n:Nat}(d:n<=9223372036854775807)(c:Nat->Bool)(x:Option ρ){e:Option ρ}{F:(Int->Option ρ)->Int->Option ρ}(k:Nat)(f:k<=n)(b:∀g (i:Nat),k<=i->i<n->F g (i:Int)=if c i=true then x else g ((i:Int)+1))
  (a:∀g,F g (n:Int)=e):lp F (k:Int)=if((List.range n).any fun i=>decide (k<=i)&&c i)=true then x else e:=by
 refine(Jz d c (fun _=>x) k f b a).trans ?_
 grind
def fN{σ:Type}(f:Nat->σ->σ):Nat->σ->σ
 | 0,s=>s
 | n+1,s=>f n (fN f n s)
theorem lF{a c ρ:Type}{n:Nat}(l:n<=9223372036854775807)(mk:Nat->a->c)(f:Nat->a->a)(I:Nat->a->Prop){J:a->Option ρ}{F:(c->Option ρ)->c->Option ρ}
  (o:∀g i s,i<n->I i s->F g (mk i s)=g (mk (i+1) (f i s))) (e:∀i s,i<n->I i s->I (i+1) (f i s)) (q:∀g s,I n s->F g (mk n s)=J s) (s:a) (k:I 0 s):lp F (mk 0 s)=J (fN f n s):=by
 have d:∀(m i:Nat),i<=n->n-i<m->I i (fN f i s)->I9 F m (mk i (fN f i s))=J (fN f n s):=by
  intro m
  induction m with
  | zero=>omega
  | succ m j =>
    intro i hi r b;show F (I9 F m) (mk i _)=_;by_cases h:i<n
    ·rw[o _ _ _ h b];exact j (i+1) (by omega) (by omega) (e _ _ h b)
    grind
 exact d U7 0 (Nat.zero_le _) (by have:=QG l; omega) k
theorem MG{a d ρ:Type}{n:Nat}(r:n<=9223372036854775807)(mk:Nat->a->d)(f:Nat->a->a)(c:Nat->Bool)(x:Option ρ)(I:Nat->a->Prop){J:a->Option ρ}{F:(d->Option ρ)->d->Option ρ}
  (t:∀g i s,i<n->I i s->F g (mk i s)=if c i=true then x else g (mk (i+1) (f i s))) (l:∀i s,i<n->I i s->c i=false->I (i+1) (f i s)) (u:∀g s,I n s->F g (mk n s)=J s) (s:a) (q:I 0 s) :
  lp F (mk 0 s)=if(List.range n).any c=true then x else J (fN f n s):=by
 have e:∀(m i:Nat),i<=n->n-i<m->I i (fN f i s)->(∀j,j<i->c j=false)->I9 F m (mk i (fN f i s))=if(List.range n).any c=true then x else J (fN f n s):=by
  intro m
  induction m with
  | zero=>omega
  | succ m o =>
    intro i hi v b w;show F (I9 F m) (mk i _)=_;by_cases h:i<n
    ·rw[t _ _ _ h b];cases hci:c i with
     | true=>grind
     | false =>
       rw[if_neg (by simp)];refine o (i+1) (by omega) (by omega) (l _ _ h b hci) (fun j k=>?_)
       grind
    grind
 exact e U7 0 (Nat.zero_le _) (by have:=QG r; omega) q (fun j k=>absurd k (Nat.not_lt_zero j))
theorem Qt{n:Nat}(p q:Nat->Bool):((List.range n).any fun i=>p i||q i)=((List.range n).any p||(List.range n).any q):=by
 grind
theorem BL{n:Nat}{c:Nat->Bool}:(!(List.range n).any c)=true↔∀i,i<n->c i=false:=by
 grind
theorem T6{a:Type}(l:List a)(d:a)(p:a->Bool):((List.range l.length).any fun i=>p (l.getD i d))=l.any p:=by
 rw[Bool.eq_iff_iff,List.any_eq_true,List.any_eq_true];constructor
 ·grind
 ·rintro⟨x,c,f⟩;obtain⟨i,b,e⟩:=List.getElem_of_mem c;refine⟨i,List.mem_range.2 b,?_⟩
  grind
theorem Mw{n:Nat}{p q:Nat->Bool}(h:∀i,i<n->p i=q i):(List.range n).any p=(List.range n).any q:=by
 grind
theorem BO{ρ:Type}{i n:Nat}{V:Prop}[Decidable V]{c:Bool}{x e:Option ρ}{g:Int->Option ρ}(h:i<n)(b:n<=9223372036854775807)(a:V) :
  (if(decide ((i:Int) < (n:Int)))=true then gd V (if c=true then x else gd (c9 ((i:Int)+1)/\True) (g ((i:Int)+1))) else e)=if c=true then x else g ((i:Int)+1):=by
 rw[if_pos (by grind),gP a,gP ⟨oo,trivial⟩]
theorem E0O{ρ:Type}{i n:Nat}{V W:Prop}[Decidable V][Decidable W]{c:Bool}{x e:Option ρ}{g:Int->Option ρ}(h:i<n)(d:n<=9223372036854775807)(a:V)(b:W) :
  (if(decide ((i:Int) < (n:Int)))=true then gd V (gd W (if c=true then x else gd (c9 ((i:Int)+1)/\True) (g ((i:Int)+1)))) else e)=if c=true then x else g ((i:Int)+1):=by
 rw[if_pos (by grind),gP a,gP b,gP ⟨oo,trivial⟩]
theorem aE{ρ:Type}{n:Nat}{a e:Option ρ}:(if(decide ((n:Int) < (n:Int)))=true then a else e)=e:=if_neg (by simp)
theorem He{i n:Nat}{o:Option Bool}{g:Int->Option Int}{e:Option Int}{b:Bool}(h:i<n)(c:n<=9223372036854775807)(a:o=some b) :
  (if(decide ((i:Int) < (n:Int)))=true then gd (ix (i:Int) n/\o.isSome=true/\True) (if(vl o)=true then some (i:Int) else gd (c9 ((i:Int)+1)/\True) (g ((i:Int)+1))) else e)=if b=true then some (i:Int) else g ((i:Int)+1):=by
 subst a;rw[if_pos (by grind),gP ⟨oo,rfl,trivial⟩,gP ⟨oo,trivial⟩,vS]
theorem CD{n:Nat}(d:n<=9223372036854775807)(b:Nat->Bool){F:(Int->Option Int)->Int->Option Int}(c:∀g (i:Nat),i<n->F g (i:Int)=if b i=true then some (i:Int) else g ((i:Int)+1))(a:∀g,F g (n:Int)=some (-1)) :
  lp F 0=some (match(List.range n).find? b with | some i=>(i:Int) | none => -1):=by
 have:=Jz d b (fun i=>some (i:Int)) 0 (Nat.zero_le _) (fun g i _ h=>c g i h) a;rw[Nat.sub_zero,<- List.range_eq_range'] at this
 grind
theorem Hf{n:Nat}{b:Nat->Bool}{o:Option Int}(h:o=some (match(List.range n).find? b with | some i=>(i:Int) | none => -1)):gd (o.isSome=true/\True) (lt (vl o) fun v0=>some (decide (0<=v0)))=some ((List.range n).any b):=by
 subst h;rw[gP ⟨rfl,trivial⟩,lE,vS];cases h:(List.range n).find? b with
 | none =>
   grind
 | some i =>
   have:(List.range n).any b=true:=List.any_eq_true.2 ⟨i,List.mem_of_find?_eq_some h,List.find?_some h⟩;rw[this];simp
end Go.Proofs.Xd
end
section
namespace Go.Proofs.Xv
open Go Go.RowKit Go.Proofs.Sv
def CY(P:Program)(op:TypeId->Ty->Bool):Nat->List Field->Ty->Bool
 | _,[],_=>false
 | off,[f],y=>Nat.beq f.offset off&&Nat.beq (P.cellsOf f.type) (sz y)&&op f.type y
 | off,f :: r,.pr a b=>Nat.beq f.offset off&&Nat.beq (P.cellsOf f.type) (sz a)&&op f.type a&&CY P op (off+sz a) r b
 | _,_,_=>false
def Of(P:Program):Nat->TypeId->Ty->Bool
 | 0,_,_=>false
 | n+1,T,y=>match P.underlying T with
   | some (.int k)=>decide (y=.int k)
   | some .bool=>decide (y=.bool)
   | some .string=>decide (y=.str)
   | some (.slice E)=>match y with
     | .sl e=>Of P n E e
     | _=>false
   | some (.struct fs)=>Nat.beq (P.cellsOf T) (sz y)&&CY P (Of P n) 0 fs.toList y
   | _=>false
def Ci(w:World)(k:Nat):Prop:=k<w.heap.size
theorem y0T(k:IntKind):k.min=lo k/\k.max=hi k:=by cases k <;> exact⟨rfl,rfl⟩
theorem u0V{P:Program}{E:TypeId}{e:Ty}{w:World}{H:Type}{enc:TypeId×Value->H}{sp:Nat->Bool}{W:Bool}(hE:∀{j:Nat} {cs:List Value} {x:DataW H×List MemPlace},DataW.trod enc P w 0 sp W j E cs=some x->∃z:j5 e,RT (Ci w) w e cs z)
  {T:TypeId} {j:Nat} {cs:List Value} {x:DataW H×List MemPlace} (hT:P.underlying T=some (.slice E)) (h:DataW.trod enc P w 0 sp W j T cs=some x):∃z:List (j5 e),RT (Ci w) w (.sl e) cs z:=by
 rcases DataW.trod_slice hT h with ⟨rfl,_⟩ | ⟨a,len,cap,elems,rest,n,rfl,rfl,_,_,hlc,hcm,hel,hat,_,_⟩
 ·exact⟨[],none,0,rfl,Nat.le_refl _,by omega,.inl rfl⟩
 ·have m:cap<=9223372036854775807:=by unfold maxLen at hcm; omega
  have d:∀i,i<len->∃c:List Value,w.cells? 0 (a.add (i*P.cellsOf E)) (P.cellsOf E)=some c/\∃y:j5 e,RT (Ci w) w e c y:=by
   intro i hi;have f:=hat i hi;rw[List.getElem?_eq_getElem (by omega)] at f;cases g:w.cells? 0 (a.add (i*P.cellsOf E)) (P.cellsOf E) with
   | none=>rw[g] at f; cases f
   | some c =>
     rw[g] at f;simp only[Option.bind_some] at f;exact⟨c,rfl,hE f⟩
  by_cases F:len=0
  ·subst F;exact⟨[],some a,cap,rfl,Nat.zero_le _,m,.inl rfl⟩
  ·have V:P.cellsOf E=sz e:=by
    obtain⟨c,g,y,Q⟩:=d 0 (by omega);have:=(World.cells?_some g).2.1;rw[<- this]; exact RT.len Q
   have l:0<P.cellsOf E:=by rw[V]; exact Rw e
   obtain⟨b,o,rfl⟩:∃b o,a=⟨b,o,none⟩:=by
    obtain⟨c,g,_⟩:=d 0 (by omega);have G:a.add (0*P.cellsOf E)=a:=by simp[Addr.add]
    rw[G] at g;exact⟨a.block,a.off,(JH l g).1⟩
   have Y:b<w.heap.size:=by
    obtain⟨c,g,_⟩:=d 0 (by omega);have G:(Addr.mk b o none).add (0*P.cellsOf E)=⟨b,o,none⟩:=by simp[Addr.add]
    rw[G] at g;have r:=JH l g;exact r.2.2.lt (by rw[r.2.1]; exact l)
   have q:∀k,k<=len->∃(cs:List Value) (s:List (j5 e)),s.length=k/\At w b o cs/\AllR (RT (Ci w) w e) cs s:=by
    intro k
    induction k with
    | zero=>exact fun _=>⟨[],[],rfl,Rv,rfl⟩
    | succ k X =>
      intro hk;obtain⟨cs,s,r,v,u⟩:=X (by omega);obtain⟨c,g,y,Q⟩:=d k (by omega);have t:(Addr.mk b o none).add (k*P.cellsOf E)=⟨b,o+k*P.cellsOf E,none⟩:=by
       unfold Addr.add;split
       ·rename_i F; rw[F]; rfl
       ·rfl
      rw[t] at g;have h4:=(JH l g).2.2;refine⟨cs++c,s++[y],by simp[r],v.app ?_,AllR.app (AllR.one Q) u⟩;have:cs.length=k*P.cellsOf E:=by rw[u.len (fun c x h=>RT.len h),r,V]
      rw[this]; exact h4
   obtain⟨cs,s,r,v,u⟩:=q len (Nat.le_refl _);subst r;exact⟨s,some ⟨b,o,none⟩,cap,rfl,hlc,m,.inr ⟨b,o,cs,rfl,Y,v,u⟩⟩
theorem o0v{P:Program}{w:World}{H:Type}{enc:TypeId×Value->H}{sp:Nat->Bool}{E:Bool}{u:TypeId->Ty->Bool}
  (m:∀{T:TypeId} {y:Ty},u T y=true->∀{fuel:Nat} {cs:List Value} {x:DataW H×List MemPlace},DataW.trod enc P w 0 sp E fuel T cs=some x->∃z:j5 y,RT (Ci w) w y cs z) {cs:List Value} :
  ∀{fs:List Field} {off:Nat} {y:Ty},CY P u off fs y=true->cs.length=off+sz y->(∀f∈fs,∃n x,DataW.trod enc P w 0 sp E n f.type ((cs.drop f.offset).take (P.cellsOf f.type))=some x)->∃z:j5 y,RT (Ci w) w y (cs.drop off) z:=by
 intro fs
 induction fs with
 | nil=>grind[CY]
 | cons f r F =>
   intro off y h j o;cases r with
   | nil =>
     have h:(Nat.beq f.offset off&&Nat.beq (P.cellsOf f.type) (sz y)&&u f.type y)=true:=by
      cases y <;> exact h
     simp only[ba] at h;obtain⟨⟨i,d⟩,v⟩:=h;have i:=nb i;have d:=nb d;obtain⟨n,x,l⟩:=o f (by simp)
     grind[List.take_of_length_le,List.length_drop]
   | cons g X =>
     cases y with
     | pr a b =>
       simp only[CY,ba] at h;obtain⟨⟨⟨i,d⟩,v⟩,V⟩:=h;have i:=nb i;have d:=nb d;obtain⟨n,x,l⟩:=o f (by simp);rw[i,d] at l;obtain⟨W,q⟩:=m v l;have c:cs.length=off+sz a+sz b:=by rw[j]; simp only[sz]; omega
       obtain⟨Q,s⟩:=F V c (fun G t=>o G (List.mem_cons_of_mem _ t));refine⟨(W,Q),(cs.drop off).take (sz a),cs.drop (off+sz a),?_,q,s⟩
       grind[List.drop_drop,List.take_append_drop]
     | int k=>grind[CY]
     | bool=>grind[CY]
     | str=>grind[CY]
     | sl e=>grind[CY]
     | pt e=>grind[CY]
theorem u0W{P:Program}{w:World}{H:Type}{enc:TypeId×Value->H}{sp:Nat->Bool}{r:Bool}:∀{n:Nat} {T:TypeId} {y:Ty},Of P n T y=true->∀{fuel:Nat} {cs:List Value} {x:DataW H×List MemPlace},DataW.trod enc P w 0 sp r fuel T cs=some x->∃z:j5 y,RT (Ci w) w y cs z:=by
 intro n
 induction n with
 | zero=>intro T y h; cases h
 | succ n g =>
   intro T y h fuel cs x d;unfold Of at h;split at h
   ·rename_i k a;have c:y=.int k:=by simpa using h
    subst c;obtain⟨m,rfl,_,q⟩:=DataW.trod_int a d;refine⟨m,rfl,?_⟩;simp only[Lit.wf,ba,dq] at q
    grind[y0T]
   ·rename_i a;have c:y=.bool:=by simpa using h
    subst c;obtain⟨b,rfl,_⟩:=DataW.trod_bool a d;exact⟨b,rfl⟩
   ·rename_i a;have c:y=.str:=by simpa using h
    subst c;obtain⟨s,rfl,_,t⟩:=DataW.trod_string a d;exact⟨s,rfl,by grind[maxLen]⟩
   ·rename_i E a;split at h
    ·exact u0V (g h) a d
    grind
   ·rename_i u a;rw[ba] at h;obtain⟨j,l⟩:=m0I a d;have v:=nb h.1;have:=o0v (cs:=cs) (fun o=>g o) h.2 (by omega) (fun f e=>by
     obtain⟨i,hi,rfl⟩:=List.getElem_of_mem e;exact l i _ (by grind))
    grind
   grind
theorem I0o{w:World}:∀k,Ci w k->k<w.heap.size:=fun _ h=>h
theorem R0D{P:Program}{H:Type}{enc:TypeId×Value->H}{T E:TypeId}{y:Ty}{n:Nat}(c:Of P n T y=true)(g:P.underlying T=some (.slice E)){W:World}{r:Reach}{base:Nat}{v:Value}{d:DataW H}{p:List MemPlace}
  (k:Value.okWide P W r base T v) (h:DataW.Trod enc P W 0 (fun _=>true) true T v d p):∃x:j5 y,RT (Ci W) W y [v] x:=by
 obtain⟨a,j,e,rfl⟩:=WideShapes.okWide_slice g k;obtain⟨f,b⟩:=h;obtain⟨x,i⟩:=u0W c b;exact⟨x,i⟩
theorem WE.below{w w':World}(h:WE none w w'):Below w.heap.size w w':=⟨h.os,h.tape,h.output,h.size,fun k a=>h.block k a (by simp)⟩
theorem y0R{P:Program}{f:FuncId}{ps:List Par}{F:r7 ps->Option Bool}{Z:Bool->B0 ps}(h:Ok P (j9 f ps F (fun r=>.d true .bool r) Z)){w:World}{vs:List Value}{x:r7 ps}(b:ArgsR (Ci w) w none ps x vs)(g:F x=some true) :
  Calls P f vs.toArray w fun en w'=>en=.returned (.bool true)/\Below w.heap.size w w':=by
 refine Calls.mono (h.2 x (by show(F x).isSome=true; grind) w vs none (Ci w) I0o b) ?_;rintro en w' ⟨v,i,e,c,_,_,a,_⟩;refine⟨?_,WE.below c⟩;have a:RT _ w' .bool [v] (Xl.vl (F x))/\i=[]:=a;rw[g] at a;have j:[v]=[Value.bool true]:=a.1
 grind
theorem Og{P:Program}{ops:Array Oper}{Q:Exit->Act->World->Prop}{o:Oper}{r:List Oper}{a:Act}{w:World}(b:N0 P ops Q o (wpList P ops Q r) a w):wpList P ops Q (o :: r) a w:=by
 grind[wpList,N0]
theorem r0V{P:Program}{n:Nat}{e:C1}{ty:TypeId}{w:World}{T T' E:TypeId}{x y:Operand}{q:Option Addr}{m c:Nat}(i:P.underlying T=some (.slice E))(k:Sv.ev e x=some (.slice q m c))(h:Sv.ev e y=some (.slice none 0 0)) :
  F9 P n e (.binOp .eql T x y T') ty w (.bool q.isNone) w:=by
 intro a f j b g d;have:=Lib.run_eql_slice_nil w T E q m c 0 0 i;simp only[execOp,d.ev k,d.ev h];simp[eqGuard,this,Result.andThen]
theorem q0i{X:Cx}{G:Gh}{a:Act}{ops:Array Oper}{Q:Exit->Act->World->Prop}{d:Nat}{b:Op}{ty:TypeId}{pos:String}{after:Array Edge}{v:Value}{K:Act->World->Prop}
  (h:∀dst pos after g,(execOp a.eval ⟨dst,b,ty,pos,after,g⟩).run X.P G.w=.ok (.value v) G.w) (e:K (a.put (some d) v) G.w):N0 X.P ops Q ⟨some d,b,ty,pos,after,none⟩ K a G.w:=by
 unfold N0;have c:Region.wanted ⟨some d,b,ty,pos,after,none⟩ (yielded ops a.tmps)=true:=rfl;rw[if_pos c];unfold Oper.wp;rw[h (some d) pos after none];exact e
theorem x0g{X:Cx}{st:St}{Q:Exit->Act->World->Prop}{id T E g c j:Nat}{m u T':TypeId}{y W:String}{aC aH:Array Edge}{f:Bool}{e:Ty}{xs:List (j5 e)}
  (hU:X.P.underlying T=some (.slice E)) (h0:b9 st.e g=some ⟨[],.d f (.sl e) xs⟩) (aJ:J5 st.e=true) (h3:Nat.blt c X.n=true) (h4:Nat.blt j X.n=true)
  (ht:xs=[]->FX X ⟨(j,⟨[],.d true .bool true⟩) :: (c,⟨[],.d f (.sl e) xs⟩) :: st.e,st.o⟩ .normal Q) (hf:FX X ⟨(j,⟨[],.d true .bool false⟩) :: (c,⟨[],.d f (.sl e) xs⟩) :: st.e,st.o⟩ .normal Q) :
  VX X st (.region id [⟨some c,.move (.tmp g),m,y,aC,none⟩,⟨some j,.binOp .eql T (.tmp c) (.const (.slice none 0 0)) T',u,W,aH,none⟩].toArray false) Q:=by
 intro G a S ho hE;have h3:c<X.n:=by simpa using h3
 have h4:j<X.n:=by simpa using h4
 refine wp_region_lit ?_;have hu:=(hE.val g _ h0).1 (fun _ h=>by cases h);have aA:=hu;obtain⟨q,i,hv,aF,V,aG⟩:=aA;simp only[List.cons.injEq,and_true] at hv;have aK:a.eval (.tmp g)=a.tmps.getD g undef:=rfl;obtain⟨v,F,l⟩:M1 X G a (.move (.tmp g)) m (.d f (.sl e) xs):=B5 hE [.tmp g] (v:=a.eval (.tmp g)) (BX (by grind[AJ,J3])) (by grind);refine Og (q0i F ?_);have aD:∀(t:Nat) (s:Sl),b9 st.e t=some s->∀d,∀x∈s.p,x.1≠d:=fun t s hs d x hx=>by grind[AT]
 have z:=EnvR.put (st:=st) (p:=[]) (r:=.d f (.sl e) xs) hE h3 (fun _ h=>by cases h) (fun t s hs=>aD t s hs c) (v:=v) ⟨fun _=>l,fun h=>(h (fun _ h=>by cases h)).elim⟩;have Y:=l;obtain⟨q,i,hv,aF,V,aG⟩:=Y;simp only[List.cons.injEq,and_true] at hv;have aI:(a.put (some c) v).eval (.tmp c)=.slice q xs.length i:=by
  show(a.put (some c) v).tmps.getD c undef=_;rw[Sb (by rw[hE.size]; exact h3),if_pos rfl,hv]
 have hx:Sv.ev (D3 (a.put (some c) v) [.tmp c]) (.tmp c)=some (.slice q xs.length i):=by rw[J3 (by simp),aI]
 obtain⟨v2,k,aB⟩:M1 X G (a.put (some c) v) (.binOp .eql T (.tmp c) (.const (.slice none 0 0)) T') u (.d true .bool q.isNone):=B5 (st:=⟨(c,⟨[],.d f (.sl e) xs⟩) :: st.e,st.o⟩) z [.tmp c] (r0V hU hx rfl) rfl;refine Og (q0i k ?_);have H:∀b,q.isNone=b->EnvR X.n G ((j,⟨[],.d true .bool b⟩) :: (c,⟨[],.d f (.sl e) xs⟩) :: st.e) ((a.put (some c) v).put (some j) v2):=fun b hb=>EnvR.put (st:=⟨(c,⟨[],.d f (.sl e) xs⟩) :: st.e,st.o⟩) (p:=[]) z h4 (fun _ h=>by cases h) (fun t s hs x hx=>by
   grind[lK]) ⟨fun _=>hb ▸ aB,fun h=>(h (fun _ h=>by cases h)).elim⟩
 show Q .normal _ G.w;cases hq:q with
 | none =>
   refine ht ?_ G _ S ho (H true (by grind))
   grind
 | some ad=>exact hf G _ S ho (H false (by grind))
end Go.Proofs.Xv
end
section
namespace Go.Proofs.Xv
open Go Go.RowKit Go.Proofs.Sv Go.Proofs.Xl
theorem Cz{X:Cx}{st:St}{x:Exit}{Q:Exit->Act->World->Prop}(id:Nat)(st':St)(h:Gl id st=some st')(b:Nat.blt id 500000=true)(k:FX X st' x Q):FX X st x Q:=fun G a S i e=>by
 obtain⟨g,f,c,j,d⟩:=YC h b S i e;have:=k g a f c d
 grind
theorem m0K{X:Cx}{G:Gh}{a:Act}{ops:Array Oper}{Q:Exit->Act->World->Prop}{d f:Nat}{b:Op}{ty:TypeId}{pos:String}{after:Array Edge}{vs:Array Value}{K:Act->World->Prop}
  (h:∀dst pos after g,(execOp a.eval ⟨dst,b,ty,pos,after,g⟩).run X.P G.w=.ok (.enter f vs) G.w) (e:Calls X.P f vs G.w fun en w'=>∃v,en=.returned v/\K (a.put (some d) v) w'):N0 X.P ops Q ⟨some d,b,ty,pos,after,none⟩ K a G.w:=by
 unfold N0;have c:Region.wanted ⟨some d,b,ty,pos,after,none⟩ (yielded ops a.tmps)=true:=rfl;rw[if_pos c];unfold Oper.wp;rw[h (some d) pos after none];refine Calls.mono e ?_
 grind
end Go.Proofs.Xv
end
section
namespace Go.Proofs.Xl
class Alw where
 alp:{ζ ρ:Type}->(ζ->Prop)->(ζ->Option ρ)->Option ρ
 alp_some:∀{ζ ρ:Type} {p:ζ->Prop} {f:ζ->Option ρ} {r:ρ},alp p f=some r->∀z,p z->f z=some r
 alp_of:∀{ζ ρ:Type} {p:ζ->Prop} {f:ζ->Option ρ} {r:ρ} (z:ζ),p z->(∀z,p z->f z=some r)->alp p f=some r
 alp_u:∀{ζ:Type} {p:ζ->Prop} {f:ζ->Option Unit},(∀z,p z->f z=some ())->alp p f=some ()
theorem alw:Nonempty Alw:=by
 classical
 refine⟨⟨fun p f=>if h:∃r,∀z,p z->f z=some r then some h.choose else none,?_,?_,?_⟩⟩
 ·intro a b p f r H z hz;split at H
  ·grind
  grind
 ·intro a b p f r z hz h;have c:∃r,∀z,p z->f z=some r:=⟨r,h⟩
  grind
 ·simp_all
end Go.Proofs.Xl
namespace Go.Proofs.Xv
open Go Go.RowKit Go.Proofs.Sv Go.Proofs.Xl
def YG(P:Program)(f:FuncId)(ps:List Par){ζ:Type}(pre:r7 ps->Prop)(post:ζ->Prop)(res:ζ->r7 ps->FT ps):Prop:=Al P f=true/\∀(x:r7 ps),pre x->∀(w:World) (vs:List Value) (go:Option Nat) (K:Nat->Prop),(∀k,K k->k<w.heap.size)->ArgsR K w go ps x vs ->
 Calls P f vs.toArray w fun en w'=>∃z,post z/\JV ⟨f,ps,res z⟩ x w go K en w'
theorem okE{P:Program}{Γ:o4}(aD:w9 P Γ){f:FuncId}{ps:List Par}{ζ:Type}{pre:r7 ps->Prop}{post:ζ->Prop}{d:ζ->r7 ps->FT ps}{F:Func}{m:Code}{n:Nat}(rs:List ResultVar)(hf:P.funcs[f]?=some F)(hn:F.ntmps=n)(hb:F.body=some m)(hr:F.results=rs.toArray)(he:Al P f=true)(g:(Nat.ble ps.length n&&Z4 ps&&!F1 ps)=true)
  (h:∀y x,Xv.wfs ps x->pre x->(cx P n y).base=(cx P n y).w0.heap.size->∀Q,(∀z st,post z->Gi Γ st rs (d z x).r ps (d z x).z->FX (cx P n y) st .normal Q/\FX (cx P n y) st .ret Q)->VX (cx P n y) ⟨K6 0 ps x,H4 0 ps x⟩ m Q):YG P f ps pre post d:=by
 refine⟨he,fun x Y w H l K hK V=>?_⟩;simp only[ba] at g;obtain⟨⟨g,X⟩,q⟩:=g;have q:¬F1 ps=true:=by simpa using q
 have g:=Nat.le_of_ble_eq_true g;have aF:=V.len;refine calls_of_wp hf hb ?_;have:=h ⟨w,fun k=>l=some k,K,HV (r4 0 ps l),L6 ps w⟩ x V.wfs Y (Ym q) (bodyPost P F fun en w'=>∃z,post z/\JV ⟨f,ps,d z⟩ x w l K en w') (fun z st aC aB=>?_) (CV K w l (An ps H) (L6 ps w) (H4 0 ps x)) { tmps:=H.toArray++Array.replicate (F.ntmps-H.toArray.size) undef,defers:=[] } (m0s hK V) rfl ⟨rfl,by grind,fun t s ht=>?_⟩
 ·exact this
 ·have aA:∀G a,Sat (cx P n ⟨w,fun k=>l=some k,K,HV (r4 0 ps l),L6 ps w⟩) G->G.o=st.o->EnvR n G st.e a->a.defers=[]/\∃v,(results F a.tmps).run P G.w=.ok v G.w/\∃z,post z/\JV ⟨f,ps,d z⟩ x w l K (.returned v) G.w:=fun G a S ho W=>by
   obtain⟨h1,v,h2,h3⟩:=Ys (c:=⟨f,ps,d z⟩) aD X V hr aB G a S ho W
   grind
  exact⟨fun G a S ho W=>aA G a S ho W,fun G a S ho W=>aA G a S ho W⟩
 ·obtain⟨_,a2,u,a3,a4⟩:=DR (i:=0) (o:=H4 0 ps x) (r0:=An ps H) (B:=L6 ps w) (g0:=l) X V (fun _=>rfl) (fun z hz=>by
   rcases Gg (i:=0) V with ⟨h0,_⟩ | ⟨j,b,T,t,z',cs,h0,_⟩ | ⟨j,E,t,xs,cs,h0,_⟩
   ·grind
   ·rw[h0] at hz ⊢;cases List.mem_singleton.1 hz;rw[lK,if_pos rfl]
   grind) t s ht
  rw[a2];refine⟨fun _=>?_,fun hn=>(hn (fun _ h=>by cases h)).elim⟩;have aG:t<H.length:=by
   rcases Nat.lt_or_ge t H.length with h' | h'
   ·exact h'
   ·grind
  rw[Array.getD_eq_getD_getElem?,Array.getElem?_append_left (by omega)]
  grind
abbrev kE(P:Program)(f:FuncId)(ps:List Par){ρ:Type}(pre:r7 ps->Prop)(post:ρ->Prop)(R:ρ->AV)(Z:ρ->B0 ps):Prop:=YG P f ps pre post (fun(e:ρ) _=>⟨True,R e,Z e⟩)
def N0k(X:Cx)(Γ:o4)(rs:List ResultVar)(ps:List Par){ρ:Type}(post:ρ->Prop)(R:ρ->AV)(Z:ρ->B0 ps)(x:Exit)(Q:Exit->Act->World->Prop):Prop :=
 ∀{st:St} (e:ρ),post e->NZ Γ st rs ps (R e) (Z e)=some (R e,Z e)->FX X st x Q
theorem GW{P:Program}{Γ:o4}(g:w9 P Γ){f:FuncId}{ps:List Par}{ρ:Type}{F:r7 ps->Option Unit}{pre:r7 ps->Prop}{post:ρ->Prop}{R:ρ->AV}{Z:ρ->B0 ps}{d:Func}{a:Code}{n:Nat}(rs:List ResultVar)
  (t:∀x,Xv.wfs ps x->pre x->F x=some ()) (k:P.funcs[f]?=some d) (l:d.ntmps=n) (o:d.body=some a) (m:d.results=rs.toArray) (c:Al P f=true) (i:(Nat.ble ps.length n&&Z4 ps&&!F1 ps)=true)
  (h:∀y x r,F x=some r->(cx P n y).base=(cx P n y).w0.heap.size->∀Q,N0k (cx P n y) Γ rs ps post R Z .normal Q->N0k (cx P n y) Γ rs ps post R Z .ret Q->VX (cx P n y) ⟨K6 0 ps x,H4 0 ps x⟩ a Q):kE P f ps pre post R Z :=
 okE g rs k l o m c i fun y x s b q Q j=>h y x () (t x s b) q Q (fun e b c=>(j e _ b (SD c)).1) (fun e b c=>(j e _ b (SD c)).2)
/- What all data of a result are. -/
mutual
def Hz:AV->Prop
 | .d _ t x=>wf t x
 | .agg xs=>SN xs
 | .tup xs=>SN xs
 | .ow _ _ t xs=>wf (.sl t) xs
 | _=>True
def SN:List AV->Prop
 | []=>True
 | a :: r=>Hz a/\SN r
end
def DV:(ps:List Par)->B0 ps->Prop
 | [],_=>True
 | .io _ t :: _,z=>wf t z
 | .dat _ :: r,z=>DV r z
 | .agg _ :: r,z=>DV r z
 | .fn _ _ :: r,z=>DV r z
 | .nof _ :: r,z=>DV r z
 | .nil :: r,z=>DV r z
 | .os _ _ :: r,z=>DV r z
mutual
theorem ResR.wf{K:Bool->Nat->Prop}{w:World}:∀{a:AV} {u:Value} {gs:List (Option Nat)},ResR K w a u gs->Hz a
 | .v _,_,_,_=>trivial
 | .d _ _ _,_,_,h=>RT.wf h.1
 | .agg _,_,_,⟨_,_,h⟩=>ResRs.wf h
 | .tup _,_,_,⟨_,_,h⟩=>ResRs.wf h
 | .ow _ _ _ _,_,_,⟨_,_,_,_,h1,h2⟩=>B0I h1 h2
 | .ob _ _,_,_,_=>trivial
 | .ptr _ _,_,_,_=>trivial
 | .pel ..,_,_,_=>trivial
 | .os _ _,_,_,_=>trivial
 | .fn _ _,_,_,_=>trivial
 | .gel _ _,_,_,_=>trivial
 | .og _,_,_,_=>trivial
theorem ResRs.wf{K:Bool->Nat->Prop}{w:World}:∀{as':List AV} {us:List Value} {gs:List (Option Nat)},ResRs K w as' us gs->SN as'
 | [],_,_,_=>trivial
 | _ :: _,_,_,⟨_,_,_,_,_,_,h1,h2⟩=>⟨ResR.wf h1,ResRs.wf h2⟩
end
theorem IOR.wf{K:Nat->Prop}{w:World}{go:Option Nat}:∀{ps:List Par} {z:B0 ps},IOR K w go ps z->DV ps z
 | [],_,_=>trivial
 | .io _ _ :: _,_,⟨_,_,_,_,h⟩=>RT.wf h
 | .dat _ :: r,_,h=>IOR.wf (ps:=r) h
 | .agg _ :: r,_,h=>IOR.wf (ps:=r) h
 | .fn _ _ :: r,_,h=>IOR.wf (ps:=r) h
 | .nof _ :: r,_,h=>IOR.wf (ps:=r) h
 | .nil :: r,_,h=>IOR.wf (ps:=r) h
 | .os _ _ :: r,_,h=>IOR.wf (ps:=r) h
def Y3(ps:List Par){ρ:Type}(post:ρ->Prop)(R:ρ->AV)(Z:ρ->B0 ps)(z:ρ):Prop:=post z/\Hz (R z)/\DV ps (Z z)
def YH(st:St)(ps:List Par)(f:FuncId):Op->Option (r7 ps×List Nat×Option Nat)
 | .call ⟨.value x,xs,_⟩=>match rd st [] x,L5 st [] xs.toList with
   | some (.fn g caps),some as'=>bif Nat.beq g f then K5 st.o ps (as'++caps) else none
   | _,_=>none
 | _=>none
def YI(st:St)(d:Nat){ps:List Par}(res:r7 ps->FT ps)(x:r7 ps)(l:List Nat)(io:Option Nat):Option St :=
 bif CR st.o (G6 d 0 (res x).r).2.1&&(Cc l||(Bu (res x).r&&isNone io)) then some ⟨(d,⟨[],(G6 d 0 (res x).r).1⟩) :: st.e,((G6 d 0 (res x).r).2.1++Am st.o ps (res x).z io)++st.o⟩ else none
theorem H0X{X:Cx}{G:Gh}{a:Act}{st:St}{ops:Array Oper}{Q:Exit->Act->World->Prop}{K:Act->World->Prop}{f:FuncId}{ps:List Par}{ζ:Type}{pre:r7 ps->Prop}{post:ζ->Prop}{i:ζ->r7 ps->FT ps}(hk:YG X.P f ps pre post i)(S:Sat X G)(ho:G.o=st.o)(hE:EnvR X.n G st.e a)
  {d:Nat} {op:Op} {ty:TypeId} {pos:String} {after:Array Edge} (aC:¬F1 ps=true) {x:r7 ps} {l:List Nat} {V:Option Nat} (b:YH st ps f op=some (x,l,V)) (W:NI l V=true) (hd:d<X.n) (hs:∀t s,b9 st.e t=some s->∀x∈s.p,x.1≠d)
  (E:pre x) (hK:∀z,post z->Hz (i z x).r->DV ps (i z x).z->∃st',YI st d (i z) x l V=some st'/\∀a' G',Sat X G'->G'.o=st'.o->EnvR X.n G' st'.e a'->K a' G'.w):N0 X.P ops Q ⟨some d,op,ty,pos,after,none⟩ K a G.w:=by
 unfold YH at b;split at b
 ·rename_i x0 xs Ts;split at b
  ·rename_i g aD aG h1 h2;rw[ce] at b;split at b
   ·rename_i k;have k:g=f:=nb k;subst k;obtain⟨cs,hv,hc⟩:=C7 hE (p:=[]) (fun _ h=>by cases h) h1;have hA:=AO hE (p:=[]) (fun _ h=>by cases h) h2;rw[<- ho] at b;obtain⟨Y,go,aA,y⟩:=r0g S (d:=d) (AVRs.app hc hA) aC b W;obtain⟨u,j⟩:=hk
    haveI:Rr X.P g:=⟨u⟩
    refine m0K (f:=g) (fun aF pos after gg=>?_) (Calls.mono (j x E G.w _ go _ Y aA) ?_)
    ·have m:xs.map a.eval=(xs.toList.map a.eval).toArray:=by rw[<- Array.toList_map]
     simp only[execOp,resolve,m,hv];simp[Deferred.ofValue,invoke,Xj]
    ·rintro en w' ⟨z,hz,c⟩;obtain⟨_,_,_,_,_,_,F,q⟩:=c;have T:=ResR.wf F;have aB:=IOR.wf q;have c:JV ⟨g,ps,i z⟩ x G.w go (X5 G l) en w':=⟨_,_,by omega,by omega,by omega,by omega,F,q⟩;obtain⟨st',m,e2⟩:=hK z hz T aB;unfold YI at m;rw[ce] at m;split at m
     ·rename_i hb;rw[ba,<- ho] at hb;cases m;obtain⟨v,G',rfl,rfl,hS,hL,hO,H⟩:=y (i z) hb en w' c;refine⟨v,rfl,e2 _ G' hS (by grind) ?_⟩;exact EnvR.put (p:=[]) (hE.mono hL) hd (fun _ h=>by cases h) hs ⟨fun _=>H,fun h=>(h (fun _ h=>by cases h)).elim⟩
     grind
   grind
  grind
 grind
theorem SO{n:Nat}:∀{a b:List Oper} {i:Nat} {seen:List Nat},I1 n i seen (a++b)=true->I1 n i seen a=true/\∃sn,I1 n (i+a.length) sn b=true/\(∀d∈seen,d∈sn)/\∀o∈a,∀d,o.dst=some d->d∈sn
 | [],b,i,seen,h=>⟨rfl,seen,by grind,fun _ h=>h,fun _ h=>by cases h⟩
 | o :: r,b,i,seen,h=>by
   simp only[List.cons_append,I1,ba] at h ⊢;obtain⟨⟨l,j⟩,c⟩:=h;obtain⟨f,sn,g,k,e⟩:=SO c
   grind
theorem YJ{l:List Oper}{i:Nat}{o:Oper}(h:B6 l i=some o):l=l.take i++o :: l.drop (i+1)/\i<l.length/\(l.take i).length=i:=by
 have h:=XQ h
 grind[hi,Nat.lt_or_ge,List.getElem?_eq_none,List.length_take,List.getElem?_eq_getElem,List.drop_eq_getElem_cons,List.take_append_drop]
section
variable {X:Cx} {Γ:o4} {T:List Ct}
theorem n0v(bG:w9 X.P Γ)(hT:∀c∈T,Ok X.P c){l:List Oper}{recs:List A4}{ol:Oper}{st:St}{Q:Exit->Act->World->Prop}(hl:recs.map (·.o)++[ol]=l)(bB:Ga Γ T l st recs)(bC:∀t s,b9 st.e t=some s->s.p=[])
  (aO:I1 X.n 0 [] l=true) (aD:O4 0 l=true) (E:DQ (H3 [] l) recs=true) (bS:∀k,k<recs.length->M3 k ((B6 (H3 [] l) recs.length).getD [])=true) (bN:∀G' a',Sat X G'->G'.o=(recs.foldl C2 st).o->EnvR X.n G' (recs.foldl C2 st).e a'->∀K:Act->World->Prop,(∀a2 w2,Q .normal a2 w2->K a2 w2)->N0 X.P l.toArray Q ol K a' G'.w) :
  ∀(fuel:Nat) (listed:Array Bool) (G:Gh) (a:Act),((List.range l.length).filter fun i=>!listed.getD i true).length<=fuel->listed.size=l.length->listed.getD recs.length false=false->DP (fun k=>listed.getD k false) l->Sat X G->(∀id,b9 G.o id=b9 (A0 (fun k=>listed.getD k false) 0 recs st).o id) ->
   EnvR X.n G (A0 (fun k=>listed.getD k false) 0 recs st).e a->wpAny X.P .any l.toArray Q fuel listed a G.w:=by
 have cB:recs.length+1=l.length:=by rw[<- hl]; simp
 have aQ:l[recs.length]?=some ol:=by rw[<- hl,List.getElem?_append_right (by simp)]; simp
 have bJ:∀(j:Nat) (R:A4),recs[j]?=some R->l[j]?=some R.o:=fun j R h=>by
  have hj:j<recs.length:=by
   rcases Nat.lt_or_ge j recs.length with h' | h'
   ·exact h'
   ·rw[List.getElem?_eq_none h'] at h; cases h
  rw[<- hl,List.getElem?_append_left (by simpa using hj),List.getElem?_map,h]; rfl
 have bU:∀(j:Nat) (o:Oper),j<recs.length->l[j]?=some o->∃R,recs[j]?=some R/\R.o=o:=fun j o hj h=>by
  grind
 have bA:=Sg (all:=l) (rest:=l) (acc:=[]) (fun j=>by simp) aD (fun i m h=>by grind);have aF:=Si aO;have aS:∀(i:Nat) (o:Oper) (k:Nat),l[i]?=some o->k∈O3 o->k<i:=by
  have:∀{m:List Oper} {i:Nat},O4 i m=true->∀j o k,m[j]?=some o->k∈O3 o->k<i+j:=by
   intro m
   induction m with
   | nil=>grind
   | cons o0 r ih =>
     intro i h j o k hj u;simp only[O4,ba,List.all_eq_true] at h;cases j with
     | zero=>simp only[List.getElem?_cons_zero,oi] at hj; subst hj; have:=h.1 k u; simpa using this
     | succ j=>grind
  intro i o k f H;have:=this aD i o k f H; omega
 -- all is done: the end
 have aI:∀(fuel:Nat) (listed:Array Bool) (a:Act) (w:World),listed.size=l.length->(∀i,i<l.length->listed.getD i false=true)->Q .normal a w->wpAny X.P .any l.toArray Q fuel listed a w:=by
  intro fuel listed a w aW aB hq;have hr:Region.ready .any l.toArray listed=[]:=by
   cases hr:Region.ready .any l.toArray listed with
   | nil=>rfl
   | cons i r =>
     have hi:i∈Region.ready .any l.toArray listed:=by rw[hr]; simp
     obtain⟨f,o,H,_⟩:=mem_ready.1 hi;have bM:i<l.length:=by
      rcases Nat.lt_or_ge i l.length with h | h
      ·exact h
      ·rw[List.getElem?_toArray,List.getElem?_eq_none h] at H; cases H
     have:=aB i bM;have hs:i<listed.size:=by omega
     rw[Array.getD_eq_getD_getElem?,Array.getElem?_eq_getElem hs] at this f;simp only[Option.getD_some] at this f;rw[this] at f; cases f
  cases fuel with
  | zero=>exact⟨hr,hq⟩
  | succ fuel=>exact⟨fun _=>hq,fun i hi=>by grind⟩
 intro fuel
 induction fuel with
 | zero =>
   intro listed G a hf aW aH aC S hO hE;have bX:(List.range l.length).filter (fun i=>!listed.getD i true)=[]:=List.eq_nil_of_length_eq_zero (by omega);have:recs.length∈(List.range l.length).filter (fun i=>!listed.getD i true):=List.mem_filter.2 ⟨List.mem_range.2 (by omega),by
    grind⟩
   grind
 | succ fuel ih =>
   intro listed G a hf aW aH aC S hO hE;refine⟨fun hr=>False.elim ?_,fun i hi=>?_⟩
   · -- nothing is ready: all is done
     have aB:∀i,i<l.length->listed.getD i false=true:=by
      intro i
      induction i using Nat.strongRecOn with
      | ind i bK =>
        intro hi;cases h:listed.getD i false with
        | true=>rfl
        | false =>
          have:i∈Region.ready .any l.toArray listed:=mem_ready.2 ⟨by
           grind,l[i],by grind,fun e he hb=>bK e.on (aS i l[i] e.on (List.getElem?_eq_getElem hi) (Z3.2 ⟨e,he,hb,rfl⟩)) (by have:=aS i l[i] e.on (List.getElem?_eq_getElem hi) (Z3.2 ⟨e,he,hb,rfl⟩); omega)⟩
          rw[hr] at this; cases this
     have:=aB recs.length (by omega);rw[aH] at this; cases this
   ·obtain⟨aK,o,ho,bZ⟩:=mem_ready.1 hi;rw[List.getElem?_toArray] at ho;have aU:i<l.length:=by
     rcases Nat.lt_or_ge i l.length with h | h
     ·exact h
     ·grind
    have aP:listed.getD i false=false:=by
     have hs:i<listed.size:=by omega
     rw[Array.getD_eq_getD_getElem?,Array.getElem?_eq_getElem hs] at aK ⊢;exact aK
    -- what stands ahead of i is done
    have cC:∀k∈((B6 (H3 [] l) i).getD []),k<i/\listed.getD k false=true:=by
     intro k u;rw[V3] at u;cases hb:(H3 [] l)[i]? with
     | none=>grind
     | some m =>
       rw[hb] at u;obtain⟨g1,g2⟩:=bA i m hb;exact⟨g1 k u,g2 _ aC o ho (fun k' aJ=>by obtain⟨e,he,bP,rfl⟩:=Z3.1 aJ; grind) k u⟩
    by_cases bT:i=recs.length
    · -- the last one
      subst bT;rw[aQ] at ho;cases ho;have hD:∀j,j<recs.length->listed.getD (0+j) false=true:=fun j hj=>by
       rw[Nat.zero_add]
       grind[P2]
      rw[XT (D:=fun k=>listed.getD k false) hD] at hO hE;obtain⟨S',L'⟩:=S.congr (o':=(recs.foldl C2 st).o) (fun i=>(hO i).symm);have aL:=bN ⟨G.ρ,G.γ,G.K,G.w,(recs.foldl C2 st).o,G.B,G.δ⟩ a S' rfl (hE.mono L') (wpAny X.P .any l.toArray Q fuel (listed.setIfInBounds recs.length true)) (fun a2 w2 hq=>aI fuel _ a2 w2 (by grind) (fun j hj=>by
       by_cases aY:j=recs.length
       ·subst aY;have hs:recs.length<listed.size:=by omega
        simp[hs]
       ·rw[getD_set_ne false (Ne.symm aY)];have:=hD j (by omega)
        rwa [Nat.zero_add] at this) hq)
      unfold wpOp;rw[List.getElem?_toArray,aQ];unfold N0 at aL;simp only;split
      ·grind
      ·grind
    obtain⟨R,hR,rfl⟩:=bU i o (by omega) ho;have bO:∀k,listed.getD k false=true->k<l.length->∀m∈((B6 (H3 [] l) k).getD []),m<k/\listed.getD m false=true:=by
     intro k u v m hm;rw[V3] at hm;cases hb:(H3 [] l)[k]? with
     | none=>grind
     | some b =>
       rw[hb] at hm;obtain⟨g1,g2⟩:=bA k b hb;exact⟨g1 m hm,g2 _ aC l[k] (List.getElem?_eq_getElem v) (fun k' aJ=>aC k l[k] (List.getElem?_eq_getElem v) u k' aJ) m hm⟩
    have bW:∀k,k<l.length->∀m∈((B6 (H3 [] l) k).getD []),m<k:=by
     intro k v m hm;rw[V3] at hm;cases hb:(H3 [] l)[k]? with
     | none=>grind
     | some b=>grind
    -- ordered with i: done exactly if earlier in the text
    have aG:∀k,k<l.length->k≠i->(M3 k ((B6 (H3 [] l) i).getD [])||M3 i ((B6 (H3 [] l) k).getD []))=true->listed.getD k false=decide (k<i):=by
     intro k v bY h;rw[Bool.or_eq_true] at h;rcases h with h | h
     ·grind[P2]
     ·grind[P2]
    obtain⟨sj,aM,bL,⟨q,aV,hq⟩,hg⟩:=XU (i:=0) bB hR;rw[Nat.zero_add] at aM
    -- the slots and objects that i looks at are as in the text's order
    have aX:∀t,t∈XW R->b9 sj.e t=b9 (A0 (fun k=>listed.getD k false) 0 recs st).e t:=by
     intro t ht;rw[aM];refine NK (fun k R' u V=>?_) rfl;rw[Nat.zero_add];by_cases g:k=i
     ·grind
     ·have F:=Gc E u hR g;have v:k<l.length:=by
       rcases Nat.lt_or_ge k l.length with h | h
       ·exact h
       ·grind
      simp only[CU,ba] at F;have V:R'.o.dst=some t:=V;rw[V] at F;simp only[ba] at F;have f:=F.1.1;rw[Bool.or_eq_true] at f;rcases f with f | f
      ·grind[P2]
      ·exact(aG k v g (by omega)).symm
    have bR:∀id,id∈R.fp++R.obs.map Prod.fst->b9 sj.o id=b9 G.o id:=by
     intro id aR;rw[hO,aM];refine NL (fun k R' u V=>?_) rfl;rw[Nat.zero_add];by_cases g:k=i
     ·grind
     ·have F:=Gc E u hR g;have v:k<l.length:=by
       rcases Nat.lt_or_ge k l.length with h | h
       ·exact h
       ·grind
      simp only[CU,ba] at F;have f:=F.2;rw[Bool.or_eq_true] at f;obtain⟨y,hy,bI⟩:=V;rcases f with f | f
      ·simp only[NM,List.all_eq_true] at f;have:=f id (by grind)
       grind[P2]
      ·exact(aG k v g (Bool.or_comm _ _ ▸ f)).symm
    have aZ:∀x∈R.p,b9 sj.e x.1=b9 (A0 (fun k=>listed.getD k false) 0 recs st).e x.1:=fun x hx=>aX x.1 (List.mem_append.2 (.inr (List.mem_map_of_mem hx)));have bF:=g0R bL aZ;have aN:X6 Γ T ⟨(A0 (fun k=>listed.getD k false) 0 recs st).e,G.o⟩ R.p R.o=some (q,R.av,R.obs,R.fp) :=
     k0E (e:=sj.e) (o:=sj.o) (fun t ht=>aX t (List.mem_append.2 (.inl (m0U ht)))) aV (fun id aR=>bR id (List.mem_append.2 (.inl aR)))
    have hd:∀d,R.o.dst=some d->d<X.n/\(∀x∈R.p,x.1≠d)/\∀t s,b9 (A0 (fun k=>listed.getD k false) 0 recs st).e t=some s->∀x∈s.p,x.1≠d:=by
     intro d hd;refine⟨(aF.1 i R.o d ho hd).1,fun x hx e=>?_,fun t s ht x hx e=>?_⟩
     ·have f:=NN E i R hR;rw[Nat.zero_add,ba] at f;have H:=f.1;simp only[XX,hd] at H
      grind[P2]
     ·rcases XZ ht with h | ⟨k,Rk,u,Y,hsp⟩
      ·grind
      ·rw[Nat.zero_add] at Y;have g:i≠k:=fun e'=>by grind
       have v:k<l.length:=by
        rcases Nat.lt_or_ge k l.length with h | h
        ·exact h
        ·grind
       have F:=Gc E hR u g;simp only[CU,ba,hd] at F;have H:=F.1.2;rw[Bool.or_eq_true] at H;rcases H with H | H
       ·rw[P2.2 (List.mem_map.2 ⟨x,by rw[<- hsp]; exact hx,e⟩)] at H; cases H
       ·rw[(bO k Y v i (P2.1 H)).2] at aP; cases aP
    have W:∀k,(listed.setIfInBounds i true).getD k false=if k=i then true else listed.getD k false:=fun k=>by
     by_cases g:k=i
     ·subst g;have hs:k<listed.size:=by omega
      simp[hs]
     ·rw[if_neg g]; exact getD_set_ne false (Ne.symm g)
    have aL:=NJ (st:=⟨(A0 (fun k=>listed.getD k false) 0 recs st).e,G.o⟩) (K:=wpAny X.P .any l.toArray Q fuel (listed.setIfInBounds i true)) bG hT (ops:=l.toArray) (all:=l) rfl (Q:=Q) S rfl hE bF aN (fun F=>hq (XV (fun x hx=>(aZ x hx).symm) F)) hg hd (fun a' G' S' _ bV bQ=>by
     refine ih (listed.setIfInBounds i true) G' a' ?_ (by grind) (by grind) ?_ S' ?_ ?_
     ·have:((List.range l.length).filter fun j=>!(listed.setIfInBounds i true).getD j true).length < ((List.range l.length).filter fun j=>!listed.getD j true).length:=by
       refine XY (fun j hj=>?_) ⟨i,List.mem_range.2 aU,by simp only[aK]; rfl,?_⟩
       ·by_cases aT:i=j
        ·subst aT;have hs:i<listed.size:=by omega
         simp[hs] at hj
        ·rwa [getD_set_ne true aT] at hj
       ·have hs:i<listed.size:=by omega
        simp[hs]
      omega
     ·intro k o u Y m hm;simp only[W] at Y ⊢;by_cases bH:m=i
      ·grind
      ·rw[if_neg bH];by_cases g:k=i
       ·subst g;rw[ho] at u;cases u;obtain⟨e,he,bP,rfl⟩:=Z3.1 hm
        grind
       ·rw[if_neg g] at Y;exact aC k o u Y m hm
     ·intro id;rw[bV];by_cases V:Gb R id
      ·rw[XS (D:=fun k=>(listed.setIfInBounds i true).getD k false) (st':=⟨[],G.o⟩) hR V (by grind) (fun k Rk bE u aA=>?_)]
       ·rfl
       ·rw[Nat.zero_add];simp only[W,if_neg (show k≠i by omega)];have v:k<l.length:=by
         rcases Nat.lt_or_ge k l.length with h | h
         ·exact h
         ·grind
        have F:=Gc E u hR (show k≠i by omega);simp only[CU,ba] at F;have f:=F.2;rw[Bool.or_eq_true] at f;obtain⟨y,hy,bI⟩:=aA;obtain⟨z,hz,cA⟩:=V;rcases f with f | f
        ·simp only[NM,List.all_eq_true] at f;have:=f id (by grind[List.mem_map_of_mem])
         grind[P2,List.mem_map_of_mem]
        grind
      ·have e1:=Sf ⟨[],G.o⟩ R id V;simp only[C2] at e1;rw[e1,hO];refine NL (fun k Rk u aA=>?_) rfl;rw[Nat.zero_add];simp only[W];rw[if_neg (fun e=>by grind)]
     ·refine bQ.congr (fun t=>?_);by_cases V:DO R t
      ·have bD:=w0L aV V;rw[XR (D:=fun k=>(listed.setIfInBounds i true).getD k false) (st':=⟨(A0 (fun k=>listed.getD k false) 0 recs st).e,G.o⟩) hR V bD (by grind) (fun k Rk bE u aA=>by
        have:=aF.2 i k R.o Rk.o t ho (bJ k Rk u) V aA;omega)]
       rfl
      ·have e1:=Se ⟨(A0 (fun k=>listed.getD k false) 0 recs st).e,G.o⟩ R t V;simp only[C2] at e1;rw[e1];refine NK (fun k Rk u aA=>?_) rfl;rw[Nat.zero_add];simp only[W];rw[if_neg (fun e=>by grind)])
    unfold wpOp;rw[List.getElem?_toArray,ho];unfold N0 at aL;simp only;split
    ·grind
    grind
end
theorem YK{X:Cx}{st:St}{Q:Exit->Act->World->Prop}{Γ:o4}{T:List Ct}(z:w9 X.P Γ)(hT:∀c∈T,Ok X.P c){id i:Nat}{l:List Oper}(h:List Nat)(E:I1 X.n 0 [] l=true)(aJ:J5 st.e=true){V:Prop}{b:St}{aH:List A4}(h1:N3 Γ T l (l.take i) st []=some (V,b,aH))(hV:V){o:Oper}(hn:B6 l i=some o)(_:J5 b.e=true)
  (aD:(∀d,o.dst=some d->d<X.n)->∀G a,Sat X G->G.o=b.o->EnvR X.n G b.e a->∀K:Act->World->Prop,(∀st2 W st3 rs3 G' a',J5 st2.e=true->N3 Γ T l (l.drop (i+1)) st2 []=some (W,st3,rs3)->W->FX X (cut h st3) .normal Q->Sat X G'->G'.o=st2.o->EnvR X.n G' st2.e a'->K a' G'.w)->N0 X.P l.toArray Q o K a G.w):VX X st (.region id l.toArray false) Q:=by
 intro G a S ho hE;obtain⟨el,aK,aC⟩:=YJ hn;refine wp_region_lit ?_;have f:=E;rw[el] at f;obtain⟨k1,sn,k,-,k4⟩:=SO f;rw[aC,Nat.zero_add] at k;simp only[I1,ba] at k;obtain⟨⟨k,-⟩,k3⟩:=k;have aF:∀d,o.dst=some d->d<X.n:=fun d hd=>by
  rw[hd] at k;simp only[ba] at k;simpa using k.1
 obtain⟨g,e1,e2,e3⟩:=AS (Z6 (K:=fun q _=>q=b) h1 hV rfl);have aI:g.length=i:=by grind
 have:=HP z hT (ops:=l.toArray) (all:=l) rfl (Q:=Q) (rest:=o :: l.drop (i+1)) g 0 [] st G a (fun j H=>by
   grind) (by grind) (fun j oj dj H=>by omega) (fun t s ht x hx=>by grind[AT]) e2 S ho hE
  (fun G1 a1 S1 u r=>by
    rw[e3] at u r;refine Og (aD aF G1 a1 S1 u r _ fun st2 W st3 rs3 G2 a2 aL g1 g2 g3 S2 F aG=>?_);obtain⟨m,f1,f2,f3⟩:=AS (Z6 (K:=fun q _=>q=st3) g1 g2 rfl);have:=HP z hT (ops:=l.toArray) (all:=l) rfl (Q:=Q) (rest:=[]) m (i+1) _ st2 G2 a2 (fun j H=>by
      grind) (by rw[f1]; exact k3) (fun j oj dj H q1 q2=>by
      grind) (fun t s ht x hx=>by grind[AT]) f2 S2 F aG
     (fun G3 a3 S3 y v=>by
       rw[f3] at y v;obtain⟨G4,S4,aA,Y,aB⟩:=Ge h S3 y v;have:=g3 G4 a3 S4 aA aB
       rwa [Y] at this)
    grind)
 grind
def N0b(n:Nat)(Γ:o4)(T:List Ct)(l:List Oper)(i:Nat)(f:FuncId)(ps:List Par)(st:St):Option (Prop×St×Nat×r7 ps×List Nat×Option Nat) :=
 bif I1 n 0 [] l&&J5 st.e&&!F1 ps then(match N3 Γ T l (l.take i) st [] with
  | some (V,st1,_)=>(match B6 l i with
    | some ⟨some d,op,_,_,_,none⟩=>bif J5 st1.e then(match YH st1 ps f op with
      | some (x,m,io)=>bif NI m io then some (V,st1,d,x,m,io) else none
      | none=>none) else none
    | _=>none)
  | none=>none) else none
def YL(Γ:o4)(T:List Ct)(l:List Oper)(i:Nat)(keep:List Nat){ps:List Par}(res:r7 ps->FT ps)(st1:St)(d:Nat)(x:r7 ps)(m:List Nat)(io:Option Nat):Option (Prop×St):=match YI st1 d res x m io with
 | some st2=>bif J5 st2.e then(match N3 Γ T l (l.drop (i+1)) st2 [] with
   | some (W,st3,_)=>some (W,cut keep st3)
   | none=>none) else none
 | none=>none
def Oh(n:Nat)(Γ:o4)(T:List Ct)(l:List Oper)(i:Nat)(keep:List Nat)(f:FuncId){ps:List Par}(pre:r7 ps->Prop)(res:r7 ps->FT ps)(st:St):Option (Prop×Prop×St):=match N0b n Γ T l i f ps st with
 | some (V,st1,d,x,m,io)=>(match YL Γ T l i keep res st1 d x m io with
   | some (W,st3)=>some (V/\pre x,W,st3)
   | none=>none)
 | none=>none
theorem J4{V:Prop}[Decidable V]{ρ:Type}{e:Option ρ}{r:ρ}{C:Prop}(H:gd V e=some r)(k:e=some r->C):V/\C:=⟨(L0 H).1,k (L0 H).2⟩
theorem zE[Alw]{P:Program}{n:Nat}{y:World×(Nat->Prop)×(Nat->Prop)×(Nat->Value->Prop)×Nat}{st:St}{Q:Exit->Act->World->Prop}{Γ:o4}{T:List Ct}{ρ:Type}{r:ρ}(aB:w9 P Γ)(hT:∀c∈T,Ok P c){f:FuncId}{ps:List Par}{j:Type}[Inhabited j]{pre:r7 ps->Prop}{post:j->Prop}{R:j->AV}{Z:j->B0 ps}(hk:kE P f ps pre post R Z)
  (i:Nat) (e:List Nat) (S:j->St) (W:j->Prop) {V:Prop} [Decidable V] {g:j->Option ρ} {id:Nat} {l:List Oper} (H:gd V (Alw.alp (Y3 ps post R Z) g)=some r) (h:∀z,Oh n Γ T l i e f pre (fun _=>⟨True,R z,Z z⟩) st=some (V,W z,S z)) (hc:∀z,Y3 ps post R Z z->g z=some r->W z/\FX (cx P n y) (S z) .normal Q):VX (cx P n y) st (.region id l.toArray false) Q:=by
 obtain⟨hV,H0⟩:=L0 H;have HH:=Alw.alp_some H0;clear H0 H;have k:=h default;unfold Oh at k;split at k
 ·rename_i V' v d x m io b;have u:(V'/\pre x)=V:=by
   split at k
   ·grind
   ·cases k
  subst u;have h2:∀z,YL Γ T l i e (fun _=>⟨True,R z,Z z⟩) v d x m io=some (W z,S z):=fun z=>by
   grind[Oh]
  clear k h;unfold N0b at b;rw[ce] at b;split at b
  ·rename_i o;simp only[ba] at o;have aA:¬F1 ps=true:=by simpa using o.2
   split at b
   ·rename_i V1 aC aG g1;split at b
    ·rename_i d' op ty aD q hn;rw[ce] at b;split at b
     ·rename_i F;split at b
      ·rename_i x' m' aF ha;rw[ce] at b;split at b
       ·rename_i w;simp only[oi,pj] at b;obtain⟨rfl,rfl,rfl,rfl,rfl,rfl⟩:=b;refine YK (X:=cx P n y) aB hT e o.1.1 o.1.2 g1 hV.1 hn F fun Y G a S' ho hE K hK=>?_;refine H0X hk S' ho hE aA ha w (Y _ rfl) (fun t s ht x hx=>by grind[AT]) hV.2 fun z E hR hI=>?_;have hz:Y3 ps post R Z z:=⟨E,hR,hI⟩;have h3:=h2 z;unfold YL at h3
        grind
       grind
      grind
     grind
    grind
   grind
  grind
 grind
end Go.Proofs.Xv
end
section
namespace Go.Proofs.Xv
open Go Go.RowKit Go.Proofs.Sv Go.Proofs.Xl
def AllS{α:Type}(R:α->α->Prop):List α->List α->Prop
 | [],ys=>ys=[]
 | x :: r,ys=>∃y r',ys=y :: r'/\R x y/\AllS R r r'
def w7:(t:Ty)->j5 t->j5 t->Prop
 | .int _,_,_=>True
 | .bool,x,y=>y=x
 | .str,x,y=>y=x
 | .sl e,x,y=>AllS (w7 e) x y
 | .pt e,x,y=>w7 e x y
 | .pr a b,x,y=>w7 a x.1 y.1/\w7 b x.2 y.2
theorem AllS.refl{a:Type}{R:a->a->Prop}(h:∀x,R x x):∀xs:List a,AllS R xs xs
 | []=>rfl
 | x :: r=>⟨x,r,rfl,h x,AllS.refl h r⟩
theorem Kh:∀(t:Ty) (x:j5 t),w7 t x x
 | .int _,_=>trivial
 | .bool,_=>rfl
 | .str,_=>rfl
 | .sl e,x=>AllS.refl (Kh e) x
 | .pt e,x=>Kh e x
 | .pr a b,x=>⟨Kh a x.1,Kh b x.2⟩
theorem AllS.len{a:Type}{R:a->a->Prop}:∀{xs ys:List a},AllS R xs ys->ys.length=xs.length
 | [],_,h=>by rw[show _=[] from h]
 | _ :: _,_,⟨_,_,e,_,h⟩=>by rw[e,List.length_cons,List.length_cons,AllS.len h]
theorem AllS.all{a:Type}{R:a->a->Prop}{p q:a->Prop}(b:∀x y,R x y->p x->q y):∀{xs ys:List a},AllS R xs ys->(∀x∈xs,p x)->∀y∈ys,q y
 | [],_,h,_,y,hy=>by rw[show _=[] from h] at hy; cases hy
 | x :: r,_,⟨y',r',e,h1,h2⟩,hp,y,hy=>by
   subst e;rcases List.mem_cons.1 hy with rfl | hy
   ·grind
   ·exact AllS.all b h2 (fun x c=>hp x (by grind)) y hy
def Sim(k:IntKind)(u u':Value):Prop:=u'=u∨∃x x',u=.int k x/\u'=.int k x'/\lo k<=x'/\x'<=hi k
def Oi(k:IntKind)(w w':World):Prop:=∀b o u,w.cell? ⟨b,o,none⟩=some u->∃u',w'.cell? ⟨b,o,none⟩=some u'/\Sim k u u'
def SimL(k:IntKind):List Value->List Value->Prop
 | [],vs=>vs=[]
 | u :: r,vs=>∃u' r',vs=u' :: r'/\Sim k u u'/\SimL k r r'
theorem SimL.refl{k:IntKind}:∀us:List Value,SimL k us us
 | []=>rfl
 | u :: r=>⟨u,r,rfl,.inl rfl,SimL.refl r⟩
theorem SimL.split{k:IntKind}{b:List Value}:∀{a cs:List Value},SimL k (a++b) cs->∃a' b',cs=a'++b'/\SimL k a a'/\SimL k b b'
 | [],cs,h=>⟨[],cs,rfl,rfl,h⟩
 | u :: r,cs,⟨u',r',e,h1,h2⟩=>by
   obtain⟨a',b',f,d,c⟩:=SimL.split h2;exact⟨u' :: a',b',by grind,⟨u',a',rfl,h1,d⟩,c⟩
theorem At.sim{k:IntKind}{w w':World}(a:Oi k w w'){b:Nat}:∀{ds:List Value} {o:Nat},At w b o ds->∃ds',At w' b o ds'/\SimL k ds ds'
 | [],o,_=>⟨[],fun i u h=>by grind,rfl⟩
 | d :: r,o,h=>by
   obtain⟨e,j,g⟩:=At.sim a (At.tail h);obtain⟨c,m,f⟩:=a b o d (h 0 d rfl);refine⟨c :: e,fun i u l=>?_,c,e,rfl,f,g⟩;cases i with
   | zero=>grind
   | succ i =>
     have:=j i u (by grind)
     rwa [show o+1+i=o+(i+1) by omega] at this
theorem AllR.sim{k:IntKind}{a:Type}{R R':List Value->a->Prop}{S:a->a->Prop}(b:∀c c' x,SimL k c c'->R c x->∃x',R' c' x'/\S x x'):∀{cs cs':List Value} {xs:List a},SimL k cs cs'->AllR R cs xs->∃xs',AllR R' cs' xs'/\AllS S xs xs'
 | cs,cs',[],hs,h=>by
   rw[show cs=[] from h] at hs;exact⟨[],hs,rfl⟩
 | _,cs',x :: r,hs,⟨c,d,e,h1,h2⟩=>by
   subst e;obtain⟨c',o,rfl,l,g⟩:=hs.split;obtain⟨x',i,m⟩:=b c c' x l h1;obtain⟨f,j,n⟩:=AllR.sim b g h2;exact⟨x' :: f,⟨c',o,rfl,i,j⟩,x',f,rfl,m,n⟩
theorem SP{k:IntKind}{u:Value}{cs:List Value}(h:SimL k [u] cs)(e:∀x,u≠.int k x):cs=[u]:=by
 obtain⟨d,c,rfl,b,a⟩:=h;rw[show c=[] from a];rcases b with rfl | ⟨x,_,rfl,_⟩
 ·rfl
 grind
theorem RT.sim{k:IntKind}{K:Nat->Prop}{w w':World}(m:Oi k w w'):∀{t:Ty} {cs cs':List Value} {x:j5 t},SimL k cs cs'->RT K w t cs x->∃x',RT K w' t cs' x'/\w7 t x x'
 | .int k0,cs,cs',x,f,h=>by
   obtain⟨rfl,l⟩:=h;obtain⟨Q,F,rfl,g,n⟩:=f;rw[show F=[] from n];rcases g with rfl | ⟨x0,x',e,rfl,r,h5⟩
   ·exact⟨x,⟨rfl,l⟩,trivial⟩
   ·cases e;exact⟨x',⟨rfl,r,h5⟩,trivial⟩
 | .bool,cs,cs',x,f,h=>by
   rw[show cs=_ from h] at f;exact⟨x,SP f (fun _ h=>by cases h),rfl⟩
 | .str,cs,cs',x,f,h=>by
   rw[h.1] at f;exact⟨x,⟨SP f (fun _ h=>by cases h),h.2⟩,rfl⟩
 | .sl e,cs,cs',xs,f,⟨p,cap,l,g,n,r⟩=>by
   rw[l] at f;have v:=SP f (fun _ h=>by cases h);rcases r with rfl | ⟨b,o,ds,hp,hb,hat,hall⟩
   ·exact⟨[],⟨p,cap,v,g,n,.inl rfl⟩,rfl⟩
   ·obtain⟨i,q,s⟩:=At.sim m hat;obtain⟨y,u,j⟩:=AllR.sim (fun c z x f P=>RT.sim m (t:=e) f P) s hall;exact⟨y,⟨p,cap,by rw[v,j.len],by rw[j.len]; exact g,n,.inr ⟨b,o,i,hp,hb,q,u⟩⟩,j⟩
 | .pt e,cs,cs',x,f,⟨b,o,ds,l,hb,hat,g⟩=>by
   rw[l] at f;have v:=SP f (fun _ h=>by cases h);obtain⟨i,q,s⟩:=At.sim m hat;obtain⟨x',u,j⟩:=RT.sim m (t:=e) s g;exact⟨x',⟨b,o,i,v,hb,q,u⟩,j⟩
 | .pr a b,cs,cs',x,f,⟨c,d,h,l,g⟩=>by
   subst h;obtain⟨z,E,rfl,n,r⟩:=f.split;obtain⟨H,q,s⟩:=RT.sim m (t:=a) n l;obtain⟨G,u,j⟩:=RT.sim m (t:=b) r g;exact⟨(H,G),⟨z,E,rfl,q,u⟩,s,j⟩
mutual
def HavA:AV->AV->Prop
 | .d fr t x,b=>bif D2 t then b=.d fr t x else ∃x',b=.d fr t x'/\w7 t x x'/\(wf t x->wf t x')
 | .agg xs,b=>∃ys,b=.agg ys/\HavAs xs ys
 | .tup xs,b=>∃ys,b=.tup ys/\HavAs xs ys
 | .fn f xs,b=>∃ys,b=.fn f ys/\HavAs xs ys
 | a,b=>b=a
def HavAs:List AV->List AV->Prop
 | [],ys=>ys=[]
 | x :: r,ys=>∃y r',ys=y :: r'/\HavA x y/\HavAs r r'
end
def HavO:Ob->Ob->Prop
 | .box T cs,b=>∃ds,b=.box T ds/\HavAs cs ds
 | .arr T fr t xs v,b=>bif D2 t then b=.arr T fr t xs v else ∃xs',b=.arr T fr t xs' v/\AllS (w7 t) xs xs'
 | a,b=>b=a
theorem B0Y{fr:Bool}{t:Ty}{x:j5 t}{b:AV}:HavA (.d fr t x) b=(bif D2 t then b=.d fr t x else ∃x',b=.d fr t x'/\w7 t x x'/\(wf t x->wf t x')):=by grind[HavA]
theorem YM{T:TypeId}{fr:Bool}{t:Ty}{xs:List (j5 t)}{v:Nat}{b:Ob}:HavO (.arr T fr t xs v) b=(bif D2 t then b=.arr T fr t xs v else ∃xs',b=.arr T fr t xs' v/\AllS (w7 t) xs xs'):=rfl
def Ki:List (Nat×Sl)->List (Nat×Sl)->Prop
 | [],ys=>ys=[]
 | (t,⟨p,a⟩) :: r,ys=>∃b r',ys=(t,⟨p,b⟩) :: r'/\HavA a b/\Ki r r'
def HavL:List (Nat×Ob)->List (Nat×Ob)->Prop
 | [],ys=>ys=[]
 | (i,a) :: r,ys=>∃b r',ys=(i,b) :: r'/\HavO a b/\HavL r r'
def YN(a b:St):Prop:=∃e o,b=⟨e,o⟩/\Ki a.e e/\HavL a.o o
mutual
theorem HavA.refl:∀a,HavA a a
 | .d c t x=>by
   simp only[B0Y,ce]
   grind[Kh]
 | .agg b=>⟨b,rfl,HavAs.refl b⟩
 | .tup b=>⟨b,rfl,HavAs.refl b⟩
 | .fn f b=>⟨b,rfl,HavAs.refl b⟩
 | .v _ | .ptr .. | .pel .. | .os .. | .ow .. | .gel .. | .og .. | .ob ..=>by grind[HavA]
theorem HavAs.refl:∀as,HavAs as as
 | []=>by grind[HavAs]
 | a :: r=>by unfold HavAs; exact⟨a,r,rfl,HavA.refl a,HavAs.refl r⟩
end
theorem HavO.refl:∀a,HavO a a
 | .box T b=>⟨b,rfl,HavAs.refl b⟩
 | .arr T d t c v=>by
   simp only[YM,ce]
   grind[AllS.refl,Kh]
 | .grd ..=>rfl
def L0v:Ob->Ob->Prop
 | .box T _,b=>∃ds,b=.box T ds
 | .arr T fr t _ v,b=>∃ys,b=.arr T fr t ys v
 | a,b=>b=a
theorem HavO.kind:∀{a b:Ob},HavO a b->L0v a b
 | .box _ _,_,⟨ds,h,_⟩=>⟨ds,h⟩
 | .arr _ _ _ xs _,b,h=>by
   rw[YM,ce] at h;split at h
   ·exact⟨xs,h⟩
   ·obtain⟨c,h,_⟩:=h; exact⟨c,h⟩
 | .grd ..,_,h=>h
theorem HavL.lk:∀{o o':List (Nat×Ob)},HavL o o'->∀i,(∀ob,b9 o i=some ob->∃ob',b9 o' i=some ob'/\HavO ob ob')/\(∀ob',b9 o' i=some ob'->∃ob,b9 o i=some ob/\HavO ob ob')
 | [],o',h,i=>by rw[show o'=[] from h]; exact⟨(fun _ h=>by cases h),fun _ h=>by cases h⟩
 | (j,a) :: r,_,⟨b,r',e,h1,h2⟩,i=>by
   subst e;rw[lK,lK];by_cases c:j=i
   ·grind
   ·rw[if_neg c,if_neg c];exact HavL.lk h2 i
def up(G:Gh)(w':World)(o':List (Nat×Ob)):Gh:=⟨G.ρ,G.γ,G.K,w',o',G.B,G.δ⟩
section
variable {k:IntKind} {G:Gh} {w':World} (hM:Oi k G.w w')
include hM
mutual
theorem AVR.sim:∀{a:AV} {u:Value},AVR G a u->∃b,HavA a b/\∀o',HavL G.o o'->AVR (up G w' o') b u
 | .v x,u,h=>⟨.v x,rfl,fun _ _=>h⟩
 | .d fr t x,u,h=>by
   simp only[B0Y,ce];split
   ·rename_i n;exact⟨.d fr t x,rfl,fun _ _=>RT.free n h⟩
   ·obtain⟨m,c,g⟩:=RT.sim (K:=rg G fr) hM (SimL.refl [u]) h;exact⟨.d fr t m,⟨m,rfl,g,fun _=>RT.wf c⟩,fun _ _=>c⟩
 | .agg xs,u,⟨us,e,h⟩=>by
   obtain⟨j,c,g⟩:=AVRs.sim h;exact⟨.agg j,⟨j,rfl,c⟩,fun o' i=>⟨us,e,g o' i⟩⟩
 | .tup xs,u,⟨us,e,h⟩=>by
   obtain⟨j,c,g⟩:=AVRs.sim h;exact⟨.tup j,⟨j,rfl,c⟩,fun o' i=>⟨us,e,g o' i⟩⟩
 | .fn f xs,u,⟨us,e,h⟩=>by
   obtain⟨j,c,g⟩:=AVRs.sim h;exact⟨.fn f j,⟨j,rfl,c⟩,fun o' i=>⟨us,e,g o' i⟩⟩
 | .ptr id off,u,⟨⟨T,cs,c⟩,g⟩=>⟨.ptr id off,rfl,fun o' i=>by
    obtain⟨ob,k,l⟩:=(i.lk id).1 _ c;obtain⟨ds,rfl⟩:=l.kind;exact⟨⟨T,ds,k⟩,g⟩⟩
 | .pel id ver kk s off,u,⟨h0,T,fr,t,xs,ver',c,g,h3⟩=>⟨.pel id ver kk s off,rfl,fun o' i=>by
    obtain⟨ob,k,l⟩:=(i.lk id).1 _ c;obtain⟨j,rfl⟩:=l.kind;exact⟨h0,T,fr,t,j,ver',k,g,h3⟩⟩
 | .os id ver,u,⟨h0,T,fr,t,xs,ver',c,g,h3⟩=>⟨.os id ver,rfl,fun o' i=>by
    obtain⟨ob,k,l⟩:=(i.lk id).1 _ c;obtain⟨j,rfl⟩:=l.kind;exact⟨h0,T,fr,t,j,ver',k,g,h3⟩⟩
 | .gel id kk,u,⟨⟨T,Te,fr,t,xs,hole,c⟩,g⟩=>⟨.gel id kk,rfl,fun o' i=>by
    obtain⟨ob,k,l⟩:=(i.lk id).1 _ c;have:=l.kind;rw[show ob=_ from this] at k;exact⟨⟨T,Te,fr,t,xs,hole,k⟩,g⟩⟩
 | .og id,u,⟨h0,⟨T,Te,fr,t,xs,hole,c⟩,g⟩=>⟨.og id,rfl,fun o' i=>by
    obtain⟨ob,k,l⟩:=(i.lk id).1 _ c;have:=l.kind;rw[show ob=_ from this] at k;exact⟨h0,⟨T,Te,fr,t,xs,hole,k⟩,g⟩⟩
 | .ow ..,_,h=>h.elim
 | .ob ..,_,h=>h.elim
theorem AVRs.sim:∀{as':List AV} {us:List Value},AVRs G as' us->∃bs,HavAs as' bs/\∀o',HavL G.o o'->AVRs (up G w' o') bs us
 | [],us,h=>⟨[],by grind[HavAs],fun _ _=>h⟩
 | a :: r,us,⟨u,us',e,h1,h2⟩=>by
   obtain⟨b,g,f⟩:=AVR.sim h1;obtain⟨bs,i,d⟩:=AVRs.sim h2;have:=hM;exact⟨b :: bs,by unfold HavAs; grind,fun o' c=>⟨u,us',e,f o' c,d o' c⟩⟩
end
theorem ObR.sim{b:Nat}(l:WE (some b) G.w w'){id:Nat}:∀{ob:Ob},ObR G id ob->H7 (some ob)=false->G.γ id≠some b->∃ob',HavO ob ob'/\∀o',HavL G.o o'->ObR (up G w' o') id ob'
 | .box T cs,⟨b',us,h1,h2,h3,h4⟩,_,hb=>by
   obtain⟨ds,g,f⟩:=AVRs.sim hM h4;exact⟨.box T ds,⟨ds,rfl,g⟩,fun o' q=>⟨b',us,h1,h2,h3.we l (fun i e h=>by grind),f o' q⟩⟩
 | .arr T fr t xs v,⟨cs,h1,h2,h3⟩,_,hb=>by
   have a:=h1.we l (fun i e h=>by grind);simp only[YM,ce];split
   ·rename_i m;exact⟨.arr T fr t xs v,rfl,fun o' _=>⟨cs,a,h2.mapR (fun c x j=>RT.free m j),h3⟩⟩
   ·obtain⟨d,g,f⟩:=AllR.sim (k:=k) (R':=RT (rg G fr) w' t) (S:=w7 t) (fun c r x n j=>RT.sim hM n j) (SimL.refl cs) h2;exact⟨.arr T fr t d v,⟨d,rfl,f⟩,fun o' _=>⟨cs,by rw[f.len]; exact a,g,h3⟩⟩
 | .grd ..,_,h,_=>by cases h
theorem v0c{b:Nat}(g:WE (some b) G.w w')(c:∀id o,b9 G.o id=some o->ObR G id o)(q:∀id,H7 (b9 G.o id)=false)(f:∀id o,b9 G.o id=some o->G.γ id≠some b) :
  ∀l:List (Nat×Ob),∃l',HavL l l'/\∀i ob,b9 l i=some ob->b9 G.o i=some ob->∃ob',b9 l' i=some ob'/\∀o',HavL G.o o'->ObR (up G w' o') i ob'
 | []=>⟨[],rfl,fun _ _ h=>by cases h⟩
 | (j,a) :: r=>by
   obtain⟨d,m,t⟩:=v0c g c q f r;by_cases k:b9 G.o j=some a
   ·obtain⟨e,n,u⟩:=ObR.sim hM g (c j a k) (by grind) (f j a k);refine⟨(j,e) :: d,⟨e,d,rfl,n,m⟩,fun i ob hi s=>?_⟩;rw[lK] at hi ⊢
    grind
   ·refine⟨(j,a) :: d,⟨a,d,rfl,HavO.refl a,m⟩,fun i ob hi s=>?_⟩;rw[lK] at hi ⊢
    grind
end
theorem Sat.hav{X:Cx}{G:Gh}(S:Sat X G){k:IntKind}{w':World}(hM:Oi k G.w w'){b:Nat}(hw:Wr b G.w w')(hK:G.K b)(hb:X.w0.heap.size<=b)(hu:UF w' b)(hg:∀id,H7 (b9 G.o id)=false){e:List (Nat×Sl)}{a:Act}(hE:EnvR X.n G e a) :
  ∃o' e',HavL G.o o'/\Ki e e'/\Sat X (up G w' o')/\EnvR X.n (up G w' o') e' a:=by
 have m:=WE.of_wr hw;have aG:∀id o,b9 G.o id=some o->G.γ id≠some b:=fun id o E h=>S.imm id o b E h hK;obtain⟨o',h1,h2⟩:=v0c hM m S.obs hg aG G.o;have j:=h1.lk;have aK:∀id,H7 (b9 o' id)=false:=fun id=>by
  cases h:b9 o' id with
  | none=>rfl
  | some u =>
    obtain⟨z,d,q⟩:=(j id).2 u h;have:=hg id;rw[d] at this;cases z with
    | box T cs=>obtain⟨ds,rfl⟩:=q.kind; rfl
    | arr T fr t xs v=>obtain⟨ds,rfl⟩:=q.kind; rfl
    | grd=>cases this
 have hS:Sat X (up G w' o'):=by
  refine⟨S.base,m.os.trans S.os,m.tape.trans S.tape,m.output.trans S.output,Nat.le_trans S.size m.size,fun i hi aF=>?_,fun id u aB=>?_,fun id aC u aD c E aL W aJ=>?_,fun id u c E W=>?_,fun id u c E W=>?_,fun i hi=>?_,S.kfrom,fun id c _ aA=>?_,fun i v h=>?_⟩
  ·rw[<- S.block i hi aF];exact hw.block i (by omega)
  ·obtain⟨z,d,q⟩:=(j id).2 u aB;obtain⟨aD,g3,g4⟩:=h2 id z d d;rw[show b9 o' id=some u from aB] at g3
   grind
  ·obtain⟨x,d,_⟩:=(j id).2 u E;obtain⟨x',q,_⟩:=(j aC).2 aD aL;exact S.inj id aC x x' c d q W aJ
  ·obtain⟨x,d,_⟩:=(j id).2 u E;exact S.imm id x c d W
  ·obtain⟨x,d,_⟩:=(j id).2 u E;exact S.own id x c d W
  ·by_cases e:i=b
   ·subst e;exact hu.g
   ·exact(S.klt i hi).same m.size (hw.block i e)
  ·rw[show b9 (up G w' o').o id=b9 o' id from rfl,aK id] at aA;cases aA
  ·obtain⟨bb,d,q⟩:=AVR.sim hM (S.pin i v h);rw[show bb=_ from d] at q
   grind
 have aM:∀e:List (Nat×Sl),(∀t s,b9 e t=some s->(PathP s.p a->AVR G s.a (a.tmps.getD t undef))/\(¬PathP s.p a->a.tmps.getD t undef=undef))->∃e',Ki e e'/\∀t f,b9 e' t=some f->(PathP f.p a->AVR (up G w' o') f.a (a.tmps.getD t undef))/\(¬PathP f.p a->a.tmps.getD t undef=undef):=by
  intro e he
  -- the slots that are seen turn, the hidden ones stay
  have aH:∀l:List (Nat×Sl),∃y,Ki l y/\∀t s,b9 l t=some s->b9 e t=some s->∃f,b9 y t=some f/\(PathP f.p a->AVR (up G w' o') f.a (a.tmps.getD t undef))/\(¬PathP f.p a->a.tmps.getD t undef=undef):=by
   intro l
   induction l with
   | nil=>exact⟨[],rfl,fun _ _ h=>by cases h⟩
   | cons x r ih =>
     obtain⟨P,p0,V⟩:=x;obtain⟨Y,F,h4⟩:=ih;by_cases hv:b9 e P=some ⟨p0,V⟩/\PathP p0 a
     ·obtain⟨q1,q2⟩:=he P _ hv.1;obtain⟨a1,d,q⟩:=AVR.sim hM (q1 hv.2);refine⟨(P,⟨p0,a1⟩) :: Y,⟨a1,Y,rfl,d,F⟩,fun t s H aI=>?_⟩;rw[lK] at H ⊢
      grind
     ·refine⟨(P,⟨p0,V⟩) :: Y,⟨V,Y,rfl,HavA.refl V,F⟩,fun t s H aI=>?_⟩;rw[lK] at H ⊢
      grind
  obtain⟨e',F,h4⟩:=aH e;refine⟨e',F,fun t f Q=>?_⟩;have:∀{l y:List (Nat×Sl)},Ki l y->∀{f},b9 y t=some f->∃s,b9 l t=some s:=by
   intro l
   induction l with
   | nil=>intro y hl f h; rw[show y=[] from hl] at h; cases h
   | cons x r ih =>
     obtain⟨P,p0,V⟩:=x;rintro y ⟨b1,Y,rfl,d,q⟩ f h;rw[lK] at h ⊢
     grind
  obtain⟨s,H⟩:=this F Q;obtain⟨s2,d,q⟩:=h4 t s H H;rw[Q] at d;cases d;exact q
 obtain⟨e',F,h4⟩:=aM e hE.val;exact⟨o',e',h1,F,hS,hE.defers,hE.size,h4⟩
theorem p0a{w:World}{b:Nat}{a:Array Value}{T:TypeId}{k:IntKind}{o:Nat}{x y:Int}(i:w.heap[b]?=some (.cells a T (0,0)))(j:a[o]?=some (.int k x))(l:lo k<=y/\y<=hi k):Oi k w (w.setRow b (B3 a.toList o [.int k y]).toArray):=by
 intro d f u c;by_cases g:d=b
 ·subst g;unfold World.cell? at c ⊢;rw[show(⟨d,f,none⟩:Addr).block=d from rfl] at c ⊢;rw[i] at c;rw[setRow_heap w d a _ T (0,0) i];simp only[Option.isSome_none,Bool.false_eq_true,if_false] at c ⊢;have m:o<a.toList.length:=by
   rcases Nat.lt_or_ge o a.size with h | h
   ·omega
   ·grind
  rw[List.getElem?_toArray];unfold B3;rw[<- Array.getElem?_toList] at c j;by_cases e:f=o
  ·subst e;rw[j] at c;cases c;refine⟨.int k y,?_,.inr ⟨x,y,rfl,rfl,l⟩⟩
   grind
  ·refine⟨u,?_,.inl rfl⟩;rcases Nat.lt_or_ge f o with h | h
   ·rw[List.append_assoc,List.getElem?_append_left (by rw[List.length_take]; omega),List.getElem?_take_of_lt h];exact c
   ·rw[List.getElem?_append_right (by rw[List.length_append,List.length_take]; simp; omega),List.length_append,List.length_take,List.getElem?_drop,<- c];congr 1;simp only[List.length_cons,List.length_nil];omega
 ·unfold World.cell? at c ⊢;rw[show(⟨d,f,none⟩:Addr).block=d from rfl] at c ⊢;rw[Xm w b d _ g];exact⟨u,c,.inl rfl⟩
def Oj:Ty->Option IntKind
 | .int k=>some k
 | .pr a _=>Oj a
 | _=>none
theorem k0s{K:Nat->Prop}{w:World}{k:IntKind}:∀{t:Ty} {cs:List Value} {x:j5 t},Oj t=some k->RT K w t cs x->∃v,cs[0]?=some (.int k v)
 | .int k',cs,x,h,hr=>by
   cases h;exact⟨x,by rw[hr.1]; rfl⟩
 | .pr a b,cs,x,h,⟨c,d,e,h1,h2⟩=>by
   obtain⟨v,f⟩:=k0s (t:=a) h h1;refine⟨v,?_⟩;rw[e];cases c with
   | nil=>simp at f
   | cons y r=>simpa using f
def Ol:List (Nat×Ob)->Bool
 | []=>true
 | (_,.grd ..) :: _=>false
 | _ :: r=>Ol r
theorem YO:∀{o:List (Nat×Ob)},Ol o=true->∀i,H7 (b9 o i)=false
 | [],_,_=>rfl
 | (j,ob) :: r,h,i=>by
   rw[lK];cases ob with
   | grd=>cases h
   | box T a =>
     split
     ·rfl
     ·exact YO (o:=r) h i
   | arr =>
     split
     ·rfl
     ·exact YO (o:=r) h i
def evH(n:Nat)(Γ:o4)(T:List Ct)(l:List Oper)(i:Nat)(st:St):Option (Prop×St) :=
 bif I1 n 0 [] l&&J5 st.e then(match N3 Γ T l (l.take i) st [] with
  | some (V,st1,_)=>(match B6 l i with
    | some ⟨none,.store ti x y,_,_,_,none⟩=>(match rd st1 [] x,rd st1 [] y,b9 Γ ti with
      | some (.d true (.pt e) _),some (.d _ (.int k') _),some tt=>bif J5 st1.e&&Ol st1.o&&Nat.beq tt.size 1&&decide (Oj e=some k') then some (V,st1) else none
      | _,_,_=>none)
    | _=>none)
  | none=>none) else none
def M0Z(Γ:o4)(T:List Ct)(l:List Oper)(i:Nat)(keep:List Nat)(st2:St):Option (Prop×St):=bif J5 st2.e then(match N3 Γ T l (l.drop (i+1)) st2 [] with
 | some (W,st3,_)=>some (W,cut keep st3)
 | none=>none) else none
theorem B0K{X:Cx}{G:Gh}{a:Act}{st:St}{Γ:o4}(aA:w9 X.P Γ){ops:Array Oper}{Q:Exit->Act->World->Prop}{K:Act->World->Prop}(S:Sat X G)(ho:G.o=st.o)(V:EnvR X.n G st.e a)(g:X.base=X.w0.heap.size)
  {m ty:TypeId} {x y:Operand} {pos:String} {after:Array Edge} {k:IntKind} {e:Ty} {x0:j5 (.pt e)} {fr:Bool} {Y:j5 (.int k)} {tt:TI} (hx:rd st [] x=some (.d true (.pt e) x0)) (he:Oj e=some k) (hy:rd st [] y=some (.d fr (.int k) Y)) (ht:b9 Γ m=some tt) (hs:tt.size=1) (hg:Ol st.o=true)
  (hK:∀st' a' G',YN st st'->Sat X G'->G'.o=st'.o->EnvR X.n G' st'.e a'->K a' G'.w):N0 X.P ops Q ⟨none,.store m x y,ty,pos,after,none⟩ K a G.w:=by
 obtain⟨b,o,ds,i,⟨j,t⟩,H,hd⟩:=C7 V (p:=[]) (fun _ h=>by cases h) hx;obtain⟨l,W⟩:=C7 V (p:=[]) (fun _ h=>by cases h) hy;obtain⟨v0,F⟩:=k0s he hd;have q:X.w0.heap.size<=b:=by
  have:=t rfl;rw[S.base.1,g] at this;exact this
 obtain⟨f,T,c⟩:=(S.klt b j).2 q;have s:=H 0 _ F;rw[Nat.add_zero] at s;have E:f[o]?=some (.int k v0):=by
  unfold World.cell? at s;rw[show(⟨b,o,none⟩:Addr).block=b from rfl,c] at s;simpa using s
 have aC:o<f.size:=by
  rcases Nat.lt_or_ge o f.size with h | h
  ·exact h
  ·grind
 haveI:Info X.P m tt.size tt.bytes tt.zero:=⟨(aA m _ ht).1⟩
 have hB:Blk G.w b f.toList T:=by unfold Blk; simpa using c
 have l:a.eval y=.int k Y:=by simpa using l
 have i:a.eval x=.pointer (some ⟨b,o,none⟩):=by simpa using i
 have z:=Rt (P:=X.P) (T:=m) (o:=o) (vs:=[.int k Y]) (v:=a.eval y) (by rw[l]; rfl) (by grind) rfl hB (by grind);have r:=RV (ty:=ty) i z;have hM:=p0a c E W;have aB:b<G.w.heap.size:=(S.klt b j).lt;obtain⟨o',e',h1,h2,h3,h4⟩:=S.hav hM (Ny G.w b _) j q ⟨_,T,setRow_heap G.w b f _ T (0,0) c⟩ (fun id=>by grind[YO]) V;unfold N0;have u:Region.wanted ⟨none,.store m x y,ty,pos,after,none⟩ (yielded ops a.tmps)=true:=rfl;rw[if_pos u];unfold Oper.wp;rw[r none pos after none];exact hK ⟨e',o'⟩ _ _ ⟨e',o',rfl,h2,by grind⟩ h3 rfl h4
theorem zH[Alw]{P:Program}{n:Nat}{y:World×(Nat->Prop)×(Nat->Prop)×(Nat->Value->Prop)×Nat}{st:St}{Q:Exit->Act->World->Prop}{Γ:o4}{T:List Ct}{r:Unit}(j:w9 P Γ)(hT:∀c∈T,Ok P c)(d:(cx P n y).base=(cx P n y).w0.heap.size){f:Type}
  (i:Nat) (b:List Nat) (e:St) (E:f->St) (S:f->St) (W:f->Prop) {V:Prop} [Decidable V] {p:f->Prop} {g:f->Option Unit} {id:Nat} {l:List Oper} (H:gd V (Alw.alp p g)=some r) (h:evH n Γ T l i st=some (V,e)) (hS:∀st2,YN e st2->∃z,p z/\st2=E z)
  (h2:∀z,M0Z Γ T l i b (E z)=some (W z,S z)) (hc:∀z,g z=some r->W z/\FX (cx P n y) (S z) .normal Q):VX (cx P n y) st (.region id l.toArray false) Q:=by
 obtain⟨hV,F⟩:=L0 H;have HH:=Alw.alp_some F;clear F H;unfold evH at h;rw[ce] at h;split at h
 ·rename_i t;rw[ba] at t;split at h
  ·rename_i V1 Y aD g1;split at h
   ·rename_i ti x yy ty aB q hn;split at h
    ·rename_i e0 x0 fr k y0 tt hx hy ht;rw[ce] at h;split at h
     ·rename_i m;simp only[ba,dq] at m;obtain⟨⟨⟨u,v⟩,o⟩,s⟩:=m;simp only[oi,pj] at h;obtain⟨rfl,rfl⟩:=h;refine YK (X:=cx P n y) j hT b t.1 t.2 g1 hV hn u fun _ G a S' ho hE K hK=>?_;refine B0K j S' ho hE d hx s hy ht (nb o) v fun w a' G' m aA aC aF=>?_;obtain⟨z,hz,rfl⟩:=hS w m;have h3:=h2 z;unfold M0Z at h3
      grind
     grind
    grind
   grind
  grind
 grind
def M0Y(n:Nat)(Γ:o4)(T:List Ct)(l:List Oper)(i:Nat)(st:St):Option (Prop×St) :=
 bif I1 n 0 [] l&&O4 0 l&&J5 st.e&&Nat.beq (i+1) l.length then(match N3 Γ T l (l.take i) st [] with
  | some (V,st1,rs1)=>bif DQ (H3 [] l) rs1.reverse&&(List.range i).all fun k=>M3 k ((B6 (H3 [] l) i).getD []) then(match B6 l i with
    | some ⟨none,.store ti x y,_,_,_,none⟩=>(match rd st1 [] x,rd st1 [] y,b9 Γ ti with
      | some (.d true (.pt e) _),some (.d _ (.int k') _),some tt=>bif J5 st1.e&&Ol st1.o&&Nat.beq tt.size 1&&decide (Oj e=some k') then some (V,st1) else none
      | _,_,_=>none)
    | _=>none) else none
  | none=>none) else none
theorem Vj[Alw]{P:Program}{n:Nat}{y:World×(Nat->Prop)×(Nat->Prop)×(Nat->Value->Prop)×Nat}{st:St}{Q:Exit->Act->World->Prop}{Γ:o4}{T:List Ct}{r:Unit}(s:w9 P Γ)(hT:∀c∈T,Ok P c)[hm:J7 P](e:(cx P n y).base=(cx P n y).w0.heap.size){Y:Type}
  (i:Nat) (b:List Nat) (F:St) (E:Y->St) (S:Y->St) (W:Y->Prop) {V:Prop} [Decidable V] {p:Y->Prop} {g:Y->Option Unit} {id:Nat} {l:List Oper} (H:gd V (Alw.alp p g)=some r) (h:M0Y n Γ T l i st=some (V,F)) (hS:∀st2,YN F st2->∃z,p z/\st2=E z)
  (h2:∀z,some (True,cut b (E z))=some (W z,S z)) (hc:∀z,g z=some r->W z/\FX (cx P n y) (S z) .normal Q):VX (cx P n y) st (.region id l.toArray true) Q:=by
 obtain⟨hV,H0⟩:=L0 H;have HH:=Alw.alp_some H0;clear H0 H;unfold M0Y at h;rw[ce] at h;split at h
 ·rename_i hb;simp only[ba] at hb;obtain⟨⟨⟨aD,aJ⟩,aP⟩,aF⟩:=hb;have aX:i+1=l.length:=nb aF;split at h
  ·rename_i V1 m aQ g1;rw[ce] at h;split at h
   ·rename_i aK;rw[ba,List.all_eq_true] at aK;split at h
    ·rename_i ti x yy ty aW aC hn;split at h
     ·rename_i e0 x0 fr k y0 tt hx hy ht;rw[ce] at h;split at h
      ·rename_i hh;simp only[ba,dq] at hh;obtain⟨⟨⟨aS,aG⟩,aO⟩,aL⟩:=hh;simp only[oi,pj] at h;obtain⟨rfl,rfl⟩:=h;intro G a S' ho hE;obtain⟨el,aU,aT⟩:=YJ hn;have aI:l.drop (i+1)=[]:=List.drop_eq_nil_of_le (by omega);rw[aI] at el;obtain⟨recs,e1,e2,e3,e4⟩:=AS (Z6 (K:=fun d rs=>d=m/\rs=aQ) g1 hV ⟨rfl,rfl⟩);rw[List.append_nil] at e4;have aB:recs.length=i:=by grind
       refine wp_region_any hm.h ?_;have f:Ext G.w { G.w with drawn:=G.w.drawn+1 }:=(Below.refl _ _).drew;obtain⟨S1,L1⟩:=S'.ext f;have u:∀{recs:List A4} {i:Nat} {st:St},A0 (fun k=>(Array.replicate l.length false).getD k false) i recs st=st:=by
        have aR:∀j,(Array.replicate l.length false).getD j false=false:=fun j=>by
         by_cases hj:j<l.length <;> simp[hj]
        intro recs
        induction recs with
        | nil=>intro i st; rfl
        | cons R r ih=>grind[A0]
       have:=n0v (X:=cx P n y) s hT (Q:=Q) (l:=l) (recs:=recs) (ol:=_) (st:=st) (by rw[e1]; exact el.symm) e2 (AT aP) aD aJ (by grind) (fun k hk=>by grind) (fun G' a' S2 q v K hK=>by
         rw[e3] at q v;refine B0K s S2 q v e hx aL hy ht (nb aO) aG fun d a2 G2 hh aM aH aN=>hK _ _ ?_;obtain⟨z,hz,rfl⟩:=hS d hh;have h3:=h2 z;simp only[oi,pj] at h3;obtain⟨G3,S3,aA,aV,t⟩:=Ge b aM aH aN;rw[h3.2] at aA t;have:=(hc z (HH z hz)).2 G3 a2 S3 aA t
         grind) l.length (Array.replicate l.length false) { G with w:={ G.w with drawn:=G.w.drawn+1 } } a
        (by grind) (by simp) (by rw[aB]; simp[show i<l.length by omega]) (fun j o _ hD=>by
          by_cases hj:j<l.length
          ·simp[hj] at hD
          grind) S1 (fun id=>by grind) (by rw[u]; exact hE.mono L1)
       omega
      grind
     grind
    grind
   grind
  grind
 grind
def grd(j:Nat)(b:Bool)(o:Oper):Oper:={ o with guard:=some (j,b) }
theorem F0s{P:Program}{o:Oper}{j:Nat}{b:Bool}{a:Act}{w:World}{K:Act->World->Prop}{Q:Exit->Act->World->Prop}(h:o.wp P a w K Q):(grd j b o).wp P a w K Q:=h
theorem p0S{X:Cx}{Γ:o4}{T:List Ct}(y:w9 X.P Γ)(hT:∀c∈T,Ok X.P c){ops:Array Oper}{all:List Oper}(Y:ops=all.toArray){Q:Exit->Act->World->Prop}{rest:List Oper}{j:Nat}{oj:Oper}{m:Nat}{b f:Bool}(hj:B6 all j=some oj)(u:oj.dst=some m) :
  ∀(recs:List A4) (i:Nat) (seen:List Nat) (st:St) (G:Gh) (a:Act),(∀R∈recs,R.o.guard=none)->I1 X.n i seen (recs.map (·.o))=true->m∈seen->(∀t s,b9 st.e t=some s->∀x∈s.p,x.1∈seen)->b9 st.e m=some ⟨[],.d f .bool b⟩->Ga Γ T all st recs->Sat X G->G.o=st.o->EnvR X.n G st.e a ->
  (∀G' a',Sat X G'->G'.o=(recs.foldl C2 st).o->EnvR X.n G' (recs.foldl C2 st).e a'->wpList X.P ops Q rest a' G'.w)->wpList X.P ops Q (recs.map (fun R=>grd j b R.o)++rest) a G.w
 | [],i,seen,st,G,a,_,_,_,_,_,_,S,ho,hE,hK=>hK G a S ho hE
 | R :: r,i,seen,st,G,a,hgu,hreg,hdjs,hpath,hsl,⟨hp,⟨q,hab,hq⟩,hg,hrun⟩,S,ho,hE,hK=>by
   have v:=hgu R (by simp);have aD:R.p=[]:=by
    unfold Bw at hp;rw[v] at hp;simpa using hp.symm
   simp only[List.map_cons,I1,ba] at hreg;obtain⟨⟨g,-⟩,F⟩:=hreg;have k:∀d,R.o.dst=some d->d<X.n/\d ∉ seen:=fun d l=>by
    rw[l] at g;simp only[ba] at g;exact⟨by simp_all,HL g.2⟩
   have l:∀d,R.o.dst=some d->d<X.n/\(∀x∈R.p,x.1≠d)/\∀t s,b9 st.e t=some s->∀x∈s.p,x.1≠d:=fun d l=>⟨(k d l).1,fun x V=>by grind,fun t s E x V e=>(k d l).2 (e ▸ hpath t s E x V)⟩
   have aC:∀{x:Nat},x∈seen->x∈(match R.o.dst with | some d=>d :: seen | none=>seen):=fun h=>by
    grind
   have z:=NJ (K:=wpList X.P ops Q (r.map (fun R=>grd j b R.o)++rest)) y hT Y (Q:=Q) S ho hE hp hab hq hg l (fun a' G' S' _ W aA=>by
    refine p0S (f:=f) y hT Y hj u r (i+1) _ (C2 st R) G' a' (fun R' aF=>hgu R' (by grind)) F (aC hdjs) ?_ ?_ hrun S' W aA hK
    ·intro t s E x V;simp only[C2,Ce] at E;split at E
     ·grind[lK]
     grind
    ·simp only[C2,Ce];split
     ·rename_i d av aB _;rw[lK,if_neg (fun(e:d=m)=>(k d aB).2 (by grind))];omega
     omega)
   have hv:=(hE.val m _ hsl).1 (fun _ h=>by cases h);have e:=Bt hv;have hy:=XM (a:=a) Y hj u;rw[e] at hy;simp only at hy;have hw:Region.wanted (grd j b R.o) (yielded ops a.tmps)=true:=by simp[Region.wanted,grd,hy]
   have H:Region.wanted R.o (yielded ops a.tmps)=true:=by simp[Region.wanted,v]
   unfold N0 at z;rw[if_pos H] at z;simp only[List.map_cons,List.cons_append];refine Og ?_;unfold N0;rw[if_pos hw]
   grind[F0s]
def YP(dj:Nat)(b:Bool):List (Nat×AV)->List (Nat×Sl)->List (Nat×Sl)
 | [],e=>e
 | (d,v) :: r,e=>YP dj b r ((d,⟨[(dj,b)],v⟩) :: e)
def SQ(n:Nat)(seen:List Nat):List Oper->List (Nat×AV)->Bool
 | [],[]=>true
 | o :: r,(d,_) :: s=>(match o.dst with | some d'=>Nat.beq d' d | none=>false)&&Nat.blt d n&&FW d seen&&SQ n (d :: seen) r s
 | _,_=>false
theorem m0v{X:Cx}{ops:Array Oper}{all:List Oper}(T:ops=all.toArray){Q:Exit->Act->World->Prop}{rest:List Oper}{j:Nat}{H:Oper}{c:Nat}{b f:Bool}(F:B6 all j=some H)(q:H.dst=some c) :
  ∀(l:List Oper) (dm:List (Nat×AV)) (seen:List Nat) (e:List (Nat×Sl)) (G:Gh) (a:Act),SQ X.n seen l dm=true->c∈seen->(∀t s,b9 e t=some s->∀x∈s.p,x.1∈seen)->b9 e c=some ⟨[],.d f .bool (!b)⟩->EnvR X.n G e a ->
  (∀a',EnvR X.n G (YP c b dm e) a'->wpList X.P ops Q rest a' G.w)->wpList X.P ops Q (l.map (grd j b)++rest) a G.w
 | [],[],seen,e,G,a,_,_,_,_,hE,hK=>hK a hE
 | [],_ :: _,_,_,_,_,h,_,_,_,_,_=>by cases h
 | _ :: _,[],_,_,_,_,h,_,_,_,_,_=>by cases h
 | o :: r,(d,v) :: s,seen,e,G,a,h,hdjs,hpath,hsl,hE,hK=>by
   simp only[SQ,ba] at h;obtain⟨⟨⟨W,y⟩,u⟩,h4⟩:=h;have m:o.dst=some d:=by
    split at W
    ·simp_all
    ·cases W
   have y:d<X.n:=by simpa using y
   have u:=HL u;have hv:=(hE.val c _ hsl).1 (fun _ h=>by cases h);have ev:=Bt hv;have V:=XM (a:=a) T F q;rw[ev] at V;simp only at V;have hw:Region.wanted (grd j b o) (yielded ops a.tmps)=false:=by
    grind[Region.wanted,grd]
   simp only[List.map_cons,List.cons_append];refine Og ?_;unfold N0;rw[if_neg (by grind)];have z:¬PathP [(c,b)] a:=fun hp=>by
    have:=hp (c,b) (by simp);simp only at this;rw[ev] at this;cases b <;> simp at this
   have E:EnvR X.n G ((d,⟨[(c,b)],v⟩) :: e) (a.put (grd j b o).dst undef):=by
    show EnvR X.n G _ (a.put o.dst undef);rw[m];exact EnvR.put (st:=⟨e,[]⟩) (p:=[(c,b)]) hE y (fun x g k=>by
     simp only[List.mem_singleton] at g;subst g;exact u (by rw[<- (show c=d from k)]; exact hdjs)) (fun t s i x g k=>u (k ▸ hpath t s i x g)) ⟨fun h=>(z h).elim,fun _=>rfl⟩
   exact m0v (f:=f) T F q r s (d :: seen) _ G _ h4 (List.mem_cons_of_mem _ hdjs) (fun t Y i x g=>by
    rw[lK] at i;split at i
    ·cases i;simp only[List.mem_singleton] at g;subst g;exact List.mem_cons_of_mem _ hdjs
    ·exact List.mem_cons_of_mem _ (hpath t Y i x g)) (by
    rw[lK,if_neg (fun(k:d=c)=>u (by rw[k]; exact hdjs))];exact hsl) E hK
def SR(seen:List Nat)(e:List (Nat×Sl)):Bool:=e.all fun x=>x.2.p.all fun y=>M3 y.1 seen
theorem i0X{a:List Nat}{e:List (Nat×Sl)}(h:SR a e=true):∀t s,b9 e t=some s->∀x∈s.p,x.1∈a:=by
 intro t s b x d;have:∃z∈e,z.2=s:=by
  clear h
  induction e with
  | nil=>cases b
  | cons y r c =>
    grind[lK,List.mem_cons_self,List.mem_cons_of_mem]
 obtain⟨z,hz,rfl⟩:=this
 grind[SR,List.all_eq_true,P2]
def Ap:List Oper->List Nat
 | []=>[]
 | o :: r=>match o.dst with
   | some d=>d :: Ap r
   | none=>Ap r
theorem YQ{d:Nat}{l:List Oper}{o:Oper}(h:o∈l)(a:o.dst=some d):d∈Ap l:=by
 induction l with
 | nil=>cases h
 | cons x r b =>
   grind[Ap,List.mem_cons_self,List.mem_cons_of_mem]
def Gm(o:Oper):Oper:={ o with guard:=none }
def YR(j:Nat)(b:Bool)(o:Oper):Bool:=match o.guard with
 | some (j',b')=>Nat.beq j j'&&(b==b')
 | none=>false
theorem E0i{j:Nat}{b:Bool}{o:Oper}(h:YR j b o=true):grd j b (Gm o)=o:=by
 unfold YR at h;split at h
 ·rename_i e c f;rw[ba] at h;have d:=nb h.1;have a:b=c:=by simpa using h.2
  subst d; subst a;unfold grd Gm;cases o
  grind
 grind
def N4(dj:Nat)(e:Bool)(st:St):St:=⟨(dj,⟨[],.d false .bool e⟩) :: st.e,st.o⟩
def Kj:List Nat->St->Option St
 | [],st=>some st
 | i :: r,st=>bif Nat.blt i 500000 then(match Gl i st with
   | some st'=>Kj r st'
   | none=>none) else none
theorem YS{X:Cx}{a:Act}:∀{ids:List Nat} {st st':St} {G:Gh},Kj ids st=some st'->Sat X G->G.o=st.o->EnvR X.n G st.e a->∃G',Sat X G'/\G'.o=st'.o/\G'.w=G.w/\EnvR X.n G' st'.e a
 | [],st,st',G,h,S,ho,hE=>by
   simp only[Kj,oi] at h
   grind
 | i :: r,st,st',G,h,S,ho,hE=>by
   unfold Kj at h;rw[ce] at h;split at h
   ·rename_i hi;split at h
    ·rename_i l g;obtain⟨q,k,b,f,c⟩:=YC g hi S ho hE;obtain⟨G3,s,j,m,d⟩:=YS h k b c
     grind
    grind
   grind
def SS(n:Nat)(Γ:o4)(T:List Ct)(l:List Oper)(i:Nat)(ids keep:List Nat)(st:St):Option (Prop×St) :=
 bif I1 n 0 [] l&&J5 st.e&&Nat.ble i l.length&&I1 n i (Ap (l.take i)) (l.drop i) then(match N3 Γ T l (l.take i) st [] with
  | some (V,st1,_)=>(match Kj ids st1 with
    | some st2=>bif J5 st2.e then(match N3 Γ T l (l.drop i) st2 [] with
      | some (W,st3,_)=>some (V/\W,cut keep st3)
      | none=>none) else none
    | none=>none)
  | none=>none) else none
theorem zF{P:Program}{n:Nat}{y:World×(Nat->Prop)×(Nat->Prop)×(Nat->Value->Prop)×Nat}{st:St}{Q:Exit->Act->World->Prop}{Γ:o4}{T:List Ct}{ρ:Type}{r:ρ}(w:w9 P Γ)(hT:∀c∈T,Ok P c)(i:Nat)(aJ d:List Nat)(S':St){V:Prop}[Decidable V]{e:Option ρ}{id:Nat}{l:List Oper}(H:gd V e=some r)
  (h:SS n Γ T l i aJ d st=some (V,S')) (Y:e=some r->FX (cx P n y) S' .normal Q):VX (cx P n y) st (.region id l.toArray false) Q:=by
 obtain⟨hV,H⟩:=L0 H;have Y:=Y H;unfold SS at h;rw[ce] at h;split at h
 ·rename_i hb;simp only[ba] at hb;obtain⟨⟨⟨aC,aL⟩,E⟩,aN⟩:=hb;split at h
  ·rename_i V1 aA aQ g1;split at h
   ·rename_i aH g2;rw[ce] at h;split at h
    ·rename_i aP;split at h
     ·rename_i W aI aO g3;simp only[oi,pj] at h;obtain⟨rfl,rfl⟩:=h;intro G a S ho hE;have hi:i<=l.length:=Nat.le_of_ble_eq_true E;have aM:(l.take i).length=i:=by rw[List.length_take]; omega
      refine wp_region_lit ?_;have u:=aC;rw[<- List.take_append_drop i l] at u;obtain⟨k1,-⟩:=SO u;obtain⟨b,e1,e2,e3⟩:=AS (Z6 (K:=fun f _=>f=aA) g1 hV.1 rfl);have aK:b.length=i:=by grind
      have:=HP (X:=cx P n y) w hT (ops:=l.toArray) (all:=l) rfl (Q:=Q) (rest:=l.drop i) b 0 [] st G a (fun q hq=>by
        rw[Nat.zero_add,<- List.getElem?_map,e1,List.getElem?_take_of_lt (by omega)]) (by grind) (fun q oq dq hq=>by omega) (fun t s ht x hx=>by grind[AT]) e2 S ho hE
       (fun G1 a1 S1 k j=>by
         rw[e3] at k j;obtain⟨G2,S2,z,aB,aG⟩:=YS g2 S1 k j;rw[<- aB];obtain⟨g,f1,f2,f3⟩:=AS (Z6 (K:=fun f _=>f=aI) g3 hV.2 rfl);have:=HP (X:=cx P n y) w hT (ops:=l.toArray) (all:=l) rfl (Q:=Q) (rest:=[]) g i _ aH G2 a1 (fun q hq=>by
           rw[<- List.getElem?_map,f1,List.getElem?_drop]) (by rw[f1]; omega) (fun q oq dq hq q1 q2=>by
           refine YQ (o:=oq) ?_ q2;rw[List.mem_iff_getElem?];exact⟨q,by grind⟩) (fun t s ht x hx=>by grind[AT]) f2 S2 z aG
          (fun G3 a3 S3 v m=>by
            rw[f3] at v m;obtain⟨G4,S4,aD,F,aF⟩:=Ge d S3 v m;have:=Y G4 a3 S4 aD aF
            rwa [F] at this)
         grind)
      simp_all
     grind
    grind
   grind
  grind
 grind
def N0a(n:Nat)(Γ:o4)(T:List Ct)(l:List Oper)(i:Nat)(ids keep:List Nat)(st:St):Option (Prop×St) :=
 bif I1 n 0 [] l&&O4 0 l&&J5 st.e&&Nat.beq (i+1) l.length then(match N3 Γ T l (l.take i) st [] with
  | some (V,st1,rs1)=>bif DQ (H3 [] l) rs1.reverse&&(List.range i).all fun k=>M3 k ((B6 (H3 [] l) i).getD []) then(match B6 l i with
    | some o=>(match o.dst,o.guard,Kj ids st1 with
      | none,none,some st2=>(match N3 Γ T l [o] st2 [] with
        | some (W,st3,_)=>some (V/\W,cut keep st3)
        | none=>none)
      | _,_,_=>none)
    | none=>none) else none
  | none=>none) else none
theorem zFD{P:Program}{n:Nat}{y:World×(Nat->Prop)×(Nat->Prop)×(Nat->Value->Prop)×Nat}{st:St}{Q:Exit->Act->World->Prop}{Γ:o4}{T:List Ct}{ρ:Type}{r:ρ}(x:w9 P Γ)(hT:∀c∈T,Ok P c)[hm:J7 P](i:Nat)(aL f:List Nat)(S':St){V:Prop}[Decidable V]{e:Option ρ}{id:Nat}{l:List Oper}(H:gd V e=some r)
  (h:N0a n Γ T l i aL f st=some (V,S')) (hc:e=some r->FX (cx P n y) S' .normal Q):VX (cx P n y) st (.region id l.toArray true) Q:=by
 obtain⟨hV,H⟩:=L0 H;have hc:=hc H;unfold N0a at h;rw[ce] at h;split at h
 ·rename_i hb;simp only[ba] at hb;obtain⟨⟨⟨aA,aG⟩,aM⟩,aB⟩:=hb;have aY:i+1=l.length:=nb aB;split at h
  ·rename_i V1 aN aQ g1;rw[ce] at h;split at h
   ·rename_i aI;rw[ba,List.all_eq_true] at aI;split at h
    ·rename_i o hn;split at h
     ·rename_i aD aS aX aC;split at h
      ·rename_i W b aT g3;simp only[oi,pj] at h;obtain⟨rfl,rfl⟩:=h;intro G a S' ho hE;obtain⟨el,aW,aU⟩:=YJ hn;have aF:l.drop (i+1)=[]:=List.drop_eq_nil_of_le (by omega);rw[aF] at el;obtain⟨recs,e1,e2,e3,e4⟩:=AS (Z6 (K:=fun m rs=>m=aN/\rs=aQ) g1 hV.1 ⟨rfl,rfl⟩);rw[List.append_nil] at e4;have F:recs.length=i:=by grind
       obtain⟨t,f1,f2,Y⟩:=AS (Z6 (K:=fun m _=>m=b) g3 hV.2 rfl);obtain⟨R,rfl⟩:∃R,t=[R]:=by
        grind[List.length_map,List.length_eq_one_iff]
       simp only[List.map_cons,List.map_nil,List.cons.injEq,and_true] at f1;subst f1;obtain⟨q1,⟨q,q2,q3⟩,q4,_⟩:=f2;refine wp_region_any hm.h ?_;have u:Ext G.w { G.w with drawn:=G.w.drawn+1 }:=(Below.refl _ _).drew;obtain⟨S1,L1⟩:=S'.ext u;have z:∀{recs:List A4} {i:Nat} {st:St},A0 (fun k=>(Array.replicate l.length false).getD k false) i recs st=st:=by
        have aR:∀j,(Array.replicate l.length false).getD j false=false:=fun j=>by
         by_cases hj:j<l.length <;> simp[hj]
        intro recs
        induction recs with
        | nil=>intro i st; rfl
        | cons R r ih=>grind[A0]
       have:=n0v (X:=cx P n y) x hT (Q:=Q) (l:=l) (recs:=recs) (ol:=R.o) (st:=st) (by grind) e2 (AT aM) aA aG (by grind) (fun k hk=>by grind) (fun G' a' S2 v E K hK=>by
         rw[e3] at v E;obtain⟨G2,S3,aO,aJ,aK⟩:=YS aC S2 v E;rw[<- aJ];refine NJ (X:=cx P n y) (K:=K) x hT (ops:=l.toArray) (all:=l) rfl (Q:=Q) S3 aO aK q1 q2 q3 q4 (fun d hd=>by grind) fun a3 G3 S4 _ g s=>hK _ _ ?_;have Y:C2 aD R=b:=Y;have g:G3.o=b.o:=by rw[<- Y]; exact g
         have s:EnvR n G3 b.e a3:=by rw[<- Y]; exact s
         obtain⟨G5,S5,aH,aV,aP⟩:=Ge f S4 g s;have:=hc G5 a3 S5 aH aP
         grind) l.length (Array.replicate l.length false) { G with w:={ G.w with drawn:=G.w.drawn+1 } } a
        (by grind) (by simp) (by rw[F]; simp[show i<l.length by omega]) (fun j o _ hD=>by
          by_cases hj:j<l.length
          ·simp[hj] at hD
          grind) S1 (fun id=>by grind) (by rw[z]; exact hE.mono L1)
       omega
      grind
     grind
    grind
   grind
  grind
 grind
def Mg(P:Program)(f:FuncId)(T1:TypeId)(t1:Ty)(T2:TypeId)(t2:Ty)(ps:List Par)(F:j5 t1->j5 t2->r7 ps->Option (j5 t1×j5 t2)):Prop :=
 Al P f=true/\D2 t1=true/\D2 t2=true/\∀x1 x2 xs z,F x1 x2 xs=some z->∀(w:World) (vs:List Value) (b1 b2:Nat) (cs1 cs2:List Value) (K:Nat->Prop),(∀k,K k->k<w.heap.size)->b1≠b2->¬K b1->¬K b2 ->
  Blk w b1 cs1 T1->RT K w t1 cs1 x1->Blk w b2 cs2 T2->RT K w t2 cs2 x2->ArgsR K w none ps xs vs ->
  Calls P f (.pointer (some ⟨b1,0,none⟩) :: .pointer (some ⟨b2,0,none⟩) :: vs).toArray w fun en w'=>en=.returned (.tuple #[])/\∃w1 ds1 ds2,WE (some b2) w w1/\Blk w1 b2 ds2 T2/\RT K w1 t2 ds2 z.2/\WE (some b1) w1 w'/\Blk w' b1 ds1 T1/\RT K w' t1 ds1 z.1
def SU(st:St)(f:FuncId)(T1:TypeId)(t1:Ty)(T2:TypeId)(t2:Ty)(ps:List Par):Op->Option ((Nat×Nat)×j5 t1×j5 t2×r7 ps)
 | .call ⟨.value x,xs,_⟩=>match rd st [] x,L5 st [] xs.toList with
   | some (.fn g []),some (.ptr i1 0 :: .ptr i2 0 :: as')=>bif Nat.beq g f&&!Nat.beq i1 i2 then(match K5 st.o [.io T1 t1] [.ptr i1 0],K5 st.o [.io T2 t2] [.ptr i2 0],K5 st.o ps as' with
     | some (x1,_,_),some (x2,_,_),some (y,[],none)=>some ((i1,i2),x1.1,x2.1,y)
     | _,_,_=>none) else none
   | _,_=>none
 | _=>none
def SV(st:St)(d:Nat)(T1:TypeId)(t1:Ty)(T2:TypeId)(t2:Ty)(i1 i2:Nat)(z:j5 t1×j5 t2):St:=⟨(d,⟨[],.tup []⟩) :: st.e,(i1,.box T1 (p9 false t1 z.1)) :: (i2,.box T2 (p9 false t2 z.2)) :: st.o⟩
theorem Sat.putB{X:Cx}{G:Gh}(S:Sat X G){id b:Nat}{T:TypeId}{t:Ty}{e:List AV}{w':World}{ds:List Value}{z:j5 t}(s:D2 t=true)(l:b9 G.o id=some (.box T e))(f:G.γ id=some b)(d:WE (some b) G.w w')(n:Blk w' b ds T){K:Nat->Prop}(v:RT K w' t ds z) :
  Sat X (G.put id (.box T (p9 false t z)) (G.ρ id) (some b) w')/\GLe G (G.put id (.box T (p9 false t z)) (G.ρ id) (some b) w'):=by
 have c:=S.obs id _ l;obtain⟨j,H,i,F,P,E⟩:=c;rw[f] at i;cases i;exact S.put (id:=id) (ob:=.box T (p9 false t z)) (r:=G.ρ id) (g:=some b) (w':=w') (go:=some b) ⟨(fun T x h=>⟨rfl,_,_,rfl⟩),(fun T m y q u h=>by grind),by rw[l]; rfl⟩
  (fun j a=>by grind) d (fun j a=>.inl a) (fun k=>⟨b,ds,by simp[Gh.put],by grind[Gh.put],n,AM (RT.free s v)⟩)
theorem r0k{o:List (Nat×Ob)}{T:TypeId}{t:Ty}{i:Nat}{x:r7 [.io T t]}{l:List Nat}{io:Option Nat}(h:K5 o [.io T t] [.ptr i 0]=some (x,l,io)):l=[]/\io=some i/\∃cs,b9 o i=some (.box T cs):=by
 cases hA:Cb o (.io T t) (.ptr i 0) with
 | none=>grind[K5]
 | some r =>
   obtain⟨y,d,b⟩:=r;simp only[K5,hA] at h;have a:(match b9 o i with
    | some (.box c cs)=>bif Nat.beq T c then(match F5 o 24 t cs with
      | some (x,[],_)=>some (x,([]:List Nat),some i)
      | _=>none) else none
    | _=>none)=some (y,d,b):=hA
   split at a
   ·rename_i c cs e;rw[ce] at a
    grind[nb,oi,pj]
   grind
theorem B0L{X:Cx}{G:Gh}{a:Act}{st:St}{ops:Array Oper}{Q:Exit->Act->World->Prop}{K:Act->World->Prop}{f:FuncId}{T1:TypeId}{m:Ty}{v:TypeId}{j:Ty}{ps:List Par}{F:j5 m->j5 j->r7 ps->Option (j5 m×j5 j)}(V:Mg X.P f T1 m v j ps F)(S:Sat X G)(ho:G.o=st.o)(hE:EnvR X.n G st.e a)
  {d:Nat} {op:Op} {ty:TypeId} {pos:String} {after:Array Edge} {i1 i2:Nat} {x1:j5 m} {x2:j5 j} {y:r7 ps} (c:SU st f T1 m v j ps op=some ((i1,i2),x1,x2,y)) (hd:d<X.n) (hs:∀t s,b9 st.e t=some s->∀x∈s.p,x.1≠d)
  {z:j5 m×j5 j} (hz:F x1 x2 y=some z) (hK:∀a' G',Sat X G'->G'.o=(SV st d T1 m v j i1 i2 z).o->EnvR X.n G' (SV st d T1 m v j i1 i2 z).e a'->K a' G'.w):N0 X.P ops Q ⟨some d,op,ty,pos,after,none⟩ K a G.w:=by
 obtain⟨W,f1,f2,r⟩:=V;unfold SU at c;split at c
 ·rename_i x0 xs Ts;split at c
  ·rename_i g u l bA h1 h2;rw[ce] at c;split at c
   ·rename_i Y;rw[ba,Bool.not_eq_true'] at Y;have hg:g=f:=nb Y.1;have q:u≠l:=fun e=>by
     simp_all
    subst hg;split at c
    ·rename_i y1 l1 bB y2 l2 bJ y3 a1 a2 a3;simp only[oi,pj] at c;obtain⟨⟨rfl,rfl⟩,rfl,rfl,rfl⟩:=c;obtain⟨cs,hv,hc⟩:=C7 hE (p:=[]) (fun _ h=>by cases h) h1;have hA:=AO hE (p:=[]) (fun _ h=>by cases h) h2;obtain⟨u1,bK,aZ,aR,aK⟩:=hA;obtain⟨u2,aC,aN,aT,aH⟩:=aK;rw[<- ho] at a1 a2 a3;have i:∀id∈([]:List Nat),∃ob,b9 G.o id=some ob:=fun _ h=>by cases h
     obtain⟨rfl,rfl,k1,o1⟩:=r0k a1;obtain⟨rfl,rfl,k2,o2⟩:=r0k a2;obtain⟨_,bE,r1,q1⟩:=JM S i a1 (fun _ h=>by cases h) (fun _ _ h=>by cases h) (us:=[u1]) ⟨u1,[],rfl,aR,rfl⟩;obtain⟨_,bD,r2,q2⟩:=JM S i a2 (fun _ h=>by cases h) (fun _ _ h=>by cases h) (us:=[u2]) ⟨u2,[],rfl,aT,rfl⟩;obtain⟨_,aO,r3,q3⟩:=JM S i a3 (fun _ h=>by cases h) (fun _ h=>by cases h) aH;have aY:aO=none:=by
      rcases q3 with ⟨_,e⟩ | ⟨_,_,_,_,e,_⟩ | ⟨_,_,_,_,_,_,e,_⟩
      ·exact e
      ·cases e
      ·cases e
     subst aY;obtain⟨H,aL,v1,e1,bI,aU,B1,R1,-⟩:=r1;obtain⟨E,aW,v2,e2,bG,aP,B2,R2,-⟩:=r2;have aA:G.γ u=some H:=by
      rcases q1 with ⟨e,_⟩ | ⟨id,b,T,cs',e,eb,h3,h4⟩ | ⟨_,_,_,_,_,_,_,_,_,e⟩
      ·cases e
      ·grind
      ·cases e
     have aJ:G.γ l=some E:=by
      rcases q2 with ⟨e,_⟩ | ⟨id,b,T,cs',e,eb,h3,h4⟩ | ⟨_,_,_,_,_,_,_,_,_,e⟩
      ·cases e
      ·grind
      ·cases e
     have hb:H≠E:=fun e=>q (S.inj u l _ _ H o1 o2 aA (by grind));have aV:∀k,X5 G [] k->k<G.w.heap.size:=fun k V=>by
      rcases V with V | ⟨_,V,_⟩
      ·exact(S.klt k V).lt
      grind
     have hC:=r _ _ _ _ hz G.w aC H E aL aW (X5 G []) aV hb aU aP B1 R1 B2 R2 r3
     haveI:Rr X.P g:=⟨W⟩
     refine m0K (f:=g) (fun bC pos after gg=>?_) (Calls.mono hC ?_)
     ·have e3:xs.map a.eval=(xs.toList.map a.eval).toArray:=by rw[<- Array.toList_map]
      have aS:cs=[]:=hc;have eu:xs.toList.map a.eval=.pointer (some ⟨H,0,none⟩) :: .pointer (some ⟨E,0,none⟩) :: aC:=by
       rw[aZ,aN];simp only[List.cons.injEq] at e1 e2;rw[e1.1,e2.1]
      simp only[execOp,resolve,e3,eu,hv,aS];simp[Deferred.ofValue,invoke,Xj]
     ·rintro en w' ⟨rfl,w1,bF,bH,aG,aX,aM,aI,aF,aD⟩;obtain⟨S1,L1⟩:=S.putB f2 o2 aJ aG aX aM;have aQ:b9 (G.put l (.box v (p9 false j z.2)) (G.ρ l) (some E) w1).o u=some (.box T1 k1):=by
       show b9 ((l,_) :: G.o) u=_;rw[lK,if_neg (Ne.symm q)];exact o1
      have aB:(G.put l (.box v (p9 false j z.2)) (G.ρ l) (some E) w1).γ u=some H:=by
       simp only[Gh.put,if_neg q];exact aA
      obtain⟨S2,L2⟩:=S1.putB f1 aQ aB aI aF aD;refine⟨_,rfl,hK _ _ S2 (by show(u,_) :: (l,_) :: G.o=_; rw[ho]; rfl) ?_⟩;exact EnvR.put (p:=[]) ((hE.mono L1).mono L2) hd (fun _ h=>by cases h) hs ⟨fun _=>⟨[],rfl,rfl⟩,fun h=>(h (fun _ h=>by cases h)).elim⟩
    grind
   grind
  grind
 grind
def N0d(n:Nat)(Γ:o4)(T:List Ct)(l:List Oper)(i:Nat)(f:FuncId)(T1:TypeId)(t1:Ty)(T2:TypeId)(t2:Ty)(ps:List Par)(st:St):Option (Prop×St×Nat×(Nat×Nat)×j5 t1×j5 t2×r7 ps) :=
 bif I1 n 0 [] l&&J5 st.e then(match N3 Γ T l (l.take i) st [] with
  | some (V,st1,_)=>(match B6 l i with
    | some ⟨some d,op,_,_,_,none⟩=>bif J5 st1.e then(match SU st1 f T1 t1 T2 t2 ps op with
      | some (ii,x1,x2,xs)=>some (V,st1,d,ii,x1,x2,xs)
      | none=>none) else none
    | _=>none)
  | none=>none) else none
def N0c(Γ:o4)(T:List Ct)(l:List Oper)(i:Nat)(keep:List Nat)(st2:St):Option (Prop×St):=bif J5 st2.e then(match N3 Γ T l (l.drop (i+1)) st2 [] with
    | some (W,st3,_)=>some (W,cut keep st3)
    | none=>none) else none
def ev2(n:Nat)(Γ:o4)(T:List Ct)(l:List Oper)(i:Nat)(keep:List Nat)(f:FuncId)(T1:TypeId)(t1:Ty)(T2:TypeId)(t2:Ty)(ps:List Par)(st:St)(z:j5 t1×j5 t2):Option (Prop×(j5 t1×j5 t2×r7 ps)×Prop×St):=match N0d n Γ T l i f T1 t1 T2 t2 ps st with
 | some (V,st1,d,ii,x1,x2,xs)=>(match N0c Γ T l i keep (SV st1 d T1 t1 T2 t2 ii.1 ii.2 z) with
   | some (W,st3)=>some (V,(x1,x2,xs),W,st3)
   | none=>none)
 | none=>none
theorem zT{P:Program}{n:Nat}{y:World×(Nat->Prop)×(Nat->Prop)×(Nat->Value->Prop)×Nat}{st:St}{Q:Exit->Act->World->Prop}{Γ:o4}{T:List Ct}{ρ:Type}{r:ρ}(E:w9 P Γ)(hT:∀c∈T,Ok P c){f:FuncId}{T1:TypeId}{e:Ty}{Y:TypeId}{j:Ty}{ps:List Par}{F:j5 e->j5 j->r7 ps->Option (j5 e×j5 j)}(hk:Mg P f T1 e Y j ps F)
  (i:Nat) (k:List Nat) (S:j5 e×j5 j->St) (W:j5 e×j5 j->Prop) {x1:j5 e} {x2:j5 j} {xs:r7 ps} [Inhabited (j5 e×j5 j)] {V:Prop} [Decidable V] {g:j5 e×j5 j->Option ρ} {id:Nat} {l:List Oper} (H:gd (V/\(F x1 x2 xs).isSome=true/\True) (lt (vl (F x1 x2 xs)) g)=some r)
  (h:∀z,ev2 n Γ T l i k f T1 e Y j ps st z=some (V,(x1,x2,xs),W z,S z)) (hc:∀z,g z=some r->W z/\FX (cx P n y) (S z) .normal Q):VX (cx P n y) st (.region id l.toArray false) Q:=by
 obtain⟨⟨hV,hs,-⟩,H⟩:=L0 H;obtain⟨z,hz⟩:=Option.isSome_iff_exists.1 hs;rw[hz] at H;have H:g z=some r:=H;have o:=h z;obtain⟨c1,c2⟩:=hc z H;unfold ev2 at o;split at o
 ·rename_i V' aB d ii y1 y2 ys b;split at o
  ·rename_i W' aF h2;simp only[oi,pj] at o;obtain⟨rfl,⟨rfl,rfl,rfl⟩,eW,eS⟩:=o;unfold N0d at b;rw[ce] at b;split at b
   ·rename_i u;simp only[ba] at u;split at b
    ·rename_i V1 aA aH g1;split at b
     ·rename_i d' op ty aD q hn;rw[ce] at b;split at b
      ·rename_i v;split at b
       ·rename_i m z1 z2 zs ha;simp only[oi,pj] at b;obtain⟨rfl,rfl,rfl,rfl,rfl,rfl,rfl⟩:=b;refine YK (X:=cx P n y) E hT k u.1 u.2 g1 hV hn v fun w G a S' ho hE K hK=>?_;refine B0L (i1:=m.1) (i2:=m.2) hk S' ho hE ha (w _ rfl) (fun t s ht x hx=>by grind[AT]) hz fun a' G' aC aG aI=>?_;unfold N0c at h2
        grind
       grind
      grind
     grind
    grind
   grind
  grind
 grind
def Kk:List Par->Bool
 | []=>true
 | .dat t :: r=>D2 t&&Kk r
 | .agg t :: r=>D2 t&&Kk r
 | _=>false
def SW(K:Nat->Prop)(w:World)(b1 b2:Nat)(o:List (Nat×Ob)):Gh:=⟨fun i=>.pointer (some ⟨bif Nat.beq i 500000 then b1 else b2,0,none⟩),fun i=>some (bif Nat.beq i 500000 then b1 else b2),K,w,o,w.heap.size,fun _ _=>False⟩
def B0B{t1 t2:Ty}(T1 T2:TypeId)(ps:List Par)(x1:j5 t1)(x2:j5 t2)(xs:r7 ps):St:=⟨(0,⟨[],.ptr 500000 0⟩) :: (1,⟨[],.ptr 500001 0⟩) :: K6 2 ps xs,[(500000,.box T1 (p9 false t1 x1)),(500001,.box T2 (p9 false t2 x2))]⟩
def PT(st:St)(T1:TypeId)(t1:Ty)(T2:TypeId)(t2:Ty)(z:j5 t1×j5 t2):Prop:=match b9 st.o 500000,b9 st.o 500001 with
 | some (.box U1 cs1),some (.box U2 cs2)=>bif Nat.beq U1 T1&&Nat.beq U2 T2 then(match F5 st.o 24 t1 cs1,F5 st.o 24 t2 cs2 with
   | some (y1,_,_),some (y2,_,_)=>y1=z.1/\y2=z.2
   | _,_=>False) else False
 | _,_=>False
theorem YT{G:Gh}{K:Nat->Prop}{w:World}:∀{ps:List Par} {i:Nat} {x:r7 ps} {vs:List Value},Kk ps=true->ArgsR K w none ps x vs->∀t s,b9 (K6 i ps x) t=some s->i<=t/\s.p=[]/\∃u,vs[t-i]?=some u/\AVR G s.a u
 | [],i,x,vs,_,h,t,s,ht=>by cases ht
 | .dat ty :: r,i,x,vs,hf,⟨v,us,e,h1,h⟩,t,s,ht=>by
   subst e;unfold Kk at hf;rw[ba] at hf;unfold K6 at ht;rw[lK] at ht;split at ht
   ·rename_i e; subst e; cases ht; exact⟨Nat.le_refl _,rfl,v,by simp,RT.free hf.1 h1⟩
   ·obtain⟨d,c,u,f,b⟩:=YT (ps:=r) (i:=i+1) hf.2 h t s ht;exact⟨by omega,c,u,by grind,b⟩
 | .agg ty :: r,i,x,vs,hf,⟨v,us,e,h1,h⟩,t,s,ht=>by
   subst e;unfold Kk at hf;rw[ba] at hf;unfold K6 at ht;rw[lK] at ht;split at ht
   ·rename_i e; subst e; cases ht; exact⟨Nat.le_refl _,rfl,_,by simp,v,rfl,AM (RT.free hf.1 h1)⟩
   ·obtain⟨d,c,u,f,b⟩:=YT (ps:=r) (i:=i+1) hf.2 h t s ht;exact⟨by omega,c,u,by grind,b⟩
theorem Om{a b:Ob}{i:Nat}{o:Ob}(h:b9 [(500000,a),(500001,b)] i=some o):(i=500000/\o=a)∨(i=500001/\o=b):=by
 rw[lK] at h;split at h
 ·grind
 ·rw[lK] at h;split at h
  ·grind
  ·cases h
def SX(b1 b2:Nat):Nat->Value->Prop:=fun i v=>(i=0/\v=.pointer (some ⟨b1,0,none⟩))∨(i=1/\v=.pointer (some ⟨b2,0,none⟩))
theorem r0Q{P:Program}{n:Nat}{K:Nat->Prop}{w:World}{a c:Nat}{t r:TypeId}{l q:Ty}{x1:j5 l}{x2:j5 q}{f d:List Value}(z:D2 l=true)(E:D2 q=true)(m:∀k,K k->k<w.heap.size)(G:a≠c)(T:¬K a)(x:¬K c)(F:Blk w a f t)(W:RT K w l f x1)(V:Blk w c d r)(Q:RT K w q d x2) :
  Sat (cx P n ⟨w,fun k=>k=a∨k=c,K,SX a c,w.heap.size⟩) (SW K w a c [(500000,.box t (p9 false l x1)),(500001,.box r (p9 false q x2))]):=by
 have m:∀k,K k->UFg w w.heap.size k:=fun k g=>⟨m k g,fun h=>absurd (m k g) (Nat.not_lt.2 h)⟩;refine⟨⟨rfl,Nat.le_refl _⟩,rfl,rfl,rfl,Nat.le_refl _,fun _ _ _=>rfl,fun i o h=>?_,fun i j o X b h u e s=>?_,fun i o b h e=>?_,fun i o b h e=>?_,m,fun k g=>.inl g,fun _ _ h=>h.elim,fun i v e=>by
  rcases e with ⟨rfl,rfl⟩ | ⟨rfl,rfl⟩
  ·exact⟨⟨_,_,rfl⟩,a,rfl,rfl⟩
  ·exact⟨⟨_,_,rfl⟩,c,rfl,rfl⟩⟩
 ·rcases Om h with ⟨rfl,rfl⟩ | ⟨rfl,rfl⟩
  ·exact⟨a,f,rfl,rfl,F,AM (RT.free z W)⟩
  ·exact⟨c,d,rfl,rfl,V,AM (RT.free E Q)⟩
 ·rcases Om h with ⟨rfl,rfl⟩ | ⟨rfl,rfl⟩ <;> rcases Om u with ⟨rfl,rfl⟩ | ⟨rfl,rfl⟩
  ·rfl
  ·have H:some a=some b:=e;have y:some c=some b:=s
   grind
  ·have H:some c=some b:=e;have y:some a=some b:=s
   grind
  ·rfl
 ·rcases Om h with ⟨rfl,rfl⟩ | ⟨rfl,rfl⟩
  ·have e:some a=some b:=e;cases e; exact T
  ·have e:some c=some b:=e;cases e; exact x
 ·rcases Om h with ⟨rfl,rfl⟩ | ⟨rfl,rfl⟩
  ·have e:some a=some b:=e;cases e; exact .inr (.inl rfl)
  ·have e:some c=some b:=e;cases e; exact .inr (.inr rfl)
theorem H0Y{P:Program}{f:FuncId}{V:TypeId}{m:Ty}{H:TypeId}{q:Ty}{ps:List Par}{F:j5 m->j5 q->r7 ps->Option (j5 m×j5 q)}{r:Func}{E:Code}{n:Nat}(hf:P.funcs[f]?=some r)(hn:r.ntmps=n)(hb:r.body=some E)(hr:r.results=#[])(he:Al P f=true)(j:(Nat.ble (ps.length+2) n&&Kk ps&&D2 m&&D2 q)=true)
  (h:∀y x1 x2 xs z,F x1 x2 xs=some z->∀Q,(∀st,PT st V m H q z->FX (cx P n y) st .normal Q/\FX (cx P n y) st .ret Q)->VX (cx P n y) (B0B V H ps x1 x2 xs) E Q):Mg P f V m H q ps F:=by
 simp only[ba] at j;obtain⟨⟨⟨j,aI⟩,f1⟩,f2⟩:=j;have j:=Nat.le_of_ble_eq_true j;refine⟨he,f1,f2,fun x1 x2 xs z hz w x b c g aQ K hK aA aH aD B1 R1 B2 R2 hA=>?_⟩;have aL:=hA.len;refine calls_of_wp hf hb ?_;have hS:=r0Q (P:=P) (n:=n) f1 f2 hK aA aH aD B1 R1 B2 R2;have:=h ⟨w,fun k=>k=b∨k=c,K,SX b c,w.heap.size⟩ x1 x2 xs z hz (bodyPost P r fun en w'=>en=.returned (.tuple #[])/\∃w1 ds1 ds2,WE (some c) w w1/\Blk w1 c ds2 H/\RT K w1 q ds2 z.2/\WE (some b) w1 w'/\Blk w' b ds1 V/\RT K w' m ds1 z.1) (fun st aG=>?_) (SW K w b c _) { tmps:=(Value.pointer (some ⟨b,0,none⟩) :: Value.pointer (some ⟨c,0,none⟩) :: x).toArray++Array.replicate (r.ntmps-(Value.pointer (some ⟨b,0,none⟩) :: Value.pointer (some ⟨c,0,none⟩) :: x).toArray.size) undef,defers:=[] } hS rfl ⟨rfl,by grind,fun t s T=>?_⟩
 ·exact this
 ·have aC:∀G a,Sat (cx P n ⟨w,fun k=>k=b∨k=c,K,SX b c,w.heap.size⟩) G->G.o=st.o->EnvR n G st.e a->a.defers=[]/\∃v,(results r a.tmps).run P G.w=.ok v G.w/\(v=.tuple #[]/\∃w1 ds1 ds2,WE (some c) w w1/\Blk w1 c ds2 H/\RT K w1 q ds2 z.2/\WE (some b) w1 G.w/\Blk G.w b ds1 V/\RT K G.w m ds1 z.1):=fun G a S Y W=>by
   obtain⟨us,e1,e0,-⟩:=Yo (X:=cx P n ⟨w,fun k=>k=b∨k=c,K,SX b c,w.heap.size⟩) (Γ:=[]) (rs:=[]) (fun _ _ h=>by cases h) S Y W rfl trivial;have e0:us=[]:=e0;subst e0;refine⟨W.defers,_,Yr (rs:=[]) hr e1,rfl,?_⟩;have d:=aG;unfold PT at d;rw[<- Y] at d;split at d
   ·rename_i U1 c1 U2 c2 h1 h2;rw[ce] at d;split at d
    ·rename_i hb;rw[ba] at hb;have u1:=nb hb.1;have u2:=nb hb.2;subst u1; subst u2;split at d
     ·rename_i y1 l1 aN y2 l2 aM d1 d2;obtain⟨z1,z2⟩:=d;subst z1; subst z2;obtain⟨_,aO,k1,k2⟩:=S.pin 0 (.pointer (some ⟨b,0,none⟩)) (.inl ⟨rfl,rfl⟩);cases k2;obtain⟨_,aB,g1,g2,g3,g4⟩:=S.obs 500000 _ h1;rw[k1] at g2;cases g2;obtain⟨_,aR,m1,m2⟩:=S.pin 1 (.pointer (some ⟨c,0,none⟩)) (.inr ⟨rfl,rfl⟩);cases m2;obtain⟨_,aK,p1,p2,p3,p4⟩:=S.obs 500001 _ h2;rw[m1] at p2;cases p2;have r1:=RT.up (DL (K':=fun _=>True) S (fun _ _=>trivial) 24 d1 (fun _ _ _ _=>trivial) g4) (fun _ _=>trivial:∀k,_->(fun _:Nat=>True) k);have r2:=RT.up (DL (K':=fun _=>True) S (fun _ _=>trivial) 24 d2 (fun _ _ _ _=>trivial) p4) (fun _ _=>trivial:∀k,_->(fun _:Nat=>True) k);have l:=Ny G.w b g.toArray;have hH:(G.w.setRow b g.toArray).heap[b]?=some (.cells g.toArray U1 (0,0)):=setRow_heap G.w b aB.toArray g.toArray U1 (0,0) g3;refine⟨G.w.setRow b g.toArray,aB,aK,⟨l.os.trans S.os,l.tape.trans S.tape,l.output.trans S.output,by rw[l.size]; exact S.size,fun k hk hg=>?_⟩,?_,RT.free f2 r2,⟨l.os.symm,l.tape.symm,l.output.symm,by simp_all,fun k hk hg=>(l.block k (fun e=>hg (by rw[e]))).symm⟩,g3,RT.free f1 r1⟩
      ·by_cases e:k=b
       ·rw[e,hH]; exact B1.symm
       ·rw[l.block k e];refine S.block k hk (fun h=>?_)
        grind
      ·show(G.w.setRow b g.toArray).heap[c]?=_;rw[l.block c (fun e=>aA e.symm)];exact p3
     grind
    grind
   grind
  refine⟨fun G a S Y W=>?_,fun G a S Y W=>?_⟩
  ·obtain⟨k1,v,k2,rfl,k3⟩:=aC G a S Y W;exact⟨k1,_,k2,rfl,k3⟩
  ·obtain⟨k1,v,k2,rfl,k3⟩:=aC G a S Y W;exact⟨k1,_,k2,rfl,k3⟩
 ·have aP:∀(i:Nat) (u:Value),(Value.pointer (some ⟨b,0,none⟩) :: Value.pointer (some ⟨c,0,none⟩) :: x)[i]?=some u->((Value.pointer (some ⟨b,0,none⟩) :: Value.pointer (some ⟨c,0,none⟩) :: x).toArray++Array.replicate (r.ntmps-(Value.pointer (some ⟨b,0,none⟩) :: Value.pointer (some ⟨c,0,none⟩) :: x).toArray.size) undef).getD i undef=u:=fun i u hu=>by
   have aF:i < (Value.pointer (some ⟨b,0,none⟩) :: Value.pointer (some ⟨c,0,none⟩) :: x).length:=by
    rcases Nat.lt_or_ge i (Value.pointer (some ⟨b,0,none⟩) :: Value.pointer (some ⟨c,0,none⟩) :: x).length with h' | h'
    ·exact h'
    ·rw[List.getElem?_eq_none h'] at hu; cases hu
   rw[Array.getD_eq_getD_getElem?,Array.getElem?_append_left (by rw[List.size_toArray]; exact aF),List.getElem?_toArray,hu];rfl
  have aJ:s.p=[]/\∃u,(Value.pointer (some ⟨b,0,none⟩) :: Value.pointer (some ⟨c,0,none⟩) :: x)[t]?=some u/\AVR (SW K w b c [(500000,.box V (p9 false m x1)),(500001,.box H (p9 false q x2))]) s.a u:=by
   unfold B0B at T;simp only[lK] at T;split at T
   ·rename_i e; subst e; cases T;exact⟨rfl,_,rfl,⟨_,_,rfl⟩,b,rfl,rfl⟩
   ·split at T
    ·rename_i e; subst e; cases T;exact⟨rfl,_,rfl,⟨_,_,rfl⟩,c,rfl,rfl⟩
    ·obtain⟨a1,a2,u,a3,a4⟩:=YT (G:=SW K w b c [(500000,.box V (p9 false m x1)),(500001,.box H (p9 false q x2))]) aI hA t s T
     grind
  obtain⟨h1,u,h2,h3⟩:=aJ;rw[h1];refine⟨fun _=>?_,fun hn=>(hn (fun _ h=>by cases h)).elim⟩
  grind
def nx(o:Option (Prop×St)):St:=match o with
 | some (_,s)=>s
 | none=>⟨[],[]⟩
theorem CZ{o:Option (Prop×St)}{V:Prop}(h:o.map Prod.fst=some V):o=some (V,nx o):=by
 cases o with
 | none=>cases h
 | some x =>
   cases h;rfl
section
variable {P:Program} {n:Nat} {y:World×(Nat->Prop)×(Nat->Prop)×(Nat->Value->Prop)×Nat} {st:St} {Q:Exit->Act->World->Prop} {Γ:o4} {T:List Ct} {ρ:Type} {r:ρ}
theorem jA[a:HG P Γ][d:HT P T][e:J7 P](k:List Nat){id:Nat}{l:List Oper}{b:Bool}(c:FX (cx P n y) (nx (H8 b n Γ T l k st)) .normal Q)(h:(H8 b n Γ T l k st).map Prod.fst=some True:=by kernel_rfl):VX (cx P n y) st (.region id l.toArray b) Q:=za a.h d.h _ _ (CZ h) c
theorem jB[a:HG P Γ][d:HT P T][f:J7 P](k:List Nat){V:Prop}[Decidable V]{e:Option ρ}{id:Nat}{l:List Oper}{b:Bool}(H:gd V e=some r)(c:e=some r->FX (cx P n y) (nx (H8 b n Γ T l k st)) .normal Q)(h:(H8 b n Γ T l k st).map Prod.fst=some V:=by kernel_rfl):VX (cx P n y) st (.region id l.toArray b) Q:=zb a.h d.h _ _ H (CZ h) c
theorem iA[a:HG P Γ][e:HT P T][f:J7 P](k:List Nat){id:Nat}{l:List Oper}{b:Bool}{c:Code}(d:VX (cx P n y) (nx (H8 b n Γ T l k st)) c Q)(h:(H8 b n Γ T l k st).map Prod.fst=some True:=by kernel_rfl):VX (cx P n y) st (.seq (.region id l.toArray b) c) Q:=qa a.h e.h _ _ (CZ h) d
theorem iB[a:HG P Γ][f:HT P T][g:J7 P](k:List Nat){V:Prop}[Decidable V]{e:Option ρ}{id:Nat}{l:List Oper}{b:Bool}{c:Code}(H:gd V e=some r)(d:e=some r->VX (cx P n y) (nx (H8 b n Γ T l k st)) c Q)(h:(H8 b n Γ T l k st).map Prod.fst=some V:=by kernel_rfl):VX (cx P n y) st (.seq (.region id l.toArray b) c) Q:=qb a.h f.h _ _ H (CZ h) d
end
theorem YU{e:List (Nat×Sl)}:∀{keep:List Nat} {t:Nat} {s:Sl},b9 (Gd e keep) t=some s->t∈keep
 | [],t,s,h=>by cases h
 | k :: r,t,s,h=>by
   unfold Gd at h;split at h
   ·rw[lK] at h;split at h
    ·grind
    ·exact List.mem_cons_of_mem _ (YU h)
   ·exact List.mem_cons_of_mem _ (YU h)
def Ib(f:Nat->Value):List Nat->C1
 | []=>[]
 | t :: r=>(t,f t) :: Ib f r
theorem v0B{f:Nat->Value}:∀{keep:List Nat} {t:Nat},t∈keep->lk (Ib f keep) t=some (f t)
 | k :: r,t,h=>by
   show lk ((k,f k) :: Ib f r) t=_;rw[CK];split
   ·grind
   ·rename_i e;exact v0B ((List.mem_cons.1 h).resolve_left (fun h=>e h.symm))
theorem q0B{f:Nat->Value}:∀{keep:List Nat} {t:Nat} {v:Value},lk (Ib f keep) t=some v->f t=v
 | [],t,v,h=>by cases h
 | k :: r,t,v,h=>by
   have h:lk ((k,f k) :: Ib f r) t=some v:=h;rw[CK] at h;split at h
   ·grind
   ·exact q0B h
theorem D0o{X:Cx}{st:St}{c:Code}{Q:Exit->Act->World->Prop}(b:List Nat)(q m:Nat)(H:b9 st.e q=some ⟨[],.v (.pointer none)⟩)
  (h:∀f w Q',Rj X.n .normal ((m,.bool false) :: Ib f b) w Q'->VS X.P X.n c ((q,.pointer none) :: Ib f b) w Q')
  (k:FX X ⟨(m,⟨[],.d true .bool false⟩) :: Gd st.e b,st.o⟩ .normal Q):VX X st c Q:=by
 intro G a S T l;have W:a.tmps.getD q undef=.pointer none:=(l.val q _ H).1 (fun _ h=>nomatch h);refine h (fun t=>a.tmps.getD t undef) G.w Q (fun r g=>k G r S T ?_) a ⟨l.defers,l.size,fun t v i=>?_⟩
 ·refine⟨g.1,g.2.1,fun t s i=>?_⟩;rw[lK] at i;split at i
  ·rename_i e; cases i; subst e;refine⟨fun _=>?_,fun u=>absurd (fun x y=>nomatch y) u⟩;show RT (rg G true) G.w .bool [r.tmps.getD m undef] false;rw[g.2.2 m (.bool false) (by rw[CK,if_pos rfl])];exact rfl
  ·rename_i z;obtain⟨E,F⟩:=Sj i;have V:=g.2.2 t (a.tmps.getD t undef) (by rw[CK,if_neg z]; grind[v0B,YU]);have j:∀a,PathP s.p a:=fun a=>by rw[F]; exact fun x y=>nomatch y
   refine⟨fun _=>?_,fun u=>absurd (j r) u⟩;rw[V];exact(l.val t s E).1 (j a)
 grind[CK,q0B]
def YV(Q:Exit->Act->World->Prop)(K:Act->World->Prop):Exit->Act->World->Prop
 | .normal,a,w=>K a w
 | x,a,w=>Q x a w
theorem x0f{P:Program}{o:Oper}{Q:Exit->Act->World->Prop}{K N:Act->World->Prop}{a:Act}{w:World}(h:o.wp P a w N (YV Q K)):o.wp P a w N Q:=by
 unfold Oper.wp at h ⊢;generalize (execOp a.eval o).run P w=r at h ⊢;cases r with
 | ok n c=>cases n <;> exact h
 | halt b c=>cases b <;> exact h
theorem SY{ops:Array Oper}{L:Array Bool}{i:Nat}(h:i∈Region.ready .any ops L):i<ops.size:=by
 grind[Region.ready]
section
variable {P:Program} {Q:Exit->Act->World->Prop} {l:List Oper} {o:Oper}
theorem On{i:Nat}(h:i<l.length):(l++[o])[i]?=l[i]?:=List.getElem?_append_left h
theorem YW:(l++[o])[l.length]?=some o:=by simp
theorem Ic{L:Array Bool}{i:Nat}{d:Bool}(a:L.size=l.length)(h:i<l.length):(L.push false).getD i d=L.getD i d:=by
 rw[Array.getD_eq_getD_getElem?,Array.getD_eq_getD_getElem?,Array.getElem?_push];rw[if_neg (by omega)]
theorem m0C{L:Array Bool}{d:Bool}(a:L.size=l.length):(L.push false).getD l.length d=false:=by
 rw[Array.getD_eq_getD_getElem?,Array.getElem?_push,if_pos (by omega)];rfl
theorem y0x{L:Array Bool}{i:Nat}(a:L.size=l.length)(h:i<l.length):(L.push false).setIfInBounds i true=(L.setIfInBounds i true).push false:=by
 grind
def YX(l:List Oper):Bool:=l.all fun o=>match o.guard with
 | some (j,_)=>Nat.blt j l.length
 | none=>true
theorem t0f{i:Nat}{oi:Oper}(a:YX l=true)(hi:l[i]?=some oi)(t:Array Value):Region.wanted oi (yielded (l++[o]).toArray t)=Region.wanted oi (yielded l.toArray t):=by
 have:=List.all_eq_true.1 a oi (List.mem_of_getElem? hi);unfold Region.wanted;cases e:oi.guard with
 | none=>rfl
 | some p =>
   obtain⟨j,b⟩:=p;rw[e] at this;have c:j<l.length:=by simpa using this
   grind[yielded,On]
theorem z0Q(H:O4 0 l=true)(hg:YX l=true)(aH:∀k∈O3 o,k<l.length)(hw:∀D:Nat->Bool,DP D l->(∀k∈O3 o,D k=true)->∀k,k<l.length->D k=true) :
  ∀(fuel:Nat) (L:Array Bool) (a:Act) (w:World),L.size=l.length->DP (fun k=>L.getD k false) l->wpAny P .any l.toArray (YV Q fun a w=>wpOp P (l++[o]).toArray Q l.length (Q .normal) a w) fuel L a w->wpAny P .any (l++[o]).toArray Q (fuel+1) (L.push false) a w:=by
 have E:∀(i:Nat) (o:Oper) (k:Nat),l[i]?=some o->k∈O3 o->k<i:=by
  have:∀{m:List Oper} {i:Nat},O4 i m=true->∀j o k,m[j]?=some o->k∈O3 o->k<i+j:=by
   intro m
   induction m with
   | nil=>grind
   | cons o0 r ih =>
     intro i h j o k hj z;simp only[O4,ba,List.all_eq_true] at h;cases j with
     | zero=>simp_all
     | succ j=>grind
  intro i o k q d;have:=this H i o k q d; omega
 have Y:∀(L:Array Bool),L.size=l.length->Region.ready .any l.toArray L=[]->∀i,i<l.length->L.getD i false=true:=by
  intro L b x i
  induction i using Nat.strongRecOn with
  | ind i aD =>
    intro hi;cases h:L.getD i false with
    | true=>rfl
    | false =>
      have:i∈Region.ready .any l.toArray L:=mem_ready.2 ⟨by
       grind,l[i],by grind,fun e u H=>aD e.on (E i l[i] e.on (List.getElem?_eq_getElem hi) (Z3.2 ⟨e,u,H,rfl⟩)) (by have:=E i l[i] e.on (List.getElem?_eq_getElem hi) (Z3.2 ⟨e,u,H,rfl⟩); omega)⟩
      rw[x] at this; cases this
 have v:∀(L:Array Bool),L.size=l.length->(∀i,i<l.length->L.getD i false=true)->Region.ready .any (l++[o]).toArray ((L.push false).setIfInBounds l.length true)=[]:=by
  intro L b h;cases x:Region.ready .any (l++[o]).toArray ((L.push false).setIfInBounds l.length true) with
  | nil=>rfl
  | cons i r =>
    have hi:i∈Region.ready .any (l++[o]).toArray ((L.push false).setIfInBounds l.length true):=by rw[x]; simp
    obtain⟨q,-,-,-⟩:=mem_ready.1 hi;have c:i<l.length+1:=by simpa using SY hi
    by_cases e:i=l.length
    ·subst e;have T:l.length < (L.push false).size:=by simp; omega
     rw[Array.getD_eq_getD_getElem?,Array.getElem?_setIfInBounds,if_pos rfl,if_pos T] at q;cases q
    ·rw[getD_set_ne true (Ne.symm e),Ic b (by omega)] at q;have d:=h i (by omega);have T:i<L.size:=by omega
     rw[Array.getD_eq_getD_getElem?,Array.getElem?_eq_getElem T] at q d;have q:L[i]=false:=q;have d:L[i]=true:=d;rw[d] at q;cases q
 have aB:∀(L:Array Bool),L.size=l.length->(∀i,i<l.length->L.getD i false=true)->(∀k∈O3 o,k<l.length)->l.length∈Region.ready .any (l++[o]).toArray (L.push false):=by
  intro L b h z;refine mem_ready.2 ⟨m0C b,o,by grind,fun e u H=>?_⟩;have z:=z e.on (Z3.2 ⟨e,u,H,rfl⟩);rw[Ic b z];exact h _ z
 -- the last one ready: all others are done
 have s:∀(L:Array Bool) (i:Nat),L.size=l.length->DP (fun k=>L.getD k false) l->i∈Region.ready .any (l++[o]).toArray (L.push false)->(i<l.length/\i∈Region.ready .any l.toArray L)∨(i=l.length/\∀k,k<l.length->L.getD k false=true):=by
  intro L i b t hi;obtain⟨q,oi,d,n⟩:=mem_ready.1 hi;have c:i<l.length+1:=by simpa using SY hi
  rw[List.getElem?_toArray] at d;by_cases e:i=l.length
  ·subst e;rw[YW] at d;cases d;refine .inr ⟨rfl,hw (fun k=>L.getD k false) t fun k z=>?_⟩;obtain⟨e,u,g,rfl⟩:=Z3.1 z;have:=n e u g;by_cases aF:e.on<l.length
   ·rwa [Ic b aF] at this
   ·by_cases aC:e.on=l.length
    ·rw[aC,m0C b] at this; cases this
    ·rw[Array.getD_eq_getD_getElem?,Array.getElem?_eq_none (by simp; omega)] at this;cases this
  ·have f:i<l.length:=by omega
   rw[On f] at d;refine .inl ⟨f,mem_ready.2 ⟨by rwa [Ic b f] at q,oi,by rw[List.getElem?_toArray]; exact d,fun e u g=>?_⟩⟩;have:=n e u g
   rwa [Ic b (Nat.lt_trans (E i oi e.on d (Z3.2 ⟨e,u,g,rfl⟩)) f)] at this
 have X:∀(L:Array Bool) (i:Nat),L.size=l.length->i∈Region.ready .any l.toArray L->i∈Region.ready .any (l++[o]).toArray (L.push false):=by
  intro L i b hi;obtain⟨q,oi,d,n⟩:=mem_ready.1 hi;have c:i<l.length:=by simpa using SY hi
  rw[List.getElem?_toArray] at d;refine mem_ready.2 ⟨by rwa [Ic b c],oi,by rw[List.getElem?_toArray,On c]; exact d,fun e u g=>?_⟩;rw[Ic b (Nat.lt_trans (E i oi e.on d (Z3.2 ⟨e,u,g,rfl⟩)) c)];exact n e u g
 intro fuel
 induction fuel with
 | zero =>
   rintro L a w b t ⟨x,hq⟩;have ha:=Y L b x;refine⟨fun aA=>?_,fun i hi=>?_⟩
   ·grind
   ·rcases s L i b t hi with ⟨_,d⟩ | ⟨rfl,_⟩
    ·grind
    ·exact wpOp_mono (fun a' w' h=>⟨v L b ha,h⟩) hq
 | succ fuel ih =>
   rintro L a w b t ⟨h0,q⟩;refine⟨fun aA=>?_,fun i hi=>?_⟩
   ·exfalso;cases x:Region.ready .any l.toArray L with
    | nil =>
      grind
    | cons i r =>
      have:=X L i b (by grind);rw[aA] at this;cases this
   ·rcases s L i b t hi with ⟨c,d⟩ | ⟨rfl,ha⟩
    ·have n:=q i d;obtain⟨_,oi,g2,g3⟩:=mem_ready.1 d;rw[List.getElem?_toArray] at g2;have V:∀k,(L.setIfInBounds i true).getD k false=if k=i then true else L.getD k false:=fun k=>by
      by_cases y:k=i
      ·simp_all
      ·rw[if_neg y]; exact getD_set_ne false (Ne.symm y)
     have F:DP (fun k=>(L.setIfInBounds i true).getD k false) l:=fun k o' z hD m hm=>by
      simp only[V] at hD ⊢;by_cases aG:m=i
      ·grind
      ·rw[if_neg aG];by_cases y:k=i
       ·grind[Z3]
       ·rw[if_neg y] at hD;exact t k o' z hD m hm
     rw[y0x b c];unfold wpOp at n ⊢;rw[List.getElem?_toArray,g2] at n;rw[List.getElem?_toArray,On c,g2];simp only[t0f (o:=o) hg g2] at n ⊢;split at n
     ·rename_i G;rw[if_pos G];rcases n with n | n
      ·exact .inl (Oper.wp_mono (fun a' w' h=>ih _ a' w' (by grind) F h) (x0f n))
      ·exact .inr n
     ·rename_i G;rw[if_neg G];exact ih _ _ _ (by grind) F n
    ·have x:Region.ready .any l.toArray L=[]:=by
      cases x:Region.ready .any l.toArray L with
      | nil=>rfl
      | cons i r =>
        have f:i∈Region.ready .any l.toArray L:=by rw[x]; simp
        obtain⟨W,-,-,-⟩:=mem_ready.1 f;have c:i<l.length:=by simpa using SY f
        have q2:=ha i c;have T:i<L.size:=by omega
        rw[Array.getD_eq_getD_getElem?,Array.getElem?_eq_getElem T] at W q2;have W:L[i]=false:=W;have q2:L[i]=true:=q2;rw[q2] at W;cases W
     exact wpOp_mono (fun a' w' h=>⟨fun _=>h,fun j hj=>by rw[v L b ha] at hj; cases hj⟩) (h0 x)
end
def Oo:List Oper->Option (List Oper×Oper)
 | []=>none
 | [o]=>some ([],o)
 | o :: r=>match Oo r with
   | some (l,x)=>some (o :: l,x)
   | none=>none
theorem m0Z:∀{l l0:List Oper} {o:Oper},Oo l=some (l0,o)->l=l0++[o]
 | [],_,_,h=>by cases h
 | [a],_,_,h=>by
   simp only[Oo,oi,pj] at h
   grind
 | a :: b :: r,_,_,h=>by
   unfold Oo at h;split at h
   ·rename_i l x c;simp only[oi,pj] at h;obtain⟨rfl,rfl⟩:=h;rw[List.cons_append,<- m0Z c]
   grind
def SZ(l0:List Oper)(o:Oper):Bool:=(O3 o).all (fun k=>Nat.blt k l0.length)&&(List.range l0.length).all fun k=>M3 k ((B6 (H3 [] (l0++[o])) l0.length).getD [])
def evU(n:Nat)(Γ:o4)(T:List Ct)(l:List Oper)(keep:List Nat)(f:FuncId)(T1:TypeId)(t1:Ty)(T2:TypeId)(t2:Ty)(ps:List Par)(st:St)(z:j5 t1×j5 t2):Option (Prop×(j5 t1×j5 t2×r7 ps)×Prop×St):=match Oo l with
 | some (l0,⟨some d,op,ty,pos,after,none⟩)=>bif I1 n 0 [] l&&O4 0 l&&O4 0 l0&&J5 st.e&&YX l0&&SZ l0 ⟨some d,op,ty,pos,after,none⟩ then(match N3 Γ T l0 l0 st [] with
   | some (V,st1,rs)=>bif DQ (H3 [] l0) rs.reverse&&J5 st1.e then(match SU st1 f T1 t1 T2 t2 ps op with
     | some (ii,x1,x2,xs)=>some (V,(x1,x2,xs),True,cut keep (SV st1 d T1 t1 T2 t2 ii.1 ii.2 z))
     | none=>none) else none
   | none=>none) else none
 | _=>none
theorem r0x{a:List Oper}{o:Oper}(q:O4 0 (a++[o])=true)(h:SZ a o=true)(D:Nat->Bool)(u:DP D a)(E:∀k∈O3 o,D k=true):∀k,k<a.length->D k=true:=by
 unfold SZ at h;rw[ba] at h;have F:=List.all_eq_true.1 h.1;have t:=List.all_eq_true.1 h.2;have g:=Sg (all:=a++[o]) (rest:=a++[o]) (acc:=[]) (fun j=>by simp) q (fun i m h=>by grind);intro k n;have f:=P2.1 (t k (List.mem_range.2 n));rw[V3] at f;cases hbm:(H3 [] (a++[o]))[a.length]? with
 | none=>grind
 | some m =>
   rw[hbm] at f;obtain⟨x,v⟩:=g a.length m hbm;have:=v (fun j=>D j&&Nat.blt j a.length) (fun i l hi b j c=>by
    rw[ba] at b;have e:i<a.length:=by simpa using b.2
    rw[On e] at hi;have w:=u i l hi b.1 j c;have s:j<a.length:=by
     have d:∀{m:List Oper} {i:Nat},O4 i m=true->∀j o k,m[j]?=some o->k∈O3 o->k<i+j:=by
      intro m
      induction m with
      | nil=>grind
      | cons z r y =>
        intro i h j o k c n;simp only[O4,ba,List.all_eq_true] at h;cases j with
        | zero=>simp_all
        | succ j=>grind
     have:=d q i l j (by grind) c;omega
    simp_all) o YW (fun j c=>by
    grind) k f
   grind
theorem zU{P:Program}{n:Nat}{y:World×(Nat->Prop)×(Nat->Prop)×(Nat->Value->Prop)×Nat}{st:St}{Q:Exit->Act->World->Prop}{Γ:o4}{T:List Ct}{ρ:Type}{r:ρ}(aJ:w9 P Γ)(hT:∀c∈T,Ok P c)[hm:J7 P]{f:FuncId}{T1:TypeId}{q:Ty}{T2:TypeId}{u:Ty}{ps:List Par}{F:j5 q->j5 u->r7 ps->Option (j5 q×j5 u)}(hk:Mg P f T1 q T2 u ps F)
  (v:List Nat) (S:j5 q×j5 u->St) (W:j5 q×j5 u->Prop) {x1:j5 q} {x2:j5 u} {xs:r7 ps} [Inhabited (j5 q×j5 u)] {V:Prop} [Decidable V] {g:j5 q×j5 u->Option ρ} {id:Nat} {l:List Oper} (H:gd (V/\(F x1 x2 xs).isSome=true/\True) (lt (vl (F x1 x2 xs)) g)=some r)
  (h:∀z,evU n Γ T l v f T1 q T2 u ps st z=some (V,(x1,x2,xs),W z,S z)) (hc:∀z,g z=some r->W z/\FX (cx P n y) (S z) .normal Q):VX (cx P n y) st (.region id l.toArray true) Q:=by
 obtain⟨⟨hV,hs,-⟩,H⟩:=L0 H;obtain⟨z,hz⟩:=Option.isSome_iff_exists.1 hs;rw[hz] at H;have H:g z=some r:=H;have m:=h z;obtain⟨-,c2⟩:=hc z H;unfold evU at m;split at m
 ·rename_i e d op ty pos after hl;rw[ce] at m;split at m
  ·rename_i hb;simp only[ba] at hb;obtain⟨⟨⟨⟨⟨b1,b2⟩,b3⟩,b4⟩,b5⟩,b6⟩:=hb;have el:=m0Z hl;split at m
   ·rename_i V' aD aQ g1;rw[ce] at m;split at m
    ·rename_i Y;rw[ba] at Y;split at m
     ·rename_i ii y1 y2 ys ha;simp only[oi,pj] at m;obtain⟨rfl,⟨rfl,rfl,rfl⟩,-,eS⟩:=m;intro G a Sa ho hE;obtain⟨recs,e1,e2,e3,e4⟩:=AS (Z6 (K:=fun aK rs=>DQ (H3 [] e) rs.reverse=true/\aK=aD) g1 hV ⟨Y.1,rfl⟩);rw[List.append_nil,List.reverse_reverse] at e3;refine wp_region_any hm.h ?_;have E:Ext G.w { G.w with drawn:=G.w.drawn+1 }:=(Below.refl _ _).drew;obtain⟨S1,L1⟩:=Sa.ext E;rw[el] at b1;obtain⟨k1,sn,k2,-,-⟩:=SO (a:=e) (b:=[⟨some d,op,ty,pos,after,none⟩]) b1;have aH:d<n:=by
       have hd:=(Si b1).1 e.length ⟨some d,op,ty,pos,after,none⟩ d YW rfl;exact hd.1
      have aG:=q0T aJ hT (X:=cx P n y) (Q:=YV Q fun a w=>wpOp P (e++[(⟨some d,op,ty,pos,after,none⟩:Oper)]).toArray Q e.length (Q .normal) a w) (l:=e) (recs:=recs) (st:=st) e1 e2 (AT b4) k1 b3 e3 (fun G' a' S' aA aB=>by
        rw[e4] at aA aB;show wpOp P (e++[(⟨some d,op,ty,pos,after,none⟩:Oper)]).toArray Q e.length (Q .normal) a' G'.w;have aO:=B0L (i1:=ii.1) (i2:=ii.2) (ty:=ty) (pos:=pos) (after:=after) (ops:=(e++[(⟨some d,op,ty,pos,after,none⟩:Oper)]).toArray) (Q:=Q) (K:=Q .normal) hk S' aA aB ha aH (fun t s ht x hx=>by grind[AT]) hz fun a2 G2 aF aC aI=>by
         obtain⟨G3,S3,aP,aM,aN⟩:=Ge v aF aC aI;have:=c2 G3 a2 S3 (by grind) (by grind)
         grind
        grind[N0,wpOp]) e.length (Array.replicate e.length false) { G with w:={ G.w with drawn:=G.w.drawn+1 } } a
       (by grind) (by simp) (fun i o _ hD=>by
         by_cases hi:i<e.length
         ·simp_all
         grind) S1 (fun id=>by
         have:∀{recs:List A4} {i:Nat} {st:St},(∀j,(Array.replicate e.length false).getD j false=false)->A0 (fun k=>(Array.replicate e.length false).getD k false) i recs st=st:=by
          intro recs
          induction recs with
          | nil=>intro i st _; rfl
          | cons R r ih=>grind[A0]
         rw[this (fun j=>by by_cases hj:j<e.length <;> simp[hj])]
         grind) (by
         have:∀{recs:List A4} {i:Nat} {st:St},(∀j,(Array.replicate e.length false).getD j false=false)->A0 (fun k=>(Array.replicate e.length false).getD k false) i recs st=st:=by
          intro recs
          induction recs with
          | nil=>intro i st _; rfl
          | cons R r ih=>grind[A0]
         rw[this (fun j=>by by_cases hj:j<e.length <;> simp[hj])];exact hE.mono L1)
      have aL:=z0Q (Q:=Q) b3 b5 (fun k hk=>by
       have:=b6;unfold SZ at this
       simp_all) (r0x (by grind) b6) e.length (Array.replicate e.length false) a _ (by simp) (fun i o _ hD=>by
        by_cases hi:i<e.length
        ·simp_all
        grind) aG
      grind
     grind
    grind
   grind
  grind
 grind
def VL(X:Cx)(l:List Oper)(i:Nat)(st:St)(Q:Exit->Act->World->Prop):Prop:=∀G a,Sat X G->G.o=st.o->EnvR X.n G st.e a->wpList X.P l.toArray Q (l.drop i) a G.w
theorem Va{X:Cx}{l:List Oper}{id:Nat}{st:St}{Q:Exit->Act->World->Prop}(h:VL X l 0 st Q):VX X st (.region id l.toArray false) Q:=fun G a S c b=>wp_region_lit (h G a S c b)
def Ta(n:Nat)(Γ:o4)(T:List Ct)(l:List Oper)(i m:Nat)(st:St):Option (Prop×St):=bif SR (Ap (l.take i)) st.e&&I1 n i (Ap (l.take i)) ((l.drop i).take m) then(match N3 Γ T l ((l.drop i).take m) st [] with
    | some (V,st1,_)=>some (V,st1)
    | none=>none) else none
theorem C0c{P:Program}{n:Nat}{y:World×(Nat->Prop)×(Nat->Prop)×(Nat->Value->Prop)×Nat}{st b:St}{Q:Exit->Act->World->Prop}{Γ:o4}{T:List Ct}(s:w9 P Γ)(F:∀c∈T,Ok P c){l:List Oper}{i m:Nat}{V:Prop}(h:Ta n Γ T l i m st=some (V,b))(Y:V)(k:VL (cx P n y) l (i+m) b Q):VL (cx P n y) l i st Q:=by
 intro G a S W x;unfold Ta at h;rw[ce] at h;split at h
 ·rename_i u;rw[ba] at u;split at h
  ·rename_i V' e rs v;simp only[oi,pj] at h;obtain⟨rfl,rfl⟩:=h;obtain⟨f,t,w,f3⟩:=AS (Z6 (K:=fun j _=>j=e) v Y rfl);have:=HP (X:=cx P n y) s F (ops:=l.toArray) (all:=l) rfl (Q:=Q) (rest:=l.drop (i+m)) f i _ st G a (fun q hq=>by
     have r:q<m:=by
      have:=congrArg List.length t;rw[List.length_map,List.length_take] at this;omega
     rw[<- List.getElem?_map,t,List.getElem?_take_of_lt r,List.getElem?_drop]) (by grind) (fun q z dq hq q1 E=>by
     refine YQ (o:=z) ?_ E;rw[List.mem_iff_getElem?];exact⟨q,by grind⟩) (i0X u.1) w S W x
    (fun G3 H S3 g d=>by
      rw[f3] at g d;exact k G3 H S3 g d)
   grind[List.drop_drop,List.take_append_drop]
  grind
 grind
def Aq(n:Nat)(Γ:o4)(T:List Ct)(l:List Oper)(i i0 m:Nat)(st:St):Option (Prop×St×Nat×Bool×Nat×Bool) :=
 match Ta n Γ T l i (i0-i) st with
 | some (V,st1)=>(match B6 l i0 with
   | some o=>(match o.guard with
     | some (j,b)=>(match B6 l j with
       | some oj=>(match oj.dst with
         | some dj=>(match b9 st1.e dj with
           | some ⟨[],.d _ .bool e⟩=>bif SR (Ap (l.take i0)) st1.e&&Nat.ble i i0&&Nat.blt j i0&&Nat.ble (i0+m) l.length&&((l.drop i0).take m).all (YR j b) then some (V,st1,j,b,dj,e) else none
           | _=>none)
         | none=>none)
       | none=>none)
     | none=>none)
   | none=>none)
 | none=>none
def Gn(n:Nat)(Γ:o4)(T:List Ct)(l:List Oper)(i m:Nat)(st1:St):Option (Prop×St) :=
 bif I1 n 0 (Ap (l.take i)) (((l.drop i).take m).map Gm) then(match N3 Γ T l (((l.drop i).take m).map Gm) st1 [] with
  | some (W,st2,_)=>some (W,st2)
  | none=>none) else none
def DW(n:Nat)(l:List Oper)(i m:Nat)(dm:List (Nat×AV))(dj:Nat)(b:Bool)(st1:St):Option (Prop×St) :=
 bif SQ n (Ap (l.take i)) (((l.drop i).take m).map Gm) dm then some (True,⟨YP dj b dm st1.e,st1.o⟩) else none
theorem zGL{P:Program}{n:Nat}{y:World×(Nat->Prop)×(Nat->Prop)×(Nat->Value->Prop)×Nat}{st:St}{Q:Exit->Act->World->Prop}{Γ:o4}{T:List Ct}{ρ:Type}{r:ρ}(aH:w9 P Γ)(hT:∀c∈T,Ok P c)
  (a m:Nat) (dm:List (Nat×AV)) (E:St) (j:Nat) (b:Bool) (dj:Nat) (ST SF:St) (WT WF:Prop) {V:Prop} [Decidable V] {e:Bool} {A B:Option ρ} {i:Nat} {l:List Oper} (H:gd V (if e=true then A else B)=some r)
  (u:Aq n Γ T l i a m st=some (V,E,j,b,dj,e)) (hA:(bif b then Gn n Γ T l a m (N4 dj true E) else DW n l a m dm dj b (N4 dj true E))=some (WT,ST)) (hB:(bif b then DW n l a m dm dj b (N4 dj false E) else Gn n Γ T l a m (N4 dj false E))=some (WF,SF))
  (kA:A=some r->WT/\VL (cx P n y) l (a+m) ST Q) (kB:B=some r->WF/\VL (cx P n y) l (a+m) SF Q):VL (cx P n y) l i st Q:=by
 obtain⟨hV,H0⟩:=L0 H;clear H;unfold Aq at u;split at u
 ·rename_i V1 g g1;split at u
  ·rename_i o hn;split at u
   ·rename_i j' b' aZ;split at u
    ·rename_i oj hj;split at u
     ·rename_i k aF;split at u
      ·rename_i f e' aT;rw[ce] at u;split at u
       ·rename_i hc;simp only[ba] at hc;obtain⟨⟨⟨⟨aX,aK⟩,aL⟩,aM⟩,aA⟩:=hc;simp only[oi,pj] at u;obtain⟨rfl,rfl,rfl,rfl,rfl,rfl⟩:=u;have aK:i<=a:=Nat.le_of_ble_eq_true aK;have aL:j'<a:=by simpa using aL
        have aM:a+m<=l.length:=Nat.le_of_ble_eq_true aM;rw[List.all_eq_true] at aA;have ei:i+(a-i)=a:=by omega
        refine C0c aH hT g1 hV ?_;rw[ei];intro G1 a1 S1 aG F;have aJ:(l.drop a).take m=(((l.drop a).take m).map Gm).map (grd j' b'):=by
         rw[List.map_map]
         conv=>lhs; rw[<- List.map_id ((l.drop a).take m)]
         exact List.map_congr_left fun o ho=>(E0i (aA o ho)).symm
        have aB:k∈Ap (l.take a):=by
         refine YQ (o:=oj) ?_ aF;rw[List.mem_iff_getElem?];exact⟨j',by grind[List.getElem?_take_of_lt,XQ]⟩
        have aO:=(F.val k _ aT).1 (fun _ h=>by cases h);have aC:∀v,e'=v->EnvR n G1 (N4 k v g).e a1:=fun v hv=>by
         refine⟨F.defers,F.size,fun t s G=>?_⟩;simp only[N4] at G;rw[lK] at G;split at G
         ·rename_i hd;cases G;subst hd;subst hv;refine⟨fun _=>?_,fun h=>(h (fun _ h=>by cases h)).elim⟩;have:=Bt aO;show RT _ _ _ _ _;rw[this];exact rfl
         ·exact F.val t s G
        have aR:∀v,b9 (N4 k v g).e k=some ⟨[],.d false .bool v⟩:=fun v=>by
         simp only[N4]; rw[lK,if_pos rfl]
        have aD:∀v t s,b9 (N4 k v g).e t=some s->∀x∈s.p,x.1∈Ap (l.take a):=fun v t s G x hx=>by
         simp only[N4] at G;rw[lK] at G;split at G
         ·grind
         grind[i0X]
        have el:l.drop a=(l.drop a).take m++l.drop (a+m):=by grind[List.drop_drop,List.take_append_drop]
        rw[el];have aV:∀(v:Bool) (W:Prop) (S3:St),e'=v->v=b'->Gn n Γ T l a m (N4 k v g)=some (W,S3)->W/\VL (cx P n y) l (a+m) S3 Q->wpList P l.toArray Q ((l.drop a).take m++l.drop (a+m)) a1 G1.w:=by
         intro v W S3 hv aN q hk;unfold Gn at q;rw[ce] at q;split at q
         ·rename_i aQ;split at q
          ·rename_i W1 aP aY g2;simp only[oi,pj] at q;obtain⟨rfl,rfl⟩:=q;obtain⟨z,f1,f2,f3⟩:=AS (Z6 (K:=fun aS _=>aS=aP) g2 hk.1 rfl);have:=p0S (X:=cx P n y) aH hT (ops:=l.toArray) (all:=l) rfl (Q:=Q) (rest:=l.drop (a+m)) (b:=b') (f:=false) hj aF z 0 (Ap (l.take a)) (N4 k v g) G1 a1 (fun R hR=>by
             have:R.o∈((l.drop a).take m).map Gm:=by rw[<- f1]; exact List.mem_map_of_mem hR
             obtain⟨o',_,e⟩:=List.mem_map.1 this;rw[<- e]; rfl) (by rw[f1]; exact aQ) aB (aD v) (by rw[<- aN]; exact aR v) f2 S1 aG (aC v hv)
            (fun G2 a2 S2 aI Y=>by
              rw[f3] at aI Y;exact hk.2 G2 a2 S2 aI Y)
           have em:List.map (fun R:A4=>grd j' b' R.o) z=(l.drop a).take m:=by
            rw[aJ,<- f1,List.map_map];rfl
           grind
          grind
         ·cases q
        have aW:∀(v:Bool) (W:Prop) (S3:St),e'=v->v=!b'->DW n l a m dm k b' (N4 k v g)=some (W,S3)->W/\VL (cx P n y) l (a+m) S3 Q->wpList P l.toArray Q ((l.drop a).take m++l.drop (a+m)) a1 G1.w:=by
         intro v W S3 hv aN q hk;unfold DW at q;rw[ce] at q;split at q
         ·rename_i aU;simp only[oi,pj] at q;obtain⟨rfl,rfl⟩:=q;have:=m0v (X:=cx P n y) (ops:=l.toArray) (all:=l) rfl (Q:=Q) (rest:=l.drop (a+m)) (b:=b') (f:=false) hj aF (((l.drop a).take m).map Gm) dm (Ap (l.take a)) (N4 k v g).e G1 a1 aU aB (aD v) (by grind) (aC v hv)
           (fun a2 Y=>hk.2 G1 a2 S1 aG Y)
          grind
         ·cases q
        grind
       grind
      grind
     grind
    grind
   grind
  grind
 grind
def DX(n:Nat)(Γ:o4)(T:List Ct)(l:List Oper)(i:Nat)(keep:List Nat)(st:St):Option (Prop×St):=bif Nat.ble i l.length then(match Ta n Γ T l i (l.length-i) st with
 | some (V,s)=>some (V,cut keep s)
 | none=>none) else none
theorem zLE{P:Program}{n:Nat}{y:World×(Nat->Prop)×(Nat->Prop)×(Nat->Value->Prop)×Nat}{st:St}{Q:Exit->Act->World->Prop}{Γ:o4}{T:List Ct}{ρ:Type}{r:ρ}(f:w9 P Γ)(v:∀c∈T,Ok P c)(b:List Nat)(st':St){V:Prop}[Decidable V]{e:Option ρ}{i:Nat}{l:List Oper}(H:gd V e=some r)
  (h:DX n Γ T l i b st=some (V,st')) (o:e=some r->FX (cx P n y) st' .normal Q):VL (cx P n y) l i st Q:=by
 obtain⟨t,w⟩:=L0 H;unfold DX at h;rw[ce] at h;split at h
 ·rename_i hi;have hi:=Nat.le_of_ble_eq_true hi;split at h
  ·rename_i x s k;simp only[oi,pj] at h;obtain⟨rfl,rfl⟩:=h;refine C0c f v k t ?_;intro G a S q m;rw[show i+(l.length-i)=l.length by omega,List.drop_length];obtain⟨G4,u,j,g,d⟩:=Ge b S q m;have:=o w G4 a u j d;rw[g] at this;exact this
  grind
 grind
section
variable {P:Program} {n:Nat} {y:World×(Nat->Prop)×(Nat->Prop)×(Nat->Value->Prop)×Nat} {st:St} {Q:Exit->Act->World->Prop} {Γ:o4} {T:List Ct} {ρ:Type} {r:ρ} {l:List Oper} {id i:Nat} {V:Prop} [Decidable V]
theorem IV[a:HG P Γ][b:HT P T](k:List Nat){e:Option ρ}(H:gd V e=some r)(c:e=some r->FX (cx P n y) (nx (DX n Γ T l i k st)) .normal Q)(h:(DX n Γ T l i k st).map Prod.fst=some V:=by kernel_rfl):VL (cx P n y) l i st Q:=zLE a.h b.h _ _ H (CZ h) c
theorem iF[b:HG P Γ][c:HT P T](i:Nat)(a k:List Nat){e:Option ρ}(H:gd V e=some r)(d:e=some r->FX (cx P n y) (nx (SS n Γ T l i a k st)) .normal Q)(h:(SS n Γ T l i a k st).map Prod.fst=some V:=by kernel_rfl):VX (cx P n y) st (.region id l.toArray false) Q:=zF b.h c.h i a k _ H (CZ h) d
def n3{α β:Type}(o:Option (α×β×St)):St:=match o with
 | some (_,_,s)=>s
 | none=>⟨[],[]⟩
theorem L0k{b a:Type}{o:Option (b×a×St)}{V:b}{W:a}(h:o.map (fun x=>(x.1,x.2.1))=some (V,W)):o=some (V,W,n3 o):=by
 cases o with
 | none=>cases h
 | some x =>
   cases h;rfl
theorem iE[Alw][b:HG P Γ][d:HT P T]{f:FuncId}{ps:List Par}{a:Type}[Inhabited a]{pre:r7 ps->Prop}{post:a->Prop}{R:a->AV}{Z:a->B0 ps}(c:kE P f ps pre post R Z)(i:Nat)(k:List Nat){W:a->Prop}{g:a->Option ρ}(H:gd V (Alw.alp (Y3 ps post R Z) g)=some r)(e:∀z,Y3 ps post R Z z->g z=some r->W z/\FX (cx P n y) (n3 (Oh n Γ T l i k f pre (fun _=>⟨True,R z,Z z⟩) st)) .normal Q)(h:∀z,(Oh n Γ T l i k f pre (fun _=>⟨True,R z,Z z⟩) st).map (fun x=>(x.1,x.2.1))=some (V,W z):=by intro _; kernel_rfl):VX (cx P n y) st (.region id l.toArray false) Q :=
 zE b.h d.h c i k _ W H (fun z=>L0k (h z)) e
def Tb(n:Nat)(Γ:o4)(T:List Ct)(l:List Oper)(m:Nat)(dm:List (Nat×AV))(i0:Nat)(v:Bool)(o:Option (Prop×St×Nat×Bool×Nat×Bool)):Option (Prop×St):=match o with
 | some (_,st1,_,b,dj,_)=>bif (bif b then v else !v) then Gn n Γ T l i0 m (N4 dj v st1) else DW n l i0 m dm dj b (N4 dj v st1)
 | none=>none
theorem PY[g:HG P Γ][v:HT P T](a m:Nat)(c:List (Nat×AV)){o q:Prop}{e:Bool}{A B:Option ρ}(H:gd V (if e=true then A else B)=some r)
  (t:A=some r->o/\VL (cx P n y) l (a+m) (nx (Tb n Γ T l m c a true (Aq n Γ T l i a m st))) Q) (s:B=some r->q/\VL (cx P n y) l (a+m) (nx (Tb n Γ T l m c a false (Aq n Γ T l i a m st))) Q)
  (h:(Aq n Γ T l i a m st).map (fun x=>(x.1,x.2.2.2.2.2))=some (V,e):=by kernel_rfl) (d:(Tb n Γ T l m c a true (Aq n Γ T l i a m st)).map Prod.fst=some o:=by kernel_rfl) (f:(Tb n Γ T l m c a false (Aq n Γ T l i a m st)).map Prod.fst=some q:=by kernel_rfl):VL (cx P n y) l i st Q:=by
 cases ho:Aq n Γ T l i a m st with
 | none=>rw[ho] at h; cases h
 | some x =>
   obtain⟨w,k,j,b,u,z⟩:=x;rw[ho] at h d f t s;cases h;have d:=CZ d;have f:=CZ f;exact zGL g.h v.h a m c k j b u _ _ o q H ho (by cases b <;> exact d) (by cases b <;> exact f) t s
def Ie(n:Nat)(Γ:o4)(T:List Ct)(l:List Oper)(m:Nat)(dm:List (Nat×AV))(k:List Nat)(i0:Nat)(v:Bool)(o:Option (Prop×St×Nat×Bool×Nat×Bool)):Option (Prop×St):=match o with
 | some (_,st1,_,b,dj,_)=>bif (bif b then v else !v) then(match Gn n Γ T l i0 m (N4 dj v st1) with
   | some (W,s)=>(match DX n Γ T l (i0+m) k s with
     | some (W2,s2)=>some (W/\W2,s2)
     | none=>none)
   | none=>none) else(match DW n l i0 m dm dj b (N4 dj v st1) with
   | some (_,s)=>DX n Γ T l (i0+m) k s
   | none=>none)
 | none=>none
theorem I0q[u:HG P Γ][H:HT P T]{m:Nat}{k:List Nat}{f:Nat}{v b:Bool}{c:St}{t:List (Nat×AV)}{j i:Nat}{e:Bool}{z W:Prop}{A:Option ρ}(h:(Ie n Γ T l m t k f v (some (z,c,j,b,i,e))).map Prod.fst=some W)
  (a:A=some r->W/\FX (cx P n y) (nx (Ie n Γ T l m t k f v (some (z,c,j,b,i,e)))) .normal Q):∃WT s,(bif (bif b then v else !v) then Gn n Γ T l f m (N4 i v c) else DW n l f m t i b (N4 i v c))=some (WT,s)/\(A=some r->WT/\VL (cx P n y) l (f+m) s Q):=by
 have q:∀{s o:St} {W2:Prop},DX n Γ T l (f+m) k s=some (W2,o)->W2->A=some r->FX (cx P n y) o .normal Q->VL (cx P n y) l (f+m) s Q:=fun {s o W2} d G g E=>by
  haveI:=Classical.propDecidable W2
  exact zLE u.h H.h k o (V:=W2) (e:=A) (by unfold gd; rw[if_pos G]; exact g) d fun _=>E
 unfold Ie at h a;dsimp only at h a;cases hc:(bif b then v else !v) with
 | true =>
   rw[hc] at h a;simp only[cond_true] at h a ⊢;cases d:Gn n Γ T l f m (N4 i v c) with
   | none=>rw[d] at h; cases h
   | some x =>
     obtain⟨W1,s⟩:=x;rw[d] at h a;dsimp only at h a;cases h2:DX n Γ T l (f+m) k s with
     | none=>rw[h2] at h; cases h
     | some w =>
       obtain⟨W2,o⟩:=w;rw[h2] at h a;cases h;exact⟨W1,s,rfl,fun g=>⟨(a g).1.1,q h2 (a g).1.2 g (a g).2⟩⟩
 | false =>
   rw[hc] at h a;simp only[cond_false] at h a ⊢;cases d:DW n l f m t i b (N4 i v c) with
   | none=>rw[d] at h; cases h
   | some x =>
     obtain⟨W1,s⟩:=x;have F:W1=True:=by
      unfold DW at d;rw[ce] at d;split at d
      ·cases d; rfl
      ·cases d
     subst F;rw[d] at h a;dsimp only at h a;cases h2:DX n Γ T l (f+m) k s with
     | none=>rw[h2] at h; cases h
     | some w =>
       obtain⟨W2,o⟩:=w;rw[h2] at h a;cases h;exact⟨True,s,rfl,fun g=>⟨trivial,q h2 (a g).1 g (a g).2⟩⟩
theorem iG[f:HG P Γ][W:HT P T](a m:Nat)(k:List Nat)(c:List (Nat×AV)){t i:Prop}{e:Bool}{A B:Option ρ}(H:gd V (if e=true then A else B)=some r)
  (s:A=some r->t/\FX (cx P n y) (nx (Ie n Γ T l m c k a true (Aq n Γ T l 0 a m st))) .normal Q) (q:B=some r->i/\FX (cx P n y) (nx (Ie n Γ T l m c k a false (Aq n Γ T l 0 a m st))) .normal Q)
  (h:(Aq n Γ T l 0 a m st).map (fun x=>(x.1,x.2.2.2.2.2))=some (V,e):=by kernel_rfl) (o:(Ie n Γ T l m c k a true (Aq n Γ T l 0 a m st)).map Prod.fst=some t:=by kernel_rfl) (g:(Ie n Γ T l m c k a false (Aq n Γ T l 0 a m st)).map Prod.fst=some i:=by kernel_rfl):VX (cx P n y) st (.region id l.toArray false) Q:=by
 refine Va ?_;cases ho:Aq n Γ T l 0 a m st with
 | none=>rw[ho] at h; cases h
 | some x =>
   obtain⟨Y,d,j,b,z,X⟩:=x;rw[ho] at h o g s q;cases h;obtain⟨W1,E,F,v⟩:=I0q o s;obtain⟨W2,u,G,w⟩:=I0q g q;exact zGL f.h W.h a m c d j b z E u W1 W2 H ho (by cases b <;> exact F) (by cases b <;> exact G) v w
theorem k8{P:Program}{Γ:o4}[HG P Γ]{f:FuncId}{ps:List Par}{ρ:Type}[Inhabited ρ]{F:r7 ps->Option ρ}{R:ρ->AV}{Z:ρ->B0 ps}{b:Func}{a:Code}(rs:List ResultVar)(d:P.funcs[f]?=some b)
 (h:∀y x r,F x=some r->∀Q,SM (cx P b.ntmps y) Γ rs ps R Z r .normal Q->SM (cx P b.ntmps y) Γ rs ps R Z r .ret Q->VX (cx P b.ntmps y) ⟨K6 0 ps x,H4 0 ps x⟩ a Q)
 (g:b.body=some a:=by rfl) (e:b.results=rs.toArray:=by kernel_rfl) (i:Al P f=true:=by kernel_rfl) (c:(Nat.ble ps.length b.ntmps&&Z4 ps)=true:=by kernel_rfl):Ok P (j9 f ps F R Z):=okL rs d rfl e h g i c
end
theorem hz{P:Program}{T:List Ct}(h:∀c∈T,Ok P c):HT P T:=⟨h⟩
instance (priority:=low){P:Program}:HT P []:=⟨@tn P⟩
def Kl(f:FuncId)(ps:List Par){ζ:Type}(R:ζ->AV)(Z:ζ->B0 ps)(v:ζ):Ct:=⟨f,ps,fun _=>⟨True,R v,Z v⟩⟩
section
variable {P:Program} {n:Nat} {y:World×(Nat->Prop)×(Nat->Prop)×(Nat->Value->Prop)×Nat} {st:St} {Q:Exit->Act->World->Prop} {Γ:o4} {T:List Ct} {ρ:Type} {r:ρ} {f:FuncId} {ps:List Par} {ζ:Type} [Inhabited ζ] {F:r7 ps->Option ζ} {R:ζ->AV} {Z:ζ->B0 ps} {V:Prop} [Decidable V] {x:ζ} {g:ζ->Option ρ} {id:Nat} {l:List Oper} {b:Bool}
theorem iD[a:HG P Γ][e:HT P T][j:J7 P](_:Ok P (j9 f ps F R Z))(k:List Nat){c:Code}(H:gd V (lt x g)=some r)(i:∀v,g v=some r->VX (cx P n y) (nx (H8 b n Γ (Kl f ps R Z v :: T) l k st)) c Q)(h:(H8 b n Γ T l k st).map Prod.fst=some V:=by kernel_rfl)(d:nx (H8 b n Γ T l k st)=nx (H8 b n Γ (Kl f ps R Z x :: T) l k st):=by kernel_rfl):VX (cx P n y) st (.seq (.region id l.toArray b) c) Q :=
 qd a.h e.h k (fun v=>nx (H8 b n Γ (Kl f ps R Z v :: T) l k st)) H ((CZ h).trans (congrArg (fun s=>some (V,s)) d)) i
theorem jD[a:HG P Γ][d:HT P T][i:J7 P](_:Ok P (j9 f ps F R Z))(k:List Nat)(H:gd V (lt x g)=some r)(e:∀v,g v=some r->FX (cx P n y) (nx (H8 b n Γ (Kl f ps R Z v :: T) l k st)) .normal Q)(h:(H8 b n Γ T l k st).map Prod.fst=some V:=by kernel_rfl)(c:nx (H8 b n Γ T l k st)=nx (H8 b n Γ (Kl f ps R Z x :: T) l k st):=by kernel_rfl):VX (cx P n y) st (.region id l.toArray b) Q :=
 zd a.h d.h k (fun v=>nx (H8 b n Γ (Kl f ps R Z v :: T) l k st)) H ((CZ h).trans (congrArg (fun s=>some (V,s)) c)) e
end
end Go.Proofs.Xv
end
