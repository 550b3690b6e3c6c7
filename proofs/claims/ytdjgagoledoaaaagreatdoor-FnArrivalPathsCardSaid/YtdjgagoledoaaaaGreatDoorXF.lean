/- Plain facts on C0f functions: sizes, copies, comparisons. Over any program. -/
import Derived.Test.YtdjgagoledoaaaaGreatDoorXD
import Derived.Test.YtdjgagoledoaaaaGreatDoorXA
import Derived.Lib.SliceRun
import Derived.Sort.Grow
set_option maxHeartbeats 0
section
namespace Go.Proofs.Xd
open Go Go.Proofs.Xv Go.Proofs.Xl
theorem lE{a b:Type}{x:a}{f:a->b}:lt x f=f x:=rfl
theorem I0M{t:Ty}{a:List (j7 t)}{i:Nat}{d:j7 t}{m:Nat}(h:i<a.length)(b:cnt (.sl t) a<=m):cnt t (a.getD i d)<=m:=by
 grind[AK,C0o]
theorem BR{t:Ty}{a:List (j7 t)}{m:Nat}(b:cnt (.sl t) a<=m):a.length<=m:=by
 grind[AK]
theorem cF{s t:Ty}{x:j7 (.pr s t)}{m:Nat}(h:cnt (.pr s t) x<=m):cnt s x.1<=m:=by
 grind[J0]
theorem cS{s t:Ty}{x:j7 (.pr s t)}{m:Nat}(h:cnt (.pr s t) x<=m):cnt t x.2<=m:=by
 grind[J0]
theorem Y3{t:Ty}{a:List (j7 t)}{i:Nat}{d:j7 t}(h:i<a.length)(b:wf (.sl t) a):wf t (a.getD i d):=by
 rw[gq,List.getElem?_eq_getElem h];exact b.2 _ (List.getElem_mem h)
theorem dlt{i n:Nat}:decide ((i:Int) < (n:Int))=decide (i<n):=by
 grind
theorem Rq{n:Nat}(h:n<=9223372036854775807):n+1<U2:=by grind[U2]
theorem E0e{a ρ:Type}{F:(a->Option ρ)->a->Option ρ}{s:a}{r:Option ρ}(h:∀n,0<n->H3 F n s=r):lp F s=r:=h U2 (by grind[U2])
theorem RN{b c ρ:Type}{n:Nat}(e:n<=9223372036854775807)(mk:Nat->b->c)(f:Nat->b->Option b)(x:Nat->b->Option ρ)(I:Nat->b->Prop){J:b->Option ρ}{F:(c->Option ρ)->c->Option ρ}
  (o:∀g i s,i<n->I i s->F g (mk i s)=match f i s with | some s'=>g (mk (i+1) s') | none=>x i s) (q:∀i s s',i<n->I i s->f i s=some s'->I (i+1) s') (r:∀g s,I n s->F g (mk n s)=J s)
  (a:Nat->b->Option ρ) (r0:∀s,I n s->a n s=J s) (t:∀i s,i<n->I i s->a i s=match f i s with | some s'=>a (i+1) s' | none=>x i s) (k:Nat) (j:k<=n) (s:b) (h:I k s):lp F (mk k s)=a k s:=by
 have d:∀(m i:Nat) (s:b),i<=n->n-i<m->I i s->H3 F m (mk i s)=a i s:=by
  intro m
  induction m with
  | zero=>omega
  | succ m l =>
    grind[hi,H3]
 exact d U2 k s j (by have:=Rq e; omega) h
theorem FY{ρ:Type}{n:Nat}(b:n<=9223372036854775807)(c:Nat->Bool)(x:Nat->Option ρ){e:Option ρ}{F:(Int->Option ρ)->Int->Option ρ}(k:Nat)(f:k<=n)(j:∀g (i:Nat),k<=i->i<n->F g (i:Int)=if c i=true then x i else g ((i:Int)+1))
  (d:∀g,F g (n:Int)=e):lp F (k:Int)=match(List.range' k (n-k)).find? c with | some i=>x i | none=>e:=by
 have:=RN b (fun i (_:Unit)=>(i:Int)) (fun i _=>if c i=true then none else some ()) (fun i _=>x i) (fun i _=>k<=i) (J:=fun _=>e) (F:=F)
  (fun g i s h a=>by
    grind) (fun _ _ _ _ h _=>Nat.le_succ_of_le h) (fun g _ _=>d g) (fun i _=>match(List.range' i (n-i)).find? c with | some i=>x i | none=>e) (fun _ _=>by simp) (fun i s h _=>by
    have l:n-i=(n-(i+1))+1:=by omega
    grind[List.range'_succ]) k f () (Nat.le_refl _)
 simpa using this
theorem F1{ρ:Type}{n:Nat}(d:n<=9223372036854775807)(c:Nat->Bool)(x:Option ρ){e:Option ρ}{F:(Int->Option ρ)->Int->Option ρ}(b:∀g (i:Nat),i<n->F g (i:Int)=if c i=true then x else g ((i:Int)+1))
  (f:∀g,F g (n:Int)=e):lp F 0=if(List.range n).any c=true then x else e:=by
 have:=FY d c (fun _=>x) 0 (Nat.zero_le _) (fun g i _ h=>b g i h) f;rw[Nat.sub_zero,<- List.range_eq_range'] at this;refine Eq.trans this ?_;cases h:(List.range n).find? c with
 | none =>
   rw[if_neg];rw[List.find?_eq_none] at h;intro j;obtain⟨i,k,a⟩:=List.any_eq_true.1 j;exact h i k a
 | some i =>
   rw[if_pos];exact List.any_eq_true.2 ⟨i,List.mem_of_find?_eq_some h,List.find?_some h⟩
theorem E0f{ρ:Type}{n:Nat}(f:n<=9223372036854775807)(c:Nat->Bool)(x:Option ρ){e:Option ρ}{F:(Int->Option ρ)->Int->Option ρ}(k:Nat)(a:k<=n)(d:∀g (i:Nat),k<=i->i<n->F g (i:Int)=if c i=true then x else g ((i:Int)+1))
  (b:∀g,F g (n:Int)=e):lp F (k:Int)=if((List.range n).any fun i=>decide (k<=i)&&c i)=true then x else e:=by
 refine(FY f c (fun _=>x) k a d b).trans ?_
 grind
def fN{σ:Type}(f:Nat->σ->σ):Nat->σ->σ
 | 0,s=>s
 | n+1,s=>f n (fN f n s)
theorem lF{a c ρ:Type}{n:Nat}(k:n<=9223372036854775807)(mk:Nat->a->c)(f:Nat->a->a)(I:Nat->a->Prop){J:a->Option ρ}{F:(c->Option ρ)->c->Option ρ}
  (j:∀g i s,i<n->I i s->F g (mk i s)=g (mk (i+1) (f i s))) (l:∀i s,i<n->I i s->I (i+1) (f i s)) (r:∀g s,I n s->F g (mk n s)=J s) (s:a) (o:I 0 s):lp F (mk 0 s)=J (fN f n s):=by
 have d:∀(m i:Nat),i<=n->n-i<m->I i (fN f i s)->H3 F m (mk i (fN f i s))=J (fN f n s):=by
  intro m
  induction m with
  | zero=>omega
  | succ m e =>
    intro i hi q b;show F (H3 F m) (mk i _)=_;by_cases h:i<n
    ·rw[j _ _ _ h b];exact e (i+1) (by omega) (by omega) (l _ _ h b)
    grind
 exact d U2 0 (Nat.zero_le _) (by have:=Rq k; omega) o
theorem Nl{a d ρ:Type}{n:Nat}(q:n<=9223372036854775807)(mk:Nat->a->d)(f:Nat->a->a)(c:Nat->Bool)(x:Option ρ)(I:Nat->a->Prop){J:a->Option ρ}{F:(d->Option ρ)->d->Option ρ}
  (o:∀g i s,i<n->I i s->F g (mk i s)=if c i=true then x else g (mk (i+1) (f i s))) (r:∀i s,i<n->I i s->c i=false->I (i+1) (f i s)) (v:∀g s,I n s->F g (mk n s)=J s) (s:a) (t:I 0 s) :
  lp F (mk 0 s)=if(List.range n).any c=true then x else J (fN f n s):=by
 have e:∀(m i:Nat),i<=n->n-i<m->I i (fN f i s)->(∀j,j<i->c j=false)->H3 F m (mk i (fN f i s))=if(List.range n).any c=true then x else J (fN f n s):=by
  intro m
  induction m with
  | zero=>omega
  | succ m l =>
    intro i hi u b w;show F (H3 F m) (mk i _)=_;by_cases h:i<n
    ·rw[o _ _ _ h b];cases hci:c i with
     | true=>grind
     | false =>
       rw[if_neg (by simp)];refine l (i+1) (by omega) (by omega) (r _ _ h b hci) (fun j k=>?_)
       grind
    grind
 exact e U2 0 (Nat.zero_le _) (by have:=Rq q; omega) t (fun j k=>absurd k (Nat.not_lt_zero j))
theorem Rc{n:Nat}(p q:Nat->Bool):((List.range n).any fun i=>p i||q i)=((List.range n).any p||(List.range n).any q):=by
 grind
theorem BM{n:Nat}{c:Nat->Bool}:(!(List.range n).any c)=true↔∀i,i<n->c i=false:=by
 grind
theorem T5{a:Type}(l:List a)(d:a)(p:a->Bool):((List.range l.length).any fun i=>p (l.getD i d))=l.any p:=by
 rw[Bool.eq_iff_iff,List.any_eq_true,List.any_eq_true];constructor
 ·grind
 ·rintro⟨x,c,e⟩;obtain⟨i,b,f⟩:=List.getElem_of_mem c;refine⟨i,List.mem_range.2 b,?_⟩
  grind
theorem Nb{n:Nat}{p q:Nat->Bool}(h:∀i,i<n->p i=q i):(List.range n).any p=(List.range n).any q:=by
 grind
theorem BP{ρ:Type}{i n:Nat}{V:Prop}[Decidable V]{c:Bool}{x e:Option ρ}{g:Int->Option ρ}(h:i<n)(b:n<=9223372036854775807)(a:V) :
  (if(decide ((i:Int) < (n:Int)))=true then gd V (if c=true then x else gd (c9 ((i:Int)+1)/\True) (g ((i:Int)+1))) else e)=if c=true then x else g ((i:Int)+1):=by
 rw[if_pos (by grind),gP a,gP ⟨oo,trivial⟩]
theorem F0b{ρ:Type}{i n:Nat}{V W:Prop}[Decidable V][Decidable W]{c:Bool}{x e:Option ρ}{g:Int->Option ρ}(h:i<n)(d:n<=9223372036854775807)(b:V)(a:W) :
  (if(decide ((i:Int) < (n:Int)))=true then gd V (gd W (if c=true then x else gd (c9 ((i:Int)+1)/\True) (g ((i:Int)+1)))) else e)=if c=true then x else g ((i:Int)+1):=by
 rw[if_pos (by grind),gP b,gP a,gP ⟨oo,trivial⟩]
theorem aE{ρ:Type}{n:Nat}{a e:Option ρ}:(if(decide ((n:Int) < (n:Int)))=true then a else e)=e:=if_neg (by simp)
theorem HD{i n:Nat}{o:Option Bool}{g:Int->Option Int}{e:Option Int}{b:Bool}(h:i<n)(c:n<=9223372036854775807)(a:o=some b) :
  (if(decide ((i:Int) < (n:Int)))=true then gd (ix (i:Int) n/\o.isSome=true/\True) (if(vl o)=true then some (i:Int) else gd (c9 ((i:Int)+1)/\True) (g ((i:Int)+1))) else e)=if b=true then some (i:Int) else g ((i:Int)+1):=by
 subst a;rw[if_pos (by grind),gP ⟨oo,rfl,trivial⟩,gP ⟨oo,trivial⟩,vS]
theorem CE{n:Nat}(d:n<=9223372036854775807)(b:Nat->Bool){F:(Int->Option Int)->Int->Option Int}(c:∀g (i:Nat),i<n->F g (i:Int)=if b i=true then some (i:Int) else g ((i:Int)+1))(a:∀g,F g (n:Int)=some (-1)) :
  lp F 0=some (match(List.range n).find? b with | some i=>(i:Int) | none => -1):=by
 have:=FY d b (fun i=>some (i:Int)) 0 (Nat.zero_le _) (fun g i _ h=>c g i h) a;rw[Nat.sub_zero,<- List.range_eq_range'] at this
 grind
theorem HE{n:Nat}{b:Nat->Bool}{o:Option Int}(h:o=some (match(List.range n).find? b with | some i=>(i:Int) | none => -1)):gd (o.isSome=true/\True) (lt (vl o) fun v0=>some (decide (0<=v0)))=some ((List.range n).any b):=by
 subst h;rw[gP ⟨rfl,trivial⟩,lE,vS];cases h:(List.range n).find? b with
 | none =>
   grind
 | some i =>
   have:(List.range n).any b=true:=List.any_eq_true.2 ⟨i,List.mem_of_find?_eq_some h,List.find?_some h⟩;rw[this];simp
end Go.Proofs.Xd
end
section
namespace Go.Proofs.Xv
open Go Go.RowKit Go.Proofs.Sv
def Dc(P:Program)(op:TypeId->Ty->Bool):Nat->List Field->Ty->Bool
 | _,[],_=>false
 | off,[f],y=>Nat.beq f.offset off&&Nat.beq (P.cellsOf f.type) (sz y)&&op f.type y
 | off,f :: r,.pr a b=>Nat.beq f.offset off&&Nat.beq (P.cellsOf f.type) (sz a)&&op f.type a&&Dc P op (off+sz a) r b
 | _,_,_=>false
def ON(P:Program):Nat->TypeId->Ty->Bool
 | 0,_,_=>false
 | n+1,T,y=>match P.underlying T with
   | some (.int k)=>decide (y=.int k)
   | some .bool=>decide (y=.bool)
   | some .string=>decide (y=.str)
   | some (.slice E)=>match y with
     | .sl e=>ON P n E e
     | _=>false
   | some (.struct fs)=>Nat.beq (P.cellsOf T) (sz y)&&Dc P (ON P n) 0 fs.toList y
   | _=>false
def Cj(w:World)(k:Nat):Prop:=k<w.heap.size
theorem y0Y(k:IntKind):k.min=lo k/\k.max=hi k:=by cases k <;> exact⟨rfl,rfl⟩
theorem u0V{P:Program}{E:TypeId}{e:Ty}{w:World}{H:Type}{enc:TypeId×Value->H}{sp:Nat->Bool}{V:Bool}(Y:∀{j:Nat} {cs:List Value} {x:DataW H×List MemPlace},DataW.trod enc P w 0 sp V j E cs=some x->∃z:j7 e,RT (Cj w) w e cs z)
  {T:TypeId} {j:Nat} {cs:List Value} {x:DataW H×List MemPlace} (hT:P.underlying T=some (.slice E)) (h:DataW.trod enc P w 0 sp V j T cs=some x):∃z:List (j7 e),RT (Cj w) w (.sl e) cs z:=by
 rcases DataW.trod_slice hT h with ⟨rfl,_⟩ | ⟨a,len,cap,elems,rest,n,rfl,rfl,_,_,hlc,hcm,hel,hat,_,_⟩
 ·exact⟨[],none,0,rfl,Nat.le_refl _,by omega,.inl rfl⟩
 ·have m:cap<=9223372036854775807:=by unfold maxLen at hcm; omega
  have d:∀i,i<len->∃c:List Value,w.cells? 0 (a.add (i*P.cellsOf E)) (P.cellsOf E)=some c/\∃y:j7 e,RT (Cj w) w e c y:=by
   intro i hi;have g:=hat i hi;rw[List.getElem?_eq_getElem (by omega)] at g;cases f:w.cells? 0 (a.add (i*P.cellsOf E)) (P.cellsOf E) with
   | none=>rw[f] at g; cases g
   | some c =>
     rw[f] at g;simp only[Option.bind_some] at g;exact⟨c,rfl,Y g⟩
  by_cases G:len=0
  ·subst G;exact⟨[],some a,cap,rfl,Nat.zero_le _,m,.inl rfl⟩
  ·have W:P.cellsOf E=sz e:=by
    obtain⟨c,f,y,Q⟩:=d 0 (by omega);have:=(World.cells?_some f).2.1;rw[<- this]; exact RT.len Q
   have l:0<P.cellsOf E:=by rw[W]; exact So e
   obtain⟨b,o,rfl⟩:∃b o,a=⟨b,o,none⟩:=by
    obtain⟨c,f,_⟩:=d 0 (by omega);have F:a.add (0*P.cellsOf E)=a:=by simp[Addr.add]
    rw[F] at f;exact⟨a.block,a.off,(Ko l f).1⟩
   have hb:b<w.heap.size:=by
    obtain⟨c,f,_⟩:=d 0 (by omega);have F:(Addr.mk b o none).add (0*P.cellsOf E)=⟨b,o,none⟩:=by simp[Addr.add]
    rw[F] at f;have r:=Ko l f;exact r.2.2.lt (by rw[r.2.1]; exact l)
   have q:∀k,k<=len->∃(cs:List Value) (s:List (j7 e)),s.length=k/\At w b o cs/\AllR (RT (Cj w) w e) cs s:=by
    intro k
    induction k with
    | zero=>exact fun _=>⟨[],[],rfl,Sn,rfl⟩
    | succ k X =>
      intro hk;obtain⟨cs,s,r,v,u⟩:=X (by omega);obtain⟨c,f,y,Q⟩:=d k (by omega);have t:(Addr.mk b o none).add (k*P.cellsOf E)=⟨b,o+k*P.cellsOf E,none⟩:=by
       unfold Addr.add;split
       ·rename_i G; rw[G]; rfl
       ·rfl
      rw[t] at f;have h4:=(Ko l f).2.2;refine⟨cs++c,s++[y],by simp[r],v.app ?_,AllR.app (AllR.one Q) u⟩;have:cs.length=k*P.cellsOf E:=by rw[u.len (fun c x h=>RT.len h),r,W]
      rw[this]; exact h4
   obtain⟨cs,s,r,v,u⟩:=q len (Nat.le_refl _);subst r;exact⟨s,some ⟨b,o,none⟩,cap,rfl,hlc,m,.inr ⟨b,o,cs,rfl,hb,v,u⟩⟩
theorem o0B{P:Program}{w:World}{H:Type}{enc:TypeId×Value->H}{sp:Nat->Bool}{E:Bool}{t:TypeId->Ty->Bool}
  (o:∀{T:TypeId} {y:Ty},t T y=true->∀{fuel:Nat} {cs:List Value} {x:DataW H×List MemPlace},DataW.trod enc P w 0 sp E fuel T cs=some x->∃z:j7 y,RT (Cj w) w y cs z) {cs:List Value} :
  ∀{fs:List Field} {off:Nat} {y:Ty},Dc P t off fs y=true->cs.length=off+sz y->(∀f∈fs,∃n x,DataW.trod enc P w 0 sp E n f.type ((cs.drop f.offset).take (P.cellsOf f.type))=some x)->∃z:j7 y,RT (Cj w) w y (cs.drop off) z:=by
 intro fs
 induction fs with
 | nil=>grind[Dc]
 | cons f r F =>
   intro off y h j u;cases r with
   | nil =>
     have h:(Nat.beq f.offset off&&Nat.beq (P.cellsOf f.type) (sz y)&&t f.type y)=true:=by
      cases y <;> exact h
     simp only[ba] at h;obtain⟨⟨i,d⟩,v⟩:=h;have i:=nb i;have d:=nb d;obtain⟨n,x,m⟩:=u f (by simp)
     grind[List.take_of_length_le,List.length_drop]
   | cons g X =>
     cases y with
     | pr a b =>
       simp only[Dc,ba] at h;obtain⟨⟨⟨i,d⟩,v⟩,Q⟩:=h;have i:=nb i;have d:=nb d;obtain⟨n,x,m⟩:=u f (by simp);rw[i,d] at m;obtain⟨V,q⟩:=o v m;have c:cs.length=off+sz a+sz b:=by rw[j]; simp only[sz]; omega
       obtain⟨G,l⟩:=F Q c (fun W s=>u W (List.mem_cons_of_mem _ s));refine⟨(V,G),(cs.drop off).take (sz a),cs.drop (off+sz a),?_,q,l⟩
       grind[List.drop_drop,List.take_append_drop]
     | int k=>grind[Dc]
     | bool=>grind[Dc]
     | str=>grind[Dc]
     | sl e=>grind[Dc]
     | pt e=>grind[Dc]
theorem u0W{P:Program}{w:World}{H:Type}{enc:TypeId×Value->H}{sp:Nat->Bool}{l:Bool}:∀{n:Nat} {T:TypeId} {y:Ty},ON P n T y=true->∀{fuel:Nat} {cs:List Value} {x:DataW H×List MemPlace},DataW.trod enc P w 0 sp l fuel T cs=some x->∃z:j7 y,RT (Cj w) w y cs z:=by
 intro n
 induction n with
 | zero=>intro T y h; cases h
 | succ n g =>
   intro T y h fuel cs x c;unfold ON at h;split at h
   ·rename_i k a;have d:y=.int k:=by simpa using h
    subst d;obtain⟨m,rfl,_,o⟩:=DataW.trod_int a c;refine⟨m,rfl,?_⟩;simp only[Lit.wf,ba,dq] at o
    grind[y0Y]
   ·rename_i a;have d:y=.bool:=by simpa using h
    subst d;obtain⟨b,rfl,_⟩:=DataW.trod_bool a c;exact⟨b,rfl⟩
   ·rename_i a;have d:y=.str:=by simpa using h
    subst d;obtain⟨s,rfl,_,t⟩:=DataW.trod_string a c;exact⟨s,rfl,by grind[maxLen]⟩
   ·rename_i E a;split at h
    ·exact u0V (g h) a c
    grind
   ·rename_i u a;rw[ba] at h;obtain⟨j,r⟩:=m0T a c;have v:=nb h.1;have:=o0B (cs:=cs) (fun q=>g q) h.2 (by omega) (fun f e=>by
     obtain⟨i,hi,rfl⟩:=List.getElem_of_mem e;exact r i _ (by grind))
    grind
   grind
theorem I0x{w:World}:∀k,Cj w k->k<w.heap.size:=fun _ h=>h
theorem S0g{P:Program}{H:Type}{enc:TypeId×Value->H}{T E:TypeId}{y:Ty}{n:Nat}(g:ON P n T y=true)(k:P.underlying T=some (.slice E)){W:World}{r:Reach}{base:Nat}{v:Value}{d:DataW H}{p:List MemPlace}
  (c:Value.okWide P W r base T v) (h:DataW.Trod enc P W 0 (fun _=>true) true T v d p):∃x:j7 y,RT (Cj W) W y [v] x:=by
 obtain⟨a,b,j,rfl⟩:=WideShapes.okWide_slice k c;obtain⟨f,i⟩:=h;obtain⟨x,e⟩:=u0W g i;exact⟨x,e⟩
theorem WE.below{w w':World}(h:WE none w w'):Below w.heap.size w w':=⟨h.os,h.tape,h.output,h.size,fun k a=>h.block k a (by simp)⟩
theorem y0W{P:Program}{f:FuncId}{ps:List Par}{F:w9 ps->Option Bool}{Z:Bool->B1 ps}(h:Ok P (k8 f ps F (fun r=>.d true .bool r) Z)){w:World}{vs:List Value}{x:w9 ps}(g:ArgsR (Cj w) w none ps x vs)(c:F x=some true) :
  Calls P f vs.toArray w fun en w'=>en=.returned (.bool true)/\Below w.heap.size w w':=by
 refine Calls.mono (h.2 x (by show(F x).isSome=true; grind) w vs none (Cj w) I0x g) ?_;rintro en w' ⟨v,i,e,b,_,_,a,_⟩;refine⟨?_,WE.below b⟩;have a:RT _ w' .bool [v] (Xl.vl (F x))/\i=[]:=a;rw[c] at a;have j:[v]=[Value.bool true]:=a.1
 grind
theorem IG{P:Program}{ops:Array Oper}{Q:Exit->Act->World->Prop}{o:Oper}{r:List Oper}{a:Act}{w:World}(b:O0 P ops Q o (wpList P ops Q r) a w):wpList P ops Q (o :: r) a w:=by
 grind[wpList,O0]
theorem r0Y{P:Program}{n:Nat}{e:D1}{ty:TypeId}{w:World}{T T' E:TypeId}{x y:Operand}{q:Option Addr}{m c:Nat}(j:P.underlying T=some (.slice E))(h:Sv.ev e x=some (.slice q m c))(i:Sv.ev e y=some (.slice none 0 0)) :
  F6 P n e (.binOp .eql T x y T') ty w (.bool q.isNone) w:=by
 intro a f k b g d;have:=Lib.run_eql_slice_nil w T E q m c 0 0 j;simp only[execOp,d.ev h,d.ev i];simp[eqGuard,this,Result.andThen]
theorem Zr{X:Cx}{G:Gh}{a:Act}{ops:Array Oper}{Q:Exit->Act->World->Prop}{d:Nat}{e:Op}{ty:TypeId}{c:String}{b:Array Edge}{v:Value}{K:Act->World->Prop}
  (h:∀dst c b g,(execOp a.eval ⟨dst,e,ty,c,b,g⟩).run X.P G.w=.ok (.value v) G.w) (i:K (a.put (some d) v) G.w):O0 X.P ops Q ⟨some d,e,ty,c,b,none⟩ K a G.w:=by
 unfold O0;have f:Region.wanted ⟨some d,e,ty,c,b,none⟩ (yielded ops a.tmps)=true:=rfl;rw[if_pos f];unfold Oper.wp;rw[h (some d) c b none];exact i
theorem x0h{X:Cx}{st:St}{Q:Exit->Act->World->Prop}{id T E g c k:Nat}{H Y T':TypeId}{z u:String}{aA aC:Array Edge}{f:Bool}{e:Ty}{xs:List (j7 e)}
  (hU:X.P.underlying T=some (.slice E)) (h0:c7 st.e g=some ⟨[],.d f (.sl e) xs⟩) (aK:J3 st.e=true) (h3:Nat.blt c X.n=true) (h4:Nat.blt k X.n=true)
  (ht:xs=[]->FX X ⟨(k,⟨[],.d true .bool true⟩) :: (c,⟨[],.d f (.sl e) xs⟩) :: st.e,st.o⟩ .normal Q) (hf:FX X ⟨(k,⟨[],.d true .bool false⟩) :: (c,⟨[],.d f (.sl e) xs⟩) :: st.e,st.o⟩ .normal Q) :
  VX X st (.region id [⟨some c,.move (.tmp g),H,z,aA,none⟩,⟨some k,.binOp .eql T (.tmp c) (.const (.slice none 0 0)) T',Y,u,aC,none⟩].toArray false) Q:=by
 intro G a S ho hE;have h3:c<X.n:=by simpa using h3
 have h4:k<X.n:=by simpa using h4
 refine wp_region_lit ?_;have hu:=(hE.val g _ h0).1 (fun _ h=>by cases h);have aD:=hu;obtain⟨q,j,hv,aI,F,aF⟩:=aD;simp only[List.cons.injEq,and_true] at hv;have aJ:a.eval (.tmp g)=a.tmps.getD g undef:=rfl;obtain⟨v,m,y⟩:L4 X G a (.move (.tmp g)) H (.d f (.sl e) xs):=B5 hE [.tmp g] (v:=a.eval (.tmp g)) (BZ (by grind[AL,I3])) (by grind);refine IG (Zr m ?_);have aH:∀(t:Nat) (s:Sl),c7 st.e t=some s->∀d,∀x∈s.p,x.1≠d:=fun t s hs d x hx=>by grind[Bx]
 have W:=EnvR.put (st:=st) (p:=[]) (r:=.d f (.sl e) xs) hE h3 (fun _ h=>by cases h) (fun t s hs=>aH t s hs c) (v:=v) ⟨fun _=>y,fun h=>(h (fun _ h=>by cases h)).elim⟩;have V:=y;obtain⟨q,j,hv,aI,F,aF⟩:=V;simp only[List.cons.injEq,and_true] at hv;have aG:(a.put (some c) v).eval (.tmp c)=.slice q xs.length j:=by
  show(a.put (some c) v).tmps.getD c undef=_;rw[Oq (by rw[hE.size]; exact h3),if_pos rfl,hv]
 have hx:Sv.ev (D2 (a.put (some c) v) [.tmp c]) (.tmp c)=some (.slice q xs.length j):=by rw[I3 (by simp),aG]
 obtain⟨v2,i,aB⟩:L4 X G (a.put (some c) v) (.binOp .eql T (.tmp c) (.const (.slice none 0 0)) T') Y (.d true .bool q.isNone):=B5 (st:=⟨(c,⟨[],.d f (.sl e) xs⟩) :: st.e,st.o⟩) W [.tmp c] (r0Y hU hx rfl) rfl;refine IG (Zr i ?_);have l:∀b,q.isNone=b->EnvR X.n G ((k,⟨[],.d true .bool b⟩) :: (c,⟨[],.d f (.sl e) xs⟩) :: st.e) ((a.put (some c) v).put (some k) v2):=fun b hb=>EnvR.put (st:=⟨(c,⟨[],.d f (.sl e) xs⟩) :: st.e,st.o⟩) (p:=[]) W h4 (fun _ h=>by cases h) (fun t s hs x hx=>by
   grind[lK]) ⟨fun _=>hb ▸ aB,fun h=>(h (fun _ h=>by cases h)).elim⟩
 show Q .normal _ G.w;cases hq:q with
 | none =>
   refine ht ?_ G _ S ho (l true (by grind))
   grind
 | some ad=>exact hf G _ S ho (l false (by grind))
end Go.Proofs.Xv
end
section
namespace Go.Proofs.Xv
open Go Go.RowKit Go.Proofs.Sv Go.Proofs.Xl
theorem S9{X:Cx}{st:St}{x:Exit}{Q:Exit->Act->World->Prop}(id:Nat)(st':St)(h:Gz id st=some st')(c:Nat.blt id 500000=true)(k:FX X st' x Q):FX X st x Q:=fun G a S f g=>by
 obtain⟨j,e,b,i,d⟩:=Zn h c S f g;have:=k j a e b d
 grind
def N0w(P:Program)(f:FuncId)(F:List Int->Option (List Int)):Prop:=AN P f=true/\∀(E:TypeId) (xs ys:List Int),F xs=some ys->ys.length=xs.length/\(∀y∈ys,y∈xs) /\
 ∀(w:World) (g:Option Nat) (v:Value),Own w E 1 g v xs.length (xs.map (Value.int .i64))->Calls P f #[v] w fun en w'=>en=.returned (.tuple #[])/\WE g w w'/\Own w' E 1 g v ys.length (ys.map (Value.int .i64))
theorem k0G{K:Nat->Prop}{w:World}:∀{xs:List Int} {cs:List Value},AllR (RT K w (.int .i64)) cs xs->cs=xs.map (Value.int .i64)/\∀x∈xs,lo .i64<=x/\x<=hi .i64
 | [],cs,h=>⟨h,fun x b=>nomatch b⟩
 | x :: r,cs,⟨c,d,e,h1,h2⟩=>by
   obtain⟨f,g⟩:=k0G h2;subst e; subst f;refine⟨by rw[h1.1]; rfl,fun y a=>?_⟩;rcases List.mem_cons.1 a with rfl | a
   ·exact h1.2
   ·exact g y a
theorem k0E{K:Nat->Prop}{w:World}:∀{xs:List Int},(∀x∈xs,lo .i64<=x/\x<=hi .i64)->AllR (RT K w (.int .i64)) (xs.map (Value.int .i64)) xs
 | [],_=>rfl
 | x :: r,h=>⟨[.int .i64 x],r.map (Value.int .i64),rfl,⟨rfl,h x (by simp)⟩,k0E fun y a=>h y (by grind)⟩
theorem m0V{X:Cx}{G:Gh}{a:Act}{ops:Array Oper}{Q:Exit->Act->World->Prop}{d f:Nat}{e:Op}{ty:TypeId}{c:String}{b:Array Edge}{vs:Array Value}{K:Act->World->Prop}
  (h:∀dst c b g,(execOp a.eval ⟨dst,e,ty,c,b,g⟩).run X.P G.w=.ok (.enter f vs) G.w) (j:Calls X.P f vs G.w fun en w'=>∃v,en=.returned v/\K (a.put (some d) v) w'):O0 X.P ops Q ⟨some d,e,ty,c,b,none⟩ K a G.w:=by
 unfold O0;have i:Region.wanted ⟨some d,e,ty,c,b,none⟩ (yielded ops a.tmps)=true:=rfl;rw[if_pos i];unfold Oper.wp;rw[h (some d) c b none];refine Calls.mono j ?_
 grind
theorem C0B{X:Cx}{st:St}{Q:Exit->Act->World->Prop}{id f k i m c ver E:Nat}{fr:Bool}{aB aR:TypeId}{aG:Array TypeId}{aA z:String}{aF aJ:Array Edge}{xs:List Int}{ρ:Type}{e:List Int->Option ρ}{r:ρ}{F:List Int->Option (List Int)}
  (hc:N0w X.P f F) (h0:c7 st.e k=some ⟨[],.os c ver⟩) (W:c7 st.o c=some (.arr E fr (.int .i64) xs ver)) (aX:J3 st.e=true) (h3:Nat.blt i X.n=true) (h4:Nat.blt m X.n=true)
  (H:gd ((F xs).isSome=true/\True) (lt (vl (F xs)) e)=some r)
  (hf:∀ys,e ys=some r->FX X ⟨(m,⟨[],.tup []⟩) :: (i,⟨[],.os c ver⟩) :: st.e,(c,.arr E fr (.int .i64) ys ver) :: st.o⟩ .normal Q) :
  VX X st (.region id [⟨some i,.move (.tmp k),aB,aA,aF,none⟩,⟨some m,.call ⟨.value (.func f),#[.tmp i],aG⟩,aR,z,aJ,none⟩].toArray false) Q:=by
 intro G a S ho hE;obtain⟨u,H⟩:=K9 H;obtain⟨ys,aC⟩:=Option.isSome_iff_exists.1 u.1;rw[aC] at H;have H:e ys=some r:=H;have h3:i<X.n:=by simpa using h3
 have h4:m<X.n:=by simpa using h4
 rw[<- ho] at W;refine wp_region_lit ?_;have hu:AVR G (.os c ver) (a.tmps.getD k undef):=(hE.val k _ h0).1 (fun _ h=>by cases h);have aU:a.eval (.tmp k)=a.tmps.getD k undef:=rfl;obtain⟨v,q,Y⟩:L4 X G a (.move (.tmp k)) aB (.os c ver):=B5 hE [.tmp k] (v:=a.eval (.tmp k)) (BZ (by grind[AL,I3])) (by grind);refine IG (Zr q ?_);have aN:∀(t:Nat) (s:Sl),c7 st.e t=some s->∀d,∀x∈s.p,x.1≠d:=fun t s u d x hx=>by grind[Bx]
 have aQ:=EnvR.put (st:=st) (p:=[]) (r:=.os c ver) hE h3 (fun _ h=>by cases h) (fun t s u=>aN t s u i) (v:=v) ⟨fun _=>Y,fun h=>(h (fun _ h=>by cases h)).elim⟩;have hv:v=G.ρ c:=by
  obtain⟨_,T',aK,t',aP,aT,g1,g2,g3⟩:=Y;rw[W] at g1;cases g1;exact g3 rfl
 have aL:(a.put (some i) v).eval (.tmp i)=v:=by
  show(a.put (some i) v).tmps.getD i undef=_;rw[Oq (by rw[hE.size]; exact h3),if_pos rfl]
 obtain⟨cs,hO,hA,hB⟩:=S.obs c _ W;obtain⟨rfl,aI⟩:=k0G hA;obtain⟨V,j⟩:=hc;obtain⟨hl,hm,j⟩:=j E xs ys aC;have aH:=j G.w (G.γ c) (G.ρ c) hO
 haveI:Sg X.P f:=⟨V⟩
 refine IG (m0V (f:=f) (vs:=#[G.ρ c]) (fun aZ aV aO g=>?_) ?_)
 ·have e1:#[Operand.tmp i].map (a.put (some i) v).eval=#[G.ρ c]:=by rw[<- hv]; simp[aL]
  have e2:(a.put (some i) v).eval (.func f)=.func (.func f) #[] #[]:=rfl;simp only[execOp,resolve,e1,e2];simp[Deferred.ofValue,invoke,XT]
 refine Calls.mono aH ?_;rintro en w' ⟨rfl,aM,aS⟩;refine⟨_,rfl,?_⟩;have l:=S.put (id:=c) (ob:=.arr E fr (.int .i64) ys ver) (r:=G.ρ c) (g:=G.γ c) (w':=w') (go:=G.γ c) ⟨(fun T cs h=>by grind),(fun T aK t' aP aW h=>by grind),by rw[W]; rfl⟩
  (fun b hb=>⟨⟨_,W⟩,hb⟩) aM (fun b hb=>.inl hb)
  (fun aY=>⟨ys.map (Value.int .i64),by simp only[Gh.put,if_true]; exact aS,k0E fun y hy=>aI y (hm y hy),fun b e=>by
    grind[Gh.put]⟩)
 have aD:EnvR X.n (G.put c (.arr E fr (.int .i64) ys ver) (G.ρ c) (G.γ c) w') ((m,⟨[],.tup []⟩) :: (i,⟨[],.os c ver⟩) :: st.e) ((a.put (some i) v).put (some m) (.tuple #[])) :=
  EnvR.put (st:=⟨(i,⟨[],.os c ver⟩) :: st.e,st.o⟩) (p:=[]) (r:=.tup []) (aQ.mono l.2) h4 (fun _ h=>by cases h) (fun t s u x hx=>by
   grind[lK]) ⟨fun _=>⟨[],rfl,rfl⟩,fun h=>(h (fun _ h=>by cases h)).elim⟩
 exact hf ys H _ _ l.1 (by show(c,_) :: G.o=_; rw[ho]) aD
end Go.Proofs.Xv
end
section
namespace Go.Proofs.Xl
class Alw where
 alp:{ζ ρ:Type}->(ζ->Prop)->(ζ->Option ρ)->Option ρ
 alp_some:∀{ζ ρ:Type} {p:ζ->Prop} {f:ζ->Option ρ} {r:ρ},alp p f=some r->∀z,p z->f z=some r
 alp_of:∀{ζ ρ:Type} {p:ζ->Prop} {f:ζ->Option ρ} {r:ρ} (z:ζ),p z->(∀z,p z->f z=some r)->alp p f=some r
 alp_u:∀{ζ:Type} {p:ζ->Prop} {f:ζ->Option Unit},(∀z,p z->f z=some ())->alp p f=some ()
theorem alw:Nonempty Alw:=by
 classical
 refine⟨⟨fun p f=>if h:∃r,∀z,p z->f z=some r then some h.choose else none,?_,?_,?_⟩⟩
 ·intro b a p f r H z hz;split at H
  ·grind
  grind
 ·intro b a p f r z hz h;have c:∃r,∀z,p z->f z=some r:=⟨r,h⟩
  grind
 ·simp_all
end Go.Proofs.Xl
namespace Go.Proofs.Xv
open Go Go.RowKit Go.Proofs.Sv Go.Proofs.Xl
def Zs(P:Program)(f:FuncId)(ps:List Par){ζ:Type}(pre:w9 ps->Prop)(post:ζ->Prop)(res:ζ->w9 ps->Gj ps):Prop:=AN P f=true/\∀(x:w9 ps),pre x->∀(w:World) (vs:List Value) (go:Option Nat) (K:Nat->Prop),(∀k,K k->k<w.heap.size)->ArgsR K w go ps x vs ->
 Calls P f vs.toArray w fun en w'=>∃z,post z/\KC ⟨f,ps,res z⟩ x w go K en w'
theorem okE{P:Program}{Γ:p5}(aB:x7 P Γ){f:FuncId}{ps:List Par}{ζ:Type}{pre:w9 ps->Prop}{post:ζ->Prop}{d:ζ->w9 ps->Gj ps}{F:Func}{l:Code}{n:Nat}(rs:List ResultVar)(hf:P.funcs[f]?=some F)(hn:F.ntmps=n)(hb:F.body=some l)(hr:F.results=rs.toArray)(he:AN P f=true)(g:(Nat.ble ps.length n&&Z1 ps&&!D9 ps)=true)
  (h:∀y x,Xv.wfs ps x->pre x->(cx P n y).base=(cx P n y).w0.heap.size->∀Q,(∀z st,post z->Gw Γ st rs (d z x).r ps (d z x).z->FX (cx P n y) st .normal Q/\FX (cx P n y) st .ret Q)->VX (cx P n y) ⟨O1 0 ps x,H2 0 ps x⟩ l Q):Zs P f ps pre post d:=by
 refine⟨he,fun x Y w H m K hK V=>?_⟩;simp only[ba] at g;obtain⟨⟨g,X⟩,q⟩:=g;have q:¬D9 ps=true:=by simpa using q
 have g:=Nat.le_of_ble_eq_true g;have aF:=V.len;refine calls_of_wp hf hb ?_;have:=h ⟨w,fun k=>m=some k,K,Iz (s9 0 ps m),L5 ps w⟩ x V.wfs Y (YZ q) (bodyPost P F fun en w'=>∃z,post z/\KC ⟨f,ps,d z⟩ x w m K en w') (fun z st aC aD=>?_) (CZ K w m (Ao ps H) (L5 ps w) (H2 0 ps x)) { tmps:=H.toArray++Array.replicate (F.ntmps-H.toArray.size) undef,defers:=[] } (m0C hK V) rfl ⟨rfl,by grind,fun t s ht=>?_⟩
 ·exact this
 ·have aA:∀G a,Sat (cx P n ⟨w,fun k=>m=some k,K,Iz (s9 0 ps m),L5 ps w⟩) G->G.o=st.o->EnvR n G st.e a->a.defers=[]/\∃v,(results F a.tmps).run P G.w=.ok v G.w/\∃z,post z/\KC ⟨f,ps,d z⟩ x w m K (.returned v) G.w:=fun G a S ho W=>by
   obtain⟨h1,v,h2,h3⟩:=Zd (c:=⟨f,ps,d z⟩) aB X V hr aD G a S ho W
   grind
  exact⟨fun G a S ho W=>aA G a S ho W,fun G a S ho W=>aA G a S ho W⟩
 ·obtain⟨_,a2,u,a3,a4⟩:=DX (i:=0) (o:=H2 0 ps x) (r0:=Ao ps H) (B:=L5 ps w) (g0:=m) X V (fun _=>rfl) (fun z hz=>by
   rcases Gv (i:=0) V with ⟨h0,_⟩ | ⟨j,b,T,t,z',cs,h0,_⟩ | ⟨j,E,t,xs,cs,h0,_⟩
   ·grind
   ·rw[h0] at hz ⊢;cases List.mem_singleton.1 hz;rw[lK,if_pos rfl]
   grind) t s ht
  rw[a2];refine⟨fun _=>?_,fun hn=>(hn (fun _ h=>by cases h)).elim⟩;have aG:t<H.length:=by
   rcases Nat.lt_or_ge t H.length with h' | h'
   ·exact h'
   ·grind
  rw[Array.getD_eq_getD_getElem?,Array.getElem?_append_left (by omega)]
  grind
abbrev kE(P:Program)(f:FuncId)(ps:List Par){ρ:Type}(pre:w9 ps->Prop)(post:ρ->Prop)(R:ρ->AV)(Z:ρ->B1 ps):Prop:=Zs P f ps pre post (fun(e:ρ) _=>⟨True,R e,Z e⟩)
def N0y(X:Cx)(Γ:p5)(rs:List ResultVar)(ps:List Par){ρ:Type}(post:ρ->Prop)(R:ρ->AV)(Z:ρ->B1 ps)(x:Exit)(Q:Exit->Act->World->Prop):Prop :=
 ∀{st:St} (e:ρ),post e->OK Γ st rs ps (R e) (Z e)=some (R e,Z e)->FX X st x Q
theorem FE{P:Program}{Γ:p5}(i:x7 P Γ){f:FuncId}{ps:List Par}{ρ:Type}{F:w9 ps->Option Unit}{pre:w9 ps->Prop}{post:ρ->Prop}{R:ρ->AV}{Z:ρ->B1 ps}{d:Func}{a:Code}{n:Nat}(rs:List ResultVar)
  (l:∀x,Xv.wfs ps x->pre x->F x=some ()) (t:P.funcs[f]?=some d) (m:d.ntmps=n) (k:d.body=some a) (q:d.results=rs.toArray) (b:AN P f=true) (g:(Nat.ble ps.length n&&Z1 ps&&!D9 ps)=true)
  (h:∀y x r,F x=some r->(cx P n y).base=(cx P n y).w0.heap.size->∀Q,N0y (cx P n y) Γ rs ps post R Z .normal Q->N0y (cx P n y) Γ rs ps post R Z .ret Q->VX (cx P n y) ⟨O1 0 ps x,H2 0 ps x⟩ a Q):kE P f ps pre post R Z :=
 okE i rs t m k q b g fun y x o c s Q j=>h y x () (l x o c) s Q (fun e c b=>(j e _ c (Tn b)).1) (fun e c b=>(j e _ c (Tn b)).2)
/- What all data of a result are. -/
mutual
def FZ:AV->Prop
 | .d _ t x=>wf t x
 | .agg xs=>Tx xs
 | .tup xs=>Tx xs
 | .ow _ _ t xs=>wf (.sl t) xs
 | _=>True
def Tx:List AV->Prop
 | []=>True
 | a :: r=>FZ a/\Tx r
end
def Fe:(ps:List Par)->B1 ps->Prop
 | [],_=>True
 | .io _ t :: _,z=>wf t z
 | .dat _ :: r,z=>Fe r z
 | .agg _ :: r,z=>Fe r z
 | .fn _ _ :: r,z=>Fe r z
 | .nof _ :: r,z=>Fe r z
 | .nil :: r,z=>Fe r z
 | .os _ _ :: r,z=>Fe r z
mutual
theorem ResR.wf{K:Bool->Nat->Prop}{w:World}:∀{a:AV} {u:Value} {gs:List (Option Nat)},ResR K w a u gs->FZ a
 | .v _,_,_,_=>trivial
 | .d _ _ _,_,_,h=>RT.wf h.1
 | .agg _,_,_,⟨_,_,h⟩=>ResRs.wf h
 | .tup _,_,_,⟨_,_,h⟩=>ResRs.wf h
 | .ow _ _ _ _,_,_,⟨_,_,_,_,h1,h2⟩=>B0U h1 h2
 | .ob _ _,_,_,_=>trivial
 | .ptr _ _,_,_,_=>trivial
 | .pel ..,_,_,_=>trivial
 | .os _ _,_,_,_=>trivial
 | .fn _ _,_,_,_=>trivial
 | .gel _ _,_,_,_=>trivial
 | .og _,_,_,_=>trivial
theorem ResRs.wf{K:Bool->Nat->Prop}{w:World}:∀{as':List AV} {us:List Value} {gs:List (Option Nat)},ResRs K w as' us gs->Tx as'
 | [],_,_,_=>trivial
 | _ :: _,_,_,⟨_,_,_,_,_,_,h1,h2⟩=>⟨ResR.wf h1,ResRs.wf h2⟩
end
theorem IOR.wf{K:Nat->Prop}{w:World}{go:Option Nat}:∀{ps:List Par} {z:B1 ps},IOR K w go ps z->Fe ps z
 | [],_,_=>trivial
 | .io _ _ :: _,_,⟨_,_,_,_,h⟩=>RT.wf h
 | .dat _ :: r,_,h=>IOR.wf (ps:=r) h
 | .agg _ :: r,_,h=>IOR.wf (ps:=r) h
 | .fn _ _ :: r,_,h=>IOR.wf (ps:=r) h
 | .nof _ :: r,_,h=>IOR.wf (ps:=r) h
 | .nil :: r,_,h=>IOR.wf (ps:=r) h
 | .os _ _ :: r,_,h=>IOR.wf (ps:=r) h
def V4(ps:List Par){ρ:Type}(post:ρ->Prop)(R:ρ->AV)(Z:ρ->B1 ps)(z:ρ):Prop:=post z/\FZ (R z)/\Fe ps (Z z)
def Zt(st:St)(ps:List Par)(f:FuncId):Op->Option (w9 ps×List Nat×Option Nat)
 | .call ⟨.value x,xs,_⟩=>match rd st [] x,L8 st [] xs.toList with
   | some (.fn g caps),some as'=>bif Nat.beq g f then P4 st.o ps (as'++caps) else none
   | _,_=>none
 | _=>none
def Zu(st:St)(d:Nat){ps:List Par}(res:w9 ps->Gj ps)(x:w9 ps)(l:List Nat)(io:Option Nat):Option St :=
 bif CV st.o (F7 d 0 (res x).r).2.1&&(Ce l||(Bt (res x).r&&isNone io)) then some ⟨(d,⟨[],(F7 d 0 (res x).r).1⟩) :: st.e,((F7 d 0 (res x).r).2.1++An st.o ps (res x).z io)++st.o⟩ else none
theorem I0g{X:Cx}{G:Gh}{a:Act}{st:St}{ops:Array Oper}{Q:Exit->Act->World->Prop}{K:Act->World->Prop}{f:FuncId}{ps:List Par}{ζ:Type}{pre:w9 ps->Prop}{post:ζ->Prop}{i:ζ->w9 ps->Gj ps}(hk:Zs X.P f ps pre post i)(S:Sat X G)(ho:G.o=st.o)(Y:EnvR X.n G st.e a)
  {d:Nat} {op:Op} {ty:TypeId} {F:String} {j:Array Edge} (V:¬D9 ps=true) {x:w9 ps} {l:List Nat} {io:Option Nat} (b:Zt st ps f op=some (x,l,io)) (aF:Oo l io=true) (hd:d<X.n) (hs:∀t s,c7 st.e t=some s->∀x∈s.p,x.1≠d)
  (T:pre x) (hK:∀z,post z->FZ (i z x).r->Fe ps (i z x).z->∃st',Zu st d (i z) x l io=some st'/\∀a' G',Sat X G'->G'.o=st'.o->EnvR X.n G' st'.e a'->K a' G'.w):O0 X.P ops Q ⟨some d,op,ty,F,j,none⟩ K a G.w:=by
 unfold Zt at b;split at b
 ·rename_i x0 xs Ts;split at b
  ·rename_i g aG aH h1 h2;rw[ce] at b;split at b
   ·rename_i k;have k:g=f:=nb k;subst k;obtain⟨cs,hv,hc⟩:=C8 Y (p:=[]) (fun _ h=>by cases h) h1;have hA:=Br Y (p:=[]) (fun _ h=>by cases h) h2;rw[<- ho] at b;obtain⟨aB,go,aA,y⟩:=r0j S (d:=d) (AVRs.app hc hA) V b aF;obtain⟨H,m⟩:=hk
    haveI:Sg X.P g:=⟨H⟩
    refine m0V (f:=g) (fun aI F j gg=>?_) (Calls.mono (m x T G.w _ go _ aB aA) ?_)
    ·have q:xs.map a.eval=(xs.toList.map a.eval).toArray:=by rw[<- Array.toList_map]
     simp only[execOp,resolve,q,hv];simp[Deferred.ofValue,invoke,XT]
    ·rintro en w' ⟨z,hz,c⟩;obtain⟨_,_,_,_,_,_,u,E⟩:=c;have aC:=ResR.wf u;have W:=IOR.wf E;have c:KC ⟨g,ps,i z⟩ x G.w go (Am G l) en w':=⟨_,_,by omega,by omega,by omega,by omega,u,E⟩;obtain⟨st',q,e2⟩:=hK z hz aC W;unfold Zu at q;rw[ce] at q;split at q
     ·rename_i hb;rw[ba,<- ho] at hb;cases q;obtain⟨v,G',rfl,rfl,hS,hL,hO,aD⟩:=y (i z) hb en w' c;refine⟨v,rfl,e2 _ G' hS (by grind) ?_⟩;exact EnvR.put (p:=[]) (Y.mono hL) hd (fun _ h=>by cases h) hs ⟨fun _=>aD,fun h=>(h (fun _ h=>by cases h)).elim⟩
     grind
   grind
  grind
 grind
theorem Zv{n:Nat}:∀{a b:List Oper} {i:Nat} {seen:List Nat},I4 n i seen (a++b)=true->I4 n i seen a=true/\∃sn,I4 n (i+a.length) sn b=true/\(∀d∈seen,d∈sn)/\∀o∈a,∀d,o.dst=some d->d∈sn
 | [],b,i,seen,h=>⟨rfl,seen,by grind,fun _ h=>h,fun _ h=>by cases h⟩
 | o :: r,b,i,seen,h=>by
   simp only[List.cons_append,I4,ba] at h ⊢;obtain⟨⟨l,e⟩,c⟩:=h;obtain⟨j,sn,k,f,g⟩:=Zv c
   grind
theorem Zw{l:List Oper}{i:Nat}{o:Oper}(h:B8 l i=some o):l=l.take i++o :: l.drop (i+1)/\i<l.length/\(l.take i).length=i:=by
 have h:=YA h
 grind[hi,Nat.lt_or_ge,List.getElem?_eq_none,List.length_take,List.getElem?_eq_getElem,List.drop_eq_getElem_cons,List.take_append_drop]
section
variable {X:Cx} {Γ:p5} {T:List Ct}
theorem n0y(bN:x7 X.P Γ)(hT:∀c∈T,Ok X.P c){l:List Oper}{recs:List A8}{ol:Oper}{st:St}{Q:Exit->Act->World->Prop}(hl:recs.map (·.o)++[ol]=l)(bB:Gq Γ T l st recs)(bC:∀t s,c7 st.e t=some s->s.p=[])
  (aU:I4 X.n 0 [] l=true) (aD:AT 0 l=true) (E:It (J2 [] l) recs=true) (bT:∀k,k<recs.length->M6 k ((B8 (J2 [] l) recs.length).getD [])=true) (bU:∀G' a',Sat X G'->G'.o=(recs.foldl C1 st).o->EnvR X.n G' (recs.foldl C1 st).e a'->∀K:Act->World->Prop,(∀a2 w2,Q .normal a2 w2->K a2 w2)->O0 X.P l.toArray Q ol K a' G'.w) :
  ∀(fuel:Nat) (listed:Array Bool) (G:Gh) (a:Act),((List.range l.length).filter fun i=>!listed.getD i true).length<=fuel->listed.size=l.length->listed.getD recs.length false=false->SW (fun k=>listed.getD k false) l->Sat X G->(∀id,c7 G.o id=c7 (B0 (fun k=>listed.getD k false) 0 recs st).o id) ->
   EnvR X.n G (B0 (fun k=>listed.getD k false) 0 recs st).e a->wpAny X.P .any l.toArray Q fuel listed a G.w:=by
 have cB:recs.length+1=l.length:=by rw[<- hl]; simp
 have aX:l[recs.length]?=some ol:=by rw[<- hl,List.getElem?_append_right (by simp)]; simp
 have bV:∀(j:Nat) (R:A8),recs[j]?=some R->l[j]?=some R.o:=fun j R h=>by
  have hj:j<recs.length:=by
   rcases Nat.lt_or_ge j recs.length with h' | h'
   ·exact h'
   ·rw[List.getElem?_eq_none h'] at h; cases h
  rw[<- hl,List.getElem?_append_left (by simpa using hj),List.getElem?_map,h]; rfl
 have bH:∀(j:Nat) (o:Oper),j<recs.length->l[j]?=some o->∃R,recs[j]?=some R/\R.o=o:=fun j o hj h=>by
  grind
 have aP:=YF (all:=l) (rest:=l) (acc:=[]) (fun j=>by simp) aD (fun i m h=>by grind);have aH:=YJ aU;have aO:∀(i:Nat) (o:Oper) (k:Nat),l[i]?=some o->k∈AS o->k<i:=by
  have:∀{m:List Oper} {i:Nat},AT i m=true->∀j o k,m[j]?=some o->k∈AS o->k<i+j:=by
   intro m
   induction m with
   | nil=>grind
   | cons o0 r ih =>
     intro i h j o k hj u;simp only[AT,ba,List.all_eq_true] at h;cases j with
     | zero=>simp only[List.getElem?_cons_zero,oi] at hj; subst hj; have:=h.1 k u; simpa using this
     | succ j=>grind
  intro i o k f H;have:=this aD i o k f H; omega
 -- all is done: the end
 have aL:∀(fuel:Nat) (listed:Array Bool) (a:Act) (w:World),listed.size=l.length->(∀i,i<l.length->listed.getD i false=true)->Q .normal a w->wpAny X.P .any l.toArray Q fuel listed a w:=by
  intro fuel listed a w aV aB hq;have hr:Region.ready .any l.toArray listed=[]:=by
   cases hr:Region.ready .any l.toArray listed with
   | nil=>rfl
   | cons i r =>
     have hi:i∈Region.ready .any l.toArray listed:=by rw[hr]; simp
     obtain⟨f,o,H,_⟩:=mem_ready.1 hi;have bK:i<l.length:=by
      rcases Nat.lt_or_ge i l.length with h | h
      ·exact h
      ·rw[List.getElem?_toArray,List.getElem?_eq_none h] at H; cases H
     have:=aB i bK;have hs:i<listed.size:=by omega
     rw[Array.getD_eq_getD_getElem?,Array.getElem?_eq_getElem hs] at this f;simp only[Option.getD_some] at this f;rw[this] at f; cases f
  cases fuel with
  | zero=>exact⟨hr,hq⟩
  | succ fuel=>exact⟨fun _=>hq,fun i hi=>by grind⟩
 intro fuel
 induction fuel with
 | zero =>
   intro listed G a hf aV aF aC S hO hE;have bW:(List.range l.length).filter (fun i=>!listed.getD i true)=[]:=List.eq_nil_of_length_eq_zero (by omega);have:recs.length∈(List.range l.length).filter (fun i=>!listed.getD i true):=List.mem_filter.2 ⟨List.mem_range.2 (by omega),by
    grind⟩
   grind
 | succ fuel ih =>
   intro listed G a hf aV aF aC S hO hE;refine⟨fun hr=>False.elim ?_,fun i hi=>?_⟩
   · -- nothing is ready: all is done
     have aB:∀i,i<l.length->listed.getD i false=true:=by
      intro i
      induction i using Nat.strongRecOn with
      | ind i bG =>
        intro hi;cases h:listed.getD i false with
        | true=>rfl
        | false =>
          have:i∈Region.ready .any l.toArray listed:=mem_ready.2 ⟨by
           grind,l[i],by grind,fun e he hb=>bG e.on (aO i l[i] e.on (List.getElem?_eq_getElem hi) (Gs.2 ⟨e,he,hb,rfl⟩)) (by have:=aO i l[i] e.on (List.getElem?_eq_getElem hi) (Gs.2 ⟨e,he,hb,rfl⟩); omega)⟩
          rw[hr] at this; cases this
     have:=aB recs.length (by omega);rw[aF] at this; cases this
   ·obtain⟨aK,o,ho,bY⟩:=mem_ready.1 hi;rw[List.getElem?_toArray] at ho;have aZ:i<l.length:=by
     rcases Nat.lt_or_ge i l.length with h | h
     ·exact h
     ·grind
    have aY:listed.getD i false=false:=by
     have hs:i<listed.size:=by omega
     rw[Array.getD_eq_getD_getElem?,Array.getElem?_eq_getElem hs] at aK ⊢;exact aK
    -- what stands ahead of i is done
    have cC:∀k∈((B8 (J2 [] l) i).getD []),k<i/\listed.getD k false=true:=by
     intro k u;rw[X3] at u;cases hb:(J2 [] l)[i]? with
     | none=>grind
     | some m =>
       rw[hb] at u;obtain⟨g1,g2⟩:=aP i m hb;exact⟨g1 k u,g2 _ aC o ho (fun k' aI=>by obtain⟨e,he,bR,rfl⟩:=Gs.1 aI; grind) k u⟩
    by_cases bF:i=recs.length
    · -- the last one
      subst bF;rw[aX] at ho;cases ho;have hD:∀j,j<recs.length->listed.getD (0+j) false=true:=fun j hj=>by
       rw[Nat.zero_add]
       grind[P5]
      rw[YD (D:=fun k=>listed.getD k false) hD] at hO hE;obtain⟨S',L'⟩:=S.congr (o':=(recs.foldl C1 st).o) (fun i=>(hO i).symm);have aJ:=bU ⟨G.ρ,G.γ,G.K,G.w,(recs.foldl C1 st).o,G.B,G.δ⟩ a S' rfl (hE.mono L') (wpAny X.P .any l.toArray Q fuel (listed.setIfInBounds recs.length true)) (fun a2 w2 hq=>aL fuel _ a2 w2 (by grind) (fun j hj=>by
       by_cases aT:j=recs.length
       ·subst aT;have hs:recs.length<listed.size:=by omega
        simp[hs]
       ·rw[getD_set_ne false (Ne.symm aT)];have:=hD j (by omega)
        rwa [Nat.zero_add] at this) hq)
      unfold wpOp;rw[List.getElem?_toArray,aX];unfold O0 at aJ;simp only;split
      ·grind
      ·grind
    obtain⟨R,hR,rfl⟩:=bH i o (by omega) ho;have bQ:∀k,listed.getD k false=true->k<l.length->∀m∈((B8 (J2 [] l) k).getD []),m<k/\listed.getD m false=true:=by
     intro k u v m hm;rw[X3] at hm;cases hb:(J2 [] l)[k]? with
     | none=>grind
     | some b =>
       rw[hb] at hm;obtain⟨g1,g2⟩:=aP k b hb;exact⟨g1 m hm,g2 _ aC l[k] (List.getElem?_eq_getElem v) (fun k' aI=>aC k l[k] (List.getElem?_eq_getElem v) u k' aI) m hm⟩
    have bX:∀k,k<l.length->∀m∈((B8 (J2 [] l) k).getD []),m<k:=by
     intro k v m hm;rw[X3] at hm;cases hb:(J2 [] l)[k]? with
     | none=>grind
     | some b=>grind
    -- ordered with i: done exactly if earlier in the text
    have aG:∀k,k<l.length->k≠i->(M6 k ((B8 (J2 [] l) i).getD [])||M6 i ((B8 (J2 [] l) k).getD []))=true->listed.getD k false=decide (k<i):=by
     intro k v cA h;rw[Bool.or_eq_true] at h;rcases h with h | h
     ·grind[P5]
     ·grind[P5]
    obtain⟨sj,aM,bM,⟨q,aW,hq⟩,hg⟩:=YE (i:=0) bB hR;rw[Nat.zero_add] at aM
    -- the slots and objects that i looks at are as in the text's order
    have aR:∀t,t∈YH R->c7 sj.e t=c7 (B0 (fun k=>listed.getD k false) 0 recs st).e t:=by
     intro t ht;rw[aM];refine Ou (fun k R' u V=>?_) rfl;rw[Nat.zero_add];by_cases g:k=i
     ·grind
     ·have F:=Gt E u hR g;have v:k<l.length:=by
       rcases Nat.lt_or_ge k l.length with h | h
       ·exact h
       ·grind
      simp only[CY,ba] at F;have V:R'.o.dst=some t:=V;rw[V] at F;simp only[ba] at F;have f:=F.1.1;rw[Bool.or_eq_true] at f;rcases f with f | f
      ·grind[P5]
      ·exact(aG k v g (by omega)).symm
    have bI:∀id,id∈R.fp++R.obs.map Prod.fst->c7 sj.o id=c7 G.o id:=by
     intro id aS;rw[hO,aM];refine Ov (fun k R' u V=>?_) rfl;rw[Nat.zero_add];by_cases g:k=i
     ·grind
     ·have F:=Gt E u hR g;have v:k<l.length:=by
       rcases Nat.lt_or_ge k l.length with h | h
       ·exact h
       ·grind
      simp only[CY,ba] at F;have f:=F.2;rw[Bool.or_eq_true] at f;obtain⟨y,hy,bE⟩:=V;rcases f with f | f
      ·simp only[Ow,List.all_eq_true] at f;have:=f id (by grind)
       grind[P5]
      ·exact(aG k v g (Bool.or_comm _ _ ▸ f)).symm
    have bA:∀x∈R.p,c7 sj.e x.1=c7 (B0 (fun k=>listed.getD k false) 0 recs st).e x.1:=fun x hx=>aR x.1 (List.mem_append.2 (.inr (List.mem_map_of_mem hx)));have bS:=g0O bM bA;have aQ:X5 Γ T ⟨(B0 (fun k=>listed.getD k false) 0 recs st).e,G.o⟩ R.p R.o=some (q,R.av,R.obs,R.fp) :=
     k0H (e:=sj.e) (o:=sj.o) (fun t ht=>aR t (List.mem_append.2 (.inl (n0c ht)))) aW (fun id aS=>bI id (List.mem_append.2 (.inl aS)))
    have hd:∀d,R.o.dst=some d->d<X.n/\(∀x∈R.p,x.1≠d)/\∀t s,c7 (B0 (fun k=>listed.getD k false) 0 recs st).e t=some s->∀x∈s.p,x.1≠d:=by
     intro d hd;refine⟨(aH.1 i R.o d ho hd).1,fun x hx e=>?_,fun t s ht x hx e=>?_⟩
     ·have f:=Ox E i R hR;rw[Nat.zero_add,ba] at f;have H:=f.1;simp only[YI,hd] at H
      grind[P5]
     ·rcases YL ht with h | ⟨k,Rk,u,Y,hsp⟩
      ·grind
      ·rw[Nat.zero_add] at Y;have g:i≠k:=fun e'=>by grind
       have v:k<l.length:=by
        rcases Nat.lt_or_ge k l.length with h | h
        ·exact h
        ·grind
       have F:=Gt E hR u g;simp only[CY,ba,hd] at F;have H:=F.1.2;rw[Bool.or_eq_true] at H;rcases H with H | H
       ·rw[P5.2 (List.mem_map.2 ⟨x,by rw[<- hsp]; exact hx,e⟩)] at H; cases H
       ·rw[(bQ k Y v i (P5.1 H)).2] at aY; cases aY
    have W:∀k,(listed.setIfInBounds i true).getD k false=if k=i then true else listed.getD k false:=fun k=>by
     by_cases g:k=i
     ·subst g;have hs:k<listed.size:=by omega
      simp[hs]
     ·rw[if_neg g]; exact getD_set_ne false (Ne.symm g)
    have aJ:=Ot (st:=⟨(B0 (fun k=>listed.getD k false) 0 recs st).e,G.o⟩) (K:=wpAny X.P .any l.toArray Q fuel (listed.setIfInBounds i true)) bN hT (ops:=l.toArray) (all:=l) rfl (Q:=Q) S rfl hE bS aQ (fun F=>hq (YG (fun x hx=>(bA x hx).symm) F)) hg hd (fun a' G' S' _ bP bL=>by
     refine ih (listed.setIfInBounds i true) G' a' ?_ (by grind) (by grind) ?_ S' ?_ ?_
     ·have:((List.range l.length).filter fun j=>!(listed.setIfInBounds i true).getD j true).length < ((List.range l.length).filter fun j=>!listed.getD j true).length:=by
       refine YK (fun j hj=>?_) ⟨i,List.mem_range.2 aZ,by simp only[aK]; rfl,?_⟩
       ·by_cases aN:i=j
        ·subst aN;have hs:i<listed.size:=by omega
         simp[hs] at hj
        ·rwa [getD_set_ne true aN] at hj
       ·have hs:i<listed.size:=by omega
        simp[hs]
      omega
     ·intro k o u Y m hm;simp only[W] at Y ⊢;by_cases bD:m=i
      ·grind
      ·rw[if_neg bD];by_cases g:k=i
       ·subst g;rw[ho] at u;cases u;obtain⟨e,he,bR,rfl⟩:=Gs.1 hm
        grind
       ·rw[if_neg g] at Y;exact aC k o u Y m hm
     ·intro id;rw[bP];by_cases V:Gr R id
      ·rw[YC (D:=fun k=>(listed.setIfInBounds i true).getD k false) (st':=⟨[],G.o⟩) hR V (by grind) (fun k Rk bJ u aA=>?_)]
       ·rfl
       ·rw[Nat.zero_add];simp only[W,if_neg (show k≠i by omega)];have v:k<l.length:=by
         rcases Nat.lt_or_ge k l.length with h | h
         ·exact h
         ·grind
        have F:=Gt E u hR (show k≠i by omega);simp only[CY,ba] at F;have f:=F.2;rw[Bool.or_eq_true] at f;obtain⟨y,hy,bE⟩:=aA;obtain⟨z,hz,bZ⟩:=V;rcases f with f | f
        ·simp only[Ow,List.all_eq_true] at f;have:=f id (by grind[List.mem_map_of_mem])
         grind[P5,List.mem_map_of_mem]
        grind
      ·have e1:=SV ⟨[],G.o⟩ R id V;simp only[C1] at e1;rw[e1,hO];refine Ov (fun k Rk u aA=>?_) rfl;rw[Nat.zero_add];simp only[W];rw[if_neg (fun e=>by grind)]
     ·refine bL.congr (fun t=>?_);by_cases V:DW R t
      ·have bO:=w0I aW V;rw[YB (D:=fun k=>(listed.setIfInBounds i true).getD k false) (st':=⟨(B0 (fun k=>listed.getD k false) 0 recs st).e,G.o⟩) hR V bO (by grind) (fun k Rk bJ u aA=>by
        have:=aH.2 i k R.o Rk.o t ho (bV k Rk u) V aA;omega)]
       rfl
      ·have e1:=SU ⟨(B0 (fun k=>listed.getD k false) 0 recs st).e,G.o⟩ R t V;simp only[C1] at e1;rw[e1];refine Ou (fun k Rk u aA=>?_) rfl;rw[Nat.zero_add];simp only[W];rw[if_neg (fun e=>by grind)])
    unfold wpOp;rw[List.getElem?_toArray,ho];unfold O0 at aJ;simp only;split
    ·grind
    grind
end
theorem Zx{X:Cx}{st:St}{Q:Exit->Act->World->Prop}{Γ:p5}{T:List Ct}(u:x7 X.P Γ)(hT:∀c∈T,Ok X.P c){id i:Nat}{l:List Oper}(h:List Nat)(E:I4 X.n 0 [] l=true)(aK:J3 st.e=true){V:Prop}{f:St}{Y:List A8}(h1:O2 Γ T l (l.take i) st []=some (V,f,Y))(hV:V){o:Oper}(hn:B8 l i=some o)(_:J3 f.e=true)
  (aB:(∀d,o.dst=some d->d<X.n)->∀G a,Sat X G->G.o=f.o->EnvR X.n G f.e a->∀K:Act->World->Prop,(∀st2 W st3 rs3 G' a',J3 st2.e=true->O2 Γ T l (l.drop (i+1)) st2 []=some (W,st3,rs3)->W->FX X (cut h st3) .normal Q->Sat X G'->G'.o=st2.o->EnvR X.n G' st2.e a'->K a' G'.w)->O0 X.P l.toArray Q o K a G.w):VX X st (.region id l.toArray false) Q:=by
 intro G a S ho hE;obtain⟨el,aJ,H⟩:=Zw hn;refine wp_region_lit ?_;have b:=E;rw[el] at b;obtain⟨k1,sn,q,-,k4⟩:=Zv b;rw[H,Nat.zero_add] at q;simp only[I4,ba] at q;obtain⟨⟨q,-⟩,k3⟩:=q;have aA:∀d,o.dst=some d->d<X.n:=fun d hd=>by
  rw[hd] at q;simp only[ba] at q;simpa using q.1
 obtain⟨g,e1,e2,e3⟩:=Bw (Ap (K:=fun k _=>k=f) h1 hV rfl);have aH:g.length=i:=by grind
 have:=Is u hT (ops:=l.toArray) (all:=l) rfl (Q:=Q) (rest:=o :: l.drop (i+1)) g 0 [] st G a (fun j hj=>by
   grind) (by grind) (fun j oj dj hj=>by omega) (fun t s ht x hx=>by grind[Bx]) e2 S ho hE
  (fun G1 a1 S1 y z=>by
    rw[e3] at y z;refine IG (aB aA G1 a1 S1 y z _ fun st2 W st3 rs3 G2 a2 aI g1 g2 g3 S2 aG F=>?_);obtain⟨m,f1,f2,f3⟩:=Bw (Ap (K:=fun k _=>k=st3) g1 g2 rfl);have:=Is u hT (ops:=l.toArray) (all:=l) rfl (Q:=Q) (rest:=[]) m (i+1) _ st2 G2 a2 (fun j hj=>by
      grind) (by rw[f1]; exact k3) (fun j oj dj hj q1 q2=>by
      grind) (fun t s ht x hx=>by grind[Bx]) f2 S2 aG F
     (fun G3 a3 S3 v r=>by
       rw[f3] at v r;obtain⟨G4,S4,aF,aC,aD⟩:=Iu h S3 v r;have:=g3 G4 a3 S4 aF aD
       rwa [aC] at this)
    grind)
 grind
def N0r(n:Nat)(Γ:p5)(T:List Ct)(l:List Oper)(i:Nat)(f:FuncId)(ps:List Par)(st:St):Option (Prop×St×Nat×w9 ps×List Nat×Option Nat) :=
 bif I4 n 0 [] l&&J3 st.e&&!D9 ps then(match O2 Γ T l (l.take i) st [] with
  | some (V,st1,_)=>(match B8 l i with
    | some ⟨some d,op,_,_,_,none⟩=>bif J3 st1.e then(match Zt st1 ps f op with
      | some (x,m,io)=>bif Oo m io then some (V,st1,d,x,m,io) else none
      | none=>none) else none
    | _=>none)
  | none=>none) else none
def Zy(Γ:p5)(T:List Ct)(l:List Oper)(i:Nat)(keep:List Nat){ps:List Par}(res:w9 ps->Gj ps)(st1:St)(d:Nat)(x:w9 ps)(m:List Nat)(io:Option Nat):Option (Prop×St):=match Zu st1 d res x m io with
 | some st2=>bif J3 st2.e then(match O2 Γ T l (l.drop (i+1)) st2 [] with
   | some (W,st3,_)=>some (W,cut keep st3)
   | none=>none) else none
 | none=>none
def OO(n:Nat)(Γ:p5)(T:List Ct)(l:List Oper)(i:Nat)(keep:List Nat)(f:FuncId){ps:List Par}(pre:w9 ps->Prop)(res:w9 ps->Gj ps)(st:St):Option (Prop×Prop×St):=match N0r n Γ T l i f ps st with
 | some (V,st1,d,x,m,io)=>(match Zy Γ T l i keep res st1 d x m io with
   | some (W,st3)=>some (V/\pre x,W,st3)
   | none=>none)
 | none=>none
theorem H6{V:Prop}[Decidable V]{ρ:Type}{e:Option ρ}{r:ρ}{C:Prop}(H:gd V e=some r)(k:e=some r->C):V/\C:=⟨(K9 H).1,k (K9 H).2⟩
theorem zE[Alw]{P:Program}{n:Nat}{y:World×(Nat->Prop)×(Nat->Prop)×(Nat->Value->Prop)×Nat}{st:St}{Q:Exit->Act->World->Prop}{Γ:p5}{T:List Ct}{ρ:Type}{r:ρ}(u:x7 P Γ)(hT:∀c∈T,Ok P c){f:FuncId}{ps:List Par}{j:Type}[Inhabited j]{pre:w9 ps->Prop}{post:j->Prop}{R:j->AV}{Z:j->B1 ps}(hk:kE P f ps pre post R Z)
  (i:Nat) (e:List Nat) (S:j->St) (W:j->Prop) {V:Prop} [Decidable V] {g:j->Option ρ} {id:Nat} {l:List Oper} (H:gd V (Alw.alp (V4 ps post R Z) g)=some r) (h:∀z,OO n Γ T l i e f pre (fun _=>⟨True,R z,Z z⟩) st=some (V,W z,S z)) (hc:∀z,V4 ps post R Z z->g z=some r->W z/\FX (cx P n y) (S z) .normal Q):VX (cx P n y) st (.region id l.toArray false) Q:=by
 obtain⟨hV,H0⟩:=K9 H;have HH:=Alw.alp_some H0;clear H0 H;have k:=h default;unfold OO at k;split at k
 ·rename_i V' F d x m io b;have v:(V'/\pre x)=V:=by
   split at k
   ·grind
   ·cases k
  subst v;have h2:∀z,Zy Γ T l i e (fun _=>⟨True,R z,Z z⟩) F d x m io=some (W z,S z):=fun z=>by
   grind[OO]
  clear k h;unfold N0r at b;rw[ce] at b;split at b
  ·rename_i o;simp only[ba] at o;have q:¬D9 ps=true:=by simpa using o.2
   split at b
   ·rename_i V1 aC aD g1;split at b
    ·rename_i d' op ty aF Y hn;rw[ce] at b;split at b
     ·rename_i E;split at b
      ·rename_i x' m' aG ha;rw[ce] at b;split at b
       ·rename_i aB;simp only[oi,pj] at b;obtain⟨rfl,rfl,rfl,rfl,rfl,rfl⟩:=b;refine Zx (X:=cx P n y) u hT e o.1.1 o.1.2 g1 hV.1 hn E fun w G a S' ho hE K hK=>?_;refine I0g hk S' ho hE q ha aB (w _ rfl) (fun t s ht x hx=>by grind[Bx]) hV.2 fun z aA hR hI=>?_;have hz:V4 ps post R Z z:=⟨aA,hR,hI⟩;have h3:=h2 z;unfold Zy at h3
        grind
       grind
      grind
     grind
    grind
   grind
  grind
 grind
end Go.Proofs.Xv
end
section
namespace Go.Proofs.Xv
open Go Go.RowKit Go.Proofs.Sv Go.Proofs.Xl
def AllS{α:Type}(R:α->α->Prop):List α->List α->Prop
 | [],ys=>ys=[]
 | x :: r,ys=>∃y r',ys=y :: r'/\R x y/\AllS R r r'
def w8:(t:Ty)->j7 t->j7 t->Prop
 | .int _,_,_=>True
 | .bool,x,y=>y=x
 | .str,x,y=>y=x
 | .sl e,x,y=>AllS (w8 e) x y
 | .pt e,x,y=>w8 e x y
 | .pr a b,x,y=>w8 a x.1 y.1/\w8 b x.2 y.2
theorem AllS.refl{a:Type}{R:a->a->Prop}(h:∀x,R x x):∀xs:List a,AllS R xs xs
 | []=>rfl
 | x :: r=>⟨x,r,rfl,h x,AllS.refl h r⟩
theorem KL:∀(t:Ty) (x:j7 t),w8 t x x
 | .int _,_=>trivial
 | .bool,_=>rfl
 | .str,_=>rfl
 | .sl e,x=>AllS.refl (KL e) x
 | .pt e,x=>KL e x
 | .pr a b,x=>⟨KL a x.1,KL b x.2⟩
theorem AllS.len{a:Type}{R:a->a->Prop}:∀{xs ys:List a},AllS R xs ys->ys.length=xs.length
 | [],_,h=>by rw[show _=[] from h]
 | _ :: _,_,⟨_,_,e,_,h⟩=>by rw[e,List.length_cons,List.length_cons,AllS.len h]
theorem AllS.all{a:Type}{R:a->a->Prop}{p q:a->Prop}(b:∀x y,R x y->p x->q y):∀{xs ys:List a},AllS R xs ys->(∀x∈xs,p x)->∀y∈ys,q y
 | [],_,h,_,y,hy=>by rw[show _=[] from h] at hy; cases hy
 | x :: r,_,⟨y',r',e,h1,h2⟩,hp,y,hy=>by
   subst e;rcases List.mem_cons.1 hy with rfl | hy
   ·grind
   ·exact AllS.all b h2 (fun x c=>hp x (by grind)) y hy
def Sim(k:IntKind)(u u':Value):Prop:=u'=u∨∃x x',u=.int k x/\u'=.int k x'/\lo k<=x'/\x'<=hi k
def OP(k:IntKind)(w w':World):Prop:=∀b o u,w.cell? ⟨b,o,none⟩=some u->∃u',w'.cell? ⟨b,o,none⟩=some u'/\Sim k u u'
def SimL(k:IntKind):List Value->List Value->Prop
 | [],vs=>vs=[]
 | u :: r,vs=>∃u' r',vs=u' :: r'/\Sim k u u'/\SimL k r r'
theorem SimL.refl{k:IntKind}:∀us:List Value,SimL k us us
 | []=>rfl
 | u :: r=>⟨u,r,rfl,.inl rfl,SimL.refl r⟩
theorem SimL.split{k:IntKind}{b:List Value}:∀{a cs:List Value},SimL k (a++b) cs->∃a' b',cs=a'++b'/\SimL k a a'/\SimL k b b'
 | [],cs,h=>⟨[],cs,rfl,rfl,h⟩
 | u :: r,cs,⟨u',r',e,h1,h2⟩=>by
   obtain⟨a',b',f,d,c⟩:=SimL.split h2;exact⟨u' :: a',b',by grind,⟨u',a',rfl,h1,d⟩,c⟩
theorem At.sim{k:IntKind}{w w':World}(a:OP k w w'){b:Nat}:∀{ds:List Value} {o:Nat},At w b o ds->∃ds',At w' b o ds'/\SimL k ds ds'
 | [],o,_=>⟨[],fun i u h=>by grind,rfl⟩
 | d :: r,o,h=>by
   obtain⟨c,j,f⟩:=At.sim a (At.tail h);obtain⟨e,m,g⟩:=a b o d (h 0 d rfl);refine⟨e :: c,fun i u l=>?_,e,c,rfl,g,f⟩;cases i with
   | zero=>grind
   | succ i =>
     have:=j i u (by grind)
     rwa [show o+1+i=o+(i+1) by omega] at this
theorem AllR.sim{k:IntKind}{a:Type}{R R':List Value->a->Prop}{S:a->a->Prop}(b:∀c c' x,SimL k c c'->R c x->∃x',R' c' x'/\S x x'):∀{cs cs':List Value} {xs:List a},SimL k cs cs'->AllR R cs xs->∃xs',AllR R' cs' xs'/\AllS S xs xs'
 | cs,cs',[],hs,h=>by
   rw[show cs=[] from h] at hs;exact⟨[],hs,rfl⟩
 | _,cs',x :: r,hs,⟨c,d,e,h1,h2⟩=>by
   subst e;obtain⟨c',j,rfl,m,g⟩:=hs.split;obtain⟨x',o,l⟩:=b c c' x m h1;obtain⟨f,n,i⟩:=AllR.sim b g h2;exact⟨x' :: f,⟨c',j,rfl,o,n⟩,x',f,rfl,l,i⟩
theorem Tz{k:IntKind}{u:Value}{cs:List Value}(h:SimL k [u] cs)(d:∀x,u≠.int k x):cs=[u]:=by
 obtain⟨e,b,rfl,c,a⟩:=h;rw[show b=[] from a];rcases c with rfl | ⟨x,_,rfl,_⟩
 ·rfl
 grind
theorem RT.sim{k:IntKind}{K:Nat->Prop}{w w':World}(n:OP k w w'):∀{t:Ty} {cs cs':List Value} {x:j7 t},SimL k cs cs'->RT K w t cs x->∃x',RT K w' t cs' x'/\w8 t x x'
 | .int k0,cs,cs',x,f,h=>by
   obtain⟨rfl,i⟩:=h;obtain⟨Q,P,rfl,g,m⟩:=f;rw[show P=[] from m];rcases g with rfl | ⟨x0,x',e,rfl,u,h5⟩
   ·exact⟨x,⟨rfl,i⟩,trivial⟩
   ·cases e;exact⟨x',⟨rfl,u,h5⟩,trivial⟩
 | .bool,cs,cs',x,f,h=>by
   rw[show cs=_ from h] at f;exact⟨x,Tz f (fun _ h=>by cases h),rfl⟩
 | .str,cs,cs',x,f,h=>by
   rw[h.1] at f;exact⟨x,⟨Tz f (fun _ h=>by cases h),h.2⟩,rfl⟩
 | .sl e,cs,cs',xs,f,⟨p,cap,i,g,m,u⟩=>by
   rw[i] at f;have v:=Tz f (fun _ h=>by cases h);rcases u with rfl | ⟨b,o,ds,hp,hb,hat,hall⟩
   ·exact⟨[],⟨p,cap,v,g,m,.inl rfl⟩,rfl⟩
   ·obtain⟨j,s,r⟩:=At.sim n hat;obtain⟨y,q,l⟩:=AllR.sim (fun c z x f F=>RT.sim n (t:=e) f F) r hall;exact⟨y,⟨p,cap,by rw[v,l.len],by rw[l.len]; exact g,m,.inr ⟨b,o,j,hp,hb,s,q⟩⟩,l⟩
 | .pt e,cs,cs',x,f,⟨b,o,ds,i,hb,hat,g⟩=>by
   rw[i] at f;have v:=Tz f (fun _ h=>by cases h);obtain⟨j,s,r⟩:=At.sim n hat;obtain⟨x',q,l⟩:=RT.sim n (t:=e) r g;exact⟨x',⟨b,o,j,v,hb,s,q⟩,l⟩
 | .pr a b,cs,cs',x,f,⟨c,d,h,i,g⟩=>by
   subst h;obtain⟨z,H,rfl,m,u⟩:=f.split;obtain⟨E,s,r⟩:=RT.sim n (t:=a) m i;obtain⟨G,q,l⟩:=RT.sim n (t:=b) u g;exact⟨(E,G),⟨z,H,rfl,s,q⟩,r,l⟩
mutual
def HavA:AV->AV->Prop
 | .d fr t x,b=>bif G7 t then b=.d fr t x else ∃x',b=.d fr t x'/\w8 t x x'/\(wf t x->wf t x')
 | .agg xs,b=>∃ys,b=.agg ys/\HavAs xs ys
 | .tup xs,b=>∃ys,b=.tup ys/\HavAs xs ys
 | .fn f xs,b=>∃ys,b=.fn f ys/\HavAs xs ys
 | a,b=>b=a
def HavAs:List AV->List AV->Prop
 | [],ys=>ys=[]
 | x :: r,ys=>∃y r',ys=y :: r'/\HavA x y/\HavAs r r'
end
def HavO:Ob->Ob->Prop
 | .box T cs,b=>∃ds,b=.box T ds/\HavAs cs ds
 | .arr T fr t xs v,b=>bif G7 t then b=.arr T fr t xs v else ∃xs',b=.arr T fr t xs' v/\AllS (w8 t) xs xs'
 | a,b=>b=a
theorem C0j{fr:Bool}{t:Ty}{x:j7 t}{b:AV}:HavA (.d fr t x) b=(bif G7 t then b=.d fr t x else ∃x',b=.d fr t x'/\w8 t x x'/\(wf t x->wf t x')):=by grind[HavA]
theorem Zz{T:TypeId}{fr:Bool}{t:Ty}{xs:List (j7 t)}{v:Nat}{b:Ob}:HavO (.arr T fr t xs v) b=(bif G7 t then b=.arr T fr t xs v else ∃xs',b=.arr T fr t xs' v/\AllS (w8 t) xs xs'):=rfl
def KM:List (Nat×Sl)->List (Nat×Sl)->Prop
 | [],ys=>ys=[]
 | (t,⟨p,a⟩) :: r,ys=>∃b r',ys=(t,⟨p,b⟩) :: r'/\HavA a b/\KM r r'
def HavL:List (Nat×Ob)->List (Nat×Ob)->Prop
 | [],ys=>ys=[]
 | (i,a) :: r,ys=>∃b r',ys=(i,b) :: r'/\HavO a b/\HavL r r'
def ZA(a b:St):Prop:=∃e o,b=⟨e,o⟩/\KM a.e e/\HavL a.o o
mutual
theorem HavA.refl:∀a,HavA a a
 | .d c t x=>by
   simp only[C0j,ce]
   grind[KL]
 | .agg b=>⟨b,rfl,HavAs.refl b⟩
 | .tup b=>⟨b,rfl,HavAs.refl b⟩
 | .fn f b=>⟨b,rfl,HavAs.refl b⟩
 | .v _ | .ptr .. | .pel .. | .os .. | .ow .. | .gel .. | .og .. | .ob ..=>by grind[HavA]
theorem HavAs.refl:∀as,HavAs as as
 | []=>by grind[HavAs]
 | a :: r=>by unfold HavAs; exact⟨a,r,rfl,HavA.refl a,HavAs.refl r⟩
end
theorem HavO.refl:∀a,HavO a a
 | .box T b=>⟨b,rfl,HavAs.refl b⟩
 | .arr T c t d v=>by
   simp only[Zz,ce]
   grind[AllS.refl,KL]
 | .grd ..=>rfl
def L0I:Ob->Ob->Prop
 | .box T _,b=>∃ds,b=.box T ds
 | .arr T fr t _ v,b=>∃ys,b=.arr T fr t ys v
 | a,b=>b=a
theorem HavO.kind:∀{a b:Ob},HavO a b->L0I a b
 | .box _ _,_,⟨ds,h,_⟩=>⟨ds,h⟩
 | .arr _ _ _ xs _,b,h=>by
   rw[Zz,ce] at h;split at h
   ·exact⟨xs,h⟩
   ·obtain⟨c,h,_⟩:=h; exact⟨c,h⟩
 | .grd ..,_,h=>h
theorem HavL.lk:∀{o o':List (Nat×Ob)},HavL o o'->∀i,(∀ob,c7 o i=some ob->∃ob',c7 o' i=some ob'/\HavO ob ob')/\(∀ob',c7 o' i=some ob'->∃ob,c7 o i=some ob/\HavO ob ob')
 | [],o',h,i=>by rw[show o'=[] from h]; exact⟨(fun _ h=>by cases h),fun _ h=>by cases h⟩
 | (j,a) :: r,_,⟨b,r',e,h1,h2⟩,i=>by
   subst e;rw[lK,lK];by_cases c:j=i
   ·grind
   ·rw[if_neg c,if_neg c];exact HavL.lk h2 i
def up(G:Gh)(w':World)(o':List (Nat×Ob)):Gh:=⟨G.ρ,G.γ,G.K,w',o',G.B,G.δ⟩
section
variable {k:IntKind} {G:Gh} {w':World} (hM:OP k G.w w')
include hM
mutual
theorem AVR.sim:∀{a:AV} {u:Value},AVR G a u->∃b,HavA a b/\∀o',HavL G.o o'->AVR (up G w' o') b u
 | .v x,u,h=>⟨.v x,rfl,fun _ _=>h⟩
 | .d fr t x,u,h=>by
   simp only[C0j,ce];split
   ·rename_i n;exact⟨.d fr t x,rfl,fun _ _=>RT.free n h⟩
   ·obtain⟨m,c,g⟩:=RT.sim (K:=rg G fr) hM (SimL.refl [u]) h;exact⟨.d fr t m,⟨m,rfl,g,fun _=>RT.wf c⟩,fun _ _=>c⟩
 | .agg xs,u,⟨us,e,h⟩=>by
   obtain⟨j,c,g⟩:=AVRs.sim h;exact⟨.agg j,⟨j,rfl,c⟩,fun o' i=>⟨us,e,g o' i⟩⟩
 | .tup xs,u,⟨us,e,h⟩=>by
   obtain⟨j,c,g⟩:=AVRs.sim h;exact⟨.tup j,⟨j,rfl,c⟩,fun o' i=>⟨us,e,g o' i⟩⟩
 | .fn f xs,u,⟨us,e,h⟩=>by
   obtain⟨j,c,g⟩:=AVRs.sim h;exact⟨.fn f j,⟨j,rfl,c⟩,fun o' i=>⟨us,e,g o' i⟩⟩
 | .ptr id off,u,⟨⟨T,cs,c⟩,g⟩=>⟨.ptr id off,rfl,fun o' i=>by
    obtain⟨ob,k,l⟩:=(i.lk id).1 _ c;obtain⟨ds,rfl⟩:=l.kind;exact⟨⟨T,ds,k⟩,g⟩⟩
 | .pel id ver kk s off,u,⟨h0,T,fr,t,xs,ver',c,g,h3⟩=>⟨.pel id ver kk s off,rfl,fun o' i=>by
    obtain⟨ob,k,l⟩:=(i.lk id).1 _ c;obtain⟨j,rfl⟩:=l.kind;exact⟨h0,T,fr,t,j,ver',k,g,h3⟩⟩
 | .os id ver,u,⟨h0,T,fr,t,xs,ver',c,g,h3⟩=>⟨.os id ver,rfl,fun o' i=>by
    obtain⟨ob,k,l⟩:=(i.lk id).1 _ c;obtain⟨j,rfl⟩:=l.kind;exact⟨h0,T,fr,t,j,ver',k,g,h3⟩⟩
 | .gel id kk,u,⟨⟨T,Te,fr,t,xs,hole,c⟩,g⟩=>⟨.gel id kk,rfl,fun o' i=>by
    obtain⟨ob,k,l⟩:=(i.lk id).1 _ c;have:=l.kind;rw[show ob=_ from this] at k;exact⟨⟨T,Te,fr,t,xs,hole,k⟩,g⟩⟩
 | .og id,u,⟨h0,⟨T,Te,fr,t,xs,hole,c⟩,g⟩=>⟨.og id,rfl,fun o' i=>by
    obtain⟨ob,k,l⟩:=(i.lk id).1 _ c;have:=l.kind;rw[show ob=_ from this] at k;exact⟨h0,⟨T,Te,fr,t,xs,hole,k⟩,g⟩⟩
 | .ow ..,_,h=>h.elim
 | .ob ..,_,h=>h.elim
theorem AVRs.sim:∀{as':List AV} {us:List Value},AVRs G as' us->∃bs,HavAs as' bs/\∀o',HavL G.o o'->AVRs (up G w' o') bs us
 | [],us,h=>⟨[],by grind[HavAs],fun _ _=>h⟩
 | a :: r,us,⟨u,us',e,h1,h2⟩=>by
   obtain⟨b,i,f⟩:=AVR.sim h1;obtain⟨bs,g,d⟩:=AVRs.sim h2;have:=hM;exact⟨b :: bs,by unfold HavAs; grind,fun o' c=>⟨u,us',e,f o' c,d o' c⟩⟩
end
theorem ObR.sim{b:Nat}(l:WE (some b) G.w w'){id:Nat}:∀{ob:Ob},ObR G id ob->H4 (some ob)=false->G.γ id≠some b->∃ob',HavO ob ob'/\∀o',HavL G.o o'->ObR (up G w' o') id ob'
 | .box T cs,⟨b',us,h1,h2,h3,h4⟩,_,hb=>by
   obtain⟨ds,j,f⟩:=AVRs.sim hM h4;exact⟨.box T ds,⟨ds,rfl,j⟩,fun o' m=>⟨b',us,h1,h2,h3.we l (fun i e h=>by grind),f o' m⟩⟩
 | .arr T fr t xs v,⟨cs,h1,h2,h3⟩,_,hb=>by
   have d:=h1.we l (fun i e h=>by grind);simp only[Zz,ce];split
   ·rename_i q;exact⟨.arr T fr t xs v,rfl,fun o' _=>⟨cs,d,h2.mapR (fun c x g=>RT.free q g),h3⟩⟩
   ·obtain⟨a,j,f⟩:=AllR.sim (k:=k) (R':=RT (rg G fr) w' t) (S:=w8 t) (fun c r x n g=>RT.sim hM n g) (SimL.refl cs) h2;exact⟨.arr T fr t a v,⟨a,rfl,f⟩,fun o' _=>⟨cs,by rw[f.len]; exact d,j,h3⟩⟩
 | .grd ..,_,h,_=>by cases h
theorem v0c{b:Nat}(g:WE (some b) G.w w')(c:∀id o,c7 G.o id=some o->ObR G id o)(s:∀id,H4 (c7 G.o id)=false)(e:∀id o,c7 G.o id=some o->G.γ id≠some b) :
  ∀l:List (Nat×Ob),∃l',HavL l l'/\∀i ob,c7 l i=some ob->c7 G.o i=some ob->∃ob',c7 l' i=some ob'/\∀o',HavL G.o o'->ObR (up G w' o') i ob'
 | []=>⟨[],rfl,fun _ _ h=>by cases h⟩
 | (j,a) :: r=>by
   obtain⟨d,m,t⟩:=v0c g c s e r;by_cases f:c7 G.o j=some a
   ·obtain⟨k,n,u⟩:=ObR.sim hM g (c j a f) (by grind) (e j a f);refine⟨(j,k) :: d,⟨k,d,rfl,n,m⟩,fun i ob hi q=>?_⟩;rw[lK] at hi ⊢
    grind
   ·refine⟨(j,a) :: d,⟨a,d,rfl,HavO.refl a,m⟩,fun i ob hi q=>?_⟩;rw[lK] at hi ⊢
    grind
end
theorem Sat.hav{X:Cx}{G:Gh}(S:Sat X G){k:IntKind}{w':World}(hM:OP k G.w w'){b:Nat}(hw:Wr b G.w w')(hK:G.K b)(hb:X.w0.heap.size<=b)(hu:UF w' b)(hg:∀id,H4 (c7 G.o id)=false){e:List (Nat×Sl)}{a:Act}(hE:EnvR X.n G e a) :
  ∃o' e',HavL G.o o'/\KM e e'/\Sat X (up G w' o')/\EnvR X.n (up G w' o') e' a:=by
 have j:=WE.of_wr hw;have aH:∀id o,c7 G.o id=some o->G.γ id≠some b:=fun id o E h=>S.imm id o b E h hK;obtain⟨o',h1,h2⟩:=v0c hM j S.obs hg aH G.o;have m:=h1.lk;have aK:∀id,H4 (c7 o' id)=false:=fun id=>by
  cases h:c7 o' id with
  | none=>rfl
  | some u =>
    obtain⟨F,d,q⟩:=(m id).2 u h;have:=hg id;rw[d] at this;cases F with
    | box T cs=>obtain⟨ds,rfl⟩:=q.kind; rfl
    | arr T fr t xs v=>obtain⟨ds,rfl⟩:=q.kind; rfl
    | grd=>cases this
 have hS:Sat X (up G w' o'):=by
  refine⟨S.base,j.os.trans S.os,j.tape.trans S.tape,j.output.trans S.output,Nat.le_trans S.size j.size,fun i hi aJ=>?_,fun id u V=>?_,fun id aA u aC c E aI Q aL=>?_,fun id u c E Q=>?_,fun id u c E Q=>?_,fun i hi=>?_,S.kfrom,fun id c _ P=>?_,fun i v h=>?_⟩
  ·rw[<- S.block i hi aJ];exact hw.block i (by omega)
  ·obtain⟨F,d,q⟩:=(m id).2 u V;obtain⟨aC,g3,g4⟩:=h2 id F d d;rw[show c7 o' id=some u from V] at g3
   grind
  ·obtain⟨x,d,_⟩:=(m id).2 u E;obtain⟨x',q,_⟩:=(m aA).2 aC aI;exact S.inj id aA x x' c d q Q aL
  ·obtain⟨x,d,_⟩:=(m id).2 u E;exact S.imm id x c d Q
  ·obtain⟨x,d,_⟩:=(m id).2 u E;exact S.own id x c d Q
  ·by_cases e:i=b
   ·subst e;exact hu.g
   ·exact(S.klt i hi).same j.size (hw.block i e)
  ·rw[show c7 (up G w' o').o id=c7 o' id from rfl,aK id] at P;cases P
  ·obtain⟨bb,d,q⟩:=AVR.sim hM (S.pin i v h);rw[show bb=_ from d] at q
   grind
 have aG:∀e:List (Nat×Sl),(∀t s,c7 e t=some s->(PathP s.p a->AVR G s.a (a.tmps.getD t undef))/\(¬PathP s.p a->a.tmps.getD t undef=undef))->∃e',KM e e'/\∀t f,c7 e' t=some f->(PathP f.p a->AVR (up G w' o') f.a (a.tmps.getD t undef))/\(¬PathP f.p a->a.tmps.getD t undef=undef):=by
  intro e he
  -- the slots that are seen turn, the hidden ones stay
  have aF:∀l:List (Nat×Sl),∃y,KM l y/\∀t s,c7 l t=some s->c7 e t=some s->∃f,c7 y t=some f/\(PathP f.p a->AVR (up G w' o') f.a (a.tmps.getD t undef))/\(¬PathP f.p a->a.tmps.getD t undef=undef):=by
   intro l
   induction l with
   | nil=>exact⟨[],rfl,fun _ _ h=>by cases h⟩
   | cons x r ih =>
     obtain⟨Y,p0,W⟩:=x;obtain⟨r',z,h4⟩:=ih;by_cases hv:c7 e Y=some ⟨p0,W⟩/\PathP p0 a
     ·obtain⟨q1,q2⟩:=he Y _ hv.1;obtain⟨a1,d,q⟩:=AVR.sim hM (q1 hv.2);refine⟨(Y,⟨p0,a1⟩) :: r',⟨a1,r',rfl,d,z⟩,fun t s H aD=>?_⟩;rw[lK] at H ⊢
      grind
     ·refine⟨(Y,⟨p0,W⟩) :: r',⟨W,r',rfl,HavA.refl W,z⟩,fun t s H aD=>?_⟩;rw[lK] at H ⊢
      grind
  obtain⟨e',z,h4⟩:=aF e;refine⟨e',z,fun t f aB=>?_⟩;have:∀{l y:List (Nat×Sl)},KM l y->∀{f},c7 y t=some f->∃s,c7 l t=some s:=by
   intro l
   induction l with
   | nil=>intro y hl f h; rw[show y=[] from hl] at h; cases h
   | cons x r ih =>
     obtain⟨Y,p0,W⟩:=x;rintro y ⟨b1,r',rfl,d,q⟩ f h;rw[lK] at h ⊢
     grind
  obtain⟨s,H⟩:=this z aB;obtain⟨s2,d,q⟩:=h4 t s H H;rw[aB] at d;cases d;exact q
 obtain⟨e',z,h4⟩:=aG e hE.val;exact⟨o',e',h1,z,hS,hE.defers,hE.size,h4⟩
theorem p0f{w:World}{b:Nat}{a:Array Value}{T:TypeId}{k:IntKind}{o:Nat}{x y:Int}(j:w.heap[b]?=some (.cells a T (0,0)))(i:a[o]?=some (.int k x))(l:lo k<=y/\y<=hi k):OP k w (w.setRow b (B3 a.toList o [.int k y]).toArray):=by
 intro d f u c;by_cases g:d=b
 ·subst g;unfold World.cell? at c ⊢;rw[show(⟨d,f,none⟩:Addr).block=d from rfl] at c ⊢;rw[j] at c;rw[setRow_heap w d a _ T (0,0) j];simp only[Option.isSome_none,Bool.false_eq_true,if_false] at c ⊢;have m:o<a.toList.length:=by
   rcases Nat.lt_or_ge o a.size with h | h
   ·omega
   ·grind
  rw[List.getElem?_toArray];unfold B3;rw[<- Array.getElem?_toList] at c i;by_cases e:f=o
  ·subst e;rw[i] at c;cases c;refine⟨.int k y,?_,.inr ⟨x,y,rfl,rfl,l⟩⟩
   grind
  ·refine⟨u,?_,.inl rfl⟩;rcases Nat.lt_or_ge f o with h | h
   ·rw[List.append_assoc,List.getElem?_append_left (by rw[List.length_take]; omega),List.getElem?_take_of_lt h];exact c
   ·rw[List.getElem?_append_right (by rw[List.length_append,List.length_take]; simp; omega),List.length_append,List.length_take,List.getElem?_drop,<- c];congr 1;simp only[List.length_cons,List.length_nil];omega
 ·unfold World.cell? at c ⊢;rw[show(⟨d,f,none⟩:Addr).block=d from rfl] at c ⊢;rw[XV w b d _ g];exact⟨u,c,.inl rfl⟩
def OQ:Ty->Option IntKind
 | .int k=>some k
 | .pr a _=>OQ a
 | _=>none
theorem k0t{K:Nat->Prop}{w:World}{k:IntKind}:∀{t:Ty} {cs:List Value} {x:j7 t},OQ t=some k->RT K w t cs x->∃v,cs[0]?=some (.int k v)
 | .int k',cs,x,h,hr=>by
   cases h;exact⟨x,by rw[hr.1]; rfl⟩
 | .pr a b,cs,x,h,⟨c,d,e,h1,h2⟩=>by
   obtain⟨v,f⟩:=k0t (t:=a) h h1;refine⟨v,?_⟩;rw[e];cases c with
   | nil=>simp at f
   | cons y r=>simpa using f
def OR:List (Nat×Ob)->Bool
 | []=>true
 | (_,.grd ..) :: _=>false
 | _ :: r=>OR r
theorem ZB:∀{o:List (Nat×Ob)},OR o=true->∀i,H4 (c7 o i)=false
 | [],_,_=>rfl
 | (j,ob) :: r,h,i=>by
   rw[lK];cases ob with
   | grd=>cases h
   | box T a =>
     split
     ·rfl
     ·exact ZB (o:=r) h i
   | arr =>
     split
     ·rfl
     ·exact ZB (o:=r) h i
def evH(n:Nat)(Γ:p5)(T:List Ct)(l:List Oper)(i:Nat)(st:St):Option (Prop×St) :=
 bif I4 n 0 [] l&&J3 st.e then(match O2 Γ T l (l.take i) st [] with
  | some (V,st1,_)=>(match B8 l i with
    | some ⟨none,.store ti x y,_,_,_,none⟩=>(match rd st1 [] x,rd st1 [] y,c7 Γ ti with
      | some (.d true (.pt e) _),some (.d _ (.int k') _),some tt=>bif J3 st1.e&&OR st1.o&&Nat.beq tt.size 1&&decide (OQ e=some k') then some (V,st1) else none
      | _,_,_=>none)
    | _=>none)
  | none=>none) else none
def N0p(Γ:p5)(T:List Ct)(l:List Oper)(i:Nat)(keep:List Nat)(st2:St):Option (Prop×St):=bif J3 st2.e then(match O2 Γ T l (l.drop (i+1)) st2 [] with
 | some (W,st3,_)=>some (W,cut keep st3)
 | none=>none) else none
theorem B0W{X:Cx}{G:Gh}{a:Act}{st:St}{Γ:p5}(E:x7 X.P Γ){ops:Array Oper}{Q:Exit->Act->World->Prop}{K:Act->World->Prop}(S:Sat X G)(ho:G.o=st.o)(z:EnvR X.n G st.e a)(j:X.base=X.w0.heap.size)
  {r ty:TypeId} {x y:Operand} {l:String} {c:Array Edge} {k:IntKind} {e:Ty} {x0:j7 (.pt e)} {fr:Bool} {F:j7 (.int k)} {tt:TI} (hx:rd st [] x=some (.d true (.pt e) x0)) (he:OQ e=some k) (hy:rd st [] y=some (.d fr (.int k) F)) (ht:c7 Γ r=some tt) (hs:tt.size=1) (hg:OR st.o=true)
  (hK:∀st' a' G',ZA st st'->Sat X G'->G'.o=st'.o->EnvR X.n G' st'.e a'->K a' G'.w):O0 X.P ops Q ⟨none,.store r x y,ty,l,c,none⟩ K a G.w:=by
 obtain⟨b,o,ds,q,⟨i,aA⟩,W,hd⟩:=C8 z (p:=[]) (fun _ h=>by cases h) hx;obtain⟨m,aC⟩:=C8 z (p:=[]) (fun _ h=>by cases h) hy;obtain⟨v0,Y⟩:=k0t he hd;have t:X.w0.heap.size<=b:=by
  have:=aA rfl;rw[S.base.1,j] at this;exact this
 obtain⟨g,T,f⟩:=(S.klt b i).2 t;have u:=W 0 _ Y;rw[Nat.add_zero] at u;have aB:g[o]?=some (.int k v0):=by
  unfold World.cell? at u;rw[show(⟨b,o,none⟩:Addr).block=b from rfl,f] at u;simpa using u
 have aD:o<g.size:=by
  rcases Nat.lt_or_ge o g.size with h | h
  ·exact h
  ·grind
 haveI:Info X.P r tt.size tt.bytes tt.zero:=⟨(E r _ ht).1⟩
 have hB:Blk G.w b g.toList T:=by unfold Blk; simpa using f
 have m:a.eval y=.int k F:=by simpa using m
 have q:a.eval x=.pointer (some ⟨b,o,none⟩):=by simpa using q
 have H:=Sk (P:=X.P) (T:=r) (o:=o) (vs:=[.int k F]) (v:=a.eval y) (by rw[m]; rfl) (by grind) rfl hB (by grind);have s:=SN (ty:=ty) q H;have hM:=p0f f aB aC;have aF:b<G.w.heap.size:=(S.klt b i).lt;obtain⟨o',e',h1,h2,h3,h4⟩:=S.hav hM (Sj G.w b _) i t ⟨_,T,setRow_heap G.w b g _ T (0,0) f⟩ (fun id=>by grind[ZB]) z;unfold O0;have V:Region.wanted ⟨none,.store r x y,ty,l,c,none⟩ (yielded ops a.tmps)=true:=rfl;rw[if_pos V];unfold Oper.wp;rw[s none l c none];exact hK ⟨e',o'⟩ _ _ ⟨e',o',rfl,h2,by grind⟩ h3 rfl h4
theorem zH[Alw]{P:Program}{n:Nat}{y:World×(Nat->Prop)×(Nat->Prop)×(Nat->Value->Prop)×Nat}{st:St}{Q:Exit->Act->World->Prop}{Γ:p5}{T:List Ct}{r:Unit}(e:x7 P Γ)(hT:∀c∈T,Ok P c)(d:(cx P n y).base=(cx P n y).w0.heap.size){f:Type}
  (i:Nat) (b:List Nat) (j:St) (E:f->St) (S:f->St) (W:f->Prop) {V:Prop} [Decidable V] {p:f->Prop} {g:f->Option Unit} {id:Nat} {l:List Oper} (H:gd V (Alw.alp p g)=some r) (h:evH n Γ T l i st=some (V,j)) (hS:∀st2,ZA j st2->∃z,p z/\st2=E z)
  (h2:∀z,N0p Γ T l i b (E z)=some (W z,S z)) (hc:∀z,g z=some r->W z/\FX (cx P n y) (S z) .normal Q):VX (cx P n y) st (.region id l.toArray false) Q:=by
 obtain⟨hV,F⟩:=K9 H;have HH:=Alw.alp_some F;clear F H;unfold evH at h;rw[ce] at h;split at h
 ·rename_i q;rw[ba] at q;split at h
  ·rename_i V1 Y aA g1;split at h
   ·rename_i ti x yy ty aC v hn;split at h
    ·rename_i e0 x0 fr k y0 tt hx hy ht;rw[ce] at h;split at h
     ·rename_i m;simp only[ba,dq] at m;obtain⟨⟨⟨u,s⟩,w⟩,o⟩:=m;simp only[oi,pj] at h;obtain⟨rfl,rfl⟩:=h;refine Zx (X:=cx P n y) e hT b q.1 q.2 g1 hV hn u fun _ G a S' ho hE K hK=>?_;refine B0W e S' ho hE d hx o hy ht (nb w) s fun t a' G' m aD aF aB=>?_;obtain⟨z,hz,rfl⟩:=hS t m;have h3:=h2 z;unfold N0p at h3
      grind
     grind
    grind
   grind
  grind
 grind
def N0o(n:Nat)(Γ:p5)(T:List Ct)(l:List Oper)(i:Nat)(st:St):Option (Prop×St) :=
 bif I4 n 0 [] l&&AT 0 l&&J3 st.e&&Nat.beq (i+1) l.length then(match O2 Γ T l (l.take i) st [] with
  | some (V,st1,rs1)=>bif It (J2 [] l) rs1.reverse&&(List.range i).all fun k=>M6 k ((B8 (J2 [] l) i).getD []) then(match B8 l i with
    | some ⟨none,.store ti x y,_,_,_,none⟩=>(match rd st1 [] x,rd st1 [] y,c7 Γ ti with
      | some (.d true (.pt e) _),some (.d _ (.int k') _),some tt=>bif J3 st1.e&&OR st1.o&&Nat.beq tt.size 1&&decide (OQ e=some k') then some (V,st1) else none
      | _,_,_=>none)
    | _=>none) else none
  | none=>none) else none
theorem VT[Alw]{P:Program}{n:Nat}{y:World×(Nat->Prop)×(Nat->Prop)×(Nat->Value->Prop)×Nat}{st:St}{Q:Exit->Act->World->Prop}{Γ:p5}{T:List Ct}{r:Unit}(t:x7 P Γ)(hT:∀c∈T,Ok P c)[hm:K1 P](e:(cx P n y).base=(cx P n y).w0.heap.size){Y:Type}
  (i:Nat) (b:List Nat) (q:St) (E:Y->St) (S:Y->St) (W:Y->Prop) {V:Prop} [Decidable V] {p:Y->Prop} {g:Y->Option Unit} {id:Nat} {l:List Oper} (H:gd V (Alw.alp p g)=some r) (h:N0o n Γ T l i st=some (V,q)) (hS:∀st2,ZA q st2->∃z,p z/\st2=E z)
  (h2:∀z,some (True,cut b (E z))=some (W z,S z)) (hc:∀z,g z=some r->W z/\FX (cx P n y) (S z) .normal Q):VX (cx P n y) st (.region id l.toArray true) Q:=by
 obtain⟨hV,H0⟩:=K9 H;have HH:=Alw.alp_some H0;clear H0 H;unfold N0o at h;rw[ce] at h;split at h
 ·rename_i hb;simp only[ba] at hb;obtain⟨⟨⟨aO,aD⟩,aF⟩,aL⟩:=hb;have aT:i+1=l.length:=nb aL;split at h
  ·rename_i V1 aA aG g1;rw[ce] at h;split at h
   ·rename_i aJ;rw[ba,List.all_eq_true] at aJ;split at h
    ·rename_i ti x yy ty aV aI hn;split at h
     ·rename_i e0 x0 fr k y0 tt hx hy ht;rw[ce] at h;split at h
      ·rename_i hh;simp only[ba,dq] at hh;obtain⟨⟨⟨aX,aK⟩,aM⟩,aN⟩:=hh;simp only[oi,pj] at h;obtain⟨rfl,rfl⟩:=h;intro G a S' ho hE;obtain⟨el,aW,aS⟩:=Zw hn;have aP:l.drop (i+1)=[]:=List.drop_eq_nil_of_le (by omega);rw[aP] at el;obtain⟨recs,e1,e2,e3,e4⟩:=Bw (Ap (K:=fun d rs=>d=aA/\rs=aG) g1 hV ⟨rfl,rfl⟩);rw[List.append_nil] at e4;have F:recs.length=i:=by grind
       refine wp_region_any hm.h ?_;have f:Ext G.w { G.w with drawn:=G.w.drawn+1 }:=(Below.refl _ _).drew;obtain⟨S1,L1⟩:=S'.ext f;have m:∀{recs:List A8} {i:Nat} {st:St},B0 (fun k=>(Array.replicate l.length false).getD k false) i recs st=st:=by
        have aR:∀j,(Array.replicate l.length false).getD j false=false:=fun j=>by
         by_cases hj:j<l.length <;> simp[hj]
        intro recs
        induction recs with
        | nil=>intro i st; rfl
        | cons R r ih=>grind[B0]
       have:=n0y (X:=cx P n y) t hT (Q:=Q) (l:=l) (recs:=recs) (ol:=_) (st:=st) (by rw[e1]; exact el.symm) e2 (Bx aF) aO aD (by grind) (fun k hk=>by grind) (fun G' a' S2 aB s K hK=>by
         rw[e3] at aB s;refine B0W t S2 aB s e hx aN hy ht (nb aM) aK fun d a2 G2 hh aH aQ aC=>hK _ _ ?_;obtain⟨z,hz,rfl⟩:=hS d hh;have h3:=h2 z;simp only[oi,pj] at h3;obtain⟨G3,S3,v,aU,u⟩:=Iu b aH aQ aC;rw[h3.2] at v u;have:=(hc z (HH z hz)).2 G3 a2 S3 v u
         grind) l.length (Array.replicate l.length false) { G with w:={ G.w with drawn:=G.w.drawn+1 } } a
        (by grind) (by simp) (by rw[F]; simp[show i<l.length by omega]) (fun j o _ hD=>by
          by_cases hj:j<l.length
          ·simp[hj] at hD
          grind) S1 (fun id=>by grind) (by rw[m]; exact hE.mono L1)
       omega
      grind
     grind
    grind
   grind
  grind
 grind
def grd(j:Nat)(b:Bool)(o:Oper):Oper:={ o with guard:=some (j,b) }
theorem F0G{P:Program}{o:Oper}{j:Nat}{b:Bool}{a:Act}{w:World}{K:Act->World->Prop}{Q:Exit->Act->World->Prop}(h:o.wp P a w K Q):(grd j b o).wp P a w K Q:=h
theorem q0b{X:Cx}{Γ:p5}{T:List Ct}(u:x7 X.P Γ)(hT:∀c∈T,Ok X.P c){ops:Array Oper}{all:List Oper}(ha:ops=all.toArray){Q:Exit->Act->World->Prop}{rest:List Oper}{j:Nat}{oj:Oper}{v:Nat}{b f:Bool}(hj:B8 all j=some oj)(m:oj.dst=some v) :
  ∀(recs:List A8) (i:Nat) (seen:List Nat) (st:St) (G:Gh) (a:Act),(∀R∈recs,R.o.guard=none)->I4 X.n i seen (recs.map (·.o))=true->v∈seen->(∀t s,c7 st.e t=some s->∀x∈s.p,x.1∈seen)->c7 st.e v=some ⟨[],.d f .bool b⟩->Gq Γ T all st recs->Sat X G->G.o=st.o->EnvR X.n G st.e a ->
  (∀G' a',Sat X G'->G'.o=(recs.foldl C1 st).o->EnvR X.n G' (recs.foldl C1 st).e a'->wpList X.P ops Q rest a' G'.w)->wpList X.P ops Q (recs.map (fun R=>grd j b R.o)++rest) a G.w
 | [],i,seen,st,G,a,_,_,_,_,_,_,S,ho,hE,hK=>hK G a S ho hE
 | R :: r,i,seen,st,G,a,hgu,hreg,hdjs,hpath,hsl,⟨hp,⟨q,hab,hq⟩,hg,hrun⟩,S,ho,hE,hK=>by
   have z:=hgu R (by simp);have aC:R.p=[]:=by
    unfold Bv at hp;rw[z] at hp;simpa using hp.symm
   simp only[List.map_cons,I4,ba] at hreg;obtain⟨⟨k,-⟩,V⟩:=hreg;have g:∀d,R.o.dst=some d->d<X.n/\d ∉ seen:=fun d l=>by
    rw[l] at k;simp only[ba] at k;exact⟨by simp_all,Io k.2⟩
   have l:∀d,R.o.dst=some d->d<X.n/\(∀x∈R.p,x.1≠d)/\∀t s,c7 st.e t=some s->∀x∈s.p,x.1≠d:=fun d l=>⟨(g d l).1,fun x Y=>by grind,fun t s E x Y e=>(g d l).2 (e ▸ hpath t s E x Y)⟩
   have F:∀{x:Nat},x∈seen->x∈(match R.o.dst with | some d=>d :: seen | none=>seen):=fun h=>by
    grind
   have y:=Ot (K:=wpList X.P ops Q (r.map (fun R=>grd j b R.o)++rest)) u hT ha (Q:=Q) S ho hE hp hab hq hg l (fun a' G' S' _ aB W=>by
    refine q0b (f:=f) u hT ha hj m r (i+1) _ (C1 st R) G' a' (fun R' aD=>hgu R' (by grind)) V (F hdjs) ?_ ?_ hrun S' aB W hK
    ·intro t s E x Y;simp only[C1,Cg] at E;split at E
     ·grind[lK]
     grind
    ·simp only[C1,Cg];split
     ·rename_i d av H _;rw[lK,if_neg (fun(e:d=v)=>(g d H).2 (by grind))];omega
     omega)
   have hv:=(hE.val v _ hsl).1 (fun _ h=>by cases h);have e:=Bs hv;have hy:=Yw (a:=a) ha hj m;rw[e] at hy;simp only at hy;have hw:Region.wanted (grd j b R.o) (yielded ops a.tmps)=true:=by simp[Region.wanted,grd,hy]
   have aA:Region.wanted R.o (yielded ops a.tmps)=true:=by simp[Region.wanted,z]
   unfold O0 at y;rw[if_pos aA] at y;simp only[List.map_cons,List.cons_append];refine IG ?_;unfold O0;rw[if_pos hw]
   grind[F0G]
def ZC(dj:Nat)(b:Bool):List (Nat×AV)->List (Nat×Sl)->List (Nat×Sl)
 | [],e=>e
 | (d,v) :: r,e=>ZC dj b r ((d,⟨[(dj,b)],v⟩) :: e)
def TA(n:Nat)(seen:List Nat):List Oper->List (Nat×AV)->Bool
 | [],[]=>true
 | o :: r,(d,_) :: s=>(match o.dst with | some d'=>Nat.beq d' d | none=>false)&&Nat.blt d n&&Gm d seen&&TA n (d :: seen) r s
 | _,_=>false
theorem m0G{X:Cx}{ops:Array Oper}{all:List Oper}(W:ops=all.toArray){Q:Exit->Act->World->Prop}{rest:List Oper}{j:Nat}{H:Oper}{c:Nat}{b f:Bool}(V:B8 all j=some H)(k:H.dst=some c) :
  ∀(l:List Oper) (dm:List (Nat×AV)) (seen:List Nat) (e:List (Nat×Sl)) (G:Gh) (a:Act),TA X.n seen l dm=true->c∈seen->(∀t s,c7 e t=some s->∀x∈s.p,x.1∈seen)->c7 e c=some ⟨[],.d f .bool (!b)⟩->EnvR X.n G e a ->
  (∀a',EnvR X.n G (ZC c b dm e) a'->wpList X.P ops Q rest a' G.w)->wpList X.P ops Q (l.map (grd j b)++rest) a G.w
 | [],[],seen,e,G,a,_,_,_,_,hE,hK=>hK a hE
 | [],_ :: _,_,_,_,_,h,_,_,_,_,_=>by cases h
 | _ :: _,[],_,_,_,_,h,_,_,_,_,_=>by cases h
 | o :: r,(d,v) :: s,seen,e,G,a,h,hdjs,hpath,hsl,hE,hK=>by
   simp only[TA,ba] at h;obtain⟨⟨⟨T,y⟩,m⟩,h4⟩:=h;have u:o.dst=some d:=by
    split at T
    ·simp_all
    ·cases T
   have y:d<X.n:=by simpa using y
   have m:=Io m;have Y:=(hE.val c _ hsl).1 (fun _ h=>by cases h);have ev:=Bs Y;have F:=Yw (a:=a) W V k;rw[ev] at F;simp only at F;have hw:Region.wanted (grd j b o) (yielded ops a.tmps)=false:=by
    grind[Region.wanted,grd]
   simp only[List.map_cons,List.cons_append];refine IG ?_;unfold O0;rw[if_neg (by grind)];have E:¬PathP [(c,b)] a:=fun hp=>by
    have:=hp (c,b) (by simp);simp only at this;rw[ev] at this;cases b <;> simp at this
   have z:EnvR X.n G ((d,⟨[(c,b)],v⟩) :: e) (a.put (grd j b o).dst undef):=by
    show EnvR X.n G _ (a.put o.dst undef);rw[u];exact EnvR.put (st:=⟨e,[]⟩) (p:=[(c,b)]) hE y (fun x g q=>by
     simp only[List.mem_singleton] at g;subst g;exact m (by rw[<- (show c=d from q)]; exact hdjs)) (fun t s i x g q=>m (q ▸ hpath t s i x g)) ⟨fun h=>(E h).elim,fun _=>rfl⟩
   exact m0G (f:=f) W V k r s (d :: seen) _ G _ h4 (List.mem_cons_of_mem _ hdjs) (fun t s' i x g=>by
    rw[lK] at i;split at i
    ·cases i;simp only[List.mem_singleton] at g;subst g;exact List.mem_cons_of_mem _ hdjs
    ·exact List.mem_cons_of_mem _ (hpath t s' i x g)) (by
    rw[lK,if_neg (fun(q:d=c)=>m (by rw[q]; exact hdjs))];exact hsl) z hK
def TB(seen:List Nat)(e:List (Nat×Sl)):Bool:=e.all fun x=>x.2.p.all fun y=>M6 y.1 seen
theorem j0c{a:List Nat}{e:List (Nat×Sl)}(h:TB a e=true):∀t s,c7 e t=some s->∀x∈s.p,x.1∈a:=by
 intro t s b x c;have:∃z∈e,z.2=s:=by
  clear h
  induction e with
  | nil=>cases b
  | cons y r d =>
    grind[lK,List.mem_cons_self,List.mem_cons_of_mem]
 obtain⟨z,hz,rfl⟩:=this
 grind[TB,List.all_eq_true,P5]
def As:List Oper->List Nat
 | []=>[]
 | o :: r=>match o.dst with
   | some d=>d :: As r
   | none=>As r
theorem ZD{d:Nat}{l:List Oper}{o:Oper}(h:o∈l)(a:o.dst=some d):d∈As l:=by
 induction l with
 | nil=>cases h
 | cons x r b =>
   grind[As,List.mem_cons_self,List.mem_cons_of_mem]
def GA(o:Oper):Oper:={ o with guard:=none }
def ZE(j:Nat)(b:Bool)(o:Oper):Bool:=match o.guard with
 | some (j',b')=>Nat.beq j j'&&(b==b')
 | none=>false
theorem E0u{j:Nat}{b:Bool}{o:Oper}(h:ZE j b o=true):grd j b (GA o)=o:=by
 unfold ZE at h;split at h
 ·rename_i e d f;rw[ba] at h;have c:=nb h.1;have a:b=d:=by simpa using h.2
  subst c; subst a;unfold grd GA;cases o
  grind
 grind
def M9(dj:Nat)(e:Bool)(st:St):St:=⟨(dj,⟨[],.d false .bool e⟩) :: st.e,st.o⟩
def KN:List Nat->St->Option St
 | [],st=>some st
 | i :: r,st=>bif Nat.blt i 500000 then(match Gz i st with
   | some st'=>KN r st'
   | none=>none) else none
theorem ZF{X:Cx}{a:Act}:∀{ids:List Nat} {st st':St} {G:Gh},KN ids st=some st'->Sat X G->G.o=st.o->EnvR X.n G st.e a->∃G',Sat X G'/\G'.o=st'.o/\G'.w=G.w/\EnvR X.n G' st'.e a
 | [],st,st',G,h,S,ho,hE=>by
   simp only[KN,oi] at h
   grind
 | i :: r,st,st',G,h,S,ho,hE=>by
   unfold KN at h;rw[ce] at h;split at h
   ·rename_i hi;split at h
    ·rename_i g d;obtain⟨s,m,c,k,b⟩:=Zn d hi S ho hE;obtain⟨G3,q,l,f,j⟩:=ZF h m c b
     grind
    grind
   grind
def TC(n:Nat)(Γ:p5)(T:List Ct)(l:List Oper)(i:Nat)(ids keep:List Nat)(st:St):Option (Prop×St) :=
 bif I4 n 0 [] l&&J3 st.e&&Nat.ble i l.length&&I4 n i (As (l.take i)) (l.drop i) then(match O2 Γ T l (l.take i) st [] with
  | some (V,st1,_)=>(match KN ids st1 with
    | some st2=>bif J3 st2.e then(match O2 Γ T l (l.drop i) st2 [] with
      | some (W,st3,_)=>some (V/\W,cut keep st3)
      | none=>none) else none
    | none=>none)
  | none=>none) else none
theorem zF{P:Program}{n:Nat}{y:World×(Nat->Prop)×(Nat->Prop)×(Nat->Value->Prop)×Nat}{st:St}{Q:Exit->Act->World->Prop}{Γ:p5}{T:List Ct}{ρ:Type}{r:ρ}(k:x7 P Γ)(hT:∀c∈T,Ok P c)(i:Nat)(aH d:List Nat)(S':St){V:Prop}[Decidable V]{e:Option ρ}{id:Nat}{l:List Oper}(H:gd V e=some r)
  (h:TC n Γ T l i aH d st=some (V,S')) (E:e=some r->FX (cx P n y) S' .normal Q):VX (cx P n y) st (.region id l.toArray false) Q:=by
 obtain⟨hV,H⟩:=K9 H;have E:=E H;unfold TC at h;rw[ce] at h;split at h
 ·rename_i hb;simp only[ba] at hb;obtain⟨⟨⟨F,aM⟩,aF⟩,aP⟩:=hb;split at h
  ·rename_i V1 Y aN g1;split at h
   ·rename_i aB g2;rw[ce] at h;split at h
    ·rename_i aO;split at h
     ·rename_i W aG aL g3;simp only[oi,pj] at h;obtain⟨rfl,rfl⟩:=h;intro G a S ho hE;have hi:i<=l.length:=Nat.le_of_ble_eq_true aF;have aQ:(l.take i).length=i:=by rw[List.length_take]; omega
      refine wp_region_lit ?_;have w:=F;rw[<- List.take_append_drop i l] at w;obtain⟨k1,-⟩:=Zv w;obtain⟨b,e1,e2,e3⟩:=Bw (Ap (K:=fun f _=>f=Y) g1 hV.1 rfl);have aK:b.length=i:=by grind
      have:=Is (X:=cx P n y) k hT (ops:=l.toArray) (all:=l) rfl (Q:=Q) (rest:=l.drop i) b 0 [] st G a (fun q hq=>by
        rw[Nat.zero_add,<- List.getElem?_map,e1,List.getElem?_take_of_lt (by omega)]) (by grind) (fun q oq dq hq=>by omega) (fun t s ht x hx=>by grind[Bx]) e2 S ho hE
       (fun G1 a1 S1 u v=>by
         rw[e3] at u v;obtain⟨G2,S2,aI,aD,z⟩:=ZF g2 S1 u v;rw[<- aD];obtain⟨g,f1,f2,f3⟩:=Bw (Ap (K:=fun f _=>f=aG) g3 hV.2 rfl);have:=Is (X:=cx P n y) k hT (ops:=l.toArray) (all:=l) rfl (Q:=Q) (rest:=[]) g i _ aB G2 a1 (fun q hq=>by
           rw[<- List.getElem?_map,f1,List.getElem?_drop]) (by rw[f1]; omega) (fun q oq dq hq q1 q2=>by
           refine ZD (o:=oq) ?_ q2;rw[List.mem_iff_getElem?];exact⟨q,by grind⟩) (fun t s ht x hx=>by grind[Bx]) f2 S2 aI z
          (fun G3 a3 S3 m j=>by
            rw[f3] at m j;obtain⟨G4,S4,aJ,aA,aC⟩:=Iu d S3 m j;have:=E G4 a3 S4 aJ aC
            rwa [aA] at this)
         grind)
      simp_all
     grind
    grind
   grind
  grind
 grind
def N0q(n:Nat)(Γ:p5)(T:List Ct)(l:List Oper)(i:Nat)(ids keep:List Nat)(st:St):Option (Prop×St) :=
 bif I4 n 0 [] l&&AT 0 l&&J3 st.e&&Nat.beq (i+1) l.length then(match O2 Γ T l (l.take i) st [] with
  | some (V,st1,rs1)=>bif It (J2 [] l) rs1.reverse&&(List.range i).all fun k=>M6 k ((B8 (J2 [] l) i).getD []) then(match B8 l i with
    | some o=>(match o.dst,o.guard,KN ids st1 with
      | none,none,some st2=>(match O2 Γ T l [o] st2 [] with
        | some (W,st3,_)=>some (V/\W,cut keep st3)
        | none=>none)
      | _,_,_=>none)
    | none=>none) else none
  | none=>none) else none
theorem zFD{P:Program}{n:Nat}{y:World×(Nat->Prop)×(Nat->Prop)×(Nat->Value->Prop)×Nat}{st:St}{Q:Exit->Act->World->Prop}{Γ:p5}{T:List Ct}{ρ:Type}{r:ρ}(x:x7 P Γ)(hT:∀c∈T,Ok P c)[hm:K1 P](i:Nat)(aQ f:List Nat)(Y:St){V:Prop}[Decidable V]{e:Option ρ}{id:Nat}{l:List Oper}(H:gd V e=some r)
  (h:N0q n Γ T l i aQ f st=some (V,Y)) (hc:e=some r->FX (cx P n y) Y .normal Q):VX (cx P n y) st (.region id l.toArray true) Q:=by
 obtain⟨hV,H⟩:=K9 H;have hc:=hc H;unfold N0q at h;rw[ce] at h;split at h
 ·rename_i hb;simp only[ba] at hb;obtain⟨⟨⟨aH,aA⟩,aM⟩,aG⟩:=hb;have aW:i+1=l.length:=nb aG;split at h
  ·rename_i V1 aK aB g1;rw[ce] at h;split at h
   ·rename_i aP;rw[ba,List.all_eq_true] at aP;split at h
    ·rename_i o hn;split at h
     ·rename_i aL aS aY aC;split at h
      ·rename_i W b aT g3;simp only[oi,pj] at h;obtain⟨rfl,rfl⟩:=h;intro G a Y ho hE;obtain⟨el,aX,aU⟩:=Zw hn;have aO:l.drop (i+1)=[]:=List.drop_eq_nil_of_le (by omega);rw[aO] at el;obtain⟨recs,e1,e2,e3,e4⟩:=Bw (Ap (K:=fun m rs=>m=aK/\rs=aB) g1 hV.1 ⟨rfl,rfl⟩);rw[List.append_nil] at e4;have z:recs.length=i:=by grind
       obtain⟨g,f1,f2,f3⟩:=Bw (Ap (K:=fun m _=>m=b) g3 hV.2 rfl);obtain⟨R,rfl⟩:∃R,g=[R]:=by
        grind[List.length_map,List.length_eq_one_iff]
       simp only[List.map_cons,List.map_nil,List.cons.injEq,and_true] at f1;subst f1;obtain⟨q1,⟨q,q2,q3⟩,q4,_⟩:=f2;refine wp_region_any hm.h ?_;have E:Ext G.w { G.w with drawn:=G.w.drawn+1 }:=(Below.refl _ _).drew;obtain⟨S1,L1⟩:=Y.ext E;have u:∀{recs:List A8} {i:Nat} {st:St},B0 (fun k=>(Array.replicate l.length false).getD k false) i recs st=st:=by
        have aR:∀j,(Array.replicate l.length false).getD j false=false:=fun j=>by
         by_cases hj:j<l.length <;> simp[hj]
        intro recs
        induction recs with
        | nil=>intro i st; rfl
        | cons R r ih=>grind[B0]
       have:=n0y (X:=cx P n y) x hT (Q:=Q) (l:=l) (recs:=recs) (ol:=R.o) (st:=st) (by grind) e2 (Bx aM) aH aA (by grind) (fun k hk=>by grind) (fun G' a' S2 F v K hK=>by
         rw[e3] at F v;obtain⟨G2,S3,aF,aI,aD⟩:=ZF aC S2 F v;rw[<- aI];refine Ot (X:=cx P n y) (K:=K) x hT (ops:=l.toArray) (all:=l) rfl (Q:=Q) S3 aF aD q1 q2 q3 q4 (fun d hd=>by grind) fun a3 G3 S4 _ t s=>hK _ _ ?_;have f3:C1 aL R=b:=f3;have t:G3.o=b.o:=by rw[<- f3]; exact t
         have s:EnvR n G3 b.e a3:=by rw[<- f3]; exact s
         obtain⟨G5,S5,aN,aV,aJ⟩:=Iu f S4 t s;have:=hc G5 a3 S5 aN aJ
         grind) l.length (Array.replicate l.length false) { G with w:={ G.w with drawn:=G.w.drawn+1 } } a
        (by grind) (by simp) (by rw[z]; simp[show i<l.length by omega]) (fun j o _ hD=>by
          by_cases hj:j<l.length
          ·simp[hj] at hD
          grind) S1 (fun id=>by grind) (by rw[u]; exact hE.mono L1)
       omega
      grind
     grind
    grind
   grind
  grind
 grind
def nx(o:Option (Prop×St)):St:=match o with
 | some (_,s)=>s
 | none=>⟨[],[]⟩
theorem Dd{o:Option (Prop×St)}{V:Prop}(h:o.map Prod.fst=some V):o=some (V,nx o):=by
 cases o with
 | none=>cases h
 | some x =>
   cases h;rfl
section
variable {P:Program} {n:Nat} {y:World×(Nat->Prop)×(Nat->Prop)×(Nat->Value->Prop)×Nat} {st:St} {Q:Exit->Act->World->Prop} {Γ:p5} {T:List Ct} {ρ:Type} {r:ρ}
theorem jA[a:HG P Γ][d:HT P T][e:K1 P](k:List Nat){id:Nat}{l:List Oper}{b:Bool}(c:FX (cx P n y) (nx (H5 b n Γ T l k st)) .normal Q)(h:(H5 b n Γ T l k st).map Prod.fst=some True:=by kernel_rfl):VX (cx P n y) st (.region id l.toArray b) Q:=za a.h d.h _ _ (Dd h) c
theorem jB[a:HG P Γ][d:HT P T][f:K1 P](k:List Nat){V:Prop}[Decidable V]{e:Option ρ}{id:Nat}{l:List Oper}{b:Bool}(H:gd V e=some r)(c:e=some r->FX (cx P n y) (nx (H5 b n Γ T l k st)) .normal Q)(h:(H5 b n Γ T l k st).map Prod.fst=some V:=by kernel_rfl):VX (cx P n y) st (.region id l.toArray b) Q:=zb a.h d.h _ _ H (Dd h) c
theorem iA[a:HG P Γ][e:HT P T][f:K1 P](k:List Nat){id:Nat}{l:List Oper}{b:Bool}{c:Code}(d:VX (cx P n y) (nx (H5 b n Γ T l k st)) c Q)(h:(H5 b n Γ T l k st).map Prod.fst=some True:=by kernel_rfl):VX (cx P n y) st (.seq (.region id l.toArray b) c) Q:=qa a.h e.h _ _ (Dd h) d
theorem iB[a:HG P Γ][f:HT P T][g:K1 P](k:List Nat){V:Prop}[Decidable V]{e:Option ρ}{id:Nat}{l:List Oper}{b:Bool}{c:Code}(H:gd V e=some r)(d:e=some r->VX (cx P n y) (nx (H5 b n Γ T l k st)) c Q)(h:(H5 b n Γ T l k st).map Prod.fst=some V:=by kernel_rfl):VX (cx P n y) st (.seq (.region id l.toArray b) c) Q:=qb a.h f.h _ _ H (Dd h) d
end
section
variable {P:Program} {Q:Exit->Act->World->Prop} {l:List Oper} {o:Oper}
end
def ZG(d:Nat)(T:TypeId)(t:Ty)(cs:List AV)(st:St):Option St:=match G9 ((d,.box T cs) :: st.o) 24 t cs,Ar d 0 true .bool ([]:List Bool) st.o with
 | some (x,[],_),some o'=>some ⟨(d,⟨[],.d false (.pt t) x⟩) :: Fa d 0 true .bool ([]:List Bool) st.e,o'⟩
 | _,_=>none
def evX(n:Nat)(Γ:p5)(T:List Ct)(l:List Oper)(i:Nat)(keep:List Nat)(t:Ty)(st:St):Option (Prop×St):=bif I4 n 0 [] l&&J3 st.e then(match O2 Γ T l (l.take i) st [] with
    | some (V,st1,_)=>(match B8 l i with
      | some ⟨some d,.box T1 x,_,_,_,none⟩=>(match rd st1 [] x with
        | some v=>(match Cb v with
          | some cs=>bif Al st1.o d&&J3 st1.e&&IF st1.e&&Nat.blt d 500000 then(match ZG d T1 t cs st1 with
            | some st2=>bif J3 st2.e then(match O2 Γ T l (l.drop (i+1)) st2 [] with
              | some (W,st3,_)=>some (V/\W,cut keep st3)
              | none=>none) else none
            | none=>none) else none
          | none=>none)
        | none=>none)
      | _=>none)
    | none=>none) else none
theorem E0Y{X:Cx}{G:Gh}{a:Act}{st f:St}{d:Nat}{T:TypeId}{t:Ty}{cs:List AV}(h:ZG d T t cs st=some f)(hn:IF st.e=true)(hp:J3 st.e=true)(V:Nat.blt d 500000=true)(hd:c7 st.o d=none)(z:d<X.n)(S:Sat X G)(F:G.o=st.o)(y:EnvR X.n G st.e a){us:Array Value}(hA:AVRs G cs us.toList) :
  ∃G',G'.w=G.w.alloc (.cells us T)/\Sat X G'/\G'.o=f.o/\EnvR X.n G' f.e (a.put (some d) (.pointer (some ⟨G.w.heap.size,0,none⟩))):=by
 obtain⟨g,w1,P,W,v,r⟩:=Yo S (T:=T) (by rw[F]; exact hd) hA;have Y:c7 g.o d=some (.box T cs):=by rw[v,lK,if_pos rfl]
 obtain⟨_,b,H,hb⟩:=r;cases hb;obtain⟨b',vs,g1,g2,g3,g4⟩:=P.obs d _ Y;rw[H] at g2;cases g2;unfold ZG at h;split at h
 ·rename_i x fl i l hz;cases h;rw[<- F,<- v] at l;have E:Ar d 0 true .bool ([]:List Bool) g.o=some i:=by
   rw[v,F];unfold Ar;rw[Nat.beq_refl];exact hz
  have j:KI g d 0 true .bool ([]:List Bool) i:=fun u hu=>by
   rcases hu with ⟨_,T1,aB,t1,aC,aA,m,_⟩ | ⟨_,⟨_,_,_,_,_,_,m⟩,_⟩
   ·grind
   grind
  have hB:g.B<=G.w.heap.size:=by
   rw[W.hB];exact Nat.le_trans S.le S.size
  have S2:=Zm P Y (fun k c=>by
   rw[g1] at c;cases c;exact⟨⟨_,_,g3⟩,hB⟩) j E V
  refine⟨Fb g d i,w1,S2,rfl,?_⟩;have Q:=y.mono W;have q:EnvR X.n (Fb g d i) (Fa d 0 true .bool ([]:List Bool) st.e) a:=⟨y.defers,y.size,fun k s c=>by
   obtain⟨b,m,h2⟩:=KJ hn c;obtain⟨h3,h4⟩:=Q.val k _ m
   grind[Tq]⟩
  refine EnvR.put (st:=⟨Fa d 0 true .bool ([]:List Bool) st.e,i⟩) q z (fun _ h=>by cases h) (fun k s c x l=>?_) ⟨fun _=>?_,fun h=>(h (fun _ h=>by cases h)).elim⟩
  ·obtain⟨b,m,_⟩:=KJ hn c;rw[Bx hp k _ m] at l;cases l
  ·have hR:=Gf (K':=(Fb g d i).K) P (fun k c=>.inl c) 24 l (fun _ h=>by cases h) g4;exact⟨_,0,vs,rfl,⟨.inr (.inl g1),fun e=>by cases e⟩,g3.at,RT.up hR (fun k c=>⟨c.1,fun e=>by cases e⟩)⟩
 grind
theorem zX{P:Program}{n:Nat}{y:World×(Nat->Prop)×(Nat->Prop)×(Nat->Value->Prop)×Nat}{st:St}{Q:Exit->Act->World->Prop}{Γ:p5}{T:List Ct}(j:x7 P Γ)(hT:∀c∈T,Ok P c)(i:Nat)(b:List Nat)(t:Ty)(st':St){V W:Prop}{id:Nat}{l:List Oper}
  (h:evX n Γ T l i b t st=some (V/\W,st')) (e:V/\W) (hc:FX (cx P n y) st' .normal Q):VX (cx P n y) st (.region id l.toArray false) Q:=by
 unfold evX at h;rw[ce] at h;split at h
 ·rename_i k;rw[ba] at k;split at h
  ·rename_i V1 aB Y g1;split at h
   ·rename_i d T1 x ty aA o hn;split at h
    ·rename_i v F;split at h
     ·rename_i cs u;rw[ce] at h;split at h
      ·rename_i E;simp only[ba] at E;obtain⟨⟨⟨H,z⟩,f3⟩,f4⟩:=E;split at h
       ·rename_i q r;rw[ce] at h;split at h
        ·rename_i g;split at h
         ·rename_i W1 s f g3;simp only[oi,pj] at h;obtain⟨e1,e2⟩:=h;rw[<- e1] at e;refine Zx (X:=cx P n y) j hT b k.1 k.2 g1 e.1 hn z fun m G a S ho w K hK=>?_;obtain⟨hA,_⟩:=Kq u (C8 w (p:=[]) (fun _ h=>by cases h) F);obtain⟨G',k1,k2,k3,k4⟩:=E0Y r f3 z f4 (DV H) (m _ rfl) S ho w hA;have:=hK q W1 s f G' _ g g3 e.2 (by grind) k2 k3 k4;unfold O0;rw[if_pos (by rfl)];unfold Oper.wp;simp only[execOp];rw[k1] at this;exact this
         grind
        grind
       grind
      grind
     grind
    grind
   grind
  grind
 grind
def VL(X:Cx)(l:List Oper)(i:Nat)(st:St)(Q:Exit->Act->World->Prop):Prop:=∀G a,Sat X G->G.o=st.o->EnvR X.n G st.e a->wpList X.P l.toArray Q (l.drop i) a G.w
theorem VI{X:Cx}{l:List Oper}{id:Nat}{st:St}{Q:Exit->Act->World->Prop}(h:VL X l 0 st Q):VX X st (.region id l.toArray false) Q:=fun G a S c b=>wp_region_lit (h G a S c b)
def TD(n:Nat)(Γ:p5)(T:List Ct)(l:List Oper)(i m:Nat)(st:St):Option (Prop×St):=bif TB (As (l.take i)) st.e&&I4 n i (As (l.take i)) ((l.drop i).take m) then(match O2 Γ T l ((l.drop i).take m) st [] with
    | some (V,st1,_)=>some (V,st1)
    | none=>none) else none
theorem C0m{P:Program}{n:Nat}{y:World×(Nat->Prop)×(Nat->Prop)×(Nat->Value->Prop)×Nat}{st g:St}{Q:Exit->Act->World->Prop}{Γ:p5}{T:List Ct}(j:x7 P Γ)(hT:∀c∈T,Ok P c){l:List Oper}{i m:Nat}{V:Prop}(h:TD n Γ T l i m st=some (V,g))(hV:V)(k:VL (cx P n y) l (i+m) g Q):VL (cx P n y) l i st Q:=by
 intro G a S F v;unfold TD at h;rw[ce] at h;split at h
 ·rename_i u;rw[ba] at u;split at h
  ·rename_i V' f rs E;simp only[oi,pj] at h;obtain⟨rfl,rfl⟩:=h;obtain⟨b,t,w,f3⟩:=Bw (Ap (K:=fun r _=>r=f) E hV rfl);have:=Is (X:=cx P n y) j hT (ops:=l.toArray) (all:=l) rfl (Q:=Q) (rest:=l.drop (i+m)) b i _ st G a (fun q W=>by
     have s:q<m:=by
      have:=congrArg List.length t;rw[List.length_map,List.length_take] at this;omega
     rw[<- List.getElem?_map,t,List.getElem?_take_of_lt s,List.getElem?_drop]) (by grind) (fun q x dq W q1 Y=>by
     refine ZD (o:=x) ?_ Y;rw[List.mem_iff_getElem?];exact⟨q,by grind⟩) (j0c u.1) w S F v
    (fun G3 H z e d=>by
      rw[f3] at e d;exact k G3 H z e d)
   grind[List.drop_drop,List.take_append_drop]
  grind
 grind
def Au(n:Nat)(Γ:p5)(T:List Ct)(l:List Oper)(i i0 m:Nat)(st:St):Option (Prop×St×Nat×Bool×Nat×Bool) :=
 match TD n Γ T l i (i0-i) st with
 | some (V,st1)=>(match B8 l i0 with
   | some o=>(match o.guard with
     | some (j,b)=>(match B8 l j with
       | some oj=>(match oj.dst with
         | some dj=>(match c7 st1.e dj with
           | some ⟨[],.d _ .bool e⟩=>bif TB (As (l.take i0)) st1.e&&Nat.ble i i0&&Nat.blt j i0&&Nat.ble (i0+m) l.length&&((l.drop i0).take m).all (ZE j b) then some (V,st1,j,b,dj,e) else none
           | _=>none)
         | none=>none)
       | none=>none)
     | none=>none)
   | none=>none)
 | none=>none
def GB(n:Nat)(Γ:p5)(T:List Ct)(l:List Oper)(i m:Nat)(st1:St):Option (Prop×St) :=
 bif I4 n 0 (As (l.take i)) (((l.drop i).take m).map GA) then(match O2 Γ T l (((l.drop i).take m).map GA) st1 [] with
  | some (W,st2,_)=>some (W,st2)
  | none=>none) else none
def Ff(n:Nat)(l:List Oper)(i m:Nat)(dm:List (Nat×AV))(dj:Nat)(b:Bool)(st1:St):Option (Prop×St) :=
 bif TA n (As (l.take i)) (((l.drop i).take m).map GA) dm then some (True,⟨ZC dj b dm st1.e,st1.o⟩) else none
theorem zGL{P:Program}{n:Nat}{y:World×(Nat->Prop)×(Nat->Prop)×(Nat->Value->Prop)×Nat}{st:St}{Q:Exit->Act->World->Prop}{Γ:p5}{T:List Ct}{ρ:Type}{r:ρ}(aK:x7 P Γ)(hT:∀c∈T,Ok P c)
  (a m:Nat) (dm:List (Nat×AV)) (E:St) (j:Nat) (b:Bool) (dj:Nat) (ST SF:St) (WT WF:Prop) {V:Prop} [Decidable V] {e:Bool} {A B:Option ρ} {i:Nat} {l:List Oper} (H:gd V (if e=true then A else B)=some r)
  (z:Au n Γ T l i a m st=some (V,E,j,b,dj,e)) (hA:(bif b then GB n Γ T l a m (M9 dj true E) else Ff n l a m dm dj b (M9 dj true E))=some (WT,ST)) (hB:(bif b then Ff n l a m dm dj b (M9 dj false E) else GB n Γ T l a m (M9 dj false E))=some (WF,SF))
  (kA:A=some r->WT/\VL (cx P n y) l (a+m) ST Q) (kB:B=some r->WF/\VL (cx P n y) l (a+m) SF Q):VL (cx P n y) l i st Q:=by
 obtain⟨hV,H0⟩:=K9 H;clear H;unfold Au at z;split at z
 ·rename_i V1 k g1;split at z
  ·rename_i o hn;split at z
   ·rename_i j' b' aX;split at z
    ·rename_i oj hj;split at z
     ·rename_i g aF;split at z
      ·rename_i f e' aU;rw[ce] at z;split at z
       ·rename_i hc;simp only[ba] at hc;obtain⟨⟨⟨⟨aZ,aH⟩,aG⟩,aM⟩,aB⟩:=hc;simp only[oi,pj] at z;obtain⟨rfl,rfl,rfl,rfl,rfl,rfl⟩:=z;have aH:i<=a:=Nat.le_of_ble_eq_true aH;have aG:j'<a:=by simpa using aG
        have aM:a+m<=l.length:=Nat.le_of_ble_eq_true aM;rw[List.all_eq_true] at aB;have ei:i+(a-i)=a:=by omega
        refine C0m aK hT g1 hV ?_;rw[ei];intro G1 a1 S1 aJ G;have aL:(l.drop a).take m=(((l.drop a).take m).map GA).map (grd j' b'):=by
         rw[List.map_map]
         conv=>lhs; rw[<- List.map_id ((l.drop a).take m)]
         exact List.map_congr_left fun o ho=>(E0u (aB o ho)).symm
        have aC:g∈As (l.take a):=by
         refine ZD (o:=oj) ?_ aF;rw[List.mem_iff_getElem?];exact⟨j',by grind[List.getElem?_take_of_lt,YA]⟩
        have aN:=(G.val g _ aU).1 (fun _ h=>by cases h);have aD:∀v,e'=v->EnvR n G1 (M9 g v k).e a1:=fun v hv=>by
         refine⟨G.defers,G.size,fun t s Y=>?_⟩;simp only[M9] at Y;rw[lK] at Y;split at Y
         ·rename_i hd;cases Y;subst hd;subst hv;refine⟨fun _=>?_,fun h=>(h (fun _ h=>by cases h)).elim⟩;have:=Bs aN;show RT _ _ _ _ _;rw[this];exact rfl
         ·exact G.val t s Y
        have aP:∀v,c7 (M9 g v k).e g=some ⟨[],.d false .bool v⟩:=fun v=>by
         simp only[M9]; rw[lK,if_pos rfl]
        have aA:∀v t s,c7 (M9 g v k).e t=some s->∀x∈s.p,x.1∈As (l.take a):=fun v t s Y x hx=>by
         simp only[M9] at Y;rw[lK] at Y;split at Y
         ·grind
         grind[j0c]
        have el:l.drop a=(l.drop a).take m++l.drop (a+m):=by grind[List.drop_drop,List.take_append_drop]
        rw[el];have aV:∀(v:Bool) (W:Prop) (S3:St),e'=v->v=b'->GB n Γ T l a m (M9 g v k)=some (W,S3)->W/\VL (cx P n y) l (a+m) S3 Q->wpList P l.toArray Q ((l.drop a).take m++l.drop (a+m)) a1 G1.w:=by
         intro v W S3 hv aI q hk;unfold GB at q;rw[ce] at q;split at q
         ·rename_i aT;split at q
          ·rename_i W1 aS aY g2;simp only[oi,pj] at q;obtain⟨rfl,rfl⟩:=q;obtain⟨u,f1,f2,f3⟩:=Bw (Ap (K:=fun aQ _=>aQ=aS) g2 hk.1 rfl);have:=q0b (X:=cx P n y) aK hT (ops:=l.toArray) (all:=l) rfl (Q:=Q) (rest:=l.drop (a+m)) (b:=b') (f:=false) hj aF u 0 (As (l.take a)) (M9 g v k) G1 a1 (fun R hR=>by
             have:R.o∈((l.drop a).take m).map GA:=by rw[<- f1]; exact List.mem_map_of_mem hR
             obtain⟨o',_,e⟩:=List.mem_map.1 this;rw[<- e]; rfl) (by rw[f1]; exact aT) aC (aA v) (by rw[<- aI]; exact aP v) f2 S1 aJ (aD v hv)
            (fun G2 a2 S2 aO F=>by
              rw[f3] at aO F;exact hk.2 G2 a2 S2 aO F)
           have em:List.map (fun R:A8=>grd j' b' R.o) u=(l.drop a).take m:=by
            rw[aL,<- f1,List.map_map];rfl
           grind
          grind
         ·cases q
        have aW:∀(v:Bool) (W:Prop) (S3:St),e'=v->v=!b'->Ff n l a m dm g b' (M9 g v k)=some (W,S3)->W/\VL (cx P n y) l (a+m) S3 Q->wpList P l.toArray Q ((l.drop a).take m++l.drop (a+m)) a1 G1.w:=by
         intro v W S3 hv aI q hk;unfold Ff at q;rw[ce] at q;split at q
         ·rename_i aR;simp only[oi,pj] at q;obtain⟨rfl,rfl⟩:=q;have:=m0G (X:=cx P n y) (ops:=l.toArray) (all:=l) rfl (Q:=Q) (rest:=l.drop (a+m)) (b:=b') (f:=false) hj aF (((l.drop a).take m).map GA) dm (As (l.take a)) (M9 g v k).e G1 a1 aR aC (aA v) (by grind) (aD v hv)
           (fun a2 F=>hk.2 G1 a2 S1 aJ F)
          grind
         ·cases q
        grind
       grind
      grind
     grind
    grind
   grind
  grind
 grind
def Fg(n:Nat)(Γ:p5)(T:List Ct)(l:List Oper)(i:Nat)(keep:List Nat)(st:St):Option (Prop×St):=bif Nat.ble i l.length then(match TD n Γ T l i (l.length-i) st with
 | some (V,s)=>some (V,cut keep s)
 | none=>none) else none
theorem zLE{P:Program}{n:Nat}{y:World×(Nat->Prop)×(Nat->Prop)×(Nat->Value->Prop)×Nat}{st:St}{Q:Exit->Act->World->Prop}{Γ:p5}{T:List Ct}{ρ:Type}{r:ρ}(j:x7 P Γ)(x:∀c∈T,Ok P c)(b:List Nat)(st':St){V:Prop}[Decidable V]{e:Option ρ}{i:Nat}{l:List Oper}(H:gd V e=some r)
  (h:Fg n Γ T l i b st=some (V,st')) (w:e=some r->FX (cx P n y) st' .normal Q):VL (cx P n y) l i st Q:=by
 obtain⟨q,v⟩:=K9 H;unfold Fg at h;rw[ce] at h;split at h
 ·rename_i hi;have hi:=Nat.le_of_ble_eq_true hi;split at h
  ·rename_i z s k;simp only[oi,pj] at h;obtain⟨rfl,rfl⟩:=h;refine C0m j x k q ?_;intro G a S m u;rw[show i+(l.length-i)=l.length by omega,List.drop_length];obtain⟨t,o,f,d,g⟩:=Iu b S m u;have:=w v t a o f g;rw[d] at this;exact this
  grind
 grind
section
variable {P:Program} {n:Nat} {y:World×(Nat->Prop)×(Nat->Prop)×(Nat->Value->Prop)×Nat} {st:St} {Q:Exit->Act->World->Prop} {Γ:p5} {T:List Ct} {ρ:Type} {r:ρ} {l:List Oper} {id i:Nat} {V:Prop} [Decidable V]
theorem Jv[a:HG P Γ][c:HT P T](k:List Nat){e:Option ρ}(H:gd V e=some r)(b:e=some r->FX (cx P n y) (nx (Fg n Γ T l i k st)) .normal Q)(h:(Fg n Γ T l i k st).map Prod.fst=some V:=by kernel_rfl):VL (cx P n y) l i st Q:=zLE a.h c.h _ _ H (Dd h) b
theorem iF[b:HG P Γ][d:HT P T](i:Nat)(a k:List Nat){e:Option ρ}(H:gd V e=some r)(c:e=some r->FX (cx P n y) (nx (TC n Γ T l i a k st)) .normal Q)(h:(TC n Γ T l i a k st).map Prod.fst=some V:=by kernel_rfl):VX (cx P n y) st (.region id l.toArray false) Q:=zF b.h d.h i a k _ H (Dd h) c
def n3{α β:Type}(o:Option (α×β×St)):St:=match o with
 | some (_,_,s)=>s
 | none=>⟨[],[]⟩
theorem L0A{b a:Type}{o:Option (b×a×St)}{V:b}{W:a}(h:o.map (fun x=>(x.1,x.2.1))=some (V,W)):o=some (V,W,n3 o):=by
 cases o with
 | none=>cases h
 | some x =>
   cases h;rfl
theorem iE[Alw][b:HG P Γ][e:HT P T]{f:FuncId}{ps:List Par}{a:Type}[Inhabited a]{pre:w9 ps->Prop}{post:a->Prop}{R:a->AV}{Z:a->B1 ps}(c:kE P f ps pre post R Z)(i:Nat)(k:List Nat){W:a->Prop}{g:a->Option ρ}(H:gd V (Alw.alp (V4 ps post R Z) g)=some r)(d:∀z,V4 ps post R Z z->g z=some r->W z/\FX (cx P n y) (n3 (OO n Γ T l i k f pre (fun _=>⟨True,R z,Z z⟩) st)) .normal Q)(h:∀z,(OO n Γ T l i k f pre (fun _=>⟨True,R z,Z z⟩) st).map (fun x=>(x.1,x.2.1))=some (V,W z):=by intro _; kernel_rfl):VX (cx P n y) st (.region id l.toArray false) Q :=
 zE b.h e.h c i k _ W H (fun z=>L0A (h z)) d
def TE(n:Nat)(Γ:p5)(T:List Ct)(l:List Oper)(m:Nat)(dm:List (Nat×AV))(i0:Nat)(v:Bool)(o:Option (Prop×St×Nat×Bool×Nat×Bool)):Option (Prop×St):=match o with
 | some (_,st1,_,b,dj,_)=>bif (bif b then v else !v) then GB n Γ T l i0 m (M9 dj v st1) else Ff n l i0 m dm dj b (M9 dj v st1)
 | none=>none
theorem QE[q:HG P Γ][v:HT P T](a m:Nat)(c:List (Nat×AV)){g o:Prop}{e:Bool}{A B:Option ρ}(H:gd V (if e=true then A else B)=some r)
  (s:A=some r->g/\VL (cx P n y) l (a+m) (nx (TE n Γ T l m c a true (Au n Γ T l i a m st))) Q) (t:B=some r->o/\VL (cx P n y) l (a+m) (nx (TE n Γ T l m c a false (Au n Γ T l i a m st))) Q)
  (h:(Au n Γ T l i a m st).map (fun x=>(x.1,x.2.2.2.2.2))=some (V,e):=by kernel_rfl) (d:(TE n Γ T l m c a true (Au n Γ T l i a m st)).map Prod.fst=some g:=by kernel_rfl) (f:(TE n Γ T l m c a false (Au n Γ T l i a m st)).map Prod.fst=some o:=by kernel_rfl):VL (cx P n y) l i st Q:=by
 cases ho:Au n Γ T l i a m st with
 | none=>rw[ho] at h; cases h
 | some x =>
   obtain⟨z,k,j,b,u,w⟩:=x;rw[ho] at h d f s t;cases h;have d:=Dd d;have f:=Dd f;exact zGL q.h v.h a m c k j b u _ _ g o H ho (by cases b <;> exact d) (by cases b <;> exact f) s t
def IH(n:Nat)(Γ:p5)(T:List Ct)(l:List Oper)(m:Nat)(dm:List (Nat×AV))(k:List Nat)(i0:Nat)(v:Bool)(o:Option (Prop×St×Nat×Bool×Nat×Bool)):Option (Prop×St):=match o with
 | some (_,st1,_,b,dj,_)=>bif (bif b then v else !v) then(match GB n Γ T l i0 m (M9 dj v st1) with
   | some (W,s)=>(match Fg n Γ T l (i0+m) k s with
     | some (W2,s2)=>some (W/\W2,s2)
     | none=>none)
   | none=>none) else(match Ff n l i0 m dm dj b (M9 dj v st1) with
   | some (_,s)=>Fg n Γ T l (i0+m) k s
   | none=>none)
 | none=>none
theorem I0z[w:HG P Γ][H:HT P T]{m:Nat}{k:List Nat}{f:Nat}{v b:Bool}{c:St}{t:List (Nat×AV)}{j i:Nat}{e:Bool}{z W:Prop}{A:Option ρ}(h:(IH n Γ T l m t k f v (some (z,c,j,b,i,e))).map Prod.fst=some W)
  (a:A=some r->W/\FX (cx P n y) (nx (IH n Γ T l m t k f v (some (z,c,j,b,i,e)))) .normal Q):∃WT s,(bif (bif b then v else !v) then GB n Γ T l f m (M9 i v c) else Ff n l f m t i b (M9 i v c))=some (WT,s)/\(A=some r->WT/\VL (cx P n y) l (f+m) s Q):=by
 have q:∀{s o:St} {W2:Prop},Fg n Γ T l (f+m) k s=some (W2,o)->W2->A=some r->FX (cx P n y) o .normal Q->VL (cx P n y) l (f+m) s Q:=fun {s o W2} d E g F=>by
  haveI:=Classical.propDecidable W2
  exact zLE w.h H.h k o (V:=W2) (e:=A) (by unfold gd; rw[if_pos E]; exact g) d fun _=>F
 unfold IH at h a;dsimp only at h a;cases hc:(bif b then v else !v) with
 | true =>
   rw[hc] at h a;simp only[cond_true] at h a ⊢;cases d:GB n Γ T l f m (M9 i v c) with
   | none=>rw[d] at h; cases h
   | some x =>
     obtain⟨W1,s⟩:=x;rw[d] at h a;dsimp only at h a;cases h2:Fg n Γ T l (f+m) k s with
     | none=>rw[h2] at h; cases h
     | some u =>
       obtain⟨W2,o⟩:=u;rw[h2] at h a;cases h;exact⟨W1,s,rfl,fun g=>⟨(a g).1.1,q h2 (a g).1.2 g (a g).2⟩⟩
 | false =>
   rw[hc] at h a;simp only[cond_false] at h a ⊢;cases d:Ff n l f m t i b (M9 i v c) with
   | none=>rw[d] at h; cases h
   | some x =>
     obtain⟨W1,s⟩:=x;have G:W1=True:=by
      unfold Ff at d;rw[ce] at d;split at d
      ·cases d; rfl
      ·cases d
     subst G;rw[d] at h a;dsimp only at h a;cases h2:Fg n Γ T l (f+m) k s with
     | none=>rw[h2] at h; cases h
     | some u =>
       obtain⟨W2,o⟩:=u;rw[h2] at h a;cases h;exact⟨True,s,rfl,fun g=>⟨trivial,q h2 (a g).1 g (a g).2⟩⟩
theorem iG[d:HG P Γ][W:HT P T](a m:Nat)(k:List Nat)(c:List (Nat×AV)){g i:Prop}{e:Bool}{A B:Option ρ}(H:gd V (if e=true then A else B)=some r)
  (q:A=some r->g/\FX (cx P n y) (nx (IH n Γ T l m c k a true (Au n Γ T l 0 a m st))) .normal Q) (s:B=some r->i/\FX (cx P n y) (nx (IH n Γ T l m c k a false (Au n Γ T l 0 a m st))) .normal Q)
  (h:(Au n Γ T l 0 a m st).map (fun x=>(x.1,x.2.2.2.2.2))=some (V,e):=by kernel_rfl) (o:(IH n Γ T l m c k a true (Au n Γ T l 0 a m st)).map Prod.fst=some g:=by kernel_rfl) (t:(IH n Γ T l m c k a false (Au n Γ T l 0 a m st)).map Prod.fst=some i:=by kernel_rfl):VX (cx P n y) st (.region id l.toArray false) Q:=by
 refine VI ?_;cases ho:Au n Γ T l 0 a m st with
 | none=>rw[ho] at h; cases h
 | some x =>
   obtain⟨Y,f,j,b,u,X⟩:=x;rw[ho] at h o t q s;cases h;obtain⟨W1,v,F,z⟩:=I0z o q;obtain⟨W2,w,E,G⟩:=I0z t s;exact zGL d.h W.h a m c f j b u v w W1 W2 H ho (by cases b <;> exact F) (by cases b <;> exact E) z G
theorem k9{P:Program}{Γ:p5}[HG P Γ]{f:FuncId}{ps:List Par}{ρ:Type}[Inhabited ρ]{F:w9 ps->Option ρ}{R:ρ->AV}{Z:ρ->B1 ps}{b:Func}{a:Code}(rs:List ResultVar)(i:P.funcs[f]?=some b)
 (h:∀y x r,F x=some r->∀Q,Tw (cx P b.ntmps y) Γ rs ps R Z r .normal Q->Tw (cx P b.ntmps y) Γ rs ps R Z r .ret Q->VX (cx P b.ntmps y) ⟨O1 0 ps x,H2 0 ps x⟩ a Q)
 (d:b.body=some a:=by rfl) (e:b.results=rs.toArray:=by kernel_rfl) (g:AN P f=true:=by kernel_rfl) (c:(Nat.ble ps.length b.ntmps&&Z1 ps)=true:=by kernel_rfl):Ok P (k8 f ps F R Z):=okL rs i rfl e h d g c
end
theorem hz{P:Program}{T:List Ct}(h:∀c∈T,Ok P c):HT P T:=⟨h⟩
instance (priority:=low){P:Program}:HT P []:=⟨@tn P⟩
def KO(f:FuncId)(ps:List Par){ζ:Type}(R:ζ->AV)(Z:ζ->B1 ps)(v:ζ):Ct:=⟨f,ps,fun _=>⟨True,R v,Z v⟩⟩
section
variable {P:Program} {n:Nat} {y:World×(Nat->Prop)×(Nat->Prop)×(Nat->Value->Prop)×Nat} {st:St} {Q:Exit->Act->World->Prop} {Γ:p5} {T:List Ct} {ρ:Type} {r:ρ} {f:FuncId} {ps:List Par} {ζ:Type} [Inhabited ζ] {F:w9 ps->Option ζ} {R:ζ->AV} {Z:ζ->B1 ps} {V:Prop} [Decidable V] {x:ζ} {g:ζ->Option ρ} {id:Nat} {l:List Oper} {b:Bool}
theorem iD[a:HG P Γ][i:HT P T][j:K1 P](_:Ok P (k8 f ps F R Z))(k:List Nat){c:Code}(H:gd V (lt x g)=some r)(e:∀v,g v=some r->VX (cx P n y) (nx (H5 b n Γ (KO f ps R Z v :: T) l k st)) c Q)(h:(H5 b n Γ T l k st).map Prod.fst=some V:=by kernel_rfl)(d:nx (H5 b n Γ T l k st)=nx (H5 b n Γ (KO f ps R Z x :: T) l k st):=by kernel_rfl):VX (cx P n y) st (.seq (.region id l.toArray b) c) Q :=
 qd a.h i.h k (fun v=>nx (H5 b n Γ (KO f ps R Z v :: T) l k st)) H ((Dd h).trans (congrArg (fun s=>some (V,s)) d)) e
theorem jD[a:HG P Γ][e:HT P T][i:K1 P](_:Ok P (k8 f ps F R Z))(k:List Nat)(H:gd V (lt x g)=some r)(d:∀v,g v=some r->FX (cx P n y) (nx (H5 b n Γ (KO f ps R Z v :: T) l k st)) .normal Q)(h:(H5 b n Γ T l k st).map Prod.fst=some V:=by kernel_rfl)(c:nx (H5 b n Γ T l k st)=nx (H5 b n Γ (KO f ps R Z x :: T) l k st):=by kernel_rfl):VX (cx P n y) st (.region id l.toArray b) Q :=
 zd a.h e.h k (fun v=>nx (H5 b n Γ (KO f ps R Z v :: T) l k st)) H ((Dd h).trans (congrArg (fun s=>some (V,s)) c)) d
end
end Go.Proofs.Xv
end
