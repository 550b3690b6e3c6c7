/- Plain facts on B0R functions: sizes, copies, comparisons. Over any program. -/
import Derived.Test.YtdjgagoledoaaaaGreatDoorXD
import Derived.Test.YtdjgagoledoaaaaGreatDoorXA
import Derived.Lib.SliceRun
import Derived.Sort.Grow
set_option maxHeartbeats 0
section
namespace Go.Proofs.Xd
open Go Go.Proofs.Xv Go.Proofs.Xl
theorem lE{a b:Type}{x:a}{f:a->b}:lt x f=f x:=rfl
theorem I0s{t:Ty}{a:List (j5 t)}{i:Nat}{d:j5 t}{m:Nat}(h:i<a.length)(b:cnt (.sl t) a<=m):cnt t (a.getD i d)<=m:=by
 grind[AQ,C0b]
theorem Ca{t:Ty}{a:List (j5 t)}{m:Nat}(b:cnt (.sl t) a<=m):a.length<=m:=by
 grind[AQ]
theorem cF{s t:Ty}{x:j5 (.pr s t)}{m:Nat}(h:cnt (.pr s t) x<=m):cnt s x.1<=m:=by
 grind[J1]
theorem cS{s t:Ty}{x:j5 (.pr s t)}{m:Nat}(h:cnt (.pr s t) x<=m):cnt t x.2<=m:=by
 grind[J1]
theorem Y8{t:Ty}{a:List (j5 t)}{i:Nat}{d:j5 t}(h:i<a.length)(b:wf (.sl t) a):wf t (a.getD i d):=by
 rw[gq,List.getElem?_eq_getElem h];exact b.2 _ (List.getElem_mem h)
theorem dlt{i n:Nat}:decide ((i:Int) < (n:Int))=decide (i<n):=by
 grind
theorem QY{n:Nat}(h:n<=9223372036854775807):n+1<V7:=by grind[V7]
theorem D0N{a ρ:Type}{F:(a->Option ρ)->a->Option ρ}{s:a}{r:Option ρ}(h:∀n,0<n->I9 F n s=r):lp F s=r:=h V7 (by grind[V7])
theorem ND{b d ρ:Type}{n:Nat}(j:n<=9223372036854775807)(mk:Nat->b->d)(f:Nat->b->Option b)(x:Nat->b->Option ρ)(I:Nat->b->Prop){J:b->Option ρ}{F:(d->Option ρ)->d->Option ρ}
  (q:∀g i s,i<n->I i s->F g (mk i s)=match f i s with | some s'=>g (mk (i+1) s') | none=>x i s) (r:∀i s s',i<n->I i s->f i s=some s'->I (i+1) s') (o:∀g s,I n s->F g (mk n s)=J s)
  (a:Nat->b->Option ρ) (r0:∀s,I n s->a n s=J s) (l:∀i s,i<n->I i s->a i s=match f i s with | some s'=>a (i+1) s' | none=>x i s) (k:Nat) (h:k<=n) (s:b) (e:I k s):lp F (mk k s)=a k s:=by
 have c:∀(m i:Nat) (s:b),i<=n->n-i<m->I i s->I9 F m (mk i s)=a i s:=by
  intro m
  induction m with
  | zero=>omega
  | succ m t =>
    grind[hi,I9]
 exact c V7 k s h (by have:=QY j; omega) e
theorem Ke{ρ:Type}{n:Nat}(f:n<=9223372036854775807)(c:Nat->Bool)(x:Nat->Option ρ){e:Option ρ}{F:(Int->Option ρ)->Int->Option ρ}(k:Nat)(d:k<=n)(j:∀g (i:Nat),k<=i->i<n->F g (i:Int)=if c i=true then x i else g ((i:Int)+1))
  (a:∀g,F g (n:Int)=e):lp F (k:Int)=match(List.range' k (n-k)).find? c with | some i=>x i | none=>e:=by
 have:=ND f (fun i (_:Unit)=>(i:Int)) (fun i _=>if c i=true then none else some ()) (fun i _=>x i) (fun i _=>k<=i) (J:=fun _=>e) (F:=F)
  (fun g i s h b=>by
    grind) (fun _ _ _ _ h _=>Nat.le_succ_of_le h) (fun g _ _=>a g) (fun i _=>match(List.range' i (n-i)).find? c with | some i=>x i | none=>e) (fun _ _=>by simp) (fun i s h _=>by
    have l:n-i=(n-(i+1))+1:=by omega
    grind[List.range'_succ]) k d () (Nat.le_refl _)
 simpa using this
theorem H2{ρ:Type}{n:Nat}(j:n<=9223372036854775807)(c:Nat->Bool)(x:Option ρ){e:Option ρ}{F:(Int->Option ρ)->Int->Option ρ}(f:∀g (i:Nat),i<n->F g (i:Int)=if c i=true then x else g ((i:Int)+1))
  (b:∀g,F g (n:Int)=e):lp F 0=if(List.range n).any c=true then x else e:=by
 have:=Ke j c (fun _=>x) 0 (Nat.zero_le _) (fun g i _ h=>f g i h) b;rw[Nat.sub_zero,<- List.range_eq_range'] at this;refine Eq.trans this ?_;cases h:(List.range n).find? c with
 | none =>
   rw[if_neg];rw[List.find?_eq_none] at h;intro k;obtain⟨i,d,a⟩:=List.any_eq_true.1 k;exact h i d a
 | some i =>
   rw[if_pos];exact List.any_eq_true.2 ⟨i,List.mem_of_find?_eq_some h,List.find?_some h⟩
theorem D0O{ρ:Type}{n:Nat}(b:n<=9223372036854775807)(c:Nat->Bool)(x:Option ρ){e:Option ρ}{F:(Int->Option ρ)->Int->Option ρ}(k:Nat)(a:k<=n)(f:∀g (i:Nat),k<=i->i<n->F g (i:Int)=if c i=true then x else g ((i:Int)+1))
  (d:∀g,F g (n:Int)=e):lp F (k:Int)=if((List.range n).any fun i=>decide (k<=i)&&c i)=true then x else e:=by
 refine(Ke b c (fun _=>x) k a f d).trans ?_
 grind
def fN{σ:Type}(f:Nat->σ->σ):Nat->σ->σ
 | 0,s=>s
 | n+1,s=>f n (fN f n s)
theorem lF{a d ρ:Type}{n:Nat}(l:n<=9223372036854775807)(mk:Nat->a->d)(f:Nat->a->a)(I:Nat->a->Prop){J:a->Option ρ}{F:(d->Option ρ)->d->Option ρ}
  (j:∀g i s,i<n->I i s->F g (mk i s)=g (mk (i+1) (f i s))) (k:∀i s,i<n->I i s->I (i+1) (f i s)) (q:∀g s,I n s->F g (mk n s)=J s) (s:a) (e:I 0 s):lp F (mk 0 s)=J (fN f n s):=by
 have c:∀(m i:Nat),i<=n->n-i<m->I i (fN f i s)->I9 F m (mk i (fN f i s))=J (fN f n s):=by
  intro m
  induction m with
  | zero=>omega
  | succ m o =>
    intro i hi r b;show F (I9 F m) (mk i _)=_;by_cases h:i<n
    ·rw[j _ _ _ h b];exact o (i+1) (by omega) (by omega) (k _ _ h b)
    grind
 exact c V7 0 (Nat.zero_le _) (by have:=QY l; omega) e
theorem Nb{a e ρ:Type}{n:Nat}(r:n<=9223372036854775807)(mk:Nat->a->e)(f:Nat->a->a)(c:Nat->Bool)(x:Option ρ)(I:Nat->a->Prop){J:a->Option ρ}{F:(e->Option ρ)->e->Option ρ}
  (o:∀g i s,i<n->I i s->F g (mk i s)=if c i=true then x else g (mk (i+1) (f i s))) (q:∀i s,i<n->I i s->c i=false->I (i+1) (f i s)) (u:∀g s,I n s->F g (mk n s)=J s) (s:a) (l:I 0 s) :
  lp F (mk 0 s)=if(List.range n).any c=true then x else J (fN f n s):=by
 have d:∀(m i:Nat),i<=n->n-i<m->I i (fN f i s)->(∀j,j<i->c j=false)->I9 F m (mk i (fN f i s))=if(List.range n).any c=true then x else J (fN f n s):=by
  intro m
  induction m with
  | zero=>omega
  | succ m t =>
    intro i hi w b v;show F (I9 F m) (mk i _)=_;by_cases h:i<n
    ·rw[o _ _ _ h b];cases hci:c i with
     | true=>grind
     | false =>
       rw[if_neg (by simp)];refine t (i+1) (by omega) (by omega) (q _ _ h b hci) (fun j k=>?_)
       grind
    grind
 exact d V7 0 (Nat.zero_le _) (by have:=QY r; omega) l (fun j k=>absurd k (Nat.not_lt_zero j))
theorem QL{n:Nat}(p q:Nat->Bool):((List.range n).any fun i=>p i||q i)=((List.range n).any p||(List.range n).any q):=by
 grind
theorem Bo{n:Nat}{c:Nat->Bool}:(!(List.range n).any c)=true↔∀i,i<n->c i=false:=by
 grind
theorem U8{a:Type}(l:List a)(d:a)(p:a->Bool):((List.range l.length).any fun i=>p (l.getD i d))=l.any p:=by
 rw[Bool.eq_iff_iff,List.any_eq_true,List.any_eq_true];constructor
 ·grind
 ·rintro⟨x,c,e⟩;obtain⟨i,b,f⟩:=List.getElem_of_mem c;refine⟨i,List.mem_range.2 b,?_⟩
  grind
theorem MR{n:Nat}{p q:Nat->Bool}(h:∀i,i<n->p i=q i):(List.range n).any p=(List.range n).any q:=by
 grind
theorem BZ{ρ:Type}{i n:Nat}{V:Prop}[Decidable V]{c:Bool}{x e:Option ρ}{g:Int->Option ρ}(h:i<n)(b:n<=9223372036854775807)(a:V) :
  (if(decide ((i:Int) < (n:Int)))=true then gd V (if c=true then x else gd (c9 ((i:Int)+1)/\True) (g ((i:Int)+1))) else e)=if c=true then x else g ((i:Int)+1):=by
 rw[if_pos (by grind),gP a,gP ⟨oo,trivial⟩]
theorem E0L{ρ:Type}{i n:Nat}{V W:Prop}[Decidable V][Decidable W]{c:Bool}{x e:Option ρ}{g:Int->Option ρ}(h:i<n)(d:n<=9223372036854775807)(a:V)(b:W) :
  (if(decide ((i:Int) < (n:Int)))=true then gd V (gd W (if c=true then x else gd (c9 ((i:Int)+1)/\True) (g ((i:Int)+1)))) else e)=if c=true then x else g ((i:Int)+1):=by
 rw[if_pos (by grind),gP a,gP b,gP ⟨oo,trivial⟩]
theorem aE{ρ:Type}{n:Nat}{a e:Option ρ}:(if(decide ((n:Int) < (n:Int)))=true then a else e)=e:=if_neg (by simp)
theorem HE{i n:Nat}{o:Option Bool}{g:Int->Option Int}{e:Option Int}{b:Bool}(h:i<n)(c:n<=9223372036854775807)(a:o=some b) :
  (if(decide ((i:Int) < (n:Int)))=true then gd (ix (i:Int) n/\o.isSome=true/\True) (if(vl o)=true then some (i:Int) else gd (c9 ((i:Int)+1)/\True) (g ((i:Int)+1))) else e)=if b=true then some (i:Int) else g ((i:Int)+1):=by
 subst a;rw[if_pos (by grind),gP ⟨oo,rfl,trivial⟩,gP ⟨oo,trivial⟩,vS]
theorem CL{n:Nat}(a:n<=9223372036854775807)(b:Nat->Bool){F:(Int->Option Int)->Int->Option Int}(d:∀g (i:Nat),i<n->F g (i:Int)=if b i=true then some (i:Int) else g ((i:Int)+1))(c:∀g,F g (n:Int)=some (-1)) :
  lp F 0=some (match(List.range n).find? b with | some i=>(i:Int) | none => -1):=by
 have:=Ke a b (fun i=>some (i:Int)) 0 (Nat.zero_le _) (fun g i _ h=>d g i h) c;rw[Nat.sub_zero,<- List.range_eq_range'] at this
 grind
theorem HF{n:Nat}{b:Nat->Bool}{o:Option Int}(h:o=some (match(List.range n).find? b with | some i=>(i:Int) | none => -1)):gd (o.isSome=true/\True) (lt (vl o) fun v0=>some (decide (0<=v0)))=some ((List.range n).any b):=by
 subst h;rw[gP ⟨rfl,trivial⟩,lE,vS];cases h:(List.range n).find? b with
 | none =>
   grind
 | some i =>
   have:(List.range n).any b=true:=List.any_eq_true.2 ⟨i,List.mem_of_find?_eq_some h,List.find?_some h⟩;rw[this];simp
end Go.Proofs.Xd
end
section
namespace Go.Proofs.Xv
open Go Go.RowKit Go.Proofs.Sv
def Dg(P:Program)(op:TypeId->Ty->Bool):Nat->List Field->Ty->Bool
 | _,[],_=>false
 | off,[f],y=>Nat.beq f.offset off&&Nat.beq (P.cellsOf f.type) (sz y)&&op f.type y
 | off,f :: r,.pr a b=>Nat.beq f.offset off&&Nat.beq (P.cellsOf f.type) (sz a)&&op f.type a&&Dg P op (off+sz a) r b
 | _,_,_=>false
def OB(P:Program):Nat->TypeId->Ty->Bool
 | 0,_,_=>false
 | n+1,T,y=>match P.underlying T with
   | some (.int k)=>decide (y=.int k)
   | some .bool=>decide (y=.bool)
   | some .string=>decide (y=.str)
   | some (.slice E)=>match y with
     | .sl e=>OB P n E e
     | _=>false
   | some (.struct fs)=>Nat.beq (P.cellsOf T) (sz y)&&Dg P (OB P n) 0 fs.toList y
   | _=>false
def Cu(w:World)(k:Nat):Prop:=k<w.heap.size
theorem y0S(k:IntKind):k.min=lo k/\k.max=hi k:=by cases k <;> exact⟨rfl,rfl⟩
theorem u0Y{P:Program}{E:TypeId}{e:Ty}{w:World}{H:Type}{enc:TypeId×Value->H}{sp:Nat->Bool}{V:Bool}(Y:∀{j:Nat} {cs:List Value} {x:DataW H×List MemPlace},DataW.trod enc P w 0 sp V j E cs=some x->∃z:j5 e,RT (Cu w) w e cs z)
  {T:TypeId} {j:Nat} {cs:List Value} {x:DataW H×List MemPlace} (hT:P.underlying T=some (.slice E)) (h:DataW.trod enc P w 0 sp V j T cs=some x):∃z:List (j5 e),RT (Cu w) w (.sl e) cs z:=by
 rcases DataW.trod_slice hT h with ⟨rfl,_⟩ | ⟨a,len,cap,elems,rest,n,rfl,rfl,_,_,hlc,hcm,hel,hat,_,_⟩
 ·exact⟨[],none,0,rfl,Nat.le_refl _,by omega,.inl rfl⟩
 ·have m:cap<=9223372036854775807:=by unfold maxLen at hcm; omega
  have d:∀i,i<len->∃c:List Value,w.cells? 0 (a.add (i*P.cellsOf E)) (P.cellsOf E)=some c/\∃y:j5 e,RT (Cu w) w e c y:=by
   intro i hi;have f:=hat i hi;rw[List.getElem?_eq_getElem (by omega)] at f;cases g:w.cells? 0 (a.add (i*P.cellsOf E)) (P.cellsOf E) with
   | none=>rw[g] at f; cases f
   | some c =>
     rw[g] at f;simp only[Option.bind_some] at f;exact⟨c,rfl,Y f⟩
  by_cases Q:len=0
  ·subst Q;exact⟨[],some a,cap,rfl,Nat.zero_le _,m,.inl rfl⟩
  ·have W:P.cellsOf E=sz e:=by
    obtain⟨c,g,y,F⟩:=d 0 (by omega);have:=(World.cells?_some g).2.1;rw[<- this]; exact RT.len F
   have l:0<P.cellsOf E:=by rw[W]; exact RP e
   obtain⟨b,o,rfl⟩:∃b o,a=⟨b,o,none⟩:=by
    obtain⟨c,g,_⟩:=d 0 (by omega);have v:a.add (0*P.cellsOf E)=a:=by simp[Addr.add]
    rw[v] at g;exact⟨a.block,a.off,(Ko l g).1⟩
   have X:b<w.heap.size:=by
    obtain⟨c,g,_⟩:=d 0 (by omega);have v:(Addr.mk b o none).add (0*P.cellsOf E)=⟨b,o,none⟩:=by simp[Addr.add]
    rw[v] at g;have r:=Ko l g;exact r.2.2.lt (by rw[r.2.1]; exact l)
   have q:∀k,k<=len->∃(cs:List Value) (s:List (j5 e)),s.length=k/\At w b o cs/\AllR (RT (Cu w) w e) cs s:=by
    intro k
    induction k with
    | zero=>exact fun _=>⟨[],[],rfl,RO,rfl⟩
    | succ k ih =>
      intro hk;obtain⟨cs,s,r,G,u⟩:=ih (by omega);obtain⟨c,g,y,F⟩:=d k (by omega);have t:(Addr.mk b o none).add (k*P.cellsOf E)=⟨b,o+k*P.cellsOf E,none⟩:=by
       unfold Addr.add;split
       ·rename_i Q; rw[Q]; rfl
       ·rfl
      rw[t] at g;have h4:=(Ko l g).2.2;refine⟨cs++c,s++[y],by simp[r],G.app ?_,AllR.app (AllR.one F) u⟩;have:cs.length=k*P.cellsOf E:=by rw[u.len (fun c x h=>RT.len h),r,W]
      rw[this]; exact h4
   obtain⟨cs,s,r,G,u⟩:=q len (Nat.le_refl _);subst r;exact⟨s,some ⟨b,o,none⟩,cap,rfl,hlc,m,.inr ⟨b,o,cs,rfl,X,G,u⟩⟩
theorem o0y{P:Program}{w:World}{H:Type}{enc:TypeId×Value->H}{sp:Nat->Bool}{E:Bool}{u:TypeId->Ty->Bool}
  (l:∀{T:TypeId} {y:Ty},u T y=true->∀{fuel:Nat} {cs:List Value} {x:DataW H×List MemPlace},DataW.trod enc P w 0 sp E fuel T cs=some x->∃z:j5 y,RT (Cu w) w y cs z) {cs:List Value} :
  ∀{fs:List Field} {off:Nat} {y:Ty},Dg P u off fs y=true->cs.length=off+sz y->(∀f∈fs,∃n x,DataW.trod enc P w 0 sp E n f.type ((cs.drop f.offset).take (P.cellsOf f.type))=some x)->∃z:j5 y,RT (Cu w) w y (cs.drop off) z:=by
 intro fs
 induction fs with
 | nil=>grind[Dg]
 | cons f r G =>
   intro off y h j o;cases r with
   | nil =>
     have h:(Nat.beq f.offset off&&Nat.beq (P.cellsOf f.type) (sz y)&&u f.type y)=true:=by
      cases y <;> exact h
     simp only[ba] at h;obtain⟨⟨d,i⟩,v⟩:=h;have d:=nb d;have i:=nb i;obtain⟨n,x,t⟩:=o f (by simp)
     grind[List.take_of_length_le,List.length_drop]
   | cons g X =>
     cases y with
     | pr a b =>
       simp only[Dg,ba] at h;obtain⟨⟨⟨d,i⟩,v⟩,W⟩:=h;have d:=nb d;have i:=nb i;obtain⟨n,x,t⟩:=o f (by simp);rw[d,i] at t;obtain⟨Q,m⟩:=l v t;have c:cs.length=off+sz a+sz b:=by rw[j]; simp only[sz]; omega
       obtain⟨V,s⟩:=G W c (fun F q=>o F (List.mem_cons_of_mem _ q));refine⟨(Q,V),(cs.drop off).take (sz a),cs.drop (off+sz a),?_,m,s⟩
       grind[List.drop_drop,List.take_append_drop]
     | int k=>grind[Dg]
     | bool=>grind[Dg]
     | str=>grind[Dg]
     | sl e=>grind[Dg]
     | pt e=>grind[Dg]
theorem u0Z{P:Program}{w:World}{H:Type}{enc:TypeId×Value->H}{sp:Nat->Bool}{r:Bool}:∀{n:Nat} {T:TypeId} {y:Ty},OB P n T y=true->∀{fuel:Nat} {cs:List Value} {x:DataW H×List MemPlace},DataW.trod enc P w 0 sp r fuel T cs=some x->∃z:j5 y,RT (Cu w) w y cs z:=by
 intro n
 induction n with
 | zero=>intro T y h; cases h
 | succ n g =>
   intro T y h fuel cs x c;unfold OB at h;split at h
   ·rename_i k a;have d:y=.int k:=by simpa using h
    subst d;obtain⟨m,rfl,_,o⟩:=DataW.trod_int a c;refine⟨m,rfl,?_⟩;simp only[Lit.wf,ba,dq] at o
    grind[y0S]
   ·rename_i a;have d:y=.bool:=by simpa using h
    subst d;obtain⟨b,rfl,_⟩:=DataW.trod_bool a c;exact⟨b,rfl⟩
   ·rename_i a;have d:y=.str:=by simpa using h
    subst d;obtain⟨s,rfl,_,t⟩:=DataW.trod_string a c;exact⟨s,rfl,by grind[maxLen]⟩
   ·rename_i E a;split at h
    ·exact u0Y (g h) a c
    grind
   ·rename_i v a;rw[ba] at h;obtain⟨j,q⟩:=m0L a c;have u:=nb h.1;have:=o0y (cs:=cs) (fun l=>g l) h.2 (by omega) (fun f e=>by
     obtain⟨i,hi,rfl⟩:=List.getElem_of_mem e;exact q i _ (by grind))
    grind
   grind
theorem I0e{w:World}:∀k,Cu w k->k<w.heap.size:=fun _ h=>h
theorem R0x{P:Program}{H:Type}{enc:TypeId×Value->H}{T E:TypeId}{y:Ty}{n:Nat}(k:OB P n T y=true)(b:P.underlying T=some (.slice E)){W:World}{r:Reach}{base:Nat}{v:Value}{d:DataW H}{p:List MemPlace}
  (j:Value.okWide P W r base T v) (h:DataW.Trod enc P W 0 (fun _=>true) true T v d p):∃x:j5 y,RT (Cu W) W y [v] x:=by
 obtain⟨a,c,i,rfl⟩:=WideShapes.okWide_slice b j;obtain⟨f,g⟩:=h;obtain⟨x,e⟩:=u0Z k g;exact⟨x,e⟩
theorem WE.below{w w':World}(h:WE none w w'):Below w.heap.size w w':=⟨h.os,h.tape,h.output,h.size,fun k a=>h.block k a (by simp)⟩
theorem y0Q{P:Program}{f:FuncId}{ps:List Par}{F:r9 ps->Option Bool}{Z:Bool->B6 ps}(h:Ok P (j9 f ps F (fun r=>.d true .bool r) Z)){w:World}{vs:List Value}{x:r9 ps}(i:ArgsR (Cu w) w none ps x vs)(c:F x=some true) :
  Calls P f vs.toArray w fun en w'=>en=.returned (.bool true)/\Below w.heap.size w w':=by
 refine Calls.mono (h.2 x (by show(F x).isSome=true; grind) w vs none (Cu w) I0e i) ?_;rintro en w' ⟨v,b,e,g,_,_,a,_⟩;refine⟨?_,WE.below g⟩;have a:RT _ w' .bool [v] (Xl.vl (F x))/\b=[]:=a;rw[c] at a;have j:[v]=[Value.bool true]:=a.1
 grind
theorem OC{P:Program}{ops:Array Oper}{Q:Exit->Act->World->Prop}{o:Oper}{r:List Oper}{a:Act}{w:World}(b:M0 P ops Q o (wpList P ops Q r) a w):wpList P ops Q (o :: r) a w:=by
 grind[wpList,M0]
theorem r0V{P:Program}{n:Nat}{e:C2}{ty:TypeId}{w:World}{T T' E:TypeId}{x y:Operand}{q:Option Addr}{m c:Nat}(h:P.underlying T=some (.slice E))(f:Sv.ev e x=some (.slice q m c))(k:Sv.ev e y=some (.slice none 0 0)) :
  G6 P n e (.binOp .eql T x y T') ty w (.bool q.isNone) w:=by
 intro a i j b g d;have:=Lib.run_eql_slice_nil w T E q m c 0 0 h;simp only[execOp,d.ev f,d.ev k];simp[eqGuard,this,Result.andThen]
theorem q0l{X:Cx}{G:Gh}{a:Act}{ops:Array Oper}{Q:Exit->Act->World->Prop}{d:Nat}{b:Op}{ty:TypeId}{pos:String}{after:Array Edge}{v:Value}{K:Act->World->Prop}
  (h:∀dst pos after g,(execOp a.eval ⟨dst,b,ty,pos,after,g⟩).run X.P G.w=.ok (.value v) G.w) (e:K (a.put (some d) v) G.w):M0 X.P ops Q ⟨some d,b,ty,pos,after,none⟩ K a G.w:=by
 unfold M0;have c:Region.wanted ⟨some d,b,ty,pos,after,none⟩ (yielded ops a.tmps)=true:=rfl;rw[if_pos c];unfold Oper.wp;rw[h (some d) pos after none];exact e
theorem x0b{X:Cx}{st:St}{Q:Exit->Act->World->Prop}{id T E g c j:Nat}{u W T':TypeId}{l z:String}{aC aH:Array Edge}{f:Bool}{e:Ty}{xs:List (j5 e)}
  (hU:X.P.underlying T=some (.slice E)) (h0:b9 st.e g=some ⟨[],.d f (.sl e) xs⟩) (aK:H9 st.e=true) (h3:Nat.blt c X.n=true) (h4:Nat.blt j X.n=true)
  (ht:xs=[]->FX X ⟨(j,⟨[],.d true .bool true⟩) :: (c,⟨[],.d f (.sl e) xs⟩) :: st.e,st.o⟩ .normal Q) (hf:FX X ⟨(j,⟨[],.d true .bool false⟩) :: (c,⟨[],.d f (.sl e) xs⟩) :: st.e,st.o⟩ .normal Q) :
  VX X st (.region id [⟨some c,.move (.tmp g),u,l,aC,none⟩,⟨some j,.binOp .eql T (.tmp c) (.const (.slice none 0 0)) T',W,z,aH,none⟩].toArray false) Q:=by
 intro G a S ho hE;have h3:c<X.n:=by simpa using h3
 have h4:j<X.n:=by simpa using h4
 refine wp_region_lit ?_;have hu:=(hE.val g _ h0).1 (fun _ h=>by cases h);have aF:=hu;obtain⟨q,k,hv,aB,y,aI⟩:=aF;simp only[List.cons.injEq,and_true] at hv;have aJ:a.eval (.tmp g)=a.tmps.getD g undef:=rfl;obtain⟨v,H,m⟩:L9 X G a (.move (.tmp g)) u (.d f (.sl e) xs):=B7 hE [.tmp g] (v:=a.eval (.tmp g)) (Ch (by grind[AR,J3])) (by grind);refine OC (q0l H ?_);have aA:∀(t:Nat) (s:Sl),b9 st.e t=some s->∀d,∀x∈s.p,x.1≠d:=fun t s hs d x hx=>by grind[Av]
 have V:=EnvR.put (st:=st) (p:=[]) (r:=.d f (.sl e) xs) hE h3 (fun _ h=>by cases h) (fun t s hs=>aA t s hs c) (v:=v) ⟨fun _=>m,fun h=>(h (fun _ h=>by cases h)).elim⟩;have F:=m;obtain⟨q,k,hv,aB,y,aI⟩:=F;simp only[List.cons.injEq,and_true] at hv;have aD:(a.put (some c) v).eval (.tmp c)=.slice q xs.length k:=by
  show(a.put (some c) v).tmps.getD c undef=_;rw[Sy (by rw[hE.size]; exact h3),if_pos rfl,hv]
 have hx:Sv.ev (D4 (a.put (some c) v) [.tmp c]) (.tmp c)=some (.slice q xs.length k):=by rw[J3 (by simp),aD]
 obtain⟨v2,i,aG⟩:L9 X G (a.put (some c) v) (.binOp .eql T (.tmp c) (.const (.slice none 0 0)) T') W (.d true .bool q.isNone):=B7 (st:=⟨(c,⟨[],.d f (.sl e) xs⟩) :: st.e,st.o⟩) V [.tmp c] (r0V hU hx rfl) rfl;refine OC (q0l i ?_);have Y:∀b,q.isNone=b->EnvR X.n G ((j,⟨[],.d true .bool b⟩) :: (c,⟨[],.d f (.sl e) xs⟩) :: st.e) ((a.put (some c) v).put (some j) v2):=fun b hb=>EnvR.put (st:=⟨(c,⟨[],.d f (.sl e) xs⟩) :: st.e,st.o⟩) (p:=[]) V h4 (fun _ h=>by cases h) (fun t s hs x hx=>by
   grind[lK]) ⟨fun _=>hb ▸ aG,fun h=>(h (fun _ h=>by cases h)).elim⟩
 show Q .normal _ G.w;cases hq:q with
 | none =>
   refine ht ?_ G _ S ho (Y true (by grind))
   grind
 | some ad=>exact hf G _ S ho (Y false (by grind))
end Go.Proofs.Xv
end
section
namespace Go.Proofs.Xv
open Go Go.RowKit Go.Proofs.Sv Go.Proofs.Xl
theorem CH{X:Cx}{st:St}{x:Exit}{Q:Exit->Act->World->Prop}(id:Nat)(st':St)(h:GF id st=some st')(d:Nat.blt id 500000=true)(k:FX X st' x Q):FX X st x Q:=fun G a S j e=>by
 obtain⟨g,f,c,i,b⟩:=YX h d S j e;have:=k g a f c b
 grind
theorem m0N{X:Cx}{G:Gh}{a:Act}{ops:Array Oper}{Q:Exit->Act->World->Prop}{d f:Nat}{b:Op}{ty:TypeId}{pos:String}{after:Array Edge}{vs:Array Value}{K:Act->World->Prop}
  (h:∀dst pos after g,(execOp a.eval ⟨dst,b,ty,pos,after,g⟩).run X.P G.w=.ok (.enter f vs) G.w) (e:Calls X.P f vs G.w fun en w'=>∃v,en=.returned v/\K (a.put (some d) v) w'):M0 X.P ops Q ⟨some d,b,ty,pos,after,none⟩ K a G.w:=by
 unfold M0;have c:Region.wanted ⟨some d,b,ty,pos,after,none⟩ (yielded ops a.tmps)=true:=rfl;rw[if_pos c];unfold Oper.wp;rw[h (some d) pos after none];refine Calls.mono e ?_
 grind
end Go.Proofs.Xv
end
section
namespace Go.Proofs.Xl
class Alw where
 alp:{ζ ρ:Type}->(ζ->Prop)->(ζ->Option ρ)->Option ρ
 alp_some:∀{ζ ρ:Type} {p:ζ->Prop} {f:ζ->Option ρ} {r:ρ},alp p f=some r->∀z,p z->f z=some r
 alp_of:∀{ζ ρ:Type} {p:ζ->Prop} {f:ζ->Option ρ} {r:ρ} (z:ζ),p z->(∀z,p z->f z=some r)->alp p f=some r
 alp_u:∀{ζ:Type} {p:ζ->Prop} {f:ζ->Option Unit},(∀z,p z->f z=some ())->alp p f=some ()
theorem alw:Nonempty Alw:=by
 classical
 refine⟨⟨fun p f=>if h:∃r,∀z,p z->f z=some r then some h.choose else none,?_,?_,?_⟩⟩
 ·intro b a p f r H z hz;split at H
  ·grind
  grind
 ·intro b a p f r z hz h;have c:∃r,∀z,p z->f z=some r:=⟨r,h⟩
  grind
 ·simp_all
end Go.Proofs.Xl
namespace Go.Proofs.Xv
open Go Go.RowKit Go.Proofs.Sv Go.Proofs.Xl
def Zb(P:Program)(f:FuncId)(ps:List Par){ζ:Type}(pre:r9 ps->Prop)(post:ζ->Prop)(res:ζ->r9 ps->Gn ps):Prop:=Ar P f=true/\∀(x:r9 ps),pre x->∀(w:World) (vs:List Value) (go:Option Nat) (K:Nat->Prop),(∀k,K k->k<w.heap.size)->ArgsR K w go ps x vs ->
 Calls P f vs.toArray w fun en w'=>∃z,post z/\KD ⟨f,ps,res z⟩ x w go K en w'
theorem okE{P:Program}{Γ:o5}(aF:w9 P Γ){f:FuncId}{ps:List Par}{ζ:Type}{pre:r9 ps->Prop}{post:ζ->Prop}{d:ζ->r9 ps->Gn ps}{q:Func}{m:Code}{n:Nat}(rs:List ResultVar)(hf:P.funcs[f]?=some q)(hn:q.ntmps=n)(hb:q.body=some m)(hr:q.results=rs.toArray)(he:Ar P f=true)(g:(Nat.ble ps.length n&&Z5 ps&&!F0 ps)=true)
  (h:∀y x,Xv.wfs ps x->pre x->(cx P n y).base=(cx P n y).w0.heap.size->∀Q,(∀z st,post z->GB Γ st rs (d z x).r ps (d z x).z->FX (cx P n y) st .normal Q/\FX (cx P n y) st .ret Q)->VX (cx P n y) ⟨K3 0 ps x,H4 0 ps x⟩ m Q):Zb P f ps pre post d:=by
 refine⟨he,fun x aB w H l K hK V=>?_⟩;simp only[ba] at g;obtain⟨⟨g,aA⟩,F⟩:=g;have F:¬F0 ps=true:=by simpa using F
 have g:=Nat.le_of_ble_eq_true g;have aG:=V.len;refine calls_of_wp hf hb ?_;have:=h ⟨w,fun k=>l=some k,K,Iy (r5 0 ps l),L4 ps w⟩ x V.wfs aB (YH F) (bodyPost P q fun en w'=>∃z,post z/\KD ⟨f,ps,d z⟩ x w l K en w') (fun z st aC aD=>?_) (Dd K w l (Aw ps H) (L4 ps w) (H4 0 ps x)) { tmps:=H.toArray++Array.replicate (q.ntmps-H.toArray.size) undef,defers:=[] } (m0v hK V) rfl ⟨rfl,by grind,fun t s ht=>?_⟩
 ·exact this
 ·have W:∀G a,Sat (cx P n ⟨w,fun k=>l=some k,K,Iy (r5 0 ps l),L4 ps w⟩) G->G.o=st.o->EnvR n G st.e a->a.defers=[]/\∃v,(results q a.tmps).run P G.w=.ok v G.w/\∃z,post z/\KD ⟨f,ps,d z⟩ x w l K (.returned v) G.w:=fun G a S Y X=>by
   obtain⟨h1,v,h2,h3⟩:=YN (c:=⟨f,ps,d z⟩) aF aA V hr aD G a S Y X
   grind
  exact⟨fun G a S Y X=>W G a S Y X,fun G a S Y X=>W G a S Y X⟩
 ·obtain⟨_,a2,u,a3,a4⟩:=Fc (i:=0) (o:=H4 0 ps x) (r0:=Aw ps H) (B:=L4 ps w) (g0:=l) aA V (fun _=>rfl) (fun z hz=>by
   rcases GA (i:=0) V with ⟨h0,_⟩ | ⟨j,b,T,t,z',cs,h0,_⟩ | ⟨j,E,t,xs,cs,h0,_⟩
   ·grind
   ·rw[h0] at hz ⊢;cases List.mem_singleton.1 hz;rw[lK,if_pos rfl]
   grind) t s ht
  rw[a2];refine⟨fun _=>?_,fun hn=>(hn (fun _ h=>by cases h)).elim⟩;have aH:t<H.length:=by
   rcases Nat.lt_or_ge t H.length with h' | h'
   ·exact h'
   ·grind
  rw[Array.getD_eq_getD_getElem?,Array.getElem?_append_left (by omega)]
  grind
abbrev kE(P:Program)(f:FuncId)(ps:List Par){ρ:Type}(pre:r9 ps->Prop)(post:ρ->Prop)(R:ρ->AV)(Z:ρ->B6 ps):Prop:=Zb P f ps pre post (fun(e:ρ) _=>⟨True,R e,Z e⟩)
def M0A(X:Cx)(Γ:o5)(rs:List ResultVar)(ps:List Par){ρ:Type}(post:ρ->Prop)(R:ρ->AV)(Z:ρ->B6 ps)(x:Exit)(Q:Exit->Act->World->Prop):Prop :=
 ∀{st:St} (e:ρ),post e->Oy Γ st rs ps (R e) (Z e)=some (R e,Z e)->FX X st x Q
theorem Hw{P:Program}{Γ:o5}(i:w9 P Γ){f:FuncId}{ps:List Par}{ρ:Type}{F:r9 ps->Option Unit}{pre:r9 ps->Prop}{post:ρ->Prop}{R:ρ->AV}{Z:ρ->B6 ps}{d:Func}{a:Code}{n:Nat}(rs:List ResultVar)
  (l:∀x,Xv.wfs ps x->pre x->F x=some ()) (q:P.funcs[f]?=some d) (o:d.ntmps=n) (k:d.body=some a) (s:d.results=rs.toArray) (c:Ar P f=true) (g:(Nat.ble ps.length n&&Z5 ps&&!F0 ps)=true)
  (h:∀y x r,F x=some r->(cx P n y).base=(cx P n y).w0.heap.size->∀Q,M0A (cx P n y) Γ rs ps post R Z .normal Q->M0A (cx P n y) Γ rs ps post R Z .ret Q->VX (cx P n y) ⟨K3 0 ps x,H4 0 ps x⟩ a Q):kE P f ps pre post R Z :=
 okE i rs q o k s c g fun y x m b t Q j=>h y x () (l x m b) t Q (fun e b c=>(j e _ b (SW c)).1) (fun e b c=>(j e _ b (SW c)).2)
/- What all data of a result are. -/
mutual
def Ic:AV->Prop
 | .d _ t x=>wf t x
 | .agg xs=>Tg xs
 | .tup xs=>Tg xs
 | .ow _ _ t xs=>wf (.sl t) xs
 | _=>True
def Tg:List AV->Prop
 | []=>True
 | a :: r=>Ic a/\Tg r
end
def Fj:(ps:List Par)->B6 ps->Prop
 | [],_=>True
 | .io _ t :: _,z=>wf t z
 | .dat _ :: r,z=>Fj r z
 | .agg _ :: r,z=>Fj r z
 | .fn _ _ :: r,z=>Fj r z
 | .nof _ :: r,z=>Fj r z
 | .nil :: r,z=>Fj r z
 | .os _ _ :: r,z=>Fj r z
mutual
theorem ResR.wf{K:Bool->Nat->Prop}{w:World}:∀{a:AV} {u:Value} {gs:List (Option Nat)},ResR K w a u gs->Ic a
 | .v _,_,_,_=>trivial
 | .d _ _ _,_,_,h=>RT.wf h.1
 | .agg _,_,_,⟨_,_,h⟩=>ResRs.wf h
 | .tup _,_,_,⟨_,_,h⟩=>ResRs.wf h
 | .ow _ _ _ _,_,_,⟨_,_,_,_,h1,h2⟩=>B0I h1 h2
 | .ob _ _,_,_,_=>trivial
 | .ptr _ _,_,_,_=>trivial
 | .pel ..,_,_,_=>trivial
 | .os _ _,_,_,_=>trivial
 | .fn _ _,_,_,_=>trivial
 | .gel _ _,_,_,_=>trivial
 | .og _,_,_,_=>trivial
theorem ResRs.wf{K:Bool->Nat->Prop}{w:World}:∀{as':List AV} {us:List Value} {gs:List (Option Nat)},ResRs K w as' us gs->Tg as'
 | [],_,_,_=>trivial
 | _ :: _,_,_,⟨_,_,_,_,_,_,h1,h2⟩=>⟨ResR.wf h1,ResRs.wf h2⟩
end
theorem IOR.wf{K:Nat->Prop}{w:World}{go:Option Nat}:∀{ps:List Par} {z:B6 ps},IOR K w go ps z->Fj ps z
 | [],_,_=>trivial
 | .io _ _ :: _,_,⟨_,_,_,_,h⟩=>RT.wf h
 | .dat _ :: r,_,h=>IOR.wf (ps:=r) h
 | .agg _ :: r,_,h=>IOR.wf (ps:=r) h
 | .fn _ _ :: r,_,h=>IOR.wf (ps:=r) h
 | .nof _ :: r,_,h=>IOR.wf (ps:=r) h
 | .nil :: r,_,h=>IOR.wf (ps:=r) h
 | .os _ _ :: r,_,h=>IOR.wf (ps:=r) h
def Y5(ps:List Par){ρ:Type}(post:ρ->Prop)(R:ρ->AV)(Z:ρ->B6 ps)(z:ρ):Prop:=post z/\Ic (R z)/\Fj ps (Z z)
def Zc(st:St)(ps:List Par)(f:FuncId):Op->Option (r9 ps×List Nat×Option Nat)
 | .call ⟨.value x,xs,_⟩=>match rd st [] x,L3 st [] xs.toList with
   | some (.fn g caps),some as'=>bif Nat.beq g f then K1 st.o ps (as'++caps) else none
   | _,_=>none
 | _=>none
def Zd(st:St)(d:Nat){ps:List Par}(res:r9 ps->Gn ps)(x:r9 ps)(l:List Nat)(io:Option Nat):Option St :=
 bif CZ st.o (G8 d 0 (res x).r).2.1&&(Co l||(BD (res x).r&&isNone io)) then some ⟨(d,⟨[],(G8 d 0 (res x).r).1⟩) :: st.e,((G8 d 0 (res x).r).2.1++Au st.o ps (res x).z io)++st.o⟩ else none
theorem H0P{X:Cx}{G:Gh}{a:Act}{st:St}{ops:Array Oper}{Q:Exit->Act->World->Prop}{K:Act->World->Prop}{f:FuncId}{ps:List Par}{ζ:Type}{pre:r9 ps->Prop}{post:ζ->Prop}{i:ζ->r9 ps->Gn ps}(hk:Zb X.P f ps pre post i)(S:Sat X G)(ho:G.o=st.o)(H:EnvR X.n G st.e a)
  {d:Nat} {op:Op} {ty:TypeId} {pos:String} {after:Array Edge} (aA:¬F0 ps=true) {x:r9 ps} {l:List Nat} {io:Option Nat} (b:Zc st ps f op=some (x,l,io)) (Y:Od l io=true) (hd:d<X.n) (hs:∀t s,b9 st.e t=some s->∀x∈s.p,x.1≠d)
  (F:pre x) (hK:∀z,post z->Ic (i z x).r->Fj ps (i z x).z->∃st',Zd st d (i z) x l io=some st'/\∀a' G',Sat X G'->G'.o=st'.o->EnvR X.n G' st'.e a'->K a' G'.w):M0 X.P ops Q ⟨some d,op,ty,pos,after,none⟩ K a G.w:=by
 unfold Zc at b;split at b
 ·rename_i x0 xs Ts;split at b
  ·rename_i g aD aG h1 h2;rw[ce] at b;split at b
   ·rename_i j;have j:g=f:=nb j;subst j;obtain⟨cs,hv,hc⟩:=C5 H (p:=[]) (fun _ h=>by cases h) h1;have hA:=AX H (p:=[]) (fun _ h=>by cases h) h2;rw[<- ho] at b;obtain⟨V,go,aC,E⟩:=r0g S (d:=d) (AVRs.app hc hA) aA b Y;obtain⟨u,k⟩:=hk
    haveI:RJ X.P g:=⟨u⟩
    refine m0N (f:=g) (fun aF pos after gg=>?_) (Calls.mono (k x F G.w _ go _ V aC) ?_)
    ·have m:xs.map a.eval=(xs.toList.map a.eval).toArray:=by rw[<- Array.toList_map]
     simp only[execOp,resolve,m,hv];simp[Deferred.ofValue,invoke,XF]
    ·rintro en w' ⟨z,hz,c⟩;obtain⟨_,_,_,_,_,_,q,y⟩:=c;have T:=ResR.wf q;have W:=IOR.wf y;have c:KD ⟨g,ps,i z⟩ x G.w go (X8 G l) en w':=⟨_,_,by omega,by omega,by omega,by omega,q,y⟩;obtain⟨st',m,e2⟩:=hK z hz T W;unfold Zd at m;rw[ce] at m;split at m
     ·rename_i hb;rw[ba,<- ho] at hb;cases m;obtain⟨v,G',rfl,rfl,hS,hL,hO,aB⟩:=E (i z) hb en w' c;refine⟨v,rfl,e2 _ G' hS (by grind) ?_⟩;exact EnvR.put (p:=[]) (H.mono hL) hd (fun _ h=>by cases h) hs ⟨fun _=>aB,fun h=>(h (fun _ h=>by cases h)).elim⟩
     grind
   grind
  grind
 grind
theorem Th{n:Nat}:∀{a b:List Oper} {i:Nat} {seen:List Nat},H8 n i seen (a++b)=true->H8 n i seen a=true/\∃sn,H8 n (i+a.length) sn b=true/\(∀d∈seen,d∈sn)/\∀o∈a,∀d,o.dst=some d->d∈sn
 | [],b,i,seen,h=>⟨rfl,seen,by grind,fun _ h=>h,fun _ h=>by cases h⟩
 | o :: r,b,i,seen,h=>by
   simp only[List.cons_append,H8,ba] at h ⊢;obtain⟨⟨f,e⟩,c⟩:=h;obtain⟨g,sn,j,k3,k⟩:=Th c
   grind
theorem Ze{l:List Oper}{i:Nat}{o:Oper}(h:B8 l i=some o):l=l.take i++o :: l.drop (i+1)/\i<l.length/\(l.take i).length=i:=by
 have h:=Yl h
 grind[hi,Nat.lt_or_ge,List.getElem?_eq_none,List.length_take,List.getElem?_eq_getElem,List.drop_eq_getElem_cons,List.take_append_drop]
section
variable {X:Cx} {Γ:o5} {T:List Ct}
theorem n0x(bM:w9 X.P Γ)(hT:∀c∈T,Ok X.P c){l:List Oper}{recs:List A4}{ol:Oper}{st:St}{Q:Exit->Act->World->Prop}(hl:recs.map (·.o)++[ol]=l)(aO:Gu Γ T l st recs)(bC:∀t s,b9 st.e t=some s->s.p=[])
  (bA:H8 X.n 0 [] l=true) (aD:O4 0 l=true) (E:Fb (H3 [] l) recs=true) (bI:∀k,k<recs.length->M1 k ((B8 (H3 [] l) recs.length).getD [])=true) (bL:∀G' a',Sat X G'->G'.o=(recs.foldl C3 st).o->EnvR X.n G' (recs.foldl C3 st).e a'->∀K:Act->World->Prop,(∀a2 w2,Q .normal a2 w2->K a2 w2)->M0 X.P l.toArray Q ol K a' G'.w) :
  ∀(fuel:Nat) (listed:Array Bool) (G:Gh) (a:Act),((List.range l.length).filter fun i=>!listed.getD i true).length<=fuel->listed.size=l.length->listed.getD recs.length false=false->Fa (fun k=>listed.getD k false) l->Sat X G->(∀id,b9 G.o id=b9 (A0 (fun k=>listed.getD k false) 0 recs st).o id) ->
   EnvR X.n G (A0 (fun k=>listed.getD k false) 0 recs st).e a->wpAny X.P .any l.toArray Q fuel listed a G.w:=by
 have cC:recs.length+1=l.length:=by rw[<- hl]; simp
 have aT:l[recs.length]?=some ol:=by rw[<- hl,List.getElem?_append_right (by simp)]; simp
 have bK:∀(j:Nat) (R:A4),recs[j]?=some R->l[j]?=some R.o:=fun j R h=>by
  have hj:j<recs.length:=by
   rcases Nat.lt_or_ge j recs.length with h' | h'
   ·exact h'
   ·rw[List.getElem?_eq_none h'] at h; cases h
  rw[<- hl,List.getElem?_append_left (by simpa using hj),List.getElem?_map,h]; rfl
 have bU:∀(j:Nat) (o:Oper),j<recs.length->l[j]?=some o->∃R,recs[j]?=some R/\R.o=o:=fun j o hj h=>by
  grind
 have aV:=SC (all:=l) (rest:=l) (acc:=[]) (fun j=>by simp) aD (fun i m h=>by grind);have aG:=SD bA;have aP:∀(i:Nat) (o:Oper) (k:Nat),l[i]?=some o->k∈O3 o->k<i:=by
  have:∀{m:List Oper} {i:Nat},O4 i m=true->∀j o k,m[j]?=some o->k∈O3 o->k<i+j:=by
   intro m
   induction m with
   | nil=>grind
   | cons o0 r ih =>
     intro i h j o k hj u;simp only[O4,ba,List.all_eq_true] at h;cases j with
     | zero=>simp only[List.getElem?_cons_zero,oi] at hj; subst hj; have:=h.1 k u; simpa using this
     | succ j=>grind
  intro i o k f W;have:=this aD i o k f W; omega
 -- all is done: the end
 have aJ:∀(fuel:Nat) (listed:Array Bool) (a:Act) (w:World),listed.size=l.length->(∀i,i<l.length->listed.getD i false=true)->Q .normal a w->wpAny X.P .any l.toArray Q fuel listed a w:=by
  intro fuel listed a w aS aC hq;have hr:Region.ready .any l.toArray listed=[]:=by
   cases hr:Region.ready .any l.toArray listed with
   | nil=>rfl
   | cons i r =>
     have hi:i∈Region.ready .any l.toArray listed:=by rw[hr]; simp
     obtain⟨f,o,W,_⟩:=mem_ready.1 hi;have bV:i<l.length:=by
      rcases Nat.lt_or_ge i l.length with h | h
      ·exact h
      ·rw[List.getElem?_toArray,List.getElem?_eq_none h] at W; cases W
     have:=aC i bV;have hs:i<listed.size:=by omega
     rw[Array.getD_eq_getD_getElem?,Array.getElem?_eq_getElem hs] at this f;simp only[Option.getD_some] at this f;rw[this] at f; cases f
  cases fuel with
  | zero=>exact⟨hr,hq⟩
  | succ fuel=>exact⟨fun _=>hq,fun i hi=>by grind⟩
 intro fuel
 induction fuel with
 | zero =>
   intro listed G a hf aS aH aB S hO hE;have bX:(List.range l.length).filter (fun i=>!listed.getD i true)=[]:=List.eq_nil_of_length_eq_zero (by omega);have:recs.length∈(List.range l.length).filter (fun i=>!listed.getD i true):=List.mem_filter.2 ⟨List.mem_range.2 (by omega),by
    grind⟩
   grind
 | succ fuel ih =>
   intro listed G a hf aS aH aB S hO hE;refine⟨fun hr=>False.elim ?_,fun i hi=>?_⟩
   · -- nothing is ready: all is done
     have aC:∀i,i<l.length->listed.getD i false=true:=by
      intro i
      induction i using Nat.strongRecOn with
      | ind i bQ =>
        intro hi;cases h:listed.getD i false with
        | true=>rfl
        | false =>
          have:i∈Region.ready .any l.toArray listed:=mem_ready.2 ⟨by
           grind,l[i],by grind,fun e he hb=>bQ e.on (aP i l[i] e.on (List.getElem?_eq_getElem hi) (Z4.2 ⟨e,he,hb,rfl⟩)) (by have:=aP i l[i] e.on (List.getElem?_eq_getElem hi) (Z4.2 ⟨e,he,hb,rfl⟩); omega)⟩
          rw[hr] at this; cases this
     have:=aC recs.length (by omega);rw[aH] at this; cases this
   ·obtain⟨aI,o,ho,cB⟩:=mem_ready.1 hi;rw[List.getElem?_toArray] at ho;have aZ:i<l.length:=by
     rcases Nat.lt_or_ge i l.length with h | h
     ·exact h
     ·grind
    have aW:listed.getD i false=false:=by
     have hs:i<listed.size:=by omega
     rw[Array.getD_eq_getD_getElem?,Array.getElem?_eq_getElem hs] at aI ⊢;exact aI
    -- what stands ahead of i is done
    have bY:∀k∈((B8 (H3 [] l) i).getD []),k<i/\listed.getD k false=true:=by
     intro k u;rw[V9] at u;cases hb:(H3 [] l)[i]? with
     | none=>grind
     | some m =>
       rw[hb] at u;obtain⟨g1,g2⟩:=aV i m hb;exact⟨g1 k u,g2 _ aB o ho (fun k' aM=>by obtain⟨e,he,bF,rfl⟩:=Z4.1 aM; grind) k u⟩
    by_cases bD:i=recs.length
    · -- the last one
      subst bD;rw[aT] at ho;cases ho;have hD:∀j,j<recs.length->listed.getD (0+j) false=true:=fun j hj=>by
       rw[Nat.zero_add]
       grind[P5]
      rw[Yo (D:=fun k=>listed.getD k false) hD] at hO hE;obtain⟨S',L'⟩:=S.congr (o':=(recs.foldl C3 st).o) (fun i=>(hO i).symm);have aL:=bL ⟨G.ρ,G.γ,G.K,G.w,(recs.foldl C3 st).o,G.B,G.δ⟩ a S' rfl (hE.mono L') (wpAny X.P .any l.toArray Q fuel (listed.setIfInBounds recs.length true)) (fun a2 w2 hq=>aJ fuel _ a2 w2 (by grind) (fun j hj=>by
       by_cases bB:j=recs.length
       ·subst bB;have hs:recs.length<listed.size:=by omega
        simp[hs]
       ·rw[getD_set_ne false (Ne.symm bB)];have:=hD j (by omega)
        rwa [Nat.zero_add] at this) hq)
      unfold wpOp;rw[List.getElem?_toArray,aT];unfold M0 at aL;simp only;split
      ·grind
      ·grind
    obtain⟨R,hR,rfl⟩:=bU i o (by omega) ho;have bT:∀k,listed.getD k false=true->k<l.length->∀m∈((B8 (H3 [] l) k).getD []),m<k/\listed.getD m false=true:=by
     intro k u v m hm;rw[V9] at hm;cases hb:(H3 [] l)[k]? with
     | none=>grind
     | some b =>
       rw[hb] at hm;obtain⟨g1,g2⟩:=aV k b hb;exact⟨g1 m hm,g2 _ aB l[k] (List.getElem?_eq_getElem v) (fun k' aM=>aB k l[k] (List.getElem?_eq_getElem v) u k' aM) m hm⟩
    have bW:∀k,k<l.length->∀m∈((B8 (H3 [] l) k).getD []),m<k:=by
     intro k v m hm;rw[V9] at hm;cases hb:(H3 [] l)[k]? with
     | none=>grind
     | some b=>grind
    -- ordered with i: done exactly if earlier in the text
    have aF:∀k,k<l.length->k≠i->(M1 k ((B8 (H3 [] l) i).getD [])||M1 i ((B8 (H3 [] l) k).getD []))=true->listed.getD k false=decide (k<i):=by
     intro k v cA h;rw[Bool.or_eq_true] at h;rcases h with h | h
     ·grind[P5]
     ·grind[P5]
    obtain⟨sj,aK,bG,⟨q,aU,hq⟩,hg⟩:=Yp (i:=0) aO hR;rw[Nat.zero_add] at aK
    -- the slots and objects that i looks at are as in the text's order
    have aX:∀t,t∈Yr R->b9 sj.e t=b9 (A0 (fun k=>listed.getD k false) 0 recs st).e t:=by
     intro t ht;rw[aK];refine Of (fun k R' u V=>?_) rfl;rw[Nat.zero_add];by_cases g:k=i
     ·grind
     ·have F:=Gw E u hR g;have v:k<l.length:=by
       rcases Nat.lt_or_ge k l.length with h | h
       ·exact h
       ·grind
      simp only[Dc,ba] at F;have V:R'.o.dst=some t:=V;rw[V] at F;simp only[ba] at F;have f:=F.1.1;rw[Bool.or_eq_true] at f;rcases f with f | f
      ·grind[P5]
      ·exact(aF k v g (by omega)).symm
    have bN:∀id,id∈R.fp++R.obs.map Prod.fst->b9 sj.o id=b9 G.o id:=by
     intro id aQ;rw[hO,aK];refine Og (fun k R' u V=>?_) rfl;rw[Nat.zero_add];by_cases g:k=i
     ·grind
     ·have F:=Gw E u hR g;have v:k<l.length:=by
       rcases Nat.lt_or_ge k l.length with h | h
       ·exact h
       ·grind
      simp only[Dc,ba] at F;have f:=F.2;rw[Bool.or_eq_true] at f;obtain⟨y,hy,bR⟩:=V;rcases f with f | f
      ·simp only[Oh,List.all_eq_true] at f;have:=f id (by grind)
       grind[P5]
      ·exact(aF k v g (Bool.or_comm _ _ ▸ f)).symm
    have aY:∀x∈R.p,b9 sj.e x.1=b9 (A0 (fun k=>listed.getD k false) 0 recs st).e x.1:=fun x hx=>aX x.1 (List.mem_append.2 (.inr (List.mem_map_of_mem hx)));have bP:=g0U bG aY;have aR:X9 Γ T ⟨(A0 (fun k=>listed.getD k false) 0 recs st).e,G.o⟩ R.p R.o=some (q,R.av,R.obs,R.fp) :=
     k0G (e:=sj.e) (o:=sj.o) (fun t ht=>aX t (List.mem_append.2 (.inl (m0V ht)))) aU (fun id aQ=>bN id (List.mem_append.2 (.inl aQ)))
    have hd:∀d,R.o.dst=some d->d<X.n/\(∀x∈R.p,x.1≠d)/\∀t s,b9 (A0 (fun k=>listed.getD k false) 0 recs st).e t=some s->∀x∈s.p,x.1≠d:=by
     intro d hd;refine⟨(aG.1 i R.o d ho hd).1,fun x hx e=>?_,fun t s ht x hx e=>?_⟩
     ·have f:=Oi E i R hR;rw[Nat.zero_add,ba] at f;have W:=f.1;simp only[Ys,hd] at W
      grind[P5]
     ·rcases Yu ht with h | ⟨k,Rk,u,Y,hsp⟩
      ·grind
      ·rw[Nat.zero_add] at Y;have g:i≠k:=fun e'=>by grind
       have v:k<l.length:=by
        rcases Nat.lt_or_ge k l.length with h | h
        ·exact h
        ·grind
       have F:=Gw E hR u g;simp only[Dc,ba,hd] at F;have W:=F.1.2;rw[Bool.or_eq_true] at W;rcases W with W | W
       ·rw[P5.2 (List.mem_map.2 ⟨x,by rw[<- hsp]; exact hx,e⟩)] at W; cases W
       ·rw[(bT k Y v i (P5.1 W)).2] at aW; cases aW
    have H:∀k,(listed.setIfInBounds i true).getD k false=if k=i then true else listed.getD k false:=fun k=>by
     by_cases g:k=i
     ·subst g;have hs:k<listed.size:=by omega
      simp[hs]
     ·rw[if_neg g]; exact getD_set_ne false (Ne.symm g)
    have aL:=Oe (st:=⟨(A0 (fun k=>listed.getD k false) 0 recs st).e,G.o⟩) (K:=wpAny X.P .any l.toArray Q fuel (listed.setIfInBounds i true)) bM hT (ops:=l.toArray) (all:=l) rfl (Q:=Q) S rfl hE bP aR (fun F=>hq (Yq (fun x hx=>(aY x hx).symm) F)) hg hd (fun a' G' S' _ bS bO=>by
     refine ih (listed.setIfInBounds i true) G' a' ?_ (by grind) (by grind) ?_ S' ?_ ?_
     ·have:((List.range l.length).filter fun j=>!(listed.setIfInBounds i true).getD j true).length < ((List.range l.length).filter fun j=>!listed.getD j true).length:=by
       refine Yt (fun j hj=>?_) ⟨i,List.mem_range.2 aZ,by simp only[aI]; rfl,?_⟩
       ·by_cases aN:i=j
        ·subst aN;have hs:i<listed.size:=by omega
         simp[hs] at hj
        ·rwa [getD_set_ne true aN] at hj
       ·have hs:i<listed.size:=by omega
        simp[hs]
      omega
     ·intro k o u Y m hm;simp only[H] at Y ⊢;by_cases bH:m=i
      ·grind
      ·rw[if_neg bH];by_cases g:k=i
       ·subst g;rw[ho] at u;cases u;obtain⟨e,he,bF,rfl⟩:=Z4.1 hm
        grind
       ·rw[if_neg g] at Y;exact aB k o u Y m hm
     ·intro id;rw[bS];by_cases V:Gv R id
      ·rw[Yn (D:=fun k=>(listed.setIfInBounds i true).getD k false) (st':=⟨[],G.o⟩) hR V (by grind) (fun k Rk bE u aA=>?_)]
       ·rfl
       ·rw[Nat.zero_add];simp only[H,if_neg (show k≠i by omega)];have v:k<l.length:=by
         rcases Nat.lt_or_ge k l.length with h | h
         ·exact h
         ·grind
        have F:=Gw E u hR (show k≠i by omega);simp only[Dc,ba] at F;have f:=F.2;rw[Bool.or_eq_true] at f;obtain⟨y,hy,bR⟩:=aA;obtain⟨z,hz,bZ⟩:=V;rcases f with f | f
        ·simp only[Oh,List.all_eq_true] at f;have:=f id (by grind[List.mem_map_of_mem])
         grind[P5,List.mem_map_of_mem]
        grind
      ·have e1:=SB ⟨[],G.o⟩ R id V;simp only[C3] at e1;rw[e1,hO];refine Og (fun k Rk u aA=>?_) rfl;rw[Nat.zero_add];simp only[H];rw[if_neg (fun e=>by grind)]
     ·refine bO.congr (fun t=>?_);by_cases V:DZ R t
      ·have bJ:=w0I aU V;rw[Ym (D:=fun k=>(listed.setIfInBounds i true).getD k false) (st':=⟨(A0 (fun k=>listed.getD k false) 0 recs st).e,G.o⟩) hR V bJ (by grind) (fun k Rk bE u aA=>by
        have:=aG.2 i k R.o Rk.o t ho (bK k Rk u) V aA;omega)]
       rfl
      ·have e1:=SA ⟨(A0 (fun k=>listed.getD k false) 0 recs st).e,G.o⟩ R t V;simp only[C3] at e1;rw[e1];refine Of (fun k Rk u aA=>?_) rfl;rw[Nat.zero_add];simp only[H];rw[if_neg (fun e=>by grind)])
    unfold wpOp;rw[List.getElem?_toArray,ho];unfold M0 at aL;simp only;split
    ·grind
    grind
end
theorem Ti{X:Cx}{st:St}{Q:Exit->Act->World->Prop}{Γ:o5}{T:List Ct}(u:w9 X.P Γ)(hT:∀c∈T,Ok X.P c){id i:Nat}{l:List Oper}(h:List Nat)(z:H8 X.n 0 [] l=true)(aJ:H9 st.e=true){V:Prop}{b:St}{Y:List A4}(h1:L5 Γ T l (l.take i) st []=some (V,b,Y))(hV:V){o:Oper}(hn:B8 l i=some o)(_:H9 b.e=true)
  (H:(∀d,o.dst=some d->d<X.n)->∀G a,Sat X G->G.o=b.o->EnvR X.n G b.e a->∀K:Act->World->Prop,(∀st2 W st3 rs3 G' a',H9 st2.e=true->L5 Γ T l (l.drop (i+1)) st2 []=some (W,st3,rs3)->W->FX X (cut h st3) .normal Q->Sat X G'->G'.o=st2.o->EnvR X.n G' st2.e a'->K a' G'.w)->M0 X.P l.toArray Q o K a G.w):VX X st (.region id l.toArray false) Q:=by
 intro G a S ho hE;obtain⟨el,aI,F⟩:=Ze hn;refine wp_region_lit ?_;have f:=z;rw[el] at f;obtain⟨k1,sn,k,-,k4⟩:=Th f;rw[F,Nat.zero_add] at k;simp only[H8,ba] at k;obtain⟨⟨k,-⟩,k3⟩:=k;have aC:∀d,o.dst=some d->d<X.n:=fun d hd=>by
  rw[hd] at k;simp only[ba] at k;simpa using k.1
 obtain⟨g,e1,e2,e3⟩:=Ba (Z7 (K:=fun q _=>q=b) h1 hV rfl);have aH:g.length=i:=by grind
 have:=It u hT (ops:=l.toArray) (all:=l) rfl (Q:=Q) (rest:=o :: l.drop (i+1)) g 0 [] st G a (fun j hj=>by
   grind) (by grind) (fun j oj dj hj=>by omega) (fun t s ht x hx=>by grind[Av]) e2 S ho hE
  (fun G1 a1 S1 E v=>by
    rw[e3] at E v;refine OC (H aC G1 a1 S1 E v _ fun st2 W st3 rs3 G2 a2 aK g1 g2 g3 S2 aB aF=>?_);obtain⟨m,f1,f2,f3⟩:=Ba (Z7 (K:=fun q _=>q=st3) g1 g2 rfl);have:=It u hT (ops:=l.toArray) (all:=l) rfl (Q:=Q) (rest:=[]) m (i+1) _ st2 G2 a2 (fun j hj=>by
      grind) (by rw[f1]; exact k3) (fun j oj dj hj q1 q2=>by
      grind) (fun t s ht x hx=>by grind[Av]) f2 S2 aB aF
     (fun G3 a3 S3 y r=>by
       rw[f3] at y r;obtain⟨G4,S4,aD,aG,aA⟩:=Gy h S3 y r;have:=g3 G4 a3 S4 aD aA
       rwa [aG] at this)
    grind)
 grind
def M0s(n:Nat)(Γ:o5)(T:List Ct)(l:List Oper)(i:Nat)(f:FuncId)(ps:List Par)(st:St):Option (Prop×St×Nat×r9 ps×List Nat×Option Nat) :=
 bif H8 n 0 [] l&&H9 st.e&&!F0 ps then(match L5 Γ T l (l.take i) st [] with
  | some (V,st1,_)=>(match B8 l i with
    | some ⟨some d,op,_,_,_,none⟩=>bif H9 st1.e then(match Zc st1 ps f op with
      | some (x,m,io)=>bif Od m io then some (V,st1,d,x,m,io) else none
      | none=>none) else none
    | _=>none)
  | none=>none) else none
def Zf(Γ:o5)(T:List Ct)(l:List Oper)(i:Nat)(keep:List Nat){ps:List Par}(res:r9 ps->Gn ps)(st1:St)(d:Nat)(x:r9 ps)(m:List Nat)(io:Option Nat):Option (Prop×St):=match Zd st1 d res x m io with
 | some st2=>bif H9 st2.e then(match L5 Γ T l (l.drop (i+1)) st2 [] with
   | some (W,st3,_)=>some (W,cut keep st3)
   | none=>none) else none
 | none=>none
def OD(n:Nat)(Γ:o5)(T:List Ct)(l:List Oper)(i:Nat)(keep:List Nat)(f:FuncId){ps:List Par}(pre:r9 ps->Prop)(res:r9 ps->Gn ps)(st:St):Option (Prop×Prop×St):=match M0s n Γ T l i f ps st with
 | some (V,st1,d,x,m,io)=>(match Zf Γ T l i keep res st1 d x m io with
   | some (W,st3)=>some (V/\pre x,W,st3)
   | none=>none)
 | none=>none
theorem J4{V:Prop}[Decidable V]{ρ:Type}{e:Option ρ}{r:ρ}{C:Prop}(H:gd V e=some r)(k:e=some r->C):V/\C:=⟨(K7 H).1,k (K7 H).2⟩
theorem zE[Alw]{P:Program}{n:Nat}{y:World×(Nat->Prop)×(Nat->Prop)×(Nat->Value->Prop)×Nat}{st:St}{Q:Exit->Act->World->Prop}{Γ:o5}{T:List Ct}{ρ:Type}{r:ρ}(w:w9 P Γ)(hT:∀c∈T,Ok P c){f:FuncId}{ps:List Par}{j:Type}[Inhabited j]{pre:r9 ps->Prop}{post:j->Prop}{R:j->AV}{Z:j->B6 ps}(hk:kE P f ps pre post R Z)
  (i:Nat) (e:List Nat) (S:j->St) (W:j->Prop) {V:Prop} [Decidable V] {g:j->Option ρ} {id:Nat} {l:List Oper} (H:gd V (Alw.alp (Y5 ps post R Z) g)=some r) (h:∀z,OD n Γ T l i e f pre (fun _=>⟨True,R z,Z z⟩) st=some (V,W z,S z)) (hc:∀z,Y5 ps post R Z z->g z=some r->W z/\FX (cx P n y) (S z) .normal Q):VX (cx P n y) st (.region id l.toArray false) Q:=by
 obtain⟨hV,H0⟩:=K7 H;have HH:=Alw.alp_some H0;clear H0 H;have k:=h default;unfold OD at k;split at k
 ·rename_i V' v d x m io b;have u:(V'/\pre x)=V:=by
   split at k
   ·grind
   ·cases k
  subst u;have h2:∀z,Zf Γ T l i e (fun _=>⟨True,R z,Z z⟩) v d x m io=some (W z,S z):=fun z=>by
   grind[OD]
  clear k h;unfold M0s at b;rw[ce] at b;split at b
  ·rename_i o;simp only[ba] at o;have F:¬F0 ps=true:=by simpa using o.2
   split at b
   ·rename_i V1 aC aD g1;split at b
    ·rename_i d' op ty aG aA hn;rw[ce] at b;split at b
     ·rename_i q;split at b
      ·rename_i x' m' aF ha;rw[ce] at b;split at b
       ·rename_i E;simp only[oi,pj] at b;obtain⟨rfl,rfl,rfl,rfl,rfl,rfl⟩:=b;refine Ti (X:=cx P n y) w hT e o.1.1 o.1.2 g1 hV.1 hn q fun Y G a S' ho hE K hK=>?_;refine H0P hk S' ho hE F ha E (Y _ rfl) (fun t s ht x hx=>by grind[Av]) hV.2 fun z aB hR hI=>?_;have hz:Y5 ps post R Z z:=⟨aB,hR,hI⟩;have h3:=h2 z;unfold Zf at h3
        grind
       grind
      grind
     grind
    grind
   grind
  grind
 grind
end Go.Proofs.Xv
end
section
namespace Go.Proofs.Xv
open Go Go.RowKit Go.Proofs.Sv Go.Proofs.Xl
def AllS{α:Type}(R:α->α->Prop):List α->List α->Prop
 | [],ys=>ys=[]
 | x :: r,ys=>∃y r',ys=y :: r'/\R x y/\AllS R r r'
def w8:(t:Ty)->j5 t->j5 t->Prop
 | .int _,_,_=>True
 | .bool,x,y=>y=x
 | .str,x,y=>y=x
 | .sl e,x,y=>AllS (w8 e) x y
 | .pt e,x,y=>w8 e x y
 | .pr a b,x,y=>w8 a x.1 y.1/\w8 b x.2 y.2
theorem AllS.refl{a:Type}{R:a->a->Prop}(h:∀x,R x x):∀xs:List a,AllS R xs xs
 | []=>rfl
 | x :: r=>⟨x,r,rfl,h x,AllS.refl h r⟩
theorem KM:∀(t:Ty) (x:j5 t),w8 t x x
 | .int _,_=>trivial
 | .bool,_=>rfl
 | .str,_=>rfl
 | .sl e,x=>AllS.refl (KM e) x
 | .pt e,x=>KM e x
 | .pr a b,x=>⟨KM a x.1,KM b x.2⟩
theorem AllS.len{a:Type}{R:a->a->Prop}:∀{xs ys:List a},AllS R xs ys->ys.length=xs.length
 | [],_,h=>by rw[show _=[] from h]
 | _ :: _,_,⟨_,_,e,_,h⟩=>by rw[e,List.length_cons,List.length_cons,AllS.len h]
theorem AllS.all{a:Type}{R:a->a->Prop}{p q:a->Prop}(b:∀x y,R x y->p x->q y):∀{xs ys:List a},AllS R xs ys->(∀x∈xs,p x)->∀y∈ys,q y
 | [],_,h,_,y,hy=>by rw[show _=[] from h] at hy; cases hy
 | x :: r,_,⟨y',r',e,h1,h2⟩,hp,y,hy=>by
   subst e;rcases List.mem_cons.1 hy with rfl | hy
   ·grind
   ·exact AllS.all b h2 (fun x c=>hp x (by grind)) y hy
def Sim(k:IntKind)(u u':Value):Prop:=u'=u∨∃x x',u=.int k x/\u'=.int k x'/\lo k<=x'/\x'<=hi k
def OE(k:IntKind)(w w':World):Prop:=∀b o u,w.cell? ⟨b,o,none⟩=some u->∃u',w'.cell? ⟨b,o,none⟩=some u'/\Sim k u u'
def SimL(k:IntKind):List Value->List Value->Prop
 | [],vs=>vs=[]
 | u :: r,vs=>∃u' r',vs=u' :: r'/\Sim k u u'/\SimL k r r'
theorem SimL.refl{k:IntKind}:∀us:List Value,SimL k us us
 | []=>rfl
 | u :: r=>⟨u,r,rfl,.inl rfl,SimL.refl r⟩
theorem SimL.split{k:IntKind}{b:List Value}:∀{a cs:List Value},SimL k (a++b) cs->∃a' b',cs=a'++b'/\SimL k a a'/\SimL k b b'
 | [],cs,h=>⟨[],cs,rfl,rfl,h⟩
 | u :: r,cs,⟨u',r',e,h1,h2⟩=>by
   obtain⟨a',b',f,d,c⟩:=SimL.split h2;exact⟨u' :: a',b',by grind,⟨u',a',rfl,h1,d⟩,c⟩
theorem At.sim{k:IntKind}{w w':World}(c:OE k w w'){b:Nat}:∀{ds:List Value} {o:Nat},At w b o ds->∃ds',At w' b o ds'/\SimL k ds ds'
 | [],o,_=>⟨[],fun i u h=>by grind,rfl⟩
 | d :: r,o,h=>by
   obtain⟨a,g,f⟩:=At.sim c (At.tail h);obtain⟨e,l,j⟩:=c b o d (h 0 d rfl);refine⟨e :: a,fun i u m=>?_,e,a,rfl,j,f⟩;cases i with
   | zero=>grind
   | succ i =>
     have:=g i u (by grind)
     rwa [show o+1+i=o+(i+1) by omega] at this
theorem AllR.sim{k:IntKind}{a:Type}{R R':List Value->a->Prop}{S:a->a->Prop}(b:∀c c' x,SimL k c c'->R c x->∃x',R' c' x'/\S x x'):∀{cs cs':List Value} {xs:List a},SimL k cs cs'->AllR R cs xs->∃xs',AllR R' cs' xs'/\AllS S xs xs'
 | cs,cs',[],hs,h=>by
   rw[show cs=[] from h] at hs;exact⟨[],hs,rfl⟩
 | _,cs',x :: r,hs,⟨c,d,e,h1,h2⟩=>by
   subst e;obtain⟨c',o,rfl,j,n⟩:=hs.split;obtain⟨x',g,m⟩:=b c c' x j h1;obtain⟨f,l,i⟩:=AllR.sim b n h2;exact⟨x' :: f,⟨c',o,rfl,g,l⟩,x',f,rfl,m,i⟩
theorem Tj{k:IntKind}{u:Value}{cs:List Value}(h:SimL k [u] cs)(e:∀x,u≠.int k x):cs=[u]:=by
 obtain⟨d,c,rfl,b,a⟩:=h;rw[show c=[] from a];rcases b with rfl | ⟨x,_,rfl,_⟩
 ·rfl
 grind
theorem RT.sim{k:IntKind}{K:Nat->Prop}{w w':World}(n:OE k w w'):∀{t:Ty} {cs cs':List Value} {x:j5 t},SimL k cs cs'->RT K w t cs x->∃x',RT K w' t cs' x'/\w8 t x x'
 | .int k0,cs,cs',x,f,h=>by
   obtain⟨rfl,i⟩:=h;obtain⟨Q,H,rfl,g,m⟩:=f;rw[show H=[] from m];rcases g with rfl | ⟨x0,x',e,rfl,u,h5⟩
   ·exact⟨x,⟨rfl,i⟩,trivial⟩
   ·cases e;exact⟨x',⟨rfl,u,h5⟩,trivial⟩
 | .bool,cs,cs',x,f,h=>by
   rw[show cs=_ from h] at f;exact⟨x,Tj f (fun _ h=>by cases h),rfl⟩
 | .str,cs,cs',x,f,h=>by
   rw[h.1] at f;exact⟨x,⟨Tj f (fun _ h=>by cases h),h.2⟩,rfl⟩
 | .sl e,cs,cs',xs,f,⟨p,cap,i,g,m,u⟩=>by
   rw[i] at f;have v:=Tj f (fun _ h=>by cases h);rcases u with rfl | ⟨b,o,ds,hp,hb,hat,hall⟩
   ·exact⟨[],⟨p,cap,v,g,m,.inl rfl⟩,rfl⟩
   ·obtain⟨j,s,q⟩:=At.sim n hat;obtain⟨y,r,l⟩:=AllR.sim (fun c z x f G=>RT.sim n (t:=e) f G) q hall;exact⟨y,⟨p,cap,by rw[v,l.len],by rw[l.len]; exact g,m,.inr ⟨b,o,j,hp,hb,s,r⟩⟩,l⟩
 | .pt e,cs,cs',x,f,⟨b,o,ds,i,hb,hat,g⟩=>by
   rw[i] at f;have v:=Tj f (fun _ h=>by cases h);obtain⟨j,s,q⟩:=At.sim n hat;obtain⟨x',r,l⟩:=RT.sim n (t:=e) q g;exact⟨x',⟨b,o,j,v,hb,s,r⟩,l⟩
 | .pr a b,cs,cs',x,f,⟨c,d,h,i,g⟩=>by
   subst h;obtain⟨z,E,rfl,m,u⟩:=f.split;obtain⟨P,s,q⟩:=RT.sim n (t:=a) m i;obtain⟨F,r,l⟩:=RT.sim n (t:=b) u g;exact⟨(P,F),⟨z,E,rfl,s,r⟩,q,l⟩
mutual
def HavA:AV->AV->Prop
 | .d fr t x,b=>bif D3 t then b=.d fr t x else ∃x',b=.d fr t x'/\w8 t x x'/\(wf t x->wf t x')
 | .agg xs,b=>∃ys,b=.agg ys/\HavAs xs ys
 | .tup xs,b=>∃ys,b=.tup ys/\HavAs xs ys
 | .fn f xs,b=>∃ys,b=.fn f ys/\HavAs xs ys
 | a,b=>b=a
def HavAs:List AV->List AV->Prop
 | [],ys=>ys=[]
 | x :: r,ys=>∃y r',ys=y :: r'/\HavA x y/\HavAs r r'
end
def HavO:Ob->Ob->Prop
 | .box T cs,b=>∃ds,b=.box T ds/\HavAs cs ds
 | .arr T fr t xs v,b=>bif D3 t then b=.arr T fr t xs v else ∃xs',b=.arr T fr t xs' v/\AllS (w8 t) xs xs'
 | a,b=>b=a
theorem B0V{fr:Bool}{t:Ty}{x:j5 t}{b:AV}:HavA (.d fr t x) b=(bif D3 t then b=.d fr t x else ∃x',b=.d fr t x'/\w8 t x x'/\(wf t x->wf t x')):=by grind[HavA]
theorem Zg{T:TypeId}{fr:Bool}{t:Ty}{xs:List (j5 t)}{v:Nat}{b:Ob}:HavO (.arr T fr t xs v) b=(bif D3 t then b=.arr T fr t xs v else ∃xs',b=.arr T fr t xs' v/\AllS (w8 t) xs xs'):=rfl
def KN:List (Nat×Sl)->List (Nat×Sl)->Prop
 | [],ys=>ys=[]
 | (t,⟨p,a⟩) :: r,ys=>∃b r',ys=(t,⟨p,b⟩) :: r'/\HavA a b/\KN r r'
def HavL:List (Nat×Ob)->List (Nat×Ob)->Prop
 | [],ys=>ys=[]
 | (i,a) :: r,ys=>∃b r',ys=(i,b) :: r'/\HavO a b/\HavL r r'
def Zh(a b:St):Prop:=∃e o,b=⟨e,o⟩/\KN a.e e/\HavL a.o o
mutual
theorem HavA.refl:∀a,HavA a a
 | .d c t x=>by
   simp only[B0V,ce]
   grind[KM]
 | .agg b=>⟨b,rfl,HavAs.refl b⟩
 | .tup b=>⟨b,rfl,HavAs.refl b⟩
 | .fn f b=>⟨b,rfl,HavAs.refl b⟩
 | .v _ | .ptr .. | .pel .. | .os .. | .ow .. | .gel .. | .og .. | .ob ..=>by grind[HavA]
theorem HavAs.refl:∀as,HavAs as as
 | []=>by grind[HavAs]
 | a :: r=>by unfold HavAs; exact⟨a,r,rfl,HavA.refl a,HavAs.refl r⟩
end
theorem HavO.refl:∀a,HavO a a
 | .box T b=>⟨b,rfl,HavAs.refl b⟩
 | .arr T c t d v=>by
   simp only[Zg,ce]
   grind[AllS.refl,KM]
 | .grd ..=>rfl
def K0Y:Ob->Ob->Prop
 | .box T _,b=>∃ds,b=.box T ds
 | .arr T fr t _ v,b=>∃ys,b=.arr T fr t ys v
 | a,b=>b=a
theorem HavO.kind:∀{a b:Ob},HavO a b->K0Y a b
 | .box _ _,_,⟨ds,h,_⟩=>⟨ds,h⟩
 | .arr _ _ _ xs _,b,h=>by
   rw[Zg,ce] at h;split at h
   ·exact⟨xs,h⟩
   ·obtain⟨c,h,_⟩:=h; exact⟨c,h⟩
 | .grd ..,_,h=>h
theorem HavL.lk:∀{o o':List (Nat×Ob)},HavL o o'->∀i,(∀ob,b9 o i=some ob->∃ob',b9 o' i=some ob'/\HavO ob ob')/\(∀ob',b9 o' i=some ob'->∃ob,b9 o i=some ob/\HavO ob ob')
 | [],o',h,i=>by rw[show o'=[] from h]; exact⟨(fun _ h=>by cases h),fun _ h=>by cases h⟩
 | (j,a) :: r,_,⟨b,r',e,h1,h2⟩,i=>by
   subst e;rw[lK,lK];by_cases c:j=i
   ·grind
   ·rw[if_neg c,if_neg c];exact HavL.lk h2 i
def up(G:Gh)(w':World)(o':List (Nat×Ob)):Gh:=⟨G.ρ,G.γ,G.K,w',o',G.B,G.δ⟩
section
variable {k:IntKind} {G:Gh} {w':World} (hM:OE k G.w w')
include hM
mutual
theorem AVR.sim:∀{a:AV} {u:Value},AVR G a u->∃b,HavA a b/\∀o',HavL G.o o'->AVR (up G w' o') b u
 | .v x,u,h=>⟨.v x,rfl,fun _ _=>h⟩
 | .d fr t x,u,h=>by
   simp only[B0V,ce];split
   ·rename_i n;exact⟨.d fr t x,rfl,fun _ _=>RT.free n h⟩
   ·obtain⟨m,c,g⟩:=RT.sim (K:=rg G fr) hM (SimL.refl [u]) h;exact⟨.d fr t m,⟨m,rfl,g,fun _=>RT.wf c⟩,fun _ _=>c⟩
 | .agg xs,u,⟨us,e,h⟩=>by
   obtain⟨j,c,g⟩:=AVRs.sim h;exact⟨.agg j,⟨j,rfl,c⟩,fun o' i=>⟨us,e,g o' i⟩⟩
 | .tup xs,u,⟨us,e,h⟩=>by
   obtain⟨j,c,g⟩:=AVRs.sim h;exact⟨.tup j,⟨j,rfl,c⟩,fun o' i=>⟨us,e,g o' i⟩⟩
 | .fn f xs,u,⟨us,e,h⟩=>by
   obtain⟨j,c,g⟩:=AVRs.sim h;exact⟨.fn f j,⟨j,rfl,c⟩,fun o' i=>⟨us,e,g o' i⟩⟩
 | .ptr id off,u,⟨⟨T,cs,c⟩,g⟩=>⟨.ptr id off,rfl,fun o' i=>by
    obtain⟨ob,k,l⟩:=(i.lk id).1 _ c;obtain⟨ds,rfl⟩:=l.kind;exact⟨⟨T,ds,k⟩,g⟩⟩
 | .pel id ver kk s off,u,⟨h0,T,fr,t,xs,ver',c,g,h3⟩=>⟨.pel id ver kk s off,rfl,fun o' i=>by
    obtain⟨ob,k,l⟩:=(i.lk id).1 _ c;obtain⟨j,rfl⟩:=l.kind;exact⟨h0,T,fr,t,j,ver',k,g,h3⟩⟩
 | .os id ver,u,⟨h0,T,fr,t,xs,ver',c,g,h3⟩=>⟨.os id ver,rfl,fun o' i=>by
    obtain⟨ob,k,l⟩:=(i.lk id).1 _ c;obtain⟨j,rfl⟩:=l.kind;exact⟨h0,T,fr,t,j,ver',k,g,h3⟩⟩
 | .gel id kk,u,⟨⟨T,Te,fr,t,xs,hole,c⟩,g⟩=>⟨.gel id kk,rfl,fun o' i=>by
    obtain⟨ob,k,l⟩:=(i.lk id).1 _ c;have:=l.kind;rw[show ob=_ from this] at k;exact⟨⟨T,Te,fr,t,xs,hole,k⟩,g⟩⟩
 | .og id,u,⟨h0,⟨T,Te,fr,t,xs,hole,c⟩,g⟩=>⟨.og id,rfl,fun o' i=>by
    obtain⟨ob,k,l⟩:=(i.lk id).1 _ c;have:=l.kind;rw[show ob=_ from this] at k;exact⟨h0,⟨T,Te,fr,t,xs,hole,k⟩,g⟩⟩
 | .ow ..,_,h=>h.elim
 | .ob ..,_,h=>h.elim
theorem AVRs.sim:∀{as':List AV} {us:List Value},AVRs G as' us->∃bs,HavAs as' bs/\∀o',HavL G.o o'->AVRs (up G w' o') bs us
 | [],us,h=>⟨[],by grind[HavAs],fun _ _=>h⟩
 | a :: r,us,⟨u,us',e,h1,h2⟩=>by
   obtain⟨b,g,d⟩:=AVR.sim h1;obtain⟨bs,i,f⟩:=AVRs.sim h2;have:=hM;exact⟨b :: bs,by unfold HavAs; grind,fun o' c=>⟨u,us',e,d o' c,f o' c⟩⟩
end
theorem ObR.sim{b:Nat}(l:WE (some b) G.w w'){id:Nat}:∀{ob:Ob},ObR G id ob->H7 (some ob)=false->G.γ id≠some b->∃ob',HavO ob ob'/\∀o',HavL G.o o'->ObR (up G w' o') id ob'
 | .box T cs,⟨b',us,h1,h2,h3,h4⟩,_,hb=>by
   obtain⟨ds,g,f⟩:=AVRs.sim hM h4;exact⟨.box T ds,⟨ds,rfl,g⟩,fun o' q=>⟨b',us,h1,h2,h3.we l (fun i e h=>by grind),f o' q⟩⟩
 | .arr T fr t xs v,⟨cs,h1,h2,h3⟩,_,hb=>by
   have d:=h1.we l (fun i e h=>by grind);simp only[Zg,ce];split
   ·rename_i n;exact⟨.arr T fr t xs v,rfl,fun o' _=>⟨cs,d,h2.mapR (fun c x j=>RT.free n j),h3⟩⟩
   ·obtain⟨a,g,f⟩:=AllR.sim (k:=k) (R':=RT (rg G fr) w' t) (S:=w8 t) (fun c r x m j=>RT.sim hM m j) (SimL.refl cs) h2;exact⟨.arr T fr t a v,⟨a,rfl,f⟩,fun o' _=>⟨cs,by rw[f.len]; exact d,g,h3⟩⟩
 | .grd ..,_,h,_=>by cases h
theorem v0f{b:Nat}(g:WE (some b) G.w w')(c:∀id o,b9 G.o id=some o->ObR G id o)(s:∀id,H7 (b9 G.o id)=false)(e:∀id o,b9 G.o id=some o->G.γ id≠some b) :
  ∀l:List (Nat×Ob),∃l',HavL l l'/\∀i ob,b9 l i=some ob->b9 G.o i=some ob->∃ob',b9 l' i=some ob'/\∀o',HavL G.o o'->ObR (up G w' o') i ob'
 | []=>⟨[],rfl,fun _ _ h=>by cases h⟩
 | (j,a) :: r=>by
   obtain⟨d,f,t⟩:=v0f g c s e r;by_cases m:b9 G.o j=some a
   ·obtain⟨k,n,u⟩:=ObR.sim hM g (c j a m) (by grind) (e j a m);refine⟨(j,k) :: d,⟨k,d,rfl,n,f⟩,fun i ob hi q=>?_⟩;rw[lK] at hi ⊢
    grind
   ·refine⟨(j,a) :: d,⟨a,d,rfl,HavO.refl a,f⟩,fun i ob hi q=>?_⟩;rw[lK] at hi ⊢
    grind
end
theorem Sat.hav{X:Cx}{G:Gh}(S:Sat X G){k:IntKind}{w':World}(hM:OE k G.w w'){b:Nat}(hw:Wr b G.w w')(hK:G.K b)(hb:X.w0.heap.size<=b)(hu:UF w' b)(hg:∀id,H7 (b9 G.o id)=false){e:List (Nat×Sl)}{a:Act}(hE:EnvR X.n G e a) :
  ∃o' e',HavL G.o o'/\KN e e'/\Sat X (up G w' o')/\EnvR X.n (up G w' o') e' a:=by
 have j:=WE.of_wr hw;have aI:∀id o,b9 G.o id=some o->G.γ id≠some b:=fun id o E h=>S.imm id o b E h hK;obtain⟨o',h1,h2⟩:=v0f hM j S.obs hg aI G.o;have m:=h1.lk;have aL:∀id,H7 (b9 o' id)=false:=fun id=>by
  cases h:b9 o' id with
  | none=>rfl
  | some u =>
    obtain⟨F,d,q⟩:=(m id).2 u h;have:=hg id;rw[d] at this;cases F with
    | box T cs=>obtain⟨ds,rfl⟩:=q.kind; rfl
    | arr T fr t xs v=>obtain⟨ds,rfl⟩:=q.kind; rfl
    | grd=>cases this
 have hS:Sat X (up G w' o'):=by
  refine⟨S.base,j.os.trans S.os,j.tape.trans S.tape,j.output.trans S.output,Nat.le_trans S.size j.size,fun i hi aH=>?_,fun id u aB=>?_,fun id P u aA c E aG hc aD=>?_,fun id u c E hc=>?_,fun id u c E hc=>?_,fun i hi=>?_,S.kfrom,fun id c _ W=>?_,fun i v h=>?_⟩
  ·rw[<- S.block i hi aH];exact hw.block i (by omega)
  ·obtain⟨F,d,q⟩:=(m id).2 u aB;obtain⟨aA,g3,g4⟩:=h2 id F d d;rw[show b9 o' id=some u from aB] at g3
   grind
  ·obtain⟨x,d,_⟩:=(m id).2 u E;obtain⟨x',q,_⟩:=(m P).2 aA aG;exact S.inj id P x x' c d q hc aD
  ·obtain⟨x,d,_⟩:=(m id).2 u E;exact S.imm id x c d hc
  ·obtain⟨x,d,_⟩:=(m id).2 u E;exact S.own id x c d hc
  ·by_cases e:i=b
   ·subst e;exact hu.g
   ·exact(S.klt i hi).same j.size (hw.block i e)
  ·rw[show b9 (up G w' o').o id=b9 o' id from rfl,aL id] at W;cases W
  ·obtain⟨bb,d,q⟩:=AVR.sim hM (S.pin i v h);rw[show bb=_ from d] at q
   grind
 have aJ:∀e:List (Nat×Sl),(∀t s,b9 e t=some s->(PathP s.p a->AVR G s.a (a.tmps.getD t undef))/\(¬PathP s.p a->a.tmps.getD t undef=undef))->∃e',KN e e'/\∀t f,b9 e' t=some f->(PathP f.p a->AVR (up G w' o') f.a (a.tmps.getD t undef))/\(¬PathP f.p a->a.tmps.getD t undef=undef):=by
  intro e he
  -- the slots that are seen turn, the hidden ones stay
  have aF:∀l:List (Nat×Sl),∃y,KN l y/\∀t s,b9 l t=some s->b9 e t=some s->∃f,b9 y t=some f/\(PathP f.p a->AVR (up G w' o') f.a (a.tmps.getD t undef))/\(¬PathP f.p a->a.tmps.getD t undef=undef):=by
   intro l
   induction l with
   | nil=>exact⟨[],rfl,fun _ _ h=>by cases h⟩
   | cons x r ih =>
     obtain⟨Q,p0,V⟩:=x;obtain⟨Y,z,h4⟩:=ih;by_cases hv:b9 e Q=some ⟨p0,V⟩/\PathP p0 a
     ·obtain⟨q1,q2⟩:=he Q _ hv.1;obtain⟨a1,d,q⟩:=AVR.sim hM (q1 hv.2);refine⟨(Q,⟨p0,a1⟩) :: Y,⟨a1,Y,rfl,d,z⟩,fun t s H aK=>?_⟩;rw[lK] at H ⊢
      grind
     ·refine⟨(Q,⟨p0,V⟩) :: Y,⟨V,Y,rfl,HavA.refl V,z⟩,fun t s H aK=>?_⟩;rw[lK] at H ⊢
      grind
  obtain⟨e',z,h4⟩:=aF e;refine⟨e',z,fun t f aC=>?_⟩;have:∀{l y:List (Nat×Sl)},KN l y->∀{f},b9 y t=some f->∃s,b9 l t=some s:=by
   intro l
   induction l with
   | nil=>intro y hl f h; rw[show y=[] from hl] at h; cases h
   | cons x r ih =>
     obtain⟨Q,p0,V⟩:=x;rintro y ⟨b1,Y,rfl,d,q⟩ f h;rw[lK] at h ⊢
     grind
  obtain⟨s,H⟩:=this z aC;obtain⟨s2,d,q⟩:=h4 t s H H;rw[aC] at d;cases d;exact q
 obtain⟨e',z,h4⟩:=aJ e hE.val;exact⟨o',e',h1,z,hS,hE.defers,hE.size,h4⟩
theorem p0b{w:World}{b:Nat}{a:Array Value}{T:TypeId}{k:IntKind}{o:Nat}{x y:Int}(j:w.heap[b]?=some (.cells a T (0,0)))(i:a[o]?=some (.int k x))(l:lo k<=y/\y<=hi k):OE k w (w.setRow b (B5 a.toList o [.int k y]).toArray):=by
 intro d f u c;by_cases g:d=b
 ·subst g;unfold World.cell? at c ⊢;rw[show(⟨d,f,none⟩:Addr).block=d from rfl] at c ⊢;rw[j] at c;rw[setRow_heap w d a _ T (0,0) j];simp only[Option.isSome_none,Bool.false_eq_true,if_false] at c ⊢;have m:o<a.toList.length:=by
   rcases Nat.lt_or_ge o a.size with h | h
   ·omega
   ·grind
  rw[List.getElem?_toArray];unfold B5;rw[<- Array.getElem?_toList] at c i;by_cases e:f=o
  ·subst e;rw[i] at c;cases c;refine⟨.int k y,?_,.inr ⟨x,y,rfl,rfl,l⟩⟩
   grind
  ·refine⟨u,?_,.inl rfl⟩;rcases Nat.lt_or_ge f o with h | h
   ·rw[List.append_assoc,List.getElem?_append_left (by rw[List.length_take]; omega),List.getElem?_take_of_lt h];exact c
   ·rw[List.getElem?_append_right (by rw[List.length_append,List.length_take]; simp; omega),List.length_append,List.length_take,List.getElem?_drop,<- c];congr 1;simp only[List.length_cons,List.length_nil];omega
 ·unfold World.cell? at c ⊢;rw[show(⟨d,f,none⟩:Addr).block=d from rfl] at c ⊢;rw[XH w b d _ g];exact⟨u,c,.inl rfl⟩
def OF:Ty->Option IntKind
 | .int k=>some k
 | .pr a _=>OF a
 | _=>none
theorem k0t{K:Nat->Prop}{w:World}{k:IntKind}:∀{t:Ty} {cs:List Value} {x:j5 t},OF t=some k->RT K w t cs x->∃v,cs[0]?=some (.int k v)
 | .int k',cs,x,h,hr=>by
   cases h;exact⟨x,by rw[hr.1]; rfl⟩
 | .pr a b,cs,x,h,⟨c,d,e,h1,h2⟩=>by
   obtain⟨v,f⟩:=k0t (t:=a) h h1;refine⟨v,?_⟩;rw[e];cases c with
   | nil=>simp at f
   | cons y r=>simpa using f
def OG:List (Nat×Ob)->Bool
 | []=>true
 | (_,.grd ..) :: _=>false
 | _ :: r=>OG r
theorem Zi:∀{o:List (Nat×Ob)},OG o=true->∀i,H7 (b9 o i)=false
 | [],_,_=>rfl
 | (j,ob) :: r,h,i=>by
   rw[lK];cases ob with
   | grd=>cases h
   | box T a =>
     split
     ·rfl
     ·exact Zi (o:=r) h i
   | arr =>
     split
     ·rfl
     ·exact Zi (o:=r) h i
def evH(n:Nat)(Γ:o5)(T:List Ct)(l:List Oper)(i:Nat)(st:St):Option (Prop×St) :=
 bif H8 n 0 [] l&&H9 st.e then(match L5 Γ T l (l.take i) st [] with
  | some (V,st1,_)=>(match B8 l i with
    | some ⟨none,.store ti x y,_,_,_,none⟩=>(match rd st1 [] x,rd st1 [] y,b9 Γ ti with
      | some (.d true (.pt e) _),some (.d _ (.int k') _),some tt=>bif H9 st1.e&&OG st1.o&&Nat.beq tt.size 1&&decide (OF e=some k') then some (V,st1) else none
      | _,_,_=>none)
    | _=>none)
  | none=>none) else none
def M0q(Γ:o5)(T:List Ct)(l:List Oper)(i:Nat)(keep:List Nat)(st2:St):Option (Prop×St):=bif H9 st2.e then(match L5 Γ T l (l.drop (i+1)) st2 [] with
 | some (W,st3,_)=>some (W,cut keep st3)
 | none=>none) else none
theorem B0K{X:Cx}{G:Gh}{a:Act}{st:St}{Γ:o5}(F:w9 X.P Γ){ops:Array Oper}{Q:Exit->Act->World->Prop}{K:Act->World->Prop}(S:Sat X G)(ho:G.o=st.o)(t:EnvR X.n G st.e a)(i:X.base=X.w0.heap.size)
  {m ty:TypeId} {x y:Operand} {pos:String} {after:Array Edge} {k:IntKind} {e:Ty} {x0:j5 (.pt e)} {fr:Bool} {y0:j5 (.int k)} {tt:TI} (hx:rd st [] x=some (.d true (.pt e) x0)) (he:OF e=some k) (hy:rd st [] y=some (.d fr (.int k) y0)) (ht:b9 Γ m=some tt) (hs:tt.size=1) (hg:OG st.o=true)
  (hK:∀st' a' G',Zh st st'->Sat X G'->G'.o=st'.o->EnvR X.n G' st'.e a'->K a' G'.w):M0 X.P ops Q ⟨none,.store m x y,ty,pos,after,none⟩ K a G.w:=by
 obtain⟨b,o,ds,g,⟨l,E⟩,V,hd⟩:=C5 t (p:=[]) (fun _ h=>by cases h) hx;obtain⟨j,H⟩:=C5 t (p:=[]) (fun _ h=>by cases h) hy;obtain⟨v0,Y⟩:=k0t he hd;have q:X.w0.heap.size<=b:=by
  have:=E rfl;rw[S.base.1,i] at this;exact this
 obtain⟨f,T,c⟩:=(S.klt b l).2 q;have s:=V 0 _ Y;rw[Nat.add_zero] at s;have W:f[o]?=some (.int k v0):=by
  unfold World.cell? at s;rw[show(⟨b,o,none⟩:Addr).block=b from rfl,c] at s;simpa using s
 have aB:o<f.size:=by
  rcases Nat.lt_or_ge o f.size with h | h
  ·exact h
  ·grind
 haveI:Info X.P m tt.size tt.bytes tt.zero:=⟨(F m _ ht).1⟩
 have hB:Blk G.w b f.toList T:=by unfold Blk; simpa using c
 have j:a.eval y=.int k y0:=by simpa using j
 have g:a.eval x=.pointer (some ⟨b,o,none⟩):=by simpa using g
 have z:=RM (P:=X.P) (T:=m) (o:=o) (vs:=[.int k y0]) (v:=a.eval y) (by rw[j]; rfl) (by grind) rfl hB (by grind);have r:=Sr (ty:=ty) g z;have hM:=p0b c W H;have aA:b<G.w.heap.size:=(S.klt b l).lt;obtain⟨o',e',h1,h2,h3,h4⟩:=S.hav hM (NT G.w b _) l q ⟨_,T,setRow_heap G.w b f _ T (0,0) c⟩ (fun id=>by grind[Zi]) t;unfold M0;have u:Region.wanted ⟨none,.store m x y,ty,pos,after,none⟩ (yielded ops a.tmps)=true:=rfl;rw[if_pos u];unfold Oper.wp;rw[r none pos after none];exact hK ⟨e',o'⟩ _ _ ⟨e',o',rfl,h2,by grind⟩ h3 rfl h4
theorem zH[Alw]{P:Program}{n:Nat}{y:World×(Nat->Prop)×(Nat->Prop)×(Nat->Value->Prop)×Nat}{st:St}{Q:Exit->Act->World->Prop}{Γ:o5}{T:List Ct}{r:Unit}(f:w9 P Γ)(hT:∀c∈T,Ok P c)(d:(cx P n y).base=(cx P n y).w0.heap.size){j:Type}
  (i:Nat) (b:List Nat) (e:St) (E:j->St) (S:j->St) (W:j->Prop) {V:Prop} [Decidable V] {p:j->Prop} {g:j->Option Unit} {id:Nat} {l:List Oper} (H:gd V (Alw.alp p g)=some r) (h:evH n Γ T l i st=some (V,e)) (hS:∀st2,Zh e st2->∃z,p z/\st2=E z)
  (h2:∀z,M0q Γ T l i b (E z)=some (W z,S z)) (hc:∀z,g z=some r->W z/\FX (cx P n y) (S z) .normal Q):VX (cx P n y) st (.region id l.toArray false) Q:=by
 obtain⟨hV,Y⟩:=K7 H;have HH:=Alw.alp_some Y;clear Y H;unfold evH at h;rw[ce] at h;split at h
 ·rename_i o;rw[ba] at o;split at h
  ·rename_i V1 F aB g1;split at h
   ·rename_i ti x yy ty aC v hn;split at h
    ·rename_i e0 x0 fr k y0 tt hx hy ht;rw[ce] at h;split at h
     ·rename_i m;simp only[ba,dq] at m;obtain⟨⟨⟨q,u⟩,t⟩,s⟩:=m;simp only[oi,pj] at h;obtain⟨rfl,rfl⟩:=h;refine Ti (X:=cx P n y) f hT b o.1 o.2 g1 hV hn q fun _ G a S' ho hE K hK=>?_;refine B0K f S' ho hE d hx s hy ht (nb t) u fun w a' G' m aA aD aF=>?_;obtain⟨z,hz,rfl⟩:=hS w m;have h3:=h2 z;unfold M0q at h3
      grind
     grind
    grind
   grind
  grind
 grind
def M0p(n:Nat)(Γ:o5)(T:List Ct)(l:List Oper)(i:Nat)(st:St):Option (Prop×St) :=
 bif H8 n 0 [] l&&O4 0 l&&H9 st.e&&Nat.beq (i+1) l.length then(match L5 Γ T l (l.take i) st [] with
  | some (V,st1,rs1)=>bif Fb (H3 [] l) rs1.reverse&&(List.range i).all fun k=>M1 k ((B8 (H3 [] l) i).getD []) then(match B8 l i with
    | some ⟨none,.store ti x y,_,_,_,none⟩=>(match rd st1 [] x,rd st1 [] y,b9 Γ ti with
      | some (.d true (.pt e) _),some (.d _ (.int k') _),some tt=>bif H9 st1.e&&OG st1.o&&Nat.beq tt.size 1&&decide (OF e=some k') then some (V,st1) else none
      | _,_,_=>none)
    | _=>none) else none
  | none=>none) else none
theorem VA[Alw]{P:Program}{n:Nat}{y:World×(Nat->Prop)×(Nat->Prop)×(Nat->Value->Prop)×Nat}{st:St}{Q:Exit->Act->World->Prop}{Γ:o5}{T:List Ct}{r:Unit}(Y:w9 P Γ)(hT:∀c∈T,Ok P c)[hm:K9 P](e:(cx P n y).base=(cx P n y).w0.heap.size){s:Type}
  (i:Nat) (b:List Nat) (aB:St) (E:s->St) (S:s->St) (W:s->Prop) {V:Prop} [Decidable V] {p:s->Prop} {g:s->Option Unit} {id:Nat} {l:List Oper} (H:gd V (Alw.alp p g)=some r) (h:M0p n Γ T l i st=some (V,aB)) (hS:∀st2,Zh aB st2->∃z,p z/\st2=E z)
  (h2:∀z,some (True,cut b (E z))=some (W z,S z)) (hc:∀z,g z=some r->W z/\FX (cx P n y) (S z) .normal Q):VX (cx P n y) st (.region id l.toArray true) Q:=by
 obtain⟨hV,H0⟩:=K7 H;have HH:=Alw.alp_some H0;clear H0 H;unfold M0p at h;rw[ce] at h;split at h
 ·rename_i hb;simp only[ba] at hb;obtain⟨⟨⟨aJ,aI⟩,aQ⟩,aN⟩:=hb;have aU:i+1=l.length:=nb aN;split at h
  ·rename_i V1 f aD g1;rw[ce] at h;split at h
   ·rename_i aG;rw[ba,List.all_eq_true] at aG;split at h
    ·rename_i ti x yy ty aW aP hn;split at h
     ·rename_i e0 x0 fr k y0 tt hx hy ht;rw[ce] at h;split at h
      ·rename_i hh;simp only[ba,dq] at hh;obtain⟨⟨⟨aS,aL⟩,aF⟩,aO⟩:=hh;simp only[oi,pj] at h;obtain⟨rfl,rfl⟩:=h;intro G a S' ho hE;obtain⟨el,aX,aV⟩:=Ze hn;have aH:l.drop (i+1)=[]:=List.drop_eq_nil_of_le (by omega);rw[aH] at el;obtain⟨recs,e1,e2,e3,e4⟩:=Ba (Z7 (K:=fun d rs=>d=f/\rs=aD) g1 hV ⟨rfl,rfl⟩);rw[List.append_nil] at e4;have F:recs.length=i:=by grind
       refine wp_region_any hm.h ?_;have q:Ext G.w { G.w with drawn:=G.w.drawn+1 }:=(Below.refl _ _).drew;obtain⟨S1,L1⟩:=S'.ext q;have t:∀{recs:List A4} {i:Nat} {st:St},A0 (fun k=>(Array.replicate l.length false).getD k false) i recs st=st:=by
        have aR:∀j,(Array.replicate l.length false).getD j false=false:=fun j=>by
         by_cases hj:j<l.length <;> simp[hj]
        intro recs
        induction recs with
        | nil=>intro i st; rfl
        | cons R r ih=>grind[A0]
       have:=n0x (X:=cx P n y) Y hT (Q:=Q) (l:=l) (recs:=recs) (ol:=_) (st:=st) (by rw[e1]; exact el.symm) e2 (Av aQ) aJ aI (by grind) (fun k hk=>by grind) (fun G' a' S2 m aA K hK=>by
         rw[e3] at m aA;refine B0K Y S2 m aA e hx aO hy ht (nb aF) aL fun d a2 G2 hh aC aK aM=>hK _ _ ?_;obtain⟨z,hz,rfl⟩:=hS d hh;have h3:=h2 z;simp only[oi,pj] at h3;obtain⟨G3,S3,v,aT,u⟩:=Gy b aC aK aM;rw[h3.2] at v u;have:=(hc z (HH z hz)).2 G3 a2 S3 v u
         grind) l.length (Array.replicate l.length false) { G with w:={ G.w with drawn:=G.w.drawn+1 } } a
        (by grind) (by simp) (by rw[F]; simp[show i<l.length by omega]) (fun j o _ hD=>by
          by_cases hj:j<l.length
          ·simp[hj] at hD
          grind) S1 (fun id=>by grind) (by rw[t]; exact hE.mono L1)
       omega
      grind
     grind
    grind
   grind
  grind
 grind
def grd(j:Nat)(b:Bool)(o:Oper):Oper:={ o with guard:=some (j,b) }
theorem F0o{P:Program}{o:Oper}{j:Nat}{b:Bool}{a:Act}{w:World}{K:Act->World->Prop}{Q:Exit->Act->World->Prop}(h:o.wp P a w K Q):(grd j b o).wp P a w K Q:=h
theorem p0U{X:Cx}{Γ:o5}{T:List Ct}(y:w9 X.P Γ)(hT:∀c∈T,Ok X.P c){ops:Array Oper}{all:List Oper}(F:ops=all.toArray){Q:Exit->Act->World->Prop}{rest:List Oper}{j:Nat}{oj:Oper}{z:Nat}{b f:Bool}(hj:B8 all j=some oj)(v:oj.dst=some z) :
  ∀(recs:List A4) (i:Nat) (seen:List Nat) (st:St) (G:Gh) (a:Act),(∀R∈recs,R.o.guard=none)->H8 X.n i seen (recs.map (·.o))=true->z∈seen->(∀t s,b9 st.e t=some s->∀x∈s.p,x.1∈seen)->b9 st.e z=some ⟨[],.d f .bool b⟩->Gu Γ T all st recs->Sat X G->G.o=st.o->EnvR X.n G st.e a ->
  (∀G' a',Sat X G'->G'.o=(recs.foldl C3 st).o->EnvR X.n G' (recs.foldl C3 st).e a'->wpList X.P ops Q rest a' G'.w)->wpList X.P ops Q (recs.map (fun R=>grd j b R.o)++rest) a G.w
 | [],i,seen,st,G,a,_,_,_,_,_,_,S,ho,hE,hK=>hK G a S ho hE
 | R :: r,i,seen,st,G,a,hgu,hreg,hdjs,hpath,hsl,⟨hp,⟨q,hab,hq⟩,hg,hrun⟩,S,ho,hE,hK=>by
   have u:=hgu R (by simp);have aD:R.p=[]:=by
    unfold BF at hp;rw[u] at hp;simpa using hp.symm
   simp only[List.map_cons,H8,ba] at hreg;obtain⟨⟨g,-⟩,W⟩:=hreg;have k:∀d,R.o.dst=some d->d<X.n/\d ∉ seen:=fun d l=>by
    rw[l] at g;simp only[ba] at g;exact⟨by simp_all,Ip g.2⟩
   have l:∀d,R.o.dst=some d->d<X.n/\(∀x∈R.p,x.1≠d)/\∀t s,b9 st.e t=some s->∀x∈s.p,x.1≠d:=fun d l=>⟨(k d l).1,fun x hx=>by grind,fun t s E x hx e=>(k d l).2 (e ▸ hpath t s E x hx)⟩
   have aC:∀{x:Nat},x∈seen->x∈(match R.o.dst with | some d=>d :: seen | none=>seen):=fun h=>by
    grind
   have m:=Oe (K:=wpList X.P ops Q (r.map (fun R=>grd j b R.o)++rest)) y hT F (Q:=Q) S ho hE hp hab hq hg l (fun a' G' S' _ V aA=>by
    refine p0U (f:=f) y hT F hj v r (i+1) _ (C3 st R) G' a' (fun R' aF=>hgu R' (by grind)) W (aC hdjs) ?_ ?_ hrun S' V aA hK
    ·intro t s E x hx;simp only[C3,Cq] at E;split at E
     ·grind[lK]
     grind
    ·simp only[C3,Cq];split
     ·rename_i d av H _;rw[lK,if_neg (fun(e:d=z)=>(k d H).2 (by grind))];omega
     omega)
   have hv:=(hE.val z _ hsl).1 (fun _ h=>by cases h);have e:=BC hv;have Y:=Yh (a:=a) F hj v;rw[e] at Y;simp only at Y;have hw:Region.wanted (grd j b R.o) (yielded ops a.tmps)=true:=by simp[Region.wanted,grd,Y]
   have aB:Region.wanted R.o (yielded ops a.tmps)=true:=by simp[Region.wanted,u]
   unfold M0 at m;rw[if_pos aB] at m;simp only[List.map_cons,List.cons_append];refine OC ?_;unfold M0;rw[if_pos hw]
   grind[F0o]
def Zj(dj:Nat)(b:Bool):List (Nat×AV)->List (Nat×Sl)->List (Nat×Sl)
 | [],e=>e
 | (d,v) :: r,e=>Zj dj b r ((d,⟨[(dj,b)],v⟩) :: e)
def Tk(n:Nat)(seen:List Nat):List Oper->List (Nat×AV)->Bool
 | [],[]=>true
 | o :: r,(d,_) :: s=>(match o.dst with | some d'=>Nat.beq d' d | none=>false)&&Nat.blt d n&&Gr d seen&&Tk n (d :: seen) r s
 | _,_=>false
theorem m0y{X:Cx}{ops:Array Oper}{all:List Oper}(F:ops=all.toArray){Q:Exit->Act->World->Prop}{rest:List Oper}{j:Nat}{H:Oper}{c:Nat}{b f:Bool}(W:B8 all j=some H)(q:H.dst=some c) :
  ∀(l:List Oper) (dm:List (Nat×AV)) (seen:List Nat) (e:List (Nat×Sl)) (G:Gh) (a:Act),Tk X.n seen l dm=true->c∈seen->(∀t s,b9 e t=some s->∀x∈s.p,x.1∈seen)->b9 e c=some ⟨[],.d f .bool (!b)⟩->EnvR X.n G e a ->
  (∀a',EnvR X.n G (Zj c b dm e) a'->wpList X.P ops Q rest a' G.w)->wpList X.P ops Q (l.map (grd j b)++rest) a G.w
 | [],[],seen,e,G,a,_,_,_,_,hE,hK=>hK a hE
 | [],_ :: _,_,_,_,_,h,_,_,_,_,_=>by cases h
 | _ :: _,[],_,_,_,_,h,_,_,_,_,_=>by cases h
 | o :: r,(d,v) :: s,seen,e,G,a,h,hdjs,hpath,hsl,hE,hK=>by
   simp only[Tk,ba] at h;obtain⟨⟨⟨T,E⟩,k⟩,h4⟩:=h;have u:o.dst=some d:=by
    split at T
    ·simp_all
    ·cases T
   have E:d<X.n:=by simpa using E
   have k:=Ip k;have hv:=(hE.val c _ hsl).1 (fun _ h=>by cases h);have ev:=BC hv;have V:=Yh (a:=a) F W q;rw[ev] at V;simp only at V;have hw:Region.wanted (grd j b o) (yielded ops a.tmps)=false:=by
    grind[Region.wanted,grd]
   simp only[List.map_cons,List.cons_append];refine OC ?_;unfold M0;rw[if_neg (by grind)];have y:¬PathP [(c,b)] a:=fun Y=>by
    have:=Y (c,b) (by simp);simp only at this;rw[ev] at this;cases b <;> simp at this
   have z:EnvR X.n G ((d,⟨[(c,b)],v⟩) :: e) (a.put (grd j b o).dst undef):=by
    show EnvR X.n G _ (a.put o.dst undef);rw[u];exact EnvR.put (st:=⟨e,[]⟩) (p:=[(c,b)]) hE E (fun x g m=>by
     simp only[List.mem_singleton] at g;subst g;exact k (by rw[<- (show c=d from m)]; exact hdjs)) (fun t s i x g m=>k (m ▸ hpath t s i x g)) ⟨fun h=>(y h).elim,fun _=>rfl⟩
   exact m0y (f:=f) F W q r s (d :: seen) _ G _ h4 (List.mem_cons_of_mem _ hdjs) (fun t s' i x g=>by
    rw[lK] at i;split at i
    ·cases i;simp only[List.mem_singleton] at g;subst g;exact List.mem_cons_of_mem _ hdjs
    ·exact List.mem_cons_of_mem _ (hpath t s' i x g)) (by
    rw[lK,if_neg (fun(m:d=c)=>k (by rw[m]; exact hdjs))];exact hsl) z hK
def Tl(seen:List Nat)(e:List (Nat×Sl)):Bool:=e.all fun x=>x.2.p.all fun y=>M1 y.1 seen
theorem i0W{a:List Nat}{e:List (Nat×Sl)}(h:Tl a e=true):∀t s,b9 e t=some s->∀x∈s.p,x.1∈a:=by
 intro t s b x c;have:∃z∈e,z.2=s:=by
  clear h
  induction e with
  | nil=>cases b
  | cons y r d =>
    grind[lK,List.mem_cons_self,List.mem_cons_of_mem]
 obtain⟨z,hz,rfl⟩:=this
 grind[Tl,List.all_eq_true,P5]
def Az:List Oper->List Nat
 | []=>[]
 | o :: r=>match o.dst with
   | some d=>d :: Az r
   | none=>Az r
theorem Zk{d:Nat}{l:List Oper}{o:Oper}(h:o∈l)(a:o.dst=some d):d∈Az l:=by
 induction l with
 | nil=>cases h
 | cons x r b =>
   grind[Az,List.mem_cons_self,List.mem_cons_of_mem]
def GG(o:Oper):Oper:={ o with guard:=none }
def Zl(j:Nat)(b:Bool)(o:Oper):Bool:=match o.guard with
 | some (j',b')=>Nat.beq j j'&&(b==b')
 | none=>false
theorem E0e{j:Nat}{b:Bool}{o:Oper}(h:Zl j b o=true):grd j b (GG o)=o:=by
 unfold Zl at h;split at h
 ·rename_i e c f;rw[ba] at h;have d:=nb h.1;have a:b=c:=by simpa using h.2
  subst d; subst a;unfold grd GG;cases o
  grind
 grind
def N3(dj:Nat)(e:Bool)(st:St):St:=⟨(dj,⟨[],.d false .bool e⟩) :: st.e,st.o⟩
def KO:List Nat->St->Option St
 | [],st=>some st
 | i :: r,st=>bif Nat.blt i 500000 then(match GF i st with
   | some st'=>KO r st'
   | none=>none) else none
theorem Zm{X:Cx}{a:Act}:∀{ids:List Nat} {st st':St} {G:Gh},KO ids st=some st'->Sat X G->G.o=st.o->EnvR X.n G st.e a->∃G',Sat X G'/\G'.o=st'.o/\G'.w=G.w/\EnvR X.n G' st'.e a
 | [],st,st',G,h,S,ho,hE=>by
   simp only[KO,oi] at h
   grind
 | i :: r,st,st',G,h,S,ho,hE=>by
   unfold KO at h;rw[ce] at h;split at h
   ·rename_i hi;split at h
    ·rename_i m f;obtain⟨s,j,c,d,b⟩:=YX f hi S ho hE;obtain⟨q,t,g,l,k⟩:=Zm h j c b
     grind
    grind
   grind
def Tm(n:Nat)(Γ:o5)(T:List Ct)(l:List Oper)(i:Nat)(ids keep:List Nat)(st:St):Option (Prop×St) :=
 bif H8 n 0 [] l&&H9 st.e&&Nat.ble i l.length&&H8 n i (Az (l.take i)) (l.drop i) then(match L5 Γ T l (l.take i) st [] with
  | some (V,st1,_)=>(match KO ids st1 with
    | some st2=>bif H9 st2.e then(match L5 Γ T l (l.drop i) st2 [] with
      | some (W,st3,_)=>some (V/\W,cut keep st3)
      | none=>none) else none
    | none=>none)
  | none=>none) else none
theorem zF{P:Program}{n:Nat}{y:World×(Nat->Prop)×(Nat->Prop)×(Nat->Value->Prop)×Nat}{st:St}{Q:Exit->Act->World->Prop}{Γ:o5}{T:List Ct}{ρ:Type}{r:ρ}(k:w9 P Γ)(hT:∀c∈T,Ok P c)(i:Nat)(aD d:List Nat)(S':St){V:Prop}[Decidable V]{e:Option ρ}{id:Nat}{l:List Oper}(H:gd V e=some r)
  (h:Tm n Γ T l i aD d st=some (V,S')) (hc:e=some r->FX (cx P n y) S' .normal Q):VX (cx P n y) st (.region id l.toArray false) Q:=by
 obtain⟨hV,H⟩:=K7 H;have hc:=hc H;unfold Tm at h;rw[ce] at h;split at h
 ·rename_i hb;simp only[ba] at hb;obtain⟨⟨⟨aB,aO⟩,aH⟩,aK⟩:=hb;split at h
  ·rename_i V1 E aM g1;split at h
   ·rename_i F g2;rw[ce] at h;split at h
    ·rename_i aP;split at h
     ·rename_i W z aN g3;simp only[oi,pj] at h;obtain⟨rfl,rfl⟩:=h;intro G a S ho hE;have hi:i<=l.length:=Nat.le_of_ble_eq_true aH;have aL:(l.take i).length=i:=by rw[List.length_take]; omega
      refine wp_region_lit ?_;have v:=aB;rw[<- List.take_append_drop i l] at v;obtain⟨k1,-⟩:=Th v;obtain⟨b,e1,e2,e3⟩:=Ba (Z7 (K:=fun g _=>g=E) g1 hV.1 rfl);have aJ:b.length=i:=by grind
      have:=It (X:=cx P n y) k hT (ops:=l.toArray) (all:=l) rfl (Q:=Q) (rest:=l.drop i) b 0 [] st G a (fun q hq=>by
        rw[Nat.zero_add,<- List.getElem?_map,e1,List.getElem?_take_of_lt (by omega)]) (by grind) (fun q oq dq hq=>by omega) (fun t s ht x hx=>by grind[Av]) e2 S ho hE
       (fun G1 a1 S1 w m=>by
         rw[e3] at w m;obtain⟨G2,S2,aC,aA,aG⟩:=Zm g2 S1 w m;rw[<- aA];obtain⟨f,f1,f2,f3⟩:=Ba (Z7 (K:=fun g _=>g=z) g3 hV.2 rfl);have:=It (X:=cx P n y) k hT (ops:=l.toArray) (all:=l) rfl (Q:=Q) (rest:=[]) f i _ F G2 a1 (fun q hq=>by
           rw[<- List.getElem?_map,f1,List.getElem?_drop]) (by rw[f1]; omega) (fun q oq dq hq q1 q2=>by
           refine Zk (o:=oq) ?_ q2;rw[List.mem_iff_getElem?];exact⟨q,by grind⟩) (fun t s ht x hx=>by grind[Av]) f2 S2 aC aG
          (fun G3 a3 S3 u j=>by
            rw[f3] at u j;obtain⟨G4,S4,aF,aI,Y⟩:=Gy d S3 u j;have:=hc G4 a3 S4 aF Y
            rwa [aI] at this)
         grind)
      simp_all
     grind
    grind
   grind
  grind
 grind
def M0r(n:Nat)(Γ:o5)(T:List Ct)(l:List Oper)(i:Nat)(ids keep:List Nat)(st:St):Option (Prop×St) :=
 bif H8 n 0 [] l&&O4 0 l&&H9 st.e&&Nat.beq (i+1) l.length then(match L5 Γ T l (l.take i) st [] with
  | some (V,st1,rs1)=>bif Fb (H3 [] l) rs1.reverse&&(List.range i).all fun k=>M1 k ((B8 (H3 [] l) i).getD []) then(match B8 l i with
    | some o=>(match o.dst,o.guard,KO ids st1 with
      | none,none,some st2=>(match L5 Γ T l [o] st2 [] with
        | some (W,st3,_)=>some (V/\W,cut keep st3)
        | none=>none)
      | _,_,_=>none)
    | none=>none) else none
  | none=>none) else none
theorem zFD{P:Program}{n:Nat}{y:World×(Nat->Prop)×(Nat->Prop)×(Nat->Value->Prop)×Nat}{st:St}{Q:Exit->Act->World->Prop}{Γ:o5}{T:List Ct}{ρ:Type}{r:ρ}(E:w9 P Γ)(hT:∀c∈T,Ok P c)[hm:K9 P](i:Nat)(aN f:List Nat)(S':St){V:Prop}[Decidable V]{e:Option ρ}{id:Nat}{l:List Oper}(H:gd V e=some r)
  (h:M0r n Γ T l i aN f st=some (V,S')) (hc:e=some r->FX (cx P n y) S' .normal Q):VX (cx P n y) st (.region id l.toArray true) Q:=by
 obtain⟨hV,H⟩:=K7 H;have hc:=hc H;unfold M0r at h;rw[ce] at h;split at h
 ·rename_i hb;simp only[ba] at hb;obtain⟨⟨⟨aM,aL⟩,aQ⟩,aO⟩:=hb;have aU:i+1=l.length:=nb aO;split at h
  ·rename_i V1 aP aC g1;rw[ce] at h;split at h
   ·rename_i aG;rw[ba,List.all_eq_true] at aG;split at h
    ·rename_i o hn;split at h
     ·rename_i aD aS aV aB;split at h
      ·rename_i W b aT g3;simp only[oi,pj] at h;obtain⟨rfl,rfl⟩:=h;intro G a S' ho hE;obtain⟨el,aY,aW⟩:=Ze hn;have aK:l.drop (i+1)=[]:=List.drop_eq_nil_of_le (by omega);rw[aK] at el;obtain⟨recs,e1,e2,e3,e4⟩:=Ba (Z7 (K:=fun g rs=>g=aP/\rs=aC) g1 hV.1 ⟨rfl,rfl⟩);rw[List.append_nil] at e4;have z:recs.length=i:=by grind
       obtain⟨s,f1,f2,Y⟩:=Ba (Z7 (K:=fun g _=>g=b) g3 hV.2 rfl);obtain⟨R,rfl⟩:∃R,s=[R]:=by
        grind[List.length_map,List.length_eq_one_iff]
       simp only[List.map_cons,List.map_nil,List.cons.injEq,and_true] at f1;subst f1;obtain⟨q1,⟨q,q2,q3⟩,q4,_⟩:=f2;refine wp_region_any hm.h ?_;have v:Ext G.w { G.w with drawn:=G.w.drawn+1 }:=(Below.refl _ _).drew;obtain⟨S1,L1⟩:=S'.ext v;have x:∀{recs:List A4} {i:Nat} {st:St},A0 (fun k=>(Array.replicate l.length false).getD k false) i recs st=st:=by
        have aR:∀j,(Array.replicate l.length false).getD j false=false:=fun j=>by
         by_cases hj:j<l.length <;> simp[hj]
        intro recs
        induction recs with
        | nil=>intro i st; rfl
        | cons R r ih=>grind[A0]
       have:=n0x (X:=cx P n y) E hT (Q:=Q) (l:=l) (recs:=recs) (ol:=R.o) (st:=st) (by grind) e2 (Av aQ) aM aL (by grind) (fun k hk=>by grind) (fun G' a' S2 u F K hK=>by
         rw[e3] at u F;obtain⟨G2,S3,aH,aA,aF⟩:=Zm aB S2 u F;rw[<- aA];refine Oe (X:=cx P n y) (K:=K) E hT (ops:=l.toArray) (all:=l) rfl (Q:=Q) S3 aH aF q1 q2 q3 q4 (fun d hd=>by grind) fun a3 G3 S4 _ t m=>hK _ _ ?_;have Y:C3 aD R=b:=Y;have t:G3.o=b.o:=by rw[<- Y]; exact t
         have m:EnvR n G3 b.e a3:=by rw[<- Y]; exact m
         obtain⟨G5,S5,aJ,aX,aI⟩:=Gy f S4 t m;have:=hc G5 a3 S5 aJ aI
         grind) l.length (Array.replicate l.length false) { G with w:={ G.w with drawn:=G.w.drawn+1 } } a
        (by grind) (by simp) (by rw[z]; simp[show i<l.length by omega]) (fun j o _ hD=>by
          by_cases hj:j<l.length
          ·simp[hj] at hD
          grind) S1 (fun id=>by grind) (by rw[x]; exact hE.mono L1)
       omega
      grind
     grind
    grind
   grind
  grind
 grind
def MG(P:Program)(f:FuncId)(T1:TypeId)(t1:Ty)(T2:TypeId)(t2:Ty)(ps:List Par)(F:j5 t1->j5 t2->r9 ps->Option (j5 t1×j5 t2)):Prop :=
 Ar P f=true/\D3 t1=true/\D3 t2=true/\∀x1 x2 xs z,F x1 x2 xs=some z->∀(w:World) (vs:List Value) (b1 b2:Nat) (cs1 cs2:List Value) (K:Nat->Prop),(∀k,K k->k<w.heap.size)->b1≠b2->¬K b1->¬K b2 ->
  Blk w b1 cs1 T1->RT K w t1 cs1 x1->Blk w b2 cs2 T2->RT K w t2 cs2 x2->ArgsR K w none ps xs vs ->
  Calls P f (.pointer (some ⟨b1,0,none⟩) :: .pointer (some ⟨b2,0,none⟩) :: vs).toArray w fun en w'=>en=.returned (.tuple #[])/\∃w1 ds1 ds2,WE (some b2) w w1/\Blk w1 b2 ds2 T2/\RT K w1 t2 ds2 z.2/\WE (some b1) w1 w'/\Blk w' b1 ds1 T1/\RT K w' t1 ds1 z.1
def Tn(st:St)(f:FuncId)(T1:TypeId)(t1:Ty)(T2:TypeId)(t2:Ty)(ps:List Par):Op->Option ((Nat×Nat)×j5 t1×j5 t2×r9 ps)
 | .call ⟨.value x,xs,_⟩=>match rd st [] x,L3 st [] xs.toList with
   | some (.fn g []),some (.ptr i1 0 :: .ptr i2 0 :: as')=>bif Nat.beq g f&&!Nat.beq i1 i2 then(match K1 st.o [.io T1 t1] [.ptr i1 0],K1 st.o [.io T2 t2] [.ptr i2 0],K1 st.o ps as' with
     | some (x1,_,_),some (x2,_,_),some (y,[],none)=>some ((i1,i2),x1.1,x2.1,y)
     | _,_,_=>none) else none
   | _,_=>none
 | _=>none
def To(st:St)(d:Nat)(T1:TypeId)(t1:Ty)(T2:TypeId)(t2:Ty)(i1 i2:Nat)(z:j5 t1×j5 t2):St:=⟨(d,⟨[],.tup []⟩) :: st.e,(i1,.box T1 (o8 false t1 z.1)) :: (i2,.box T2 (o8 false t2 z.2)) :: st.o⟩
theorem Sat.putB{X:Cx}{G:Gh}(S:Sat X G){id b:Nat}{T:TypeId}{t:Ty}{f:List AV}{w':World}{ds:List Value}{z:j5 t}(u:D3 t=true)(i:b9 G.o id=some (.box T f))(d:G.γ id=some b)(e:WE (some b) G.w w')(v:Blk w' b ds T){K:Nat->Prop}(n:RT K w' t ds z) :
  Sat X (G.put id (.box T (o8 false t z)) (G.ρ id) (some b) w')/\GLe G (G.put id (.box T (o8 false t z)) (G.ρ id) (some b) w'):=by
 have c:=S.obs id _ i;obtain⟨l,F,j,x,y,P⟩:=c;rw[d] at j;cases j;exact S.put (id:=id) (ob:=.box T (o8 false t z)) (r:=G.ρ id) (g:=some b) (w':=w') (go:=some b) ⟨(fun T H h=>⟨rfl,_,_,rfl⟩),(fun T s E m q h=>by grind),by rw[i]; rfl⟩
  (fun l a=>by grind) e (fun l a=>.inl a) (fun k=>⟨b,ds,by simp[Gh.put],by grind[Gh.put],v,AU (RT.free u n)⟩)
theorem r0k{o:List (Nat×Ob)}{T:TypeId}{t:Ty}{i:Nat}{x:r9 [.io T t]}{l:List Nat}{io:Option Nat}(h:K1 o [.io T t] [.ptr i 0]=some (x,l,io)):l=[]/\io=some i/\∃cs,b9 o i=some (.box T cs):=by
 cases hA:Cn o (.io T t) (.ptr i 0) with
 | none=>grind[K1]
 | some r =>
   obtain⟨y,d,b⟩:=r;simp only[K1,hA] at h;have a:(match b9 o i with
    | some (.box c cs)=>bif Nat.beq T c then(match F2 o 24 t cs with
      | some (x,[],_)=>some (x,([]:List Nat),some i)
      | _=>none) else none
    | _=>none)=some (y,d,b):=hA
   split at a
   ·rename_i c cs e;rw[ce] at a
    grind[nb,oi,pj]
   grind
theorem B0L{X:Cx}{G:Gh}{a:Act}{st:St}{ops:Array Oper}{Q:Exit->Act->World->Prop}{K:Act->World->Prop}{f:FuncId}{T1:TypeId}{m:Ty}{v:TypeId}{j:Ty}{ps:List Par}{F:j5 m->j5 j->r9 ps->Option (j5 m×j5 j)}(E:MG X.P f T1 m v j ps F)(S:Sat X G)(ho:G.o=st.o)(hE:EnvR X.n G st.e a)
  {d:Nat} {op:Op} {ty:TypeId} {pos:String} {after:Array Edge} {i1 i2:Nat} {x1:j5 m} {x2:j5 j} {y:r9 ps} (c:Tn st f T1 m v j ps op=some ((i1,i2),x1,x2,y)) (hd:d<X.n) (hs:∀t s,b9 st.e t=some s->∀x∈s.p,x.1≠d)
  {z:j5 m×j5 j} (hz:F x1 x2 y=some z) (hK:∀a' G',Sat X G'->G'.o=(To st d T1 m v j i1 i2 z).o->EnvR X.n G' (To st d T1 m v j i1 i2 z).e a'->K a' G'.w):M0 X.P ops Q ⟨some d,op,ty,pos,after,none⟩ K a G.w:=by
 obtain⟨aC,f1,f2,r⟩:=E;unfold Tn at c;split at c
 ·rename_i x0 xs Ts;split at c
  ·rename_i g u l bH h1 h2;rw[ce] at c;split at c
   ·rename_i W;rw[ba,Bool.not_eq_true'] at W;have hg:g=f:=nb W.1;have q:u≠l:=fun e=>by
     simp_all
    subst hg;split at c
    ·rename_i y1 l1 bJ y2 l2 bG y3 a1 a2 a3;simp only[oi,pj] at c;obtain⟨⟨rfl,rfl⟩,rfl,rfl,rfl⟩:=c;obtain⟨cs,hv,hc⟩:=C5 hE (p:=[]) (fun _ h=>by cases h) h1;have hA:=AX hE (p:=[]) (fun _ h=>by cases h) h2;obtain⟨u1,bI,aV,aK,aO⟩:=hA;obtain⟨u2,aA,aR,aT,aW⟩:=aO;rw[<- ho] at a1 a2 a3;have i:∀id∈([]:List Nat),∃ob,b9 G.o id=some ob:=fun _ h=>by cases h
     obtain⟨rfl,rfl,k1,o1⟩:=r0k a1;obtain⟨rfl,rfl,k2,o2⟩:=r0k a2;obtain⟨_,bF,r1,q1⟩:=Ku S i a1 (fun _ h=>by cases h) (fun _ _ h=>by cases h) (us:=[u1]) ⟨u1,[],rfl,aK,rfl⟩;obtain⟨_,bC,r2,q2⟩:=Ku S i a2 (fun _ h=>by cases h) (fun _ _ h=>by cases h) (us:=[u2]) ⟨u2,[],rfl,aT,rfl⟩;obtain⟨_,aD,r3,q3⟩:=Ku S i a3 (fun _ h=>by cases h) (fun _ h=>by cases h) aW;have aH:aD=none:=by
      rcases q3 with ⟨_,e⟩ | ⟨_,_,_,_,e,_⟩ | ⟨_,_,_,_,_,_,e,_⟩
      ·exact e
      ·cases e
      ·cases e
     subst aH;obtain⟨V,aG,v1,e1,bD,aS,B1,R1,-⟩:=r1;obtain⟨H,aZ,v2,e2,bK,aX,B2,R2,-⟩:=r2;have aB:G.γ u=some V:=by
      rcases q1 with ⟨e,_⟩ | ⟨id,b,T,cs',e,eb,h3,h4⟩ | ⟨_,_,_,_,_,_,_,_,_,e⟩
      ·cases e
      ·grind
      ·cases e
     have aJ:G.γ l=some H:=by
      rcases q2 with ⟨e,_⟩ | ⟨id,b,T,cs',e,eb,h3,h4⟩ | ⟨_,_,_,_,_,_,_,_,_,e⟩
      ·cases e
      ·grind
      ·cases e
     have hb:V≠H:=fun e=>q (S.inj u l _ _ V o1 o2 aB (by grind));have aU:∀k,X8 G [] k->k<G.w.heap.size:=fun k E=>by
      rcases E with E | ⟨_,E,_⟩
      ·exact(S.klt k E).lt
      grind
     have hC:=r _ _ _ _ hz G.w aA V H aG aZ (X8 G []) aU hb aS aX B1 R1 B2 R2 r3
     haveI:RJ X.P g:=⟨aC⟩
     refine m0N (f:=g) (fun bB pos after gg=>?_) (Calls.mono hC ?_)
     ·have e3:xs.map a.eval=(xs.toList.map a.eval).toArray:=by rw[<- Array.toList_map]
      have aF:cs=[]:=hc;have eu:xs.toList.map a.eval=.pointer (some ⟨V,0,none⟩) :: .pointer (some ⟨H,0,none⟩) :: aA:=by
       rw[aV,aR];simp only[List.cons.injEq] at e1 e2;rw[e1.1,e2.1]
      simp only[execOp,resolve,e3,eu,hv,aF];simp[Deferred.ofValue,invoke,XF]
     ·rintro en w' ⟨rfl,w1,bA,bE,aQ,aM,aL,aN,aI,aY⟩;obtain⟨S1,L1⟩:=S.putB f2 o2 aJ aQ aM aL;have aP:b9 (G.put l (.box v (o8 false j z.2)) (G.ρ l) (some H) w1).o u=some (.box T1 k1):=by
       show b9 ((l,_) :: G.o) u=_;rw[lK,if_neg (Ne.symm q)];exact o1
      have Y:(G.put l (.box v (o8 false j z.2)) (G.ρ l) (some H) w1).γ u=some V:=by
       simp only[Gh.put,if_neg q];exact aB
      obtain⟨S2,L2⟩:=S1.putB f1 aP Y aN aI aY;refine⟨_,rfl,hK _ _ S2 (by show(u,_) :: (l,_) :: G.o=_; rw[ho]; rfl) ?_⟩;exact EnvR.put (p:=[]) ((hE.mono L1).mono L2) hd (fun _ h=>by cases h) hs ⟨fun _=>⟨[],rfl,rfl⟩,fun h=>(h (fun _ h=>by cases h)).elim⟩
    grind
   grind
  grind
 grind
def M0u(n:Nat)(Γ:o5)(T:List Ct)(l:List Oper)(i:Nat)(f:FuncId)(T1:TypeId)(t1:Ty)(T2:TypeId)(t2:Ty)(ps:List Par)(st:St):Option (Prop×St×Nat×(Nat×Nat)×j5 t1×j5 t2×r9 ps) :=
 bif H8 n 0 [] l&&H9 st.e then(match L5 Γ T l (l.take i) st [] with
  | some (V,st1,_)=>(match B8 l i with
    | some ⟨some d,op,_,_,_,none⟩=>bif H9 st1.e then(match Tn st1 f T1 t1 T2 t2 ps op with
      | some (ii,x1,x2,xs)=>some (V,st1,d,ii,x1,x2,xs)
      | none=>none) else none
    | _=>none)
  | none=>none) else none
def M0t(Γ:o5)(T:List Ct)(l:List Oper)(i:Nat)(keep:List Nat)(st2:St):Option (Prop×St):=bif H9 st2.e then(match L5 Γ T l (l.drop (i+1)) st2 [] with
    | some (W,st3,_)=>some (W,cut keep st3)
    | none=>none) else none
def ev2(n:Nat)(Γ:o5)(T:List Ct)(l:List Oper)(i:Nat)(keep:List Nat)(f:FuncId)(T1:TypeId)(t1:Ty)(T2:TypeId)(t2:Ty)(ps:List Par)(st:St)(z:j5 t1×j5 t2):Option (Prop×(j5 t1×j5 t2×r9 ps)×Prop×St):=match M0u n Γ T l i f T1 t1 T2 t2 ps st with
 | some (V,st1,d,ii,x1,x2,xs)=>(match M0t Γ T l i keep (To st1 d T1 t1 T2 t2 ii.1 ii.2 z) with
   | some (W,st3)=>some (V,(x1,x2,xs),W,st3)
   | none=>none)
 | none=>none
theorem zT{P:Program}{n:Nat}{y:World×(Nat->Prop)×(Nat->Prop)×(Nat->Value->Prop)×Nat}{st:St}{Q:Exit->Act->World->Prop}{Γ:o5}{T:List Ct}{ρ:Type}{r:ρ}(v:w9 P Γ)(hT:∀c∈T,Ok P c){f:FuncId}{T1:TypeId}{j:Ty}{T2:TypeId}{e:Ty}{ps:List Par}{F:j5 j->j5 e->r9 ps->Option (j5 j×j5 e)}(hk:MG P f T1 j T2 e ps F)
  (i:Nat) (k:List Nat) (S:j5 j×j5 e->St) (W:j5 j×j5 e->Prop) {x1:j5 j} {x2:j5 e} {xs:r9 ps} [Inhabited (j5 j×j5 e)] {V:Prop} [Decidable V] {g:j5 j×j5 e->Option ρ} {id:Nat} {l:List Oper} (H:gd (V/\(F x1 x2 xs).isSome=true/\True) (lt (vl (F x1 x2 xs)) g)=some r)
  (h:∀z,ev2 n Γ T l i k f T1 j T2 e ps st z=some (V,(x1,x2,xs),W z,S z)) (hc:∀z,g z=some r->W z/\FX (cx P n y) (S z) .normal Q):VX (cx P n y) st (.region id l.toArray false) Q:=by
 obtain⟨⟨hV,hs,-⟩,H⟩:=K7 H;obtain⟨z,hz⟩:=Option.isSome_iff_exists.1 hs;rw[hz] at H;have H:g z=some r:=H;have o:=h z;obtain⟨c1,c2⟩:=hc z H;unfold ev2 at o;split at o
 ·rename_i V' aD d ii y1 y2 ys b;split at o
  ·rename_i W' aB h2;simp only[oi,pj] at o;obtain⟨rfl,⟨rfl,rfl,rfl⟩,eW,eS⟩:=o;unfold M0u at b;rw[ce] at b;split at b
   ·rename_i q;simp only[ba] at q;split at b
    ·rename_i V1 Y aC g1;split at b
     ·rename_i d' op ty aF E hn;rw[ce] at b;split at b
      ·rename_i u;split at b
       ·rename_i m z1 z2 zs ha;simp only[oi,pj] at b;obtain⟨rfl,rfl,rfl,rfl,rfl,rfl,rfl⟩:=b;refine Ti (X:=cx P n y) v hT k q.1 q.2 g1 hV hn u fun w G a S' ho hE K hK=>?_;refine B0L (i1:=m.1) (i2:=m.2) hk S' ho hE ha (w _ rfl) (fun t s ht x hx=>by grind[Av]) hz fun a' G' aA aG aH=>?_;unfold M0t at h2
        grind
       grind
      grind
     grind
    grind
   grind
  grind
 grind
def KP:List Par->Bool
 | []=>true
 | .dat t :: r=>D3 t&&KP r
 | .agg t :: r=>D3 t&&KP r
 | _=>false
def Tp(K:Nat->Prop)(w:World)(b1 b2:Nat)(o:List (Nat×Ob)):Gh:=⟨fun i=>.pointer (some ⟨bif Nat.beq i 500000 then b1 else b2,0,none⟩),fun i=>some (bif Nat.beq i 500000 then b1 else b2),K,w,o,w.heap.size,fun _ _=>False⟩
def B0B{t1 t2:Ty}(T1 T2:TypeId)(ps:List Par)(x1:j5 t1)(x2:j5 t2)(xs:r9 ps):St:=⟨(0,⟨[],.ptr 500000 0⟩) :: (1,⟨[],.ptr 500001 0⟩) :: K3 2 ps xs,[(500000,.box T1 (o8 false t1 x1)),(500001,.box T2 (o8 false t2 x2))]⟩
def Qj(st:St)(T1:TypeId)(t1:Ty)(T2:TypeId)(t2:Ty)(z:j5 t1×j5 t2):Prop:=match b9 st.o 500000,b9 st.o 500001 with
 | some (.box U1 cs1),some (.box U2 cs2)=>bif Nat.beq U1 T1&&Nat.beq U2 T2 then(match F2 st.o 24 t1 cs1,F2 st.o 24 t2 cs2 with
   | some (y1,_,_),some (y2,_,_)=>y1=z.1/\y2=z.2
   | _,_=>False) else False
 | _,_=>False
theorem Zn{G:Gh}{K:Nat->Prop}{w:World}:∀{ps:List Par} {i:Nat} {x:r9 ps} {vs:List Value},KP ps=true->ArgsR K w none ps x vs->∀t s,b9 (K3 i ps x) t=some s->i<=t/\s.p=[]/\∃u,vs[t-i]?=some u/\AVR G s.a u
 | [],i,x,vs,_,h,t,s,ht=>by cases ht
 | .dat ty :: r,i,x,vs,hf,⟨v,us,e,h1,h⟩,t,s,ht=>by
   subst e;unfold KP at hf;rw[ba] at hf;unfold K3 at ht;rw[lK] at ht;split at ht
   ·rename_i e; subst e; cases ht; exact⟨Nat.le_refl _,rfl,v,by simp,RT.free hf.1 h1⟩
   ·obtain⟨d,b,u,f,c⟩:=Zn (ps:=r) (i:=i+1) hf.2 h t s ht;exact⟨by omega,b,u,by grind,c⟩
 | .agg ty :: r,i,x,vs,hf,⟨v,us,e,h1,h⟩,t,s,ht=>by
   subst e;unfold KP at hf;rw[ba] at hf;unfold K3 at ht;rw[lK] at ht;split at ht
   ·rename_i e; subst e; cases ht; exact⟨Nat.le_refl _,rfl,_,by simp,v,rfl,AU (RT.free hf.1 h1)⟩
   ·obtain⟨d,b,u,f,c⟩:=Zn (ps:=r) (i:=i+1) hf.2 h t s ht;exact⟨by omega,b,u,by grind,c⟩
theorem OH{a b:Ob}{i:Nat}{o:Ob}(h:b9 [(500000,a),(500001,b)] i=some o):(i=500000/\o=a)∨(i=500001/\o=b):=by
 rw[lK] at h;split at h
 ·grind
 ·rw[lK] at h;split at h
  ·grind
  ·cases h
def Tq(b1 b2:Nat):Nat->Value->Prop:=fun i v=>(i=0/\v=.pointer (some ⟨b1,0,none⟩))∨(i=1/\v=.pointer (some ⟨b2,0,none⟩))
theorem r0Q{P:Program}{n:Nat}{K:Nat->Prop}{w:World}{c a:Nat}{s t:TypeId}{q m:Ty}{x1:j5 q}{x2:j5 m}{d f:List Value}(Q:D3 q=true)(y:D3 m=true)(g:∀k,K k->k<w.heap.size)(z:c≠a)(H:¬K c)(u:¬K a)(T:Blk w c d s)(E:RT K w q d x1)(W:Blk w a f t)(x:RT K w m f x2) :
  Sat (cx P n ⟨w,fun k=>k=c∨k=a,K,Tq c a,w.heap.size⟩) (Tp K w c a [(500000,.box s (o8 false q x1)),(500001,.box t (o8 false m x2))]):=by
 have g:∀k,K k->UFg w w.heap.size k:=fun k l=>⟨g k l,fun h=>absurd (g k l) (Nat.not_lt.2 h)⟩;refine⟨⟨rfl,Nat.le_refl _⟩,rfl,rfl,rfl,Nat.le_refl _,fun _ _ _=>rfl,fun i o h=>?_,fun i j o X b h F e r=>?_,fun i o b h e=>?_,fun i o b h e=>?_,g,fun k l=>.inl l,fun _ _ h=>h.elim,fun i v e=>by
  rcases e with ⟨rfl,rfl⟩ | ⟨rfl,rfl⟩
  ·exact⟨⟨_,_,rfl⟩,c,rfl,rfl⟩
  ·exact⟨⟨_,_,rfl⟩,a,rfl,rfl⟩⟩
 ·rcases OH h with ⟨rfl,rfl⟩ | ⟨rfl,rfl⟩
  ·exact⟨c,d,rfl,rfl,T,AU (RT.free Q E)⟩
  ·exact⟨a,f,rfl,rfl,W,AU (RT.free y x)⟩
 ·rcases OH h with ⟨rfl,rfl⟩ | ⟨rfl,rfl⟩ <;> rcases OH F with ⟨rfl,rfl⟩ | ⟨rfl,rfl⟩
  ·rfl
  ·have V:some c=some b:=e;have G:some a=some b:=r
   grind
  ·have V:some a=some b:=e;have G:some c=some b:=r
   grind
  ·rfl
 ·rcases OH h with ⟨rfl,rfl⟩ | ⟨rfl,rfl⟩
  ·have e:some c=some b:=e;cases e; exact H
  ·have e:some a=some b:=e;cases e; exact u
 ·rcases OH h with ⟨rfl,rfl⟩ | ⟨rfl,rfl⟩
  ·have e:some c=some b:=e;cases e; exact .inr (.inl rfl)
  ·have e:some a=some b:=e;cases e; exact .inr (.inr rfl)
theorem H0Q{P:Program}{f:FuncId}{V:TypeId}{m:Ty}{H:TypeId}{q:Ty}{ps:List Par}{F:j5 m->j5 q->r9 ps->Option (j5 m×j5 q)}{r:Func}{x:Code}{n:Nat}(hf:P.funcs[f]?=some r)(hn:r.ntmps=n)(hb:r.body=some x)(hr:r.results=#[])(he:Ar P f=true)(j:(Nat.ble (ps.length+2) n&&KP ps&&D3 m&&D3 q)=true)
  (h:∀y x1 x2 xs z,F x1 x2 xs=some z->∀Q,(∀st,Qj st V m H q z->FX (cx P n y) st .normal Q/\FX (cx P n y) st .ret Q)->VX (cx P n y) (B0B V H ps x1 x2 xs) x Q):MG P f V m H q ps F:=by
 simp only[ba] at j;obtain⟨⟨⟨j,aD⟩,f1⟩,f2⟩:=j;have j:=Nat.le_of_ble_eq_true j;refine⟨he,f1,f2,fun x1 x2 xs z hz w E b c g aR K hK aA aI aJ B1 R1 B2 R2 hA=>?_⟩;have aL:=hA.len;refine calls_of_wp hf hb ?_;have hS:=r0Q (P:=P) (n:=n) f1 f2 hK aA aI aJ B1 R1 B2 R2;have:=h ⟨w,fun k=>k=b∨k=c,K,Tq b c,w.heap.size⟩ x1 x2 xs z hz (bodyPost P r fun en w'=>en=.returned (.tuple #[])/\∃w1 ds1 ds2,WE (some c) w w1/\Blk w1 c ds2 H/\RT K w1 q ds2 z.2/\WE (some b) w1 w'/\Blk w' b ds1 V/\RT K w' m ds1 z.1) (fun st aG=>?_) (Tp K w b c _) { tmps:=(Value.pointer (some ⟨b,0,none⟩) :: Value.pointer (some ⟨c,0,none⟩) :: E).toArray++Array.replicate (r.ntmps-(Value.pointer (some ⟨b,0,none⟩) :: Value.pointer (some ⟨c,0,none⟩) :: E).toArray.size) undef,defers:=[] } hS rfl ⟨rfl,by grind,fun t s T=>?_⟩
 ·exact this
 ·have aB:∀G a,Sat (cx P n ⟨w,fun k=>k=b∨k=c,K,Tq b c,w.heap.size⟩) G->G.o=st.o->EnvR n G st.e a->a.defers=[]/\∃v,(results r a.tmps).run P G.w=.ok v G.w/\(v=.tuple #[]/\∃w1 ds1 ds2,WE (some c) w w1/\Blk w1 c ds2 H/\RT K w1 q ds2 z.2/\WE (some b) w1 G.w/\Blk G.w b ds1 V/\RT K G.w m ds1 z.1):=fun G a S Y W=>by
   obtain⟨us,e1,e0,-⟩:=YJ (X:=cx P n ⟨w,fun k=>k=b∨k=c,K,Tq b c,w.heap.size⟩) (Γ:=[]) (rs:=[]) (fun _ _ h=>by cases h) S Y W rfl trivial;have e0:us=[]:=e0;subst e0;refine⟨W.defers,_,YM (rs:=[]) hr e1,rfl,?_⟩;have d:=aG;unfold Qj at d;rw[<- Y] at d;split at d
   ·rename_i U1 c1 U2 c2 h1 h2;rw[ce] at d;split at d
    ·rename_i hb;rw[ba] at hb;have u1:=nb hb.1;have u2:=nb hb.2;subst u1; subst u2;split at d
     ·rename_i y1 l1 aO y2 l2 aQ d1 d2;obtain⟨z1,z2⟩:=d;subst z1; subst z2;obtain⟨_,aP,k1,k2⟩:=S.pin 0 (.pointer (some ⟨b,0,none⟩)) (.inl ⟨rfl,rfl⟩);cases k2;obtain⟨_,aC,g1,g2,g3,g4⟩:=S.obs 500000 _ h1;rw[k1] at g2;cases g2;obtain⟨_,aN,m1,m2⟩:=S.pin 1 (.pointer (some ⟨c,0,none⟩)) (.inr ⟨rfl,rfl⟩);cases m2;obtain⟨_,aF,p1,p2,p3,p4⟩:=S.obs 500001 _ h2;rw[m1] at p2;cases p2;have r1:=RT.up (CU (K':=fun _=>True) S (fun _ _=>trivial) 24 d1 (fun _ _ _ _=>trivial) g4) (fun _ _=>trivial:∀k,_->(fun _:Nat=>True) k);have r2:=RT.up (CU (K':=fun _=>True) S (fun _ _=>trivial) 24 d2 (fun _ _ _ _=>trivial) p4) (fun _ _=>trivial:∀k,_->(fun _:Nat=>True) k);have l:=NT G.w b g.toArray;have hH:(G.w.setRow b g.toArray).heap[b]?=some (.cells g.toArray U1 (0,0)):=setRow_heap G.w b aC.toArray g.toArray U1 (0,0) g3;refine⟨G.w.setRow b g.toArray,aC,aF,⟨l.os.trans S.os,l.tape.trans S.tape,l.output.trans S.output,by rw[l.size]; exact S.size,fun k hk hg=>?_⟩,?_,RT.free f2 r2,⟨l.os.symm,l.tape.symm,l.output.symm,by simp_all,fun k hk hg=>(l.block k (fun e=>hg (by rw[e]))).symm⟩,g3,RT.free f1 r1⟩
      ·by_cases e:k=b
       ·rw[e,hH]; exact B1.symm
       ·rw[l.block k e];refine S.block k hk (fun h=>?_)
        grind
      ·show(G.w.setRow b g.toArray).heap[c]?=_;rw[l.block c (fun e=>aA e.symm)];exact p3
     grind
    grind
   grind
  refine⟨fun G a S Y W=>?_,fun G a S Y W=>?_⟩
  ·obtain⟨k1,v,k2,rfl,k3⟩:=aB G a S Y W;exact⟨k1,_,k2,rfl,k3⟩
  ·obtain⟨k1,v,k2,rfl,k3⟩:=aB G a S Y W;exact⟨k1,_,k2,rfl,k3⟩
 ·have aM:∀(i:Nat) (u:Value),(Value.pointer (some ⟨b,0,none⟩) :: Value.pointer (some ⟨c,0,none⟩) :: E)[i]?=some u->((Value.pointer (some ⟨b,0,none⟩) :: Value.pointer (some ⟨c,0,none⟩) :: E).toArray++Array.replicate (r.ntmps-(Value.pointer (some ⟨b,0,none⟩) :: Value.pointer (some ⟨c,0,none⟩) :: E).toArray.size) undef).getD i undef=u:=fun i u hu=>by
   have aK:i < (Value.pointer (some ⟨b,0,none⟩) :: Value.pointer (some ⟨c,0,none⟩) :: E).length:=by
    rcases Nat.lt_or_ge i (Value.pointer (some ⟨b,0,none⟩) :: Value.pointer (some ⟨c,0,none⟩) :: E).length with h' | h'
    ·exact h'
    ·rw[List.getElem?_eq_none h'] at hu; cases hu
   rw[Array.getD_eq_getD_getElem?,Array.getElem?_append_left (by rw[List.size_toArray]; exact aK),List.getElem?_toArray,hu];rfl
  have aH:s.p=[]/\∃u,(Value.pointer (some ⟨b,0,none⟩) :: Value.pointer (some ⟨c,0,none⟩) :: E)[t]?=some u/\AVR (Tp K w b c [(500000,.box V (o8 false m x1)),(500001,.box H (o8 false q x2))]) s.a u:=by
   unfold B0B at T;simp only[lK] at T;split at T
   ·rename_i e; subst e; cases T;exact⟨rfl,_,rfl,⟨_,_,rfl⟩,b,rfl,rfl⟩
   ·split at T
    ·rename_i e; subst e; cases T;exact⟨rfl,_,rfl,⟨_,_,rfl⟩,c,rfl,rfl⟩
    ·obtain⟨a1,a2,u,a3,a4⟩:=Zn (G:=Tp K w b c [(500000,.box V (o8 false m x1)),(500001,.box H (o8 false q x2))]) aD hA t s T
     grind
  obtain⟨h1,u,h2,h3⟩:=aH;rw[h1];refine⟨fun _=>?_,fun hn=>(hn (fun _ h=>by cases h)).elim⟩
  grind
def nx(o:Option (Prop×St)):St:=match o with
 | some (_,s)=>s
 | none=>⟨[],[]⟩
theorem GH{o:Option (Prop×St)}{V:Prop}(h:o.map Prod.fst=some V):o=some (V,nx o):=by
 cases o with
 | none=>cases h
 | some x =>
   cases h;rfl
section
variable {P:Program} {n:Nat} {y:World×(Nat->Prop)×(Nat->Prop)×(Nat->Value->Prop)×Nat} {st:St} {Q:Exit->Act->World->Prop} {Γ:o5} {T:List Ct} {ρ:Type} {r:ρ}
theorem jA[a:HG P Γ][c:HT P T][e:K9 P](k:List Nat){id:Nat}{l:List Oper}{b:Bool}(d:FX (cx P n y) (nx (O5 b n Γ T l k st)) .normal Q)(h:(O5 b n Γ T l k st).map Prod.fst=some True:=by kernel_rfl):VX (cx P n y) st (.region id l.toArray b) Q:=za a.h c.h _ _ (GH h) d
theorem jB[a:HG P Γ][c:HT P T][f:K9 P](k:List Nat){V:Prop}[Decidable V]{e:Option ρ}{id:Nat}{l:List Oper}{b:Bool}(H:gd V e=some r)(d:e=some r->FX (cx P n y) (nx (O5 b n Γ T l k st)) .normal Q)(h:(O5 b n Γ T l k st).map Prod.fst=some V:=by kernel_rfl):VX (cx P n y) st (.region id l.toArray b) Q:=zb a.h c.h _ _ H (GH h) d
theorem iA[a:HG P Γ][d:HT P T][f:K9 P](k:List Nat){id:Nat}{l:List Oper}{b:Bool}{c:Code}(e:VX (cx P n y) (nx (O5 b n Γ T l k st)) c Q)(h:(O5 b n Γ T l k st).map Prod.fst=some True:=by kernel_rfl):VX (cx P n y) st (.seq (.region id l.toArray b) c) Q:=qa a.h d.h _ _ (GH h) e
theorem iB[a:HG P Γ][d:HT P T][g:K9 P](k:List Nat){V:Prop}[Decidable V]{e:Option ρ}{id:Nat}{l:List Oper}{b:Bool}{c:Code}(H:gd V e=some r)(f:e=some r->VX (cx P n y) (nx (O5 b n Γ T l k st)) c Q)(h:(O5 b n Γ T l k st).map Prod.fst=some V:=by kernel_rfl):VX (cx P n y) st (.seq (.region id l.toArray b) c) Q:=qb a.h d.h _ _ H (GH h) f
end
theorem Zo{e:List (Nat×Sl)}:∀{keep:List Nat} {t:Nat} {s:Sl},b9 (Gx e keep) t=some s->t∈keep
 | [],t,s,h=>by cases h
 | k :: r,t,s,h=>by
   unfold Gx at h;split at h
   ·rw[lK] at h;split at h
    ·grind
    ·exact List.mem_cons_of_mem _ (Zo h)
   ·exact List.mem_cons_of_mem _ (Zo h)
def IF(f:Nat->Value):List Nat->C2
 | []=>[]
 | t :: r=>(t,f t) :: IF f r
theorem v0F{f:Nat->Value}:∀{keep:List Nat} {t:Nat},t∈keep->lk (IF f keep) t=some (f t)
 | k :: r,t,h=>by
   show lk ((k,f k) :: IF f r) t=_;rw[CS];split
   ·grind
   ·rename_i e;exact v0F ((List.mem_cons.1 h).resolve_left (fun h=>e h.symm))
theorem q0B{f:Nat->Value}:∀{keep:List Nat} {t:Nat} {v:Value},lk (IF f keep) t=some v->f t=v
 | [],t,v,h=>by cases h
 | k :: r,t,v,h=>by
   have h:lk ((k,f k) :: IF f r) t=some v:=h;rw[CS] at h;split at h
   ·grind
   ·exact q0B h
theorem D0k{X:Cx}{st:St}{c:Code}{Q:Exit->Act->World->Prop}(b:List Nat)(q m:Nat)(E:b9 st.e q=some ⟨[],.v (.pointer none)⟩)
  (h:∀f w Q',RA X.n .normal ((m,.bool false) :: IF f b) w Q'->VS X.P X.n c ((q,.pointer none) :: IF f b) w Q')
  (k:FX X ⟨(m,⟨[],.d true .bool false⟩) :: Gx st.e b,st.o⟩ .normal Q):VX X st c Q:=by
 intro G a S V l;have W:a.tmps.getD q undef=.pointer none:=(l.val q _ E).1 (fun _ h=>nomatch h);refine h (fun t=>a.tmps.getD t undef) G.w Q (fun y g=>k G y S V ?_) a ⟨l.defers,l.size,fun t v j=>?_⟩
 ·refine⟨g.1,g.2.1,fun t s j=>?_⟩;rw[lK] at j;split at j
  ·rename_i e; cases j; subst e;refine⟨fun _=>?_,fun z=>absurd (fun x u=>nomatch u) z⟩;show RT (rg G true) G.w .bool [y.tmps.getD m undef] false;rw[g.2.2 m (.bool false) (by rw[CS,if_pos rfl])];exact rfl
  ·rename_i r;obtain⟨F,H⟩:=SE j;have T:=g.2.2 t (a.tmps.getD t undef) (by rw[CS,if_neg r]; grind[v0F,Zo]);have i:∀a,PathP s.p a:=fun a=>by rw[H]; exact fun x u=>nomatch u
   refine⟨fun _=>?_,fun z=>absurd (i y) z⟩;rw[T];exact(l.val t s F).1 (i a)
 grind[CS,q0B]
def Zp(Q:Exit->Act->World->Prop)(K:Act->World->Prop):Exit->Act->World->Prop
 | .normal,a,w=>K a w
 | x,a,w=>Q x a w
theorem x0a{P:Program}{o:Oper}{Q:Exit->Act->World->Prop}{K N:Act->World->Prop}{a:Act}{w:World}(h:o.wp P a w N (Zp Q K)):o.wp P a w N Q:=by
 unfold Oper.wp at h ⊢;generalize (execOp a.eval o).run P w=r at h ⊢;cases r with
 | ok n c=>cases n <;> exact h
 | halt b c=>cases b <;> exact h
theorem Tr{ops:Array Oper}{L:Array Bool}{i:Nat}(h:i∈Region.ready .any ops L):i<ops.size:=by
 grind[Region.ready]
section
variable {P:Program} {Q:Exit->Act->World->Prop} {l:List Oper} {o:Oper}
theorem OI{i:Nat}(h:i<l.length):(l++[o])[i]?=l[i]?:=List.getElem?_append_left h
theorem Zq:(l++[o])[l.length]?=some o:=by simp
theorem IG{L:Array Bool}{i:Nat}{d:Bool}(a:L.size=l.length)(h:i<l.length):(L.push false).getD i d=L.getD i d:=by
 rw[Array.getD_eq_getD_getElem?,Array.getD_eq_getD_getElem?,Array.getElem?_push];rw[if_neg (by omega)]
theorem m0F{L:Array Bool}{d:Bool}(a:L.size=l.length):(L.push false).getD l.length d=false:=by
 rw[Array.getD_eq_getD_getElem?,Array.getElem?_push,if_pos (by omega)];rfl
theorem y0r{L:Array Bool}{i:Nat}(a:L.size=l.length)(h:i<l.length):(L.push false).setIfInBounds i true=(L.setIfInBounds i true).push false:=by
 grind
def Zr(l:List Oper):Bool:=l.all fun o=>match o.guard with
 | some (j,_)=>Nat.blt j l.length
 | none=>true
theorem t0i{i:Nat}{oi:Oper}(a:Zr l=true)(hi:l[i]?=some oi)(t:Array Value):Region.wanted oi (yielded (l++[o]).toArray t)=Region.wanted oi (yielded l.toArray t):=by
 have:=List.all_eq_true.1 a oi (List.mem_of_getElem? hi);unfold Region.wanted;cases e:oi.guard with
 | none=>rfl
 | some p =>
   obtain⟨j,b⟩:=p;rw[e] at this;have c:j<l.length:=by simpa using this
   grind[yielded,OI]
theorem z0P(H:O4 0 l=true)(hg:Zr l=true)(aG:∀k∈O3 o,k<l.length)(hw:∀D:Nat->Bool,Fa D l->(∀k∈O3 o,D k=true)->∀k,k<l.length->D k=true) :
  ∀(fuel:Nat) (L:Array Bool) (a:Act) (w:World),L.size=l.length->Fa (fun k=>L.getD k false) l->wpAny P .any l.toArray (Zp Q fun a w=>wpOp P (l++[o]).toArray Q l.length (Q .normal) a w) fuel L a w->wpAny P .any (l++[o]).toArray Q (fuel+1) (L.push false) a w:=by
 have E:∀(i:Nat) (o:Oper) (k:Nat),l[i]?=some o->k∈O3 o->k<i:=by
  have:∀{m:List Oper} {i:Nat},O4 i m=true->∀j o k,m[j]?=some o->k∈O3 o->k<i+j:=by
   intro m
   induction m with
   | nil=>grind
   | cons o0 r ih =>
     intro i h j o k hj y;simp only[O4,ba,List.all_eq_true] at h;cases j with
     | zero=>simp_all
     | succ j=>grind
  intro i o k g c;have:=this H i o k g c; omega
 have T:∀(L:Array Bool),L.size=l.length->Region.ready .any l.toArray L=[]->∀i,i<l.length->L.getD i false=true:=by
  intro L b x i
  induction i using Nat.strongRecOn with
  | ind i aB =>
    intro hi;cases h:L.getD i false with
    | true=>rfl
    | false =>
      have:i∈Region.ready .any l.toArray L:=mem_ready.2 ⟨by
       grind,l[i],by grind,fun e u H=>aB e.on (E i l[i] e.on (List.getElem?_eq_getElem hi) (Z4.2 ⟨e,u,H,rfl⟩)) (by have:=E i l[i] e.on (List.getElem?_eq_getElem hi) (Z4.2 ⟨e,u,H,rfl⟩); omega)⟩
      rw[x] at this; cases this
 have v:∀(L:Array Bool),L.size=l.length->(∀i,i<l.length->L.getD i false=true)->Region.ready .any (l++[o]).toArray ((L.push false).setIfInBounds l.length true)=[]:=by
  intro L b h;cases x:Region.ready .any (l++[o]).toArray ((L.push false).setIfInBounds l.length true) with
  | nil=>rfl
  | cons i r =>
    have hi:i∈Region.ready .any (l++[o]).toArray ((L.push false).setIfInBounds l.length true):=by rw[x]; simp
    obtain⟨g,-,-,-⟩:=mem_ready.1 hi;have d:i<l.length+1:=by simpa using Tr hi
    by_cases e:i=l.length
    ·subst e;have hs:l.length < (L.push false).size:=by simp; omega
     rw[Array.getD_eq_getD_getElem?,Array.getElem?_setIfInBounds,if_pos rfl,if_pos hs] at g;cases g
    ·rw[getD_set_ne true (Ne.symm e),IG b (by omega)] at g;have c:=h i (by omega);have hs:i<L.size:=by omega
     rw[Array.getD_eq_getD_getElem?,Array.getElem?_eq_getElem hs] at g c;have g:L[i]=false:=g;have c:L[i]=true:=c;rw[c] at g;cases g
 have aA:∀(L:Array Bool),L.size=l.length->(∀i,i<l.length->L.getD i false=true)->(∀k∈O3 o,k<l.length)->l.length∈Region.ready .any (l++[o]).toArray (L.push false):=by
  intro L b h y;refine mem_ready.2 ⟨m0F b,o,by grind,fun e u H=>?_⟩;have y:=y e.on (Z4.2 ⟨e,u,H,rfl⟩);rw[IG b y];exact h _ y
 -- the last one ready: all others are done
 have s:∀(L:Array Bool) (i:Nat),L.size=l.length->Fa (fun k=>L.getD k false) l->i∈Region.ready .any (l++[o]).toArray (L.push false)->(i<l.length/\i∈Region.ready .any l.toArray L)∨(i=l.length/\∀k,k<l.length->L.getD k false=true):=by
  intro L i b t hi;obtain⟨g,oi,c,f⟩:=mem_ready.1 hi;have d:i<l.length+1:=by simpa using Tr hi
  rw[List.getElem?_toArray] at c;by_cases e:i=l.length
  ·subst e;rw[Zq] at c;cases c;refine .inr ⟨rfl,hw (fun k=>L.getD k false) t fun k y=>?_⟩;obtain⟨e,u,q,rfl⟩:=Z4.1 y;have:=f e u q;by_cases aD:e.on<l.length
   ·rwa [IG b aD] at this
   ·by_cases aF:e.on=l.length
    ·rw[aF,m0F b] at this; cases this
    ·rw[Array.getD_eq_getD_getElem?,Array.getElem?_eq_none (by simp; omega)] at this;cases this
  ·have n:i<l.length:=by omega
   rw[OI n] at c;refine .inl ⟨n,mem_ready.2 ⟨by rwa [IG b n] at g,oi,by rw[List.getElem?_toArray]; exact c,fun e u q=>?_⟩⟩;have:=f e u q
   rwa [IG b (Nat.lt_trans (E i oi e.on c (Z4.2 ⟨e,u,q,rfl⟩)) n)] at this
 have W:∀(L:Array Bool) (i:Nat),L.size=l.length->i∈Region.ready .any l.toArray L->i∈Region.ready .any (l++[o]).toArray (L.push false):=by
  intro L i b hi;obtain⟨g,oi,c,f⟩:=mem_ready.1 hi;have d:i<l.length:=by simpa using Tr hi
  rw[List.getElem?_toArray] at c;refine mem_ready.2 ⟨by rwa [IG b d],oi,by rw[List.getElem?_toArray,OI d]; exact c,fun e u q=>?_⟩;rw[IG b (Nat.lt_trans (E i oi e.on c (Z4.2 ⟨e,u,q,rfl⟩)) d)];exact f e u q
 intro fuel
 induction fuel with
 | zero =>
   rintro L a w b t ⟨x,hq⟩;have ha:=T L b x;refine⟨fun X=>?_,fun i hi=>?_⟩
   ·grind
   ·rcases s L i b t hi with ⟨_,c⟩ | ⟨rfl,_⟩
    ·grind
    ·exact wpOp_mono (fun a' w' h=>⟨v L b ha,h⟩) hq
 | succ fuel ih =>
   rintro L a w b t ⟨h0,g⟩;refine⟨fun X=>?_,fun i hi=>?_⟩
   ·exfalso;cases x:Region.ready .any l.toArray L with
    | nil =>
      grind
    | cons i r =>
      have:=W L i b (by grind);rw[X] at this;cases this
   ·rcases s L i b t hi with ⟨d,c⟩ | ⟨rfl,ha⟩
    ·have f:=g i c;obtain⟨_,oi,g2,g3⟩:=mem_ready.1 c;rw[List.getElem?_toArray] at g2;have V:∀k,(L.setIfInBounds i true).getD k false=if k=i then true else L.getD k false:=fun k=>by
      by_cases z:k=i
      ·simp_all
      ·rw[if_neg z]; exact getD_set_ne false (Ne.symm z)
     have F:Fa (fun k=>(L.setIfInBounds i true).getD k false) l:=fun k o' y hD m hm=>by
      simp only[V] at hD ⊢;by_cases aC:m=i
      ·grind
      ·rw[if_neg aC];by_cases z:k=i
       ·grind[Z4]
       ·rw[if_neg z] at hD;exact t k o' y hD m hm
     rw[y0r b d];unfold wpOp at f ⊢;rw[List.getElem?_toArray,g2] at f;rw[List.getElem?_toArray,OI d,g2];simp only[t0i (o:=o) hg g2] at f ⊢;split at f
     ·rename_i G;rw[if_pos G];rcases f with f | f
      ·exact .inl (Oper.wp_mono (fun a' w' h=>ih _ a' w' (by grind) F h) (x0a f))
      ·exact .inr f
     ·rename_i G;rw[if_neg G];exact ih _ _ _ (by grind) F f
    ·have x:Region.ready .any l.toArray L=[]:=by
      cases x:Region.ready .any l.toArray L with
      | nil=>rfl
      | cons i r =>
        have n:i∈Region.ready .any l.toArray L:=by rw[x]; simp
        obtain⟨Y,-,-,-⟩:=mem_ready.1 n;have d:i<l.length:=by simpa using Tr n
        have q2:=ha i d;have hs:i<L.size:=by omega
        rw[Array.getD_eq_getD_getElem?,Array.getElem?_eq_getElem hs] at Y q2;have Y:L[i]=false:=Y;have q2:L[i]=true:=q2;rw[q2] at Y;cases Y
     exact wpOp_mono (fun a' w' h=>⟨fun _=>h,fun j hj=>by rw[v L b ha] at hj; cases hj⟩) (h0 x)
end
def OJ:List Oper->Option (List Oper×Oper)
 | []=>none
 | [o]=>some ([],o)
 | o :: r=>match OJ r with
   | some (l,x)=>some (o :: l,x)
   | none=>none
theorem n0b:∀{l l0:List Oper} {o:Oper},OJ l=some (l0,o)->l=l0++[o]
 | [],_,_,h=>by cases h
 | [a],_,_,h=>by
   simp only[OJ,oi,pj] at h
   grind
 | a :: b :: r,_,_,h=>by
   unfold OJ at h;split at h
   ·rename_i l x c;simp only[oi,pj] at h;obtain⟨rfl,rfl⟩:=h;rw[List.cons_append,<- n0b c]
   grind
def Tt(l0:List Oper)(o:Oper):Bool:=(O3 o).all (fun k=>Nat.blt k l0.length)&&(List.range l0.length).all fun k=>M1 k ((B8 (H3 [] (l0++[o])) l0.length).getD [])
def evU(n:Nat)(Γ:o5)(T:List Ct)(l:List Oper)(keep:List Nat)(f:FuncId)(T1:TypeId)(t1:Ty)(T2:TypeId)(t2:Ty)(ps:List Par)(st:St)(z:j5 t1×j5 t2):Option (Prop×(j5 t1×j5 t2×r9 ps)×Prop×St):=match OJ l with
 | some (l0,⟨some d,op,ty,pos,after,none⟩)=>bif H8 n 0 [] l&&O4 0 l&&O4 0 l0&&H9 st.e&&Zr l0&&Tt l0 ⟨some d,op,ty,pos,after,none⟩ then(match L5 Γ T l0 l0 st [] with
   | some (V,st1,rs)=>bif Fb (H3 [] l0) rs.reverse&&H9 st1.e then(match Tn st1 f T1 t1 T2 t2 ps op with
     | some (ii,x1,x2,xs)=>some (V,(x1,x2,xs),True,cut keep (To st1 d T1 t1 T2 t2 ii.1 ii.2 z))
     | none=>none) else none
   | none=>none) else none
 | _=>none
theorem r0x{a:List Oper}{o:Oper}(l:O4 0 (a++[o])=true)(h:Tt a o=true)(D:Nat->Bool)(s:Fa D a)(x:∀k∈O3 o,D k=true):∀k,k<a.length->D k=true:=by
 unfold Tt at h;rw[ba] at h;have y:=List.all_eq_true.1 h.1;have v:=List.all_eq_true.1 h.2;have e:=SC (all:=a++[o]) (rest:=a++[o]) (acc:=[]) (fun j=>by simp) l (fun i m h=>by grind);intro k n;have d:=P5.1 (v k (List.mem_range.2 n));rw[V9] at d;cases hbm:(H3 [] (a++[o]))[a.length]? with
 | none=>grind
 | some m =>
   rw[hbm] at d;obtain⟨E,t⟩:=e a.length m hbm;have:=t (fun j=>D j&&Nat.blt j a.length) (fun i q hi b j c=>by
    rw[ba] at b;have f:i<a.length:=by simpa using b.2
    rw[OI f] at hi;have w:=s i q hi b.1 j c;have u:j<a.length:=by
     have g:∀{m:List Oper} {i:Nat},O4 i m=true->∀j o k,m[j]?=some o->k∈O3 o->k<i+j:=by
      intro m
      induction m with
      | nil=>grind
      | cons F r z =>
        intro i h j o k c n;simp only[O4,ba,List.all_eq_true] at h;cases j with
        | zero=>simp_all
        | succ j=>grind
     have:=g l i q j (by grind) c;omega
    simp_all) o Zq (fun j c=>by
    grind) k d
   grind
theorem zU{P:Program}{n:Nat}{y:World×(Nat->Prop)×(Nat->Prop)×(Nat->Value->Prop)×Nat}{st:St}{Q:Exit->Act->World->Prop}{Γ:o5}{T:List Ct}{ρ:Type}{r:ρ}(aF:w9 P Γ)(hT:∀c∈T,Ok P c)[hm:K9 P]{f:FuncId}{T1:TypeId}{q:Ty}{T2:TypeId}{u:Ty}{ps:List Par}{F:j5 q->j5 u->r9 ps->Option (j5 q×j5 u)}(hk:MG P f T1 q T2 u ps F)
  (v:List Nat) (S:j5 q×j5 u->St) (W:j5 q×j5 u->Prop) {x1:j5 q} {x2:j5 u} {xs:r9 ps} [Inhabited (j5 q×j5 u)] {V:Prop} [Decidable V] {g:j5 q×j5 u->Option ρ} {id:Nat} {l:List Oper} (H:gd (V/\(F x1 x2 xs).isSome=true/\True) (lt (vl (F x1 x2 xs)) g)=some r)
  (h:∀z,evU n Γ T l v f T1 q T2 u ps st z=some (V,(x1,x2,xs),W z,S z)) (hc:∀z,g z=some r->W z/\FX (cx P n y) (S z) .normal Q):VX (cx P n y) st (.region id l.toArray true) Q:=by
 obtain⟨⟨hV,hs,-⟩,H⟩:=K7 H;obtain⟨z,hz⟩:=Option.isSome_iff_exists.1 hs;rw[hz] at H;have H:g z=some r:=H;have m:=h z;obtain⟨-,c2⟩:=hc z H;unfold evU at m;split at m
 ·rename_i e d op ty pos after hl;rw[ce] at m;split at m
  ·rename_i hb;simp only[ba] at hb;obtain⟨⟨⟨⟨⟨b1,b2⟩,b3⟩,b4⟩,b5⟩,b6⟩:=hb;have el:=n0b hl;split at m
   ·rename_i V' aD aN g1;rw[ce] at m;split at m
    ·rename_i E;rw[ba] at E;split at m
     ·rename_i ii y1 y2 ys ha;simp only[oi,pj] at m;obtain⟨rfl,⟨rfl,rfl,rfl⟩,-,eS⟩:=m;intro G a Sa ho hE;obtain⟨recs,e1,e2,e3,e4⟩:=Ba (Z7 (K:=fun aK rs=>Fb (H3 [] e) rs.reverse=true/\aK=aD) g1 hV ⟨E.1,rfl⟩);rw[List.append_nil,List.reverse_reverse] at e3;refine wp_region_any hm.h ?_;have aA:Ext G.w { G.w with drawn:=G.w.drawn+1 }:=(Below.refl _ _).drew;obtain⟨S1,L1⟩:=Sa.ext aA;rw[el] at b1;obtain⟨k1,sn,k2,-,-⟩:=Th (a:=e) (b:=[⟨some d,op,ty,pos,after,none⟩]) b1;have aI:d<n:=by
       have hd:=(SD b1).1 e.length ⟨some d,op,ty,pos,after,none⟩ d Zq rfl;exact hd.1
      have aC:=q0S aF hT (X:=cx P n y) (Q:=Zp Q fun a w=>wpOp P (e++[(⟨some d,op,ty,pos,after,none⟩:Oper)]).toArray Q e.length (Q .normal) a w) (l:=e) (recs:=recs) (st:=st) e1 e2 (Av b4) k1 b3 e3 (fun G' a' S' Y aB=>by
        rw[e4] at Y aB;show wpOp P (e++[(⟨some d,op,ty,pos,after,none⟩:Oper)]).toArray Q e.length (Q .normal) a' G'.w;have aM:=B0L (i1:=ii.1) (i2:=ii.2) (ty:=ty) (pos:=pos) (after:=after) (ops:=(e++[(⟨some d,op,ty,pos,after,none⟩:Oper)]).toArray) (Q:=Q) (K:=Q .normal) hk S' Y aB ha aI (fun t s ht x hx=>by grind[Av]) hz fun a2 G2 aG aH aJ=>by
         obtain⟨G3,S3,aQ,aO,aP⟩:=Gy v aG aH aJ;have:=c2 G3 a2 S3 (by grind) (by grind)
         grind
        grind[M0,wpOp]) e.length (Array.replicate e.length false) { G with w:={ G.w with drawn:=G.w.drawn+1 } } a
       (by grind) (by simp) (fun i o _ hD=>by
         by_cases hi:i<e.length
         ·simp_all
         grind) S1 (fun id=>by
         have:∀{recs:List A4} {i:Nat} {st:St},(∀j,(Array.replicate e.length false).getD j false=false)->A0 (fun k=>(Array.replicate e.length false).getD k false) i recs st=st:=by
          intro recs
          induction recs with
          | nil=>intro i st _; rfl
          | cons R r ih=>grind[A0]
         rw[this (fun j=>by by_cases hj:j<e.length <;> simp[hj])]
         grind) (by
         have:∀{recs:List A4} {i:Nat} {st:St},(∀j,(Array.replicate e.length false).getD j false=false)->A0 (fun k=>(Array.replicate e.length false).getD k false) i recs st=st:=by
          intro recs
          induction recs with
          | nil=>intro i st _; rfl
          | cons R r ih=>grind[A0]
         rw[this (fun j=>by by_cases hj:j<e.length <;> simp[hj])];exact hE.mono L1)
      have aL:=z0P (Q:=Q) b3 b5 (fun k hk=>by
       have:=b6;unfold Tt at this
       simp_all) (r0x (by grind) b6) e.length (Array.replicate e.length false) a _ (by simp) (fun i o _ hD=>by
        by_cases hi:i<e.length
        ·simp_all
        grind) aC
      grind
     grind
    grind
   grind
  grind
 grind
def Zs(d:Nat)(T:TypeId)(t:Ty)(cs:List AV)(st:St):Option St:=match F2 ((d,.box T cs) :: st.o) 24 t cs,Ay d 0 true .bool ([]:List Bool) st.o with
 | some (x,[],_),some o'=>some ⟨(d,⟨[],.d false (.pt t) x⟩) :: Fg d 0 true .bool ([]:List Bool) st.e,o'⟩
 | _,_=>none
def evX(n:Nat)(Γ:o5)(T:List Ct)(l:List Oper)(i:Nat)(keep:List Nat)(t:Ty)(st:St):Option (Prop×St):=bif H8 n 0 [] l&&H9 st.e then(match L5 Γ T l (l.take i) st [] with
    | some (V,st1,_)=>(match B8 l i with
      | some ⟨some d,.box T1 x,_,_,_,none⟩=>(match rd st1 [] x with
        | some v=>(match Cj v with
          | some cs=>bif As st1.o d&&H9 st1.e&&IE st1.e&&Nat.blt d 500000 then(match Zs d T1 t cs st1 with
            | some st2=>bif H9 st2.e then(match L5 Γ T l (l.drop (i+1)) st2 [] with
              | some (W,st3,_)=>some (V/\W,cut keep st3)
              | none=>none) else none
            | none=>none) else none
          | none=>none)
        | none=>none)
      | _=>none)
    | none=>none) else none
theorem E0H{X:Cx}{G:Gh}{a:Act}{st f:St}{d:Nat}{T:TypeId}{t:Ty}{cs:List AV}(h:Zs d T t cs st=some f)(hn:IE st.e=true)(hp:H9 st.e=true)(E:Nat.blt d 500000=true)(hd:b9 st.o d=none)(F:d<X.n)(S:Sat X G)(v:G.o=st.o)(q:EnvR X.n G st.e a){us:Array Value}(hA:AVRs G cs us.toList) :
  ∃G',G'.w=G.w.alloc (.cells us T)/\Sat X G'/\G'.o=f.o/\EnvR X.n G' f.e (a.put (some d) (.pointer (some ⟨G.w.heap.size,0,none⟩))):=by
 obtain⟨g,w1,H,L1,Q,z⟩:=Ya S (T:=T) (by rw[v]; exact hd) hA;have hl:b9 g.o d=some (.box T cs):=by rw[Q,lK,if_pos rfl]
 obtain⟨_,b,r,hb⟩:=z;cases hb;obtain⟨b',vs,g1,W,Y,g4⟩:=H.obs d _ hl;rw[r] at W;cases W;unfold Zs at h;split at h
 ·rename_i x fl i l hz;cases h;rw[<- v,<- Q] at l;have V:Ay d 0 true .bool ([]:List Bool) g.o=some i:=by
   rw[Q,v];unfold Ay;rw[Nat.beq_refl];exact hz
  have m:KJ g d 0 true .bool ([]:List Bool) i:=fun u hu=>by
   rcases hu with ⟨_,T1,aC,t1,aB,aA,j,_⟩ | ⟨_,⟨_,_,_,_,_,_,j⟩,_⟩
   ·grind
   grind
  have hB:g.B<=G.w.heap.size:=by
   rw[L1.hB];exact Nat.le_trans S.le S.size
  have S2:=YW H hl (fun k c=>by
   rw[g1] at c;cases c;exact⟨⟨_,_,Y⟩,hB⟩) m V E
  refine⟨Fh g d i,w1,S2,rfl,?_⟩;have y:=q.mono L1;have P:EnvR X.n (Fh g d i) (Fg d 0 true .bool ([]:List Bool) st.e) a:=⟨q.defers,q.size,fun k s c=>by
   obtain⟨b,j,h2⟩:=KK hn c;obtain⟨h3,h4⟩:=y.val k _ j
   grind[SZ]⟩
  refine EnvR.put (st:=⟨Fg d 0 true .bool ([]:List Bool) st.e,i⟩) P F (fun _ h=>by cases h) (fun k s c x l=>?_) ⟨fun _=>?_,fun h=>(h (fun _ h=>by cases h)).elim⟩
  ·obtain⟨b,j,_⟩:=KK hn c;rw[Av hp k _ j] at l;cases l
  ·have hR:=CU (K':=(Fh g d i).K) H (fun k c=>.inl c) 24 l (fun _ h=>by cases h) g4;exact⟨_,0,vs,rfl,⟨.inr (.inl g1),fun e=>by cases e⟩,Y.at,RT.up hR (fun k c=>⟨c.1,fun e=>by cases e⟩)⟩
 grind
theorem zX{P:Program}{n:Nat}{y:World×(Nat->Prop)×(Nat->Prop)×(Nat->Value->Prop)×Nat}{st:St}{Q:Exit->Act->World->Prop}{Γ:o5}{T:List Ct}(o:w9 P Γ)(hT:∀c∈T,Ok P c)(i:Nat)(b:List Nat)(t:Ty)(st':St){V W:Prop}{id:Nat}{l:List Oper}
  (h:evX n Γ T l i b t st=some (V/\W,st')) (e:V/\W) (hc:FX (cx P n y) st' .normal Q):VX (cx P n y) st (.region id l.toArray false) Q:=by
 unfold evX at h;rw[ce] at h;split at h
 ·rename_i f;rw[ba] at f;split at h
  ·rename_i V1 aA Y g1;split at h
   ·rename_i d T1 x ty aB s hn;split at h
    ·rename_i v hv;split at h
     ·rename_i cs q;rw[ce] at h;split at h
      ·rename_i z;simp only[ba] at z;obtain⟨⟨⟨f1,E⟩,f3⟩,f4⟩:=z;split at h
       ·rename_i k g;rw[ce] at h;split at h
        ·rename_i u;split at h
         ·rename_i W1 j m F;simp only[oi,pj] at h;obtain⟨e1,e2⟩:=h;rw[<- e1] at e;refine Ti (X:=cx P n y) o hT b f.1 f.2 g1 e.1 hn E fun r G a S ho w K H=>?_;obtain⟨hA,_⟩:=Kq q (C5 w (p:=[]) (fun _ h=>by cases h) hv);obtain⟨G',k1,k2,k3,k4⟩:=E0H g f3 E f4 (DY f1) (r _ rfl) S ho w hA;have:=H k W1 j m G' _ u F e.2 (by grind) k2 k3 k4;unfold M0;rw[if_pos (by rfl)];unfold Oper.wp;simp only[execOp];rw[k1] at this;exact this
         grind
        grind
       grind
      grind
     grind
    grind
   grind
  grind
 grind
def VL(X:Cx)(l:List Oper)(i:Nat)(st:St)(Q:Exit->Act->World->Prop):Prop:=∀G a,Sat X G->G.o=st.o->EnvR X.n G st.e a->wpList X.P l.toArray Q (l.drop i) a G.w
theorem Vr{X:Cx}{l:List Oper}{id:Nat}{st:St}{Q:Exit->Act->World->Prop}(h:VL X l 0 st Q):VX X st (.region id l.toArray false) Q:=fun G a S c b=>wp_region_lit (h G a S c b)
def Tu(n:Nat)(Γ:o5)(T:List Ct)(l:List Oper)(i m:Nat)(st:St):Option (Prop×St):=bif Tl (Az (l.take i)) st.e&&H8 n i (Az (l.take i)) ((l.drop i).take m) then(match L5 Γ T l ((l.drop i).take m) st [] with
    | some (V,st1,_)=>some (V,st1)
    | none=>none) else none
theorem B0Y{P:Program}{n:Nat}{y:World×(Nat->Prop)×(Nat->Prop)×(Nat->Value->Prop)×Nat}{st e:St}{Q:Exit->Act->World->Prop}{Γ:o5}{T:List Ct}(r:w9 P Γ)(E:∀c∈T,Ok P c){l:List Oper}{i m:Nat}{V:Prop}(h:Tu n Γ T l i m st=some (V,e))(hV:V)(k:VL (cx P n y) l (i+m) e Q):VL (cx P n y) l i st Q:=by
 intro G a S z v;unfold Tu at h;rw[ce] at h;split at h
 ·rename_i t;rw[ba] at t;split at h
  ·rename_i V' d rs g1;simp only[oi,pj] at h;obtain⟨rfl,rfl⟩:=h;obtain⟨b,u,H,W⟩:=Ba (Z7 (K:=fun s _=>s=d) g1 hV rfl);have:=It (X:=cx P n y) r E (ops:=l.toArray) (all:=l) rfl (Q:=Q) (rest:=l.drop (i+m)) b i _ st G a (fun q hq=>by
     have j:q<m:=by
      have:=congrArg List.length u;rw[List.length_map,List.length_take] at this;omega
     rw[<- List.getElem?_map,u,List.getElem?_take_of_lt j,List.getElem?_drop]) (by grind) (fun q Y dq hq q1 w=>by
     refine Zk (o:=Y) ?_ w;rw[List.mem_iff_getElem?];exact⟨q,by grind⟩) (i0W t.1) H S z v
    (fun G3 F x g f=>by
      rw[W] at g f;exact k G3 F x g f)
   grind[List.drop_drop,List.take_append_drop]
  grind
 grind
def AA(n:Nat)(Γ:o5)(T:List Ct)(l:List Oper)(i i0 m:Nat)(st:St):Option (Prop×St×Nat×Bool×Nat×Bool) :=
 match Tu n Γ T l i (i0-i) st with
 | some (V,st1)=>(match B8 l i0 with
   | some o=>(match o.guard with
     | some (j,b)=>(match B8 l j with
       | some oj=>(match oj.dst with
         | some dj=>(match b9 st1.e dj with
           | some ⟨[],.d _ .bool e⟩=>bif Tl (Az (l.take i0)) st1.e&&Nat.ble i i0&&Nat.blt j i0&&Nat.ble (i0+m) l.length&&((l.drop i0).take m).all (Zl j b) then some (V,st1,j,b,dj,e) else none
           | _=>none)
         | none=>none)
       | none=>none)
     | none=>none)
   | none=>none)
 | none=>none
def GI(n:Nat)(Γ:o5)(T:List Ct)(l:List Oper)(i m:Nat)(st1:St):Option (Prop×St) :=
 bif H8 n 0 (Az (l.take i)) (((l.drop i).take m).map GG) then(match L5 Γ T l (((l.drop i).take m).map GG) st1 [] with
  | some (W,st2,_)=>some (W,st2)
  | none=>none) else none
def Fk(n:Nat)(l:List Oper)(i m:Nat)(dm:List (Nat×AV))(dj:Nat)(b:Bool)(st1:St):Option (Prop×St) :=
 bif Tk n (Az (l.take i)) (((l.drop i).take m).map GG) dm then some (True,⟨Zj dj b dm st1.e,st1.o⟩) else none
theorem zGL{P:Program}{n:Nat}{y:World×(Nat->Prop)×(Nat->Prop)×(Nat->Value->Prop)×Nat}{st:St}{Q:Exit->Act->World->Prop}{Γ:o5}{T:List Ct}{ρ:Type}{r:ρ}(aL:w9 P Γ)(hT:∀c∈T,Ok P c)
  (a m:Nat) (dm:List (Nat×AV)) (E:St) (j:Nat) (b:Bool) (dj:Nat) (ST SF:St) (WT WF:Prop) {V:Prop} [Decidable V] {e:Bool} {A B:Option ρ} {i:Nat} {l:List Oper} (H:gd V (if e=true then A else B)=some r)
  (u:AA n Γ T l i a m st=some (V,E,j,b,dj,e)) (hA:(bif b then GI n Γ T l a m (N3 dj true E) else Fk n l a m dm dj b (N3 dj true E))=some (WT,ST)) (hB:(bif b then Fk n l a m dm dj b (N3 dj false E) else GI n Γ T l a m (N3 dj false E))=some (WF,SF))
  (kA:A=some r->WT/\VL (cx P n y) l (a+m) ST Q) (kB:B=some r->WF/\VL (cx P n y) l (a+m) SF Q):VL (cx P n y) l i st Q:=by
 obtain⟨hV,H0⟩:=K7 H;clear H;unfold AA at u;split at u
 ·rename_i V1 k g1;split at u
  ·rename_i o hn;split at u
   ·rename_i j' b' aZ;split at u
    ·rename_i oj hj;split at u
     ·rename_i g aF;split at u
      ·rename_i f e' aT;rw[ce] at u;split at u
       ·rename_i hc;simp only[ba] at hc;obtain⟨⟨⟨⟨aX,aK⟩,aG⟩,aO⟩,aD⟩:=hc;simp only[oi,pj] at u;obtain⟨rfl,rfl,rfl,rfl,rfl,rfl⟩:=u;have aK:i<=a:=Nat.le_of_ble_eq_true aK;have aG:j'<a:=by simpa using aG
        have aO:a+m<=l.length:=Nat.le_of_ble_eq_true aO;rw[List.all_eq_true] at aD;have ei:i+(a-i)=a:=by omega
        refine B0Y aL hT g1 hV ?_;rw[ei];intro G1 a1 S1 aI G;have aM:(l.drop a).take m=(((l.drop a).take m).map GG).map (grd j' b'):=by
         rw[List.map_map]
         conv=>lhs; rw[<- List.map_id ((l.drop a).take m)]
         exact List.map_congr_left fun o ho=>(E0e (aD o ho)).symm
        have aC:g∈Az (l.take a):=by
         refine Zk (o:=oj) ?_ aF;rw[List.mem_iff_getElem?];exact⟨j',by grind[List.getElem?_take_of_lt,Yl]⟩
        have aJ:=(G.val g _ aT).1 (fun _ h=>by cases h);have aB:∀v,e'=v->EnvR n G1 (N3 g v k).e a1:=fun v hv=>by
         refine⟨G.defers,G.size,fun t s F=>?_⟩;simp only[N3] at F;rw[lK] at F;split at F
         ·rename_i hd;cases F;subst hd;subst hv;refine⟨fun _=>?_,fun h=>(h (fun _ h=>by cases h)).elim⟩;have:=BC aJ;show RT _ _ _ _ _;rw[this];exact rfl
         ·exact G.val t s F
        have aP:∀v,b9 (N3 g v k).e g=some ⟨[],.d false .bool v⟩:=fun v=>by
         simp only[N3]; rw[lK,if_pos rfl]
        have aA:∀v t s,b9 (N3 g v k).e t=some s->∀x∈s.p,x.1∈Az (l.take a):=fun v t s F x hx=>by
         simp only[N3] at F;rw[lK] at F;split at F
         ·grind
         grind[i0W]
        have el:l.drop a=(l.drop a).take m++l.drop (a+m):=by grind[List.drop_drop,List.take_append_drop]
        rw[el];have aW:∀(v:Bool) (W:Prop) (S3:St),e'=v->v=b'->GI n Γ T l a m (N3 g v k)=some (W,S3)->W/\VL (cx P n y) l (a+m) S3 Q->wpList P l.toArray Q ((l.drop a).take m++l.drop (a+m)) a1 G1.w:=by
         intro v W S3 hv aH q hk;unfold GI at q;rw[ce] at q;split at q
         ·rename_i aU;split at q
          ·rename_i W1 aR aY g2;simp only[oi,pj] at q;obtain⟨rfl,rfl⟩:=q;obtain⟨z,f1,f2,f3⟩:=Ba (Z7 (K:=fun aQ _=>aQ=aR) g2 hk.1 rfl);have:=p0U (X:=cx P n y) aL hT (ops:=l.toArray) (all:=l) rfl (Q:=Q) (rest:=l.drop (a+m)) (b:=b') (f:=false) hj aF z 0 (Az (l.take a)) (N3 g v k) G1 a1 (fun R hR=>by
             have:R.o∈((l.drop a).take m).map GG:=by rw[<- f1]; exact List.mem_map_of_mem hR
             obtain⟨o',_,e⟩:=List.mem_map.1 this;rw[<- e]; rfl) (by rw[f1]; exact aU) aC (aA v) (by rw[<- aH]; exact aP v) f2 S1 aI (aB v hv)
            (fun G2 a2 S2 aN Y=>by
              rw[f3] at aN Y;exact hk.2 G2 a2 S2 aN Y)
           have em:List.map (fun R:A4=>grd j' b' R.o) z=(l.drop a).take m:=by
            rw[aM,<- f1,List.map_map];rfl
           grind
          grind
         ·cases q
        have aV:∀(v:Bool) (W:Prop) (S3:St),e'=v->v=!b'->Fk n l a m dm g b' (N3 g v k)=some (W,S3)->W/\VL (cx P n y) l (a+m) S3 Q->wpList P l.toArray Q ((l.drop a).take m++l.drop (a+m)) a1 G1.w:=by
         intro v W S3 hv aH q hk;unfold Fk at q;rw[ce] at q;split at q
         ·rename_i aS;simp only[oi,pj] at q;obtain⟨rfl,rfl⟩:=q;have:=m0y (X:=cx P n y) (ops:=l.toArray) (all:=l) rfl (Q:=Q) (rest:=l.drop (a+m)) (b:=b') (f:=false) hj aF (((l.drop a).take m).map GG) dm (Az (l.take a)) (N3 g v k).e G1 a1 aS aC (aA v) (by grind) (aB v hv)
           (fun a2 Y=>hk.2 G1 a2 S1 aI Y)
          grind
         ·cases q
        grind
       grind
      grind
     grind
    grind
   grind
  grind
 grind
def Fl(n:Nat)(Γ:o5)(T:List Ct)(l:List Oper)(i:Nat)(keep:List Nat)(st:St):Option (Prop×St):=bif Nat.ble i l.length then(match Tu n Γ T l i (l.length-i) st with
 | some (V,s)=>some (V,cut keep s)
 | none=>none) else none
theorem zLE{P:Program}{n:Nat}{y:World×(Nat->Prop)×(Nat->Prop)×(Nat->Value->Prop)×Nat}{st:St}{Q:Exit->Act->World->Prop}{Γ:o5}{T:List Ct}{ρ:Type}{r:ρ}(g:w9 P Γ)(k:∀c∈T,Ok P c)(b:List Nat)(st':St){V:Prop}[Decidable V]{e:Option ρ}{i:Nat}{l:List Oper}(H:gd V e=some r)
  (h:Fl n Γ T l i b st=some (V,st')) (v:e=some r->FX (cx P n y) st' .normal Q):VL (cx P n y) l i st Q:=by
 obtain⟨o,t⟩:=K7 H;unfold Fl at h;rw[ce] at h;split at h
 ·rename_i hi;have hi:=Nat.le_of_ble_eq_true hi;split at h
  ·rename_i x s m;simp only[oi,pj] at h;obtain⟨rfl,rfl⟩:=h;refine B0Y g k m o ?_;intro G a S w q;rw[show i+(l.length-i)=l.length by omega,List.drop_length];obtain⟨G4,u,d,j,f⟩:=Gy b S w q;have:=v t G4 a u d f;rw[j] at this;exact this
  grind
 grind
section
variable {P:Program} {n:Nat} {y:World×(Nat->Prop)×(Nat->Prop)×(Nat->Value->Prop)×Nat} {st:St} {Q:Exit->Act->World->Prop} {Γ:o5} {T:List Ct} {ρ:Type} {r:ρ} {l:List Oper} {id i:Nat} {V:Prop} [Decidable V]
theorem Jw[a:HG P Γ][b:HT P T](k:List Nat){e:Option ρ}(H:gd V e=some r)(c:e=some r->FX (cx P n y) (nx (Fl n Γ T l i k st)) .normal Q)(h:(Fl n Γ T l i k st).map Prod.fst=some V:=by kernel_rfl):VL (cx P n y) l i st Q:=zLE a.h b.h _ _ H (GH h) c
theorem iF[b:HG P Γ][c:HT P T](i:Nat)(a k:List Nat){e:Option ρ}(H:gd V e=some r)(d:e=some r->FX (cx P n y) (nx (Tm n Γ T l i a k st)) .normal Q)(h:(Tm n Γ T l i a k st).map Prod.fst=some V:=by kernel_rfl):VX (cx P n y) st (.region id l.toArray false) Q:=zF b.h c.h i a k _ H (GH h) d
def n3{α β:Type}(o:Option (α×β×St)):St:=match o with
 | some (_,_,s)=>s
 | none=>⟨[],[]⟩
theorem K0Q{b a:Type}{o:Option (b×a×St)}{V:b}{W:a}(h:o.map (fun x=>(x.1,x.2.1))=some (V,W)):o=some (V,W,n3 o):=by
 cases o with
 | none=>cases h
 | some x =>
   cases h;rfl
theorem iE[Alw][b:HG P Γ][c:HT P T]{f:FuncId}{ps:List Par}{a:Type}[Inhabited a]{pre:r9 ps->Prop}{post:a->Prop}{R:a->AV}{Z:a->B6 ps}(d:kE P f ps pre post R Z)(i:Nat)(k:List Nat){W:a->Prop}{g:a->Option ρ}(H:gd V (Alw.alp (Y5 ps post R Z) g)=some r)(e:∀z,Y5 ps post R Z z->g z=some r->W z/\FX (cx P n y) (n3 (OD n Γ T l i k f pre (fun _=>⟨True,R z,Z z⟩) st)) .normal Q)(h:∀z,(OD n Γ T l i k f pre (fun _=>⟨True,R z,Z z⟩) st).map (fun x=>(x.1,x.2.1))=some (V,W z):=by intro _; kernel_rfl):VX (cx P n y) st (.region id l.toArray false) Q :=
 zE b.h c.h d i k _ W H (fun z=>K0Q (h z)) e
def Tv(n:Nat)(Γ:o5)(T:List Ct)(l:List Oper)(m:Nat)(dm:List (Nat×AV))(i0:Nat)(v:Bool)(o:Option (Prop×St×Nat×Bool×Nat×Bool)):Option (Prop×St):=match o with
 | some (_,st1,_,b,dj,_)=>bif (bif b then v else !v) then GI n Γ T l i0 m (N3 dj v st1) else Fk n l i0 m dm dj b (N3 dj v st1)
 | none=>none
theorem Qq[o:HG P Γ][u:HT P T](a m:Nat)(c:List (Nat×AV)){k g:Prop}{e:Bool}{A B:Option ρ}(H:gd V (if e=true then A else B)=some r)
  (t:A=some r->k/\VL (cx P n y) l (a+m) (nx (Tv n Γ T l m c a true (AA n Γ T l i a m st))) Q) (s:B=some r->g/\VL (cx P n y) l (a+m) (nx (Tv n Γ T l m c a false (AA n Γ T l i a m st))) Q)
  (h:(AA n Γ T l i a m st).map (fun x=>(x.1,x.2.2.2.2.2))=some (V,e):=by kernel_rfl) (d:(Tv n Γ T l m c a true (AA n Γ T l i a m st)).map Prod.fst=some k:=by kernel_rfl) (f:(Tv n Γ T l m c a false (AA n Γ T l i a m st)).map Prod.fst=some g:=by kernel_rfl):VL (cx P n y) l i st Q:=by
 cases ho:AA n Γ T l i a m st with
 | none=>rw[ho] at h; cases h
 | some x =>
   obtain⟨w,q,j,b,v,z⟩:=x;rw[ho] at h d f t s;cases h;have d:=GH d;have f:=GH f;exact zGL o.h u.h a m c q j b v _ _ k g H ho (by cases b <;> exact d) (by cases b <;> exact f) t s
def IH(n:Nat)(Γ:o5)(T:List Ct)(l:List Oper)(m:Nat)(dm:List (Nat×AV))(k:List Nat)(i0:Nat)(v:Bool)(o:Option (Prop×St×Nat×Bool×Nat×Bool)):Option (Prop×St):=match o with
 | some (_,st1,_,b,dj,_)=>bif (bif b then v else !v) then(match GI n Γ T l i0 m (N3 dj v st1) with
   | some (W,s)=>(match Fl n Γ T l (i0+m) k s with
     | some (W2,s2)=>some (W/\W2,s2)
     | none=>none)
   | none=>none) else(match Fk n l i0 m dm dj b (N3 dj v st1) with
   | some (_,s)=>Fl n Γ T l (i0+m) k s
   | none=>none)
 | none=>none
theorem I0g[w:HG P Γ][E:HT P T]{m:Nat}{k:List Nat}{f:Nat}{v b:Bool}{c:St}{t:List (Nat×AV)}{j i:Nat}{e:Bool}{z W:Prop}{A:Option ρ}(h:(IH n Γ T l m t k f v (some (z,c,j,b,i,e))).map Prod.fst=some W)
  (a:A=some r->W/\FX (cx P n y) (nx (IH n Γ T l m t k f v (some (z,c,j,b,i,e)))) .normal Q):∃WT s,(bif (bif b then v else !v) then GI n Γ T l f m (N3 i v c) else Fk n l f m t i b (N3 i v c))=some (WT,s)/\(A=some r->WT/\VL (cx P n y) l (f+m) s Q):=by
 have q:∀{s o:St} {W2:Prop},Fl n Γ T l (f+m) k s=some (W2,o)->W2->A=some r->FX (cx P n y) o .normal Q->VL (cx P n y) l (f+m) s Q:=fun {s o W2} d F g H=>by
  haveI:=Classical.propDecidable W2
  exact zLE w.h E.h k o (V:=W2) (e:=A) (by unfold gd; rw[if_pos F]; exact g) d fun _=>H
 unfold IH at h a;dsimp only at h a;cases hc:(bif b then v else !v) with
 | true =>
   rw[hc] at h a;simp only[cond_true] at h a ⊢;cases d:GI n Γ T l f m (N3 i v c) with
   | none=>rw[d] at h; cases h
   | some x =>
     obtain⟨W1,s⟩:=x;rw[d] at h a;dsimp only at h a;cases h2:Fl n Γ T l (f+m) k s with
     | none=>rw[h2] at h; cases h
     | some u =>
       obtain⟨W2,o⟩:=u;rw[h2] at h a;cases h;exact⟨W1,s,rfl,fun g=>⟨(a g).1.1,q h2 (a g).1.2 g (a g).2⟩⟩
 | false =>
   rw[hc] at h a;simp only[cond_false] at h a ⊢;cases d:Fk n l f m t i b (N3 i v c) with
   | none=>rw[d] at h; cases h
   | some x =>
     obtain⟨W1,s⟩:=x;have G:W1=True:=by
      unfold Fk at d;rw[ce] at d;split at d
      ·cases d; rfl
      ·cases d
     subst G;rw[d] at h a;dsimp only at h a;cases h2:Fl n Γ T l (f+m) k s with
     | none=>rw[h2] at h; cases h
     | some u =>
       obtain⟨W2,o⟩:=u;rw[h2] at h a;cases h;exact⟨True,s,rfl,fun g=>⟨trivial,q h2 (a g).1 g (a g).2⟩⟩
theorem iG[f:HG P Γ][u:HT P T](a m:Nat)(k:List Nat)(c:List (Nat×AV)){i s:Prop}{e:Bool}{A B:Option ρ}(H:gd V (if e=true then A else B)=some r)
  (q:A=some r->i/\FX (cx P n y) (nx (IH n Γ T l m c k a true (AA n Γ T l 0 a m st))) .normal Q) (g:B=some r->s/\FX (cx P n y) (nx (IH n Γ T l m c k a false (AA n Γ T l 0 a m st))) .normal Q)
  (h:(AA n Γ T l 0 a m st).map (fun x=>(x.1,x.2.2.2.2.2))=some (V,e):=by kernel_rfl) (o:(IH n Γ T l m c k a true (AA n Γ T l 0 a m st)).map Prod.fst=some i:=by kernel_rfl) (t:(IH n Γ T l m c k a false (AA n Γ T l 0 a m st)).map Prod.fst=some s:=by kernel_rfl):VX (cx P n y) st (.region id l.toArray false) Q:=by
 refine Vr ?_;cases ho:AA n Γ T l 0 a m st with
 | none=>rw[ho] at h; cases h
 | some x =>
   obtain⟨X,d,j,b,w,Y⟩:=x;rw[ho] at h o t q g;cases h;obtain⟨W1,E,G,W⟩:=I0g o q;obtain⟨W2,F,z,v⟩:=I0g t g;exact zGL f.h u.h a m c d j b w E F W1 W2 H ho (by cases b <;> exact G) (by cases b <;> exact z) W v
theorem k6{P:Program}{Γ:o5}[HG P Γ]{f:FuncId}{ps:List Par}{ρ:Type}[Inhabited ρ]{F:r9 ps->Option ρ}{R:ρ->AV}{Z:ρ->B6 ps}{b:Func}{a:Code}(rs:List ResultVar)(i:P.funcs[f]?=some b)
 (h:∀y x r,F x=some r->∀Q,Tf (cx P b.ntmps y) Γ rs ps R Z r .normal Q->Tf (cx P b.ntmps y) Γ rs ps R Z r .ret Q->VX (cx P b.ntmps y) ⟨K3 0 ps x,H4 0 ps x⟩ a Q)
 (e:b.body=some a:=by rfl) (g:b.results=rs.toArray:=by kernel_rfl) (d:Ar P f=true:=by kernel_rfl) (c:(Nat.ble ps.length b.ntmps&&Z5 ps)=true:=by kernel_rfl):Ok P (j9 f ps F R Z):=okL rs i rfl g h e d c
end
theorem hz{P:Program}{T:List Ct}(h:∀c∈T,Ok P c):HT P T:=⟨h⟩
instance (priority:=low){P:Program}:HT P []:=⟨@tn P⟩
end Go.Proofs.Xv
end
