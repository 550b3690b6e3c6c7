/- Plain facts on x0R functions: sizes, copies, comparisons. Over any program. -/
import Derived.Test.YtphnknndgfgepaaGreatDoorXE6
import Derived.Test.YtphnknndgfgepaaGreatDoorXA6
import Derived.Lib.SliceRun
import Derived.Sort.Grow
section
namespace Go.Proofs.Xd
open Go Go.Proofs.Xv Go.Proofs.Xl
theorem lE{α β:Type}{x:α}{f:α->β}:lt x f=f x:=rfl
theorem C0K{t:Ty}{a:List (den t)}{i:Nat}{d:den t}{m:Nat}(h:i<a.length)(hc:cnt (.sl t) a<=m):cnt t (a.getD i d)<=m:=by
 rw[Y0] at hc;have:=x0X (d:=d) h;omega
theorem c0u{t:Ty}{a:List (den t)}{m:Nat}(hc:cnt (.sl t) a<=m):a.length<=m:=by
 rw[Y0] at hc; omega
theorem cF{s t:Ty}{x:den (.pr s t)}{m:Nat}(h:cnt (.pr s t) x<=m):cnt s x.1<=m:=by
 rw[D4] at h; omega
theorem cS{s t:Ty}{x:den (.pr s t)}{m:Nat}(h:cnt (.pr s t) x<=m):cnt t x.2<=m:=by
 rw[D4] at h; omega
theorem U6{t:Ty}{a:List (den t)}{i:Nat}{d:den t}(h:i<a.length)(hw:wf (.sl t) a):wf t (a.getD i d):=by
 rw[gq,List.getElem?_eq_getElem h];exact hw.2 _ (List.getElem_mem h)
theorem dlt{i n:Nat}:decide ((i:Int) < (n:Int))=decide (i<n):=by
 rw[decide_eq_decide]; omega
theorem o0J{n:Nat}(h:n<=9223372036854775807):n+1<big:=by simp only[big]; omega
theorem z0g{σ ρ:Type}{F:(σ->Option ρ)->σ->Option ρ}{s:σ}{r:Option ρ}(h:∀n,0<n->itF F n s=r):lp F s=r:=h big (by simp only[big]; omega)
theorem C0q{σ τ ρ:Type}{n:Nat}(hn:n<=9223372036854775807)(mk:Nat->σ->τ)(f:Nat->σ->Option σ)(x:Nat->σ->Option ρ)(I:Nat->σ->Prop){J:σ->Option ρ}{F:(τ->Option ρ)->τ->Option ρ}
  (hF:∀g i s,i<n->I i s->F g (mk i s)=match f i s with | some s'=>g (mk (i+1) s') | none=>x i s) (hI:∀i s s',i<n->I i s->f i s=some s'->I (i+1) s') (hE:∀g s,I n s->F g (mk n s)=J s)
  (run:Nat->σ->Option ρ) (r0:∀s,I n s->run n s=J s) (r1:∀i s,i<n->I i s->run i s=match f i s with | some s'=>run (i+1) s' | none=>x i s) (k:Nat) (hk:k<=n) (s:σ) (hs:I k s):lp F (mk k s)=run k s:=by
 have key:∀(m i:Nat) (s:σ),i<=n->n-i<m->I i s->itF F m (mk i s)=run i s:=by
  intro m
  induction m with
  | zero=>intro i s _ h; omega
  | succ m ih =>
    intro i s hi hm hI';show F (itF F m) (mk i s)=_;by_cases h:i<n
    ·rw[hF _ _ _ h hI',r1 _ _ h hI'];cases hf:f i s with
     | none=>rfl
     | some s'=>exact ih (i+1) s' (by omega) (by omega) (hI _ _ _ h hI' hf)
    ·have:i=n:=by omega
     subst this;rw[hE _ _ hI',r0 _ hI']
 exact key big k s hk (by have:=o0J hn; omega) hs
theorem r0U{ρ:Type}{n:Nat}(hn:n<=9223372036854775807)(c:Nat->Bool)(x:Nat->Option ρ){e:Option ρ}{F:(Int->Option ρ)->Int->Option ρ}(k:Nat)(hk:k<=n)(hF:∀g (i:Nat),k<=i->i<n->F g (i:Int)=if c i=true then x i else g ((i:Int)+1))
  (hE:∀g,F g (n:Int)=e):lp F (k:Int)=match(List.range' k (n-k)).find? c with | some i=>x i | none=>e:=by
 have:=C0q hn (fun i (_:Unit)=>(i:Int)) (fun i _=>if c i=true then none else some ()) (fun i _=>x i) (fun i _=>k<=i) (J:=fun _=>e) (F:=F)
  (fun g i s h hki=>by
    rw[hF g i hki h];cases c i <;> rfl) (fun _ _ _ _ h _=>Nat.le_succ_of_le h) (fun g _ _=>hE g) (fun i _=>match(List.range' i (n-i)).find? c with | some i=>x i | none=>e) (fun _ _=>by simp) (fun i s h _=>by
    have e1:n-i=(n-(i+1))+1:=by omega
    rw[e1,List.range'_succ,List.find?_cons];cases hc:c i <;> simp) k hk () (Nat.le_refl _)
 simpa using this
theorem s0r{c:Nat->Bool}{k n:Nat}:(List.range' k (n-k)).find? c=none↔∀i,k<=i->i<n->c i=false:=by
 rw[List.find?_eq_none];constructor
 ·intro h i h1 h2;have:=h i (List.mem_range'_1.2 ⟨h1,by omega⟩);simpa using this
 ·intro h i hi;obtain⟨h1,h2⟩:=List.mem_range'_1.1 hi;rw[h i h1 (by omega)];simp
theorem I6{ρ:Type}{n:Nat}(hn:n<=9223372036854775807)(c:Nat->Bool)(x:Option ρ){e:Option ρ}{F:(Int->Option ρ)->Int->Option ρ}(hF:∀g (i:Nat),i<n->F g (i:Int)=if c i=true then x else g ((i:Int)+1))
  (hE:∀g,F g (n:Int)=e):lp F 0=if(List.range n).any c=true then x else e:=by
 have:=r0U hn c (fun _=>x) 0 (Nat.zero_le _) (fun g i _ h=>hF g i h) hE;rw[Nat.sub_zero,<- List.range_eq_range'] at this;refine Eq.trans this ?_;cases h:(List.range n).find? c with
 | none =>
   rw[if_neg];rw[List.find?_eq_none] at h;intro hc;obtain⟨i,h1,h2⟩:=List.any_eq_true.1 hc;exact h i h1 h2
 | some i =>
   rw[if_pos];exact List.any_eq_true.2 ⟨i,List.mem_of_find?_eq_some h,List.find?_some h⟩
theorem z0h{ρ:Type}{n:Nat}(hn:n<=9223372036854775807)(c:Nat->Bool)(x:Option ρ){e:Option ρ}{F:(Int->Option ρ)->Int->Option ρ}(k:Nat)(hk:k<=n)(hF:∀g (i:Nat),k<=i->i<n->F g (i:Int)=if c i=true then x else g ((i:Int)+1))
  (hE:∀g,F g (n:Int)=e):lp F (k:Int)=if((List.range n).any fun i=>decide (k<=i)&&c i)=true then x else e:=by
 refine(r0U hn c (fun _=>x) k hk hF hE).trans ?_;cases h:(List.range' k (n-k)).find? c with
 | none =>
   rw[if_neg];intro hc;obtain⟨i,h1,h2⟩:=List.any_eq_true.1 hc;simp only[ba,dq] at h2;rw[s0r.1 h i h2.1 (List.mem_range.1 h1)] at h2;cases h2.2
 | some i =>
   rw[if_pos];have h1:=List.mem_range'_1.1 (List.mem_of_find?_eq_some h);exact List.any_eq_true.2 ⟨i,List.mem_range.2 (by omega),by simp[h1.1,List.find?_some h]⟩
def fN{σ:Type}(f:Nat->σ->σ):Nat->σ->σ
 | 0,s=>s
 | n+1,s=>f n (fN f n s)
theorem lF{σ τ ρ:Type}{n:Nat}(hn:n<=9223372036854775807)(mk:Nat->σ->τ)(f:Nat->σ->σ)(I:Nat->σ->Prop){J:σ->Option ρ}{F:(τ->Option ρ)->τ->Option ρ}
  (hF:∀g i s,i<n->I i s->F g (mk i s)=g (mk (i+1) (f i s))) (hI:∀i s,i<n->I i s->I (i+1) (f i s)) (hE:∀g s,I n s->F g (mk n s)=J s) (s:σ) (hs:I 0 s):lp F (mk 0 s)=J (fN f n s):=by
 have key:∀(m i:Nat),i<=n->n-i<m->I i (fN f i s)->itF F m (mk i (fN f i s))=J (fN f n s):=by
  intro m
  induction m with
  | zero=>intro i _ h; omega
  | succ m ih =>
    intro i hi hm hI';show F (itF F m) (mk i _)=_;by_cases h:i<n
    ·rw[hF _ _ _ h hI'];exact ih (i+1) (by omega) (by omega) (hI _ _ h hI')
    ·have:i=n:=by omega
     subst this;exact hE _ _ hI'
 exact key big 0 (Nat.zero_le _) (by have:=o0J hn; omega) hs
theorem f0j{σ τ ρ:Type}{n:Nat}(hn:n<=9223372036854775807)(mk:Nat->σ->τ)(f:Nat->σ->σ)(c:Nat->Bool)(x:Option ρ)(I:Nat->σ->Prop){J:σ->Option ρ}{F:(τ->Option ρ)->τ->Option ρ}
  (hF:∀g i s,i<n->I i s->F g (mk i s)=if c i=true then x else g (mk (i+1) (f i s))) (hI:∀i s,i<n->I i s->c i=false->I (i+1) (f i s)) (hE:∀g s,I n s->F g (mk n s)=J s) (s:σ) (hs:I 0 s) :
  lp F (mk 0 s)=if(List.range n).any c=true then x else J (fN f n s):=by
 have key:∀(m i:Nat),i<=n->n-i<m->I i (fN f i s)->(∀j,j<i->c j=false)->itF F m (mk i (fN f i s))=if(List.range n).any c=true then x else J (fN f n s):=by
  intro m
  induction m with
  | zero=>intro i _ h; omega
  | succ m ih =>
    intro i hi hm hI' hc;show F (itF F m) (mk i _)=_;by_cases h:i<n
    ·rw[hF _ _ _ h hI'];cases hci:c i with
     | true=>rw[if_pos rfl,if_pos (List.any_eq_true.2 ⟨i,List.mem_range.2 h,hci⟩)]
     | false =>
       rw[if_neg (by simp)];refine ih (i+1) (by omega) (by omega) (hI _ _ h hI' hci) (fun j hj=>?_);rcases Nat.lt_succ_iff_lt_or_eq.1 hj with h' | rfl
       ·exact hc j h'
       ·exact hci
    ·have:i=n:=by omega
     subst this;rw[hE _ _ hI',if_neg];intro ha;obtain⟨j,h1,h2⟩:=List.any_eq_true.1 ha;rw[hc j (List.mem_range.1 h1)] at h2;cases h2
 exact key big 0 (Nat.zero_le _) (by have:=o0J hn; omega) hs (fun j hj=>absurd hj (Nat.not_lt_zero j))
theorem o0O{n:Nat}(p q:Nat->Bool):((List.range n).any fun i=>p i||q i)=((List.range n).any p||(List.range n).any q):=by
 rw[Bool.eq_iff_iff,Bool.or_eq_true,List.any_eq_true,List.any_eq_true,List.any_eq_true];constructor
 ·rintro⟨i,h1,h2⟩;rcases Bool.or_eq_true _ _ ▸ h2 with h3 | h3
  ·exact .inl ⟨i,h1,h3⟩
  ·exact .inr ⟨i,h1,h3⟩
 ·rintro(⟨i,h1,h2⟩ | ⟨i,h1,h2⟩)
  ·exact⟨i,h1,by rw[h2]; rfl⟩
  ·exact⟨i,h1,by rw[h2,Bool.or_true]⟩
theorem V9{n:Nat}{c:Nat->Bool}:(!(List.range n).any c)=true↔∀i,i<n->c i=false:=by
 rw[Bool.not_eq_true',<- Bool.not_eq_true,List.any_eq_true];constructor
 ·intro h i hi;rw[<- Bool.not_eq_true];exact fun hc=>h ⟨i,List.mem_range.2 hi,hc⟩
 ·rintro h ⟨i,h1,h2⟩;rw[h i (List.mem_range.1 h1)] at h2;cases h2
theorem P3{α:Type}(l:List α)(d:α)(p:α->Bool):((List.range l.length).any fun i=>p (l.getD i d))=l.any p:=by
 rw[Bool.eq_iff_iff,List.any_eq_true,List.any_eq_true];constructor
 ·rintro⟨i,h1,h2⟩;have h1:=List.mem_range.1 h1;rw[gq,List.getElem?_eq_getElem h1] at h2;exact⟨_,List.getElem_mem h1,h2⟩
 ·rintro⟨x,h1,h2⟩;obtain⟨i,h3,h4⟩:=List.getElem_of_mem h1;refine⟨i,List.mem_range.2 h3,?_⟩;rw[gq,List.getElem?_eq_getElem h3];simpa [h4] using h2
theorem d0h{n:Nat}{p q:Nat->Bool}(h:∀i,i<n->p i=q i):(List.range n).any p=(List.range n).any q:=by
 rw[Bool.eq_iff_iff,List.any_eq_true,List.any_eq_true];exact⟨fun⟨i,h1,h2⟩=>⟨i,h1,by rw[<- h i (List.mem_range.1 h1)]; exact h2⟩,fun⟨i,h1,h2⟩=>⟨i,h1,by rw[h i (List.mem_range.1 h1)]; exact h2⟩⟩
theorem d0U{ρ:Type}{i n:Nat}{V:Prop}[Decidable V]{c:Bool}{x e:Option ρ}{g:Int->Option ρ}(h:i<n)(hn:n<=9223372036854775807)(hV:V) :
  (if(decide ((i:Int) < (n:Int)))=true then gd V (if c=true then x else gd (l3 ((i:Int)+1)/\True) (g ((i:Int)+1))) else e)=if c=true then x else g ((i:Int)+1):=by
 rw[if_pos (by simpa using h),gP hV,gP ⟨oo,trivial⟩]
theorem z0T{ρ:Type}{i n:Nat}{V W:Prop}[Decidable V][Decidable W]{c:Bool}{x e:Option ρ}{g:Int->Option ρ}(h:i<n)(hn:n<=9223372036854775807)(hV:V)(hW:W) :
  (if(decide ((i:Int) < (n:Int)))=true then gd V (gd W (if c=true then x else gd (l3 ((i:Int)+1)/\True) (g ((i:Int)+1)))) else e)=if c=true then x else g ((i:Int)+1):=by
 rw[if_pos (by simpa using h),gP hV,gP hW,gP ⟨oo,trivial⟩]
theorem aE{ρ:Type}{n:Nat}{a e:Option ρ}:(if(decide ((n:Int) < (n:Int)))=true then a else e)=e:=if_neg (by simp)
theorem h0t{i n:Nat}{o:Option Bool}{g:Int->Option Int}{e:Option Int}{b:Bool}(h:i<n)(hn:n<=9223372036854775807)(ho:o=some b) :
  (if(decide ((i:Int) < (n:Int)))=true then gd (ix (i:Int) n/\o.isSome=true/\True) (if(vl o)=true then some (i:Int) else gd (l3 ((i:Int)+1)/\True) (g ((i:Int)+1))) else e)=if b=true then some (i:Int) else g ((i:Int)+1):=by
 subst ho;rw[if_pos (by simpa using h),gP ⟨oo,rfl,trivial⟩,gP ⟨oo,trivial⟩,vS]
theorem b0V{n:Nat}(hn:n<=9223372036854775807)(b:Nat->Bool){F:(Int->Option Int)->Int->Option Int}(hF:∀g (i:Nat),i<n->F g (i:Int)=if b i=true then some (i:Int) else g ((i:Int)+1))(hE:∀g,F g (n:Int)=some (-1)) :
  lp F 0=some (match(List.range n).find? b with | some i=>(i:Int) | none => -1):=by
 have:=r0U hn b (fun i=>some (i:Int)) 0 (Nat.zero_le _) (fun g i _ h=>hF g i h) hE;rw[Nat.sub_zero,<- List.range_eq_range'] at this;refine Eq.trans this ?_;cases(List.range n).find? b <;> rfl
theorem d0q{n:Nat}{b:Nat->Bool}{o:Option Int}(h:o=some (match(List.range n).find? b with | some i=>(i:Int) | none => -1)):gd (o.isSome=true/\True) (lt (vl o) fun v0=>some (decide (0<=v0)))=some ((List.range n).any b):=by
 subst h;rw[gP ⟨rfl,trivial⟩,lE,vS];cases h:(List.range n).find? b with
 | none =>
   have:(List.range n).any b=false:=by
    rw[<- Bool.not_eq_true];intro hc;obtain⟨i,h1,h2⟩:=List.any_eq_true.1 hc;rw[List.find?_eq_none] at h;exact h i h1 h2
   rw[this]; rfl
 | some i =>
   have:(List.range n).any b=true:=List.any_eq_true.2 ⟨i,List.mem_of_find?_eq_some h,List.find?_some h⟩;rw[this];simp
end Go.Proofs.Xd
end
section
namespace Go.Proofs.Xv
open Go Go.RowKit Go.Proofs.Sv
def opF(P:Program)(op:TypeId->Ty->Bool):Nat->List Field->Ty->Bool
 | _,[],_=>false
 | off,[f],y=>Nat.beq f.offset off&&Nat.beq (P.cellsOf f.type) (sz y)&&op f.type y
 | off,f :: r,.pr a b=>Nat.beq f.offset off&&Nat.beq (P.cellsOf f.type) (sz a)&&op f.type a&&opF P op (off+sz a) r b
 | _,_,_=>false
def opB(P:Program):Nat->TypeId->Ty->Bool
 | 0,_,_=>false
 | n+1,T,y=>match P.underlying T with
   | some (.int k)=>decide (y=.int k)
   | some .bool=>decide (y=.bool)
   | some .string=>decide (y=.str)
   | some (.slice E)=>match y with
     | .sl e=>opB P n E e
     | _=>false
   | some (.struct fs)=>Nat.beq (P.cellsOf T) (sz y)&&opF P (opB P n) 0 fs.toList y
   | _=>false
def inW(w:World)(k:Nat):Prop:=k<w.heap.size
theorem o0j(k:IntKind):k.min=lo k/\k.max=hi k:=by cases k <;> exact⟨rfl,rfl⟩
theorem r0A{P:Program}{E:TypeId}{e:Ty}{w:World}{H:Type}{enc:TypeId×Value->H}{sp:Nat->Bool}{hl:Bool}(hE:∀{fuel:Nat} {cs:List Value} {x:DataW H×List MemPlace},DataW.trod enc P w 0 sp hl fuel E cs=some x->∃z:den e,RT (inW w) w e cs z)
  {T:TypeId} {fuel:Nat} {cs:List Value} {x:DataW H×List MemPlace} (hT:P.underlying T=some (.slice E)) (h:DataW.trod enc P w 0 sp hl fuel T cs=some x):∃z:List (den e),RT (inW w) w (.sl e) cs z:=by
 rcases DataW.trod_slice hT h with ⟨rfl,_⟩ | ⟨a,len,cap,elems,rest,n,rfl,rfl,_,_,hlc,hcm,hel,hat,_,_⟩
 ·exact⟨[],none,0,rfl,Nat.le_refl _,by omega,.inl rfl⟩
 ·have hcap:cap<=9223372036854775807:=by unfold maxLen at hcm; omega
  have each:∀i,i<len->∃c:List Value,w.cells? 0 (a.add (i*P.cellsOf E)) (P.cellsOf E)=some c/\∃y:den e,RT (inW w) w e c y:=by
   intro i hi;have hi':=hat i hi;rw[List.getElem?_eq_getElem (by omega)] at hi';cases hc:w.cells? 0 (a.add (i*P.cellsOf E)) (P.cellsOf E) with
   | none=>rw[hc] at hi'; cases hi'
   | some c =>
     rw[hc] at hi';simp only[Option.bind_some] at hi';exact⟨c,rfl,hE hi'⟩
  by_cases h0:len=0
  ·subst h0;exact⟨[],some a,cap,rfl,Nat.zero_le _,hcap,.inl rfl⟩
  ·have hs:P.cellsOf E=sz e:=by
    obtain⟨c,hc,y,hy⟩:=each 0 (by omega);have:=(World.cells?_some hc).2.1;rw[<- this]; exact RT.len hy
   have hsp:0<P.cellsOf E:=by rw[hs]; exact n0B e
   obtain⟨b,o,rfl⟩:∃b o,a=⟨b,o,none⟩:=by
    obtain⟨c,hc,_⟩:=each 0 (by omega);have e0:a.add (0*P.cellsOf E)=a:=by simp[Addr.add]
    rw[e0] at hc;exact⟨a.block,a.off,(e0l hsp hc).1⟩
   have hb:b<w.heap.size:=by
    obtain⟨c,hc,_⟩:=each 0 (by omega);have e0:(Addr.mk b o none).add (0*P.cellsOf E)=⟨b,o,none⟩:=by simp[Addr.add]
    rw[e0] at hc;have h1:=e0l hsp hc;exact h1.2.2.lt (by rw[h1.2.1]; exact hsp)
   have build:∀k,k<=len->∃(cs:List Value) (xs:List (den e)),xs.length=k/\At w b o cs/\AllR (RT (inW w) w e) cs xs:=by
    intro k
    induction k with
    | zero=>exact fun _=>⟨[],[],rfl,o0K,rfl⟩
    | succ k ih =>
      intro hk;obtain⟨cs,xs,h1,h2,h3⟩:=ih (by omega);obtain⟨c,hc,y,hy⟩:=each k (by omega);have hadd:(Addr.mk b o none).add (k*P.cellsOf E)=⟨b,o+k*P.cellsOf E,none⟩:=by
       unfold Addr.add;split
       ·rename_i h0; rw[h0]; rfl
       ·rfl
      rw[hadd] at hc;have h4:=(e0l hsp hc).2.2;refine⟨cs++c,xs++[y],by simp[h1],h2.app ?_,AllR.app (AllR.one hy) h3⟩;have:cs.length=k*P.cellsOf E:=by rw[h3.len (fun c x h=>RT.len h),h1,hs]
      rw[this]; exact h4
   obtain⟨cs,xs,h1,h2,h3⟩:=build len (Nat.le_refl _);subst h1;exact⟨xs,some ⟨b,o,none⟩,cap,rfl,hlc,hcap,.inr ⟨b,o,cs,rfl,hb,h2,h3⟩⟩
theorem m0l{P:Program}{w:World}{H:Type}{enc:TypeId×Value->H}{sp:Nat->Bool}{hl:Bool}{op:TypeId->Ty->Bool}
  (hop:∀{T:TypeId} {y:Ty},op T y=true->∀{fuel:Nat} {cs:List Value} {x:DataW H×List MemPlace},DataW.trod enc P w 0 sp hl fuel T cs=some x->∃z:den y,RT (inW w) w y cs z) {cs:List Value} :
  ∀{fs:List Field} {off:Nat} {y:Ty},opF P op off fs y=true->cs.length=off+sz y->(∀f∈fs,∃n x,DataW.trod enc P w 0 sp hl n f.type ((cs.drop f.offset).take (P.cellsOf f.type))=some x)->∃z:den y,RT (inW w) w y (cs.drop off) z:=by
 intro fs
 induction fs with
 | nil=>intro off y h; simp[opF] at h
 | cons f r ih =>
   intro off y h hlen hf;cases r with
   | nil =>
     have h:(Nat.beq f.offset off&&Nat.beq (P.cellsOf f.type) (sz y)&&op f.type y)=true:=by
      cases y <;> exact h
     simp only[ba] at h;obtain⟨⟨h1,h2⟩,h3⟩:=h;have h1:=nb h1;have h2:=nb h2;obtain⟨n,x,hx⟩:=hf f (by simp);rw[h1,h2,List.take_of_length_le (by rw[List.length_drop]; omega)] at hx;exact hop h3 hx
   | cons g r' =>
     cases y with
     | pr a b =>
       simp only[opF,ba] at h;obtain⟨⟨⟨h1,h2⟩,h3⟩,h4⟩:=h;have h1:=nb h1;have h2:=nb h2;obtain⟨n,x,hx⟩:=hf f (by simp);rw[h1,h2] at hx;obtain⟨z1,hz1⟩:=hop h3 hx;have hlen':cs.length=off+sz a+sz b:=by rw[hlen]; simp only[sz]; omega
       obtain⟨z2,hz2⟩:=ih h4 hlen' (fun f' hf'=>hf f' (List.mem_cons_of_mem _ hf'));refine⟨(z1,z2),(cs.drop off).take (sz a),cs.drop (off+sz a),?_,hz1,hz2⟩;rw[<- List.drop_drop,List.take_append_drop]
     | int k=>simp[opF] at h
     | bool=>simp[opF] at h
     | str=>simp[opF] at h
     | sl e=>simp[opF] at h
     | pt e=>simp[opF] at h
theorem r0B{P:Program}{w:World}{H:Type}{enc:TypeId×Value->H}{sp:Nat->Bool}{hl:Bool}:∀{n:Nat} {T:TypeId} {y:Ty},opB P n T y=true->∀{fuel:Nat} {cs:List Value} {x:DataW H×List MemPlace},DataW.trod enc P w 0 sp hl fuel T cs=some x->∃z:den y,RT (inW w) w y cs z:=by
 intro n
 induction n with
 | zero=>intro T y h; cases h
 | succ n ih =>
   intro T y h fuel cs x hx;unfold opB at h;split at h
   ·rename_i k hT;have hy:y=.int k:=by simpa using h
    subst hy;obtain⟨m,rfl,_,hw⟩:=DataW.trod_int hT hx;refine⟨m,rfl,?_⟩;simp only[Lit.wf,ba,dq] at hw;rw[(o0j k).1,(o0j k).2] at hw;exact hw
   ·rename_i hT;have hy:y=.bool:=by simpa using h
    subst hy;obtain⟨b,rfl,_⟩:=DataW.trod_bool hT hx;exact⟨b,rfl⟩
   ·rename_i hT;have hy:y=.str:=by simpa using h
    subst hy;obtain⟨s,rfl,_,hs⟩:=DataW.trod_string hT hx;exact⟨s,rfl,by unfold maxLen at hs; omega⟩
   ·rename_i E hT;split at h
    ·exact r0A (ih h) hT hx
    ·cases h
   ·rename_i fs hT;rw[ba] at h;obtain⟨hlen,hf⟩:=k0R hT hx;have h1:=nb h.1;have:=m0l (cs:=cs) (fun h'=>ih h') h.2 (by rw[hlen,h1]; omega) (fun f hfm=>by
     obtain⟨i,hi,rfl⟩:=List.getElem_of_mem hfm;exact hf i _ (by rw[Array.getElem?_eq_getElem (by simpa using hi)]; simp))
    simpa using this
   ·cases h
theorem C0A{w:World}:∀k,inW w k->k<w.heap.size:=fun _ h=>h
theorem L0v{P:Program}{H:Type}{enc:TypeId×Value->H}{T E:TypeId}{y:Ty}{n:Nat}(hy:opB P n T y=true)(hT:P.underlying T=some (.slice E)){W:World}{r:Reach}{base:Nat}{v:Value}{d:DataW H}{p:List MemPlace}
  (hv:Value.okWide P W r base T v) (h:DataW.Trod enc P W 0 (fun _=>true) true T v d p):∃x:den y,RT (inW W) W y [v] x:=by
 obtain⟨a,len,cap,rfl⟩:=WideShapes.okWide_slice hT hv;obtain⟨f,hf⟩:=h;obtain⟨x,hx⟩:=r0B hy hf;exact⟨x,hx⟩
theorem WE.below{w w':World}(h:WE none w w'):Below w.heap.size w w':=⟨h.os,h.tape,h.output,h.size,fun k hk=>h.block k hk (by simp)⟩
theorem u0N{P:Program}{f:FuncId}{ps:List Par}{F:w9 ps->Option Bool}{Z:Bool->IOT ps}(h:Ok P (lct f ps F (fun r=>.d true .bool r) Z)){w:World}{vs:List Value}{x:w9 ps}(ha:ArgsR (inW w) w none ps x vs)(hx:F x=some true) :
  Calls P f vs.toArray w fun en w'=>en=.returned (.bool true)/\Below w.heap.size w w':=by
 refine Calls.mono (h.2 x (by show(F x).isSome=true; rw[hx]; rfl) w vs none (inW w) C0A ha) ?_;rintro en w' ⟨v,gs,e,hw,_,_,hR,_⟩;refine⟨?_,WE.below hw⟩;have hR:RT _ w' .bool [v] (Xl.vl (F x))/\gs=[]:=hR;rw[hx] at hR;have h1:[v]=[Value.bool true]:=hR.1;simp only[List.cons.injEq,and_true] at h1;rw[e,h1]
theorem c0o{P:Program}{ops:Array Oper}{Q:Exit->Act->World->Prop}{o:Oper}{r:List Oper}{a:Act}{w:World}(key:N5 P ops Q o (wpList P ops Q r) a w):wpList P ops Q (o :: r) a w:=by
 unfold wpList;unfold N5 at key;split
 ·rename_i hw; rw[if_pos hw] at key; exact .inl key
 ·rename_i hw; rw[if_neg hw] at key; exact key
theorem i0H{P:Program}{n:Nat}{e:Env}{ty:TypeId}{w:World}{T T' E:TypeId}{x y:Operand}{q:Option Addr}{m c:Nat}(hU:P.underlying T=some (.slice E))(hx:Sv.ev e x=some (.slice q m c))(hy:Sv.ev e y=some (.slice none 0 0)) :
  D7 P n e (.binOp .eql T x y T') ty w (.bool q.isNone) w:=by
 intro a dst pos after g ha;have:=Lib.run_eql_slice_nil w T E q m c 0 0 hU;simp only[execOp,ha.ev hx,ha.ev hy];simp[eqGuard,this,Result.andThen]
theorem g0D{X:Cx}{G:Gh}{a:Act}{ops:Array Oper}{Q:Exit->Act->World->Prop}{d:Nat}{op:Op}{ty:TypeId}{pos:String}{after:Array Edge}{v:Value}{K:Act->World->Prop}
  (h:∀dst pos after g,(execOp a.eval ⟨dst,op,ty,pos,after,g⟩).run X.P G.w=.ok (.value v) G.w) (hK:K (a.put (some d) v) G.w):N5 X.P ops Q ⟨some d,op,ty,pos,after,none⟩ K a G.w:=by
 unfold N5;have hw:Region.wanted ⟨some d,op,ty,pos,after,none⟩ (yielded ops a.tmps)=true:=rfl;rw[if_pos hw];unfold Oper.wp;rw[h (some d) pos after none];exact hK
theorem m0W{X:Cx}{st:St}{Q:Exit->Act->World->Prop}{id T E t0 t3 t4:Nat}{ty3 ty4 T':TypeId}{pos3 pos4:String}{af3 af4:Array Edge}{f:Bool}{e:Ty}{xs:List (den e)}
  (hU:X.P.underlying T=some (.slice E)) (h0:lku st.e t0=some ⟨[],.d f (.sl e) xs⟩) (hpl:I9 st.e=true) (h3:Nat.blt t3 X.n=true) (h4:Nat.blt t4 X.n=true)
  (ht:xs=[]->FX X ⟨(t4,⟨[],.d true .bool true⟩) :: (t3,⟨[],.d f (.sl e) xs⟩) :: st.e,st.o⟩ .normal Q) (hf:FX X ⟨(t4,⟨[],.d true .bool false⟩) :: (t3,⟨[],.d f (.sl e) xs⟩) :: st.e,st.o⟩ .normal Q) :
  VX X st (.region id [⟨some t3,.move (.tmp t0),ty3,pos3,af3,none⟩,⟨some t4,.binOp .eql T (.tmp t3) (.const (.slice none 0 0)) T',ty4,pos4,af4,none⟩].toArray false) Q:=by
 intro G a S ho hE;have h3:t3<X.n:=by simpa using h3
 have h4:t4<X.n:=by simpa using h4
 refine wp_region_lit ?_;have hu:=(hE.val t0 _ h0).1 (fun _ h=>by cases h);have hu':=hu;obtain⟨q,cap,hv,hle,hmax,h4'⟩:=hu';simp only[List.cons.injEq,and_true] at hv;have hev:a.eval (.tmp t0)=a.tmps.getD t0 undef:=rfl;obtain⟨v,hrun,hv2⟩:Val X G a (.move (.tmp t0)) ty3 (.d f (.sl e) xs):=B0 hE [.tmp t0] (v:=a.eval (.tmp t0)) (b0g (by simp only[X5]; exact I0 (by simp))) (by rw[hev]; exact hu);refine c0o (g0D hrun ?_);have hp0:∀(t:Nat) (s:Sl),lku st.e t=some s->∀d,∀x∈s.p,x.1≠d:=fun t s hs d x hx=>by rw[Z7 hpl t s hs] at hx; cases hx
 have hE1:=EnvR.put (st:=st) (p:=[]) (r:=.d f (.sl e) xs) hE h3 (fun _ h=>by cases h) (fun t s hs=>hp0 t s hs t3) (v:=v) ⟨fun _=>hv2,fun h=>(h (fun _ h=>by cases h)).elim⟩;have hv2':=hv2;obtain⟨q,cap,hv,hle,hmax,h4'⟩:=hv2';simp only[List.cons.injEq,and_true] at hv;have he1:(a.put (some t3) v).eval (.tmp t3)=.slice q xs.length cap:=by
  show(a.put (some t3) v).tmps.getD t3 undef=_;rw[k0K (by rw[hE.size]; exact h3),if_pos rfl,hv]
 have hx:Sv.ev (C3 (a.put (some t3) v) [.tmp t3]) (.tmp t3)=some (.slice q xs.length cap):=by rw[I0 (by simp),he1]
 obtain⟨v2,hrun2,hv3⟩:Val X G (a.put (some t3) v) (.binOp .eql T (.tmp t3) (.const (.slice none 0 0)) T') ty4 (.d true .bool q.isNone):=B0 (st:=⟨(t3,⟨[],.d f (.sl e) xs⟩) :: st.e,st.o⟩) hE1 [.tmp t3] (i0H hU hx rfl) rfl;refine c0o (g0D hrun2 ?_);have hE2:∀b,q.isNone=b->EnvR X.n G ((t4,⟨[],.d true .bool b⟩) :: (t3,⟨[],.d f (.sl e) xs⟩) :: st.e) ((a.put (some t3) v).put (some t4) v2):=fun b hb=>EnvR.put (st:=⟨(t3,⟨[],.d f (.sl e) xs⟩) :: st.e,st.o⟩) (p:=[]) hE1 h4 (fun _ h=>by cases h) (fun t s hs x hx=>by
   rw[lK] at hs;split at hs
   ·cases hs; cases hx
   ·exact hp0 t s hs t4 x hx) ⟨fun _=>hb ▸ hv3,fun h=>(h (fun _ h=>by cases h)).elim⟩
 show Q .normal _ G.w;cases hq:q with
 | none =>
   refine ht ?_ G _ S ho (hE2 true (by rw[hq]; rfl));rcases h4' with h | ⟨b,o,ds,hb,_⟩
   ·exact h
   ·rw[hq] at hb; cases hb
 | some ad=>exact hf G _ S ho (hE2 false (by rw[hq]; rfl))
end Go.Proofs.Xv
end
section
namespace Go.Proofs.Xv
open Go Go.RowKit Go.Proofs.Sv Go.Proofs.Xl
theorem fzF{X:Cx}{st:St}{x:Exit}{Q:Exit->Act->World->Prop}(id:Nat)(st':St)(h:fzS id st=some st')(hid:Nat.blt id 500000=true)(k:FX X st' x Q):FX X st x Q:=fun G a S ho hE=>by
 obtain⟨G',S',ho',hw',hE'⟩:=z0x h hid S ho hE;have:=k G' a S' ho' hE'
 rwa [hw'] at this
theorem nlG{X:Cx}{st:St}{Q:Exit->Act->World->Prop}{id T E t0 t3 t4:Nat}{ty3 ty4 T':TypeId}{pos3 pos4:String}{af3 af4:Array Edge}{f:Bool}{e:Ty}{xs:List (den e)}{ρ:Type}{x:Option ρ}{r:ρ}
  (hU:X.P.underlying T=some (.slice E)) (h0:lku st.e t0=some ⟨[],.d f (.sl e) xs⟩) (hpl:I9 st.e=true) (h3:Nat.blt t3 X.n=true) (h4:Nat.blt t4 X.n=true)
  (H:gd (0<xs.length/\True) x=some r) (hf:x=some r->FX X ⟨(t4,⟨[],.d true .bool false⟩) :: (t3,⟨[],.d f (.sl e) xs⟩) :: st.e,st.o⟩ .normal Q) :
  VX X st (.region id [⟨some t3,.move (.tmp t0),ty3,pos3,af3,none⟩,⟨some t4,.binOp .eql T (.tmp t3) (.const (.slice none 0 0)) T',ty4,pos4,af4,none⟩].toArray false) Q:=by
 obtain⟨h1,h2⟩:=J5 H;refine m0W hU h0 hpl h3 h4 (fun e=>?_) (hf h2);rw[e] at h1;exact absurd h1.1 (Nat.lt_irrefl 0)
theorem y0g{X:Cx}{st:St}{Q:Exit->Act->World->Prop}{id T E t0 t3 t4:Nat}{ty3 ty4 T':TypeId}{pos3 pos4:String}{af3 af4:Array Edge}
  (hU:X.P.underlying T=some (.slice E)) (h0:lku st.e t0=some ⟨[],.v (.slice none 0 0)⟩) (hpl:I9 st.e=true) (h3:Nat.blt t3 X.n=true) (h4:Nat.blt t4 X.n=true)
  (hf:FX X ⟨(t4,⟨[],.d true .bool true⟩) :: (t3,⟨[],.v (.slice none 0 0)⟩) :: st.e,st.o⟩ .normal Q) :
  VX X st (.region id [⟨some t3,.move (.tmp t0),ty3,pos3,af3,none⟩,⟨some t4,.binOp .eql T (.tmp t3) (.const (.slice none 0 0)) T',ty4,pos4,af4,none⟩].toArray false) Q:=by
 intro G a S ho hE;have h3:t3<X.n:=by simpa using h3
 have h4:t4<X.n:=by simpa using h4
 refine wp_region_lit ?_;have hu:a.tmps.getD t0 undef=.slice none 0 0:=(hE.val t0 _ h0).1 (fun _ h=>by cases h);have hev:a.eval (.tmp t0)=a.tmps.getD t0 undef:=rfl;obtain⟨v,hrun,hv2⟩:Val X G a (.move (.tmp t0)) ty3 (.v (.slice none 0 0)):=B0 hE [.tmp t0] (v:=a.eval (.tmp t0)) (b0g (by simp only[X5]; exact I0 (by simp))) (by rw[hev]; exact hu);refine c0o (g0D hrun ?_);have hp0:∀(t:Nat) (s:Sl),lku st.e t=some s->∀d,∀x∈s.p,x.1≠d:=fun t s hs d x hx=>by rw[Z7 hpl t s hs] at hx; cases hx
 have hE1:=EnvR.put (st:=st) (p:=[]) (r:=.v (.slice none 0 0)) hE h3 (fun _ h=>by cases h) (fun t s hs=>hp0 t s hs t3) (v:=v) ⟨fun _=>hv2,fun h=>(h (fun _ h=>by cases h)).elim⟩;have hv:v=.slice none 0 0:=hv2;have he1:(a.put (some t3) v).eval (.tmp t3)=.slice none 0 0:=by
  show(a.put (some t3) v).tmps.getD t3 undef=_;rw[k0K (by rw[hE.size]; exact h3),if_pos rfl,hv]
 have hx:Sv.ev (C3 (a.put (some t3) v) [.tmp t3]) (.tmp t3)=some (.slice none 0 0):=by rw[I0 (by simp),he1]
 obtain⟨v2,hrun2,hv3⟩:Val X G (a.put (some t3) v) (.binOp .eql T (.tmp t3) (.const (.slice none 0 0)) T') ty4 (.d true .bool true):=B0 (st:=⟨(t3,⟨[],.v (.slice none 0 0)⟩) :: st.e,st.o⟩) hE1 [.tmp t3] (i0H hU hx rfl) rfl;refine c0o (g0D hrun2 ?_);have hE2:EnvR X.n G ((t4,⟨[],.d true .bool true⟩) :: (t3,⟨[],.v (.slice none 0 0)⟩) :: st.e) ((a.put (some t3) v).put (some t4) v2) :=
  EnvR.put (st:=⟨(t3,⟨[],.v (.slice none 0 0)⟩) :: st.e,st.o⟩) (p:=[]) hE1 h4 (fun _ h=>by cases h) (fun t s hs x hx=>by
   rw[lK] at hs;split at hs
   ·cases hs; cases hx
   ·exact hp0 t s hs t4 x hx) ⟨fun _=>hv3,fun h=>(h (fun _ h=>by cases h)).elim⟩
 exact hf G _ S ho hE2
theorem r0D{X:Cx}{G:Gh}{a:Act}{ops:Array Oper}{Q:Exit->Act->World->Prop}{d f:Nat}{op:Op}{ty:TypeId}{pos:String}{after:Array Edge}{vs:Array Value}{K:Act->World->Prop}
  (h:∀dst pos after g,(execOp a.eval ⟨dst,op,ty,pos,after,g⟩).run X.P G.w=.ok (.enter f vs) G.w) (hc:Calls X.P f vs G.w fun en w'=>∃v,en=.returned v/\K (a.put (some d) v) w'):N5 X.P ops Q ⟨some d,op,ty,pos,after,none⟩ K a G.w:=by
 unfold N5;have hw:Region.wanted ⟨some d,op,ty,pos,after,none⟩ (yielded ops a.tmps)=true:=rfl;rw[if_pos hw];unfold Oper.wp;rw[h (some d) pos after none];refine Calls.mono hc ?_;rintro en w' ⟨v,rfl,hk⟩;exact hk
end Go.Proofs.Xv
end
section
namespace Go.Proofs.Xl
class Alw where
 alp:{ζ ρ:Type}->(ζ->Prop)->(ζ->Option ρ)->Option ρ
 alp_some:∀{ζ ρ:Type} {p:ζ->Prop} {f:ζ->Option ρ} {r:ρ},alp p f=some r->∀z,p z->f z=some r
 alp_of:∀{ζ ρ:Type} {p:ζ->Prop} {f:ζ->Option ρ} {r:ρ} (z:ζ),p z->(∀z,p z->f z=some r)->alp p f=some r
 alp_u:∀{ζ:Type} {p:ζ->Prop} {f:ζ->Option Unit},(∀z,p z->f z=some ())->alp p f=some ()
theorem alw:Nonempty Alw:=by
 classical
 refine⟨⟨fun p f=>if h:∃r,∀z,p z->f z=some r then some h.choose else none,?_,?_,?_⟩⟩
 ·intro ζ ρ p f r H z hz;split at H
  ·rename_i h;cases H;exact h.choose_spec z hz
  ·cases H
 ·intro ζ ρ p f r z hz h;have hx:∃r,∀z,p z->f z=some r:=⟨r,h⟩;rw[dif_pos hx];have:=hx.choose_spec z hz;rw[h z hz] at this;exact this.symm
 ·intro ζ p f h;have hx:∃r,∀z,p z->f z=some r:=⟨(),h⟩;rw[dif_pos hx]
end Go.Proofs.Xl
namespace Go.Proofs.Xv
open Go Go.RowKit Go.Proofs.Sv Go.Proofs.Xl
def OkE(P:Program)(f:FuncId)(ps:List Par){ζ:Type}(pre:w9 ps->Prop)(post:ζ->Prop)(res:ζ->w9 ps->Res ps):Prop:=d0Q P f=true/\∀(x:w9 ps),pre x->∀(w:World) (vs:List Value) (go:Option Nat) (K:Nat->Prop),(∀k,K k->k<w.heap.size)->ArgsR K w go ps x vs ->
 Calls P f vs.toArray w fun en w'=>∃z,post z/\p0T ⟨f,ps,res z⟩ x w go K en w'
theorem okE{P:Program}{Γ:m9}(hΓ:x6 P Γ){f:FuncId}{ps:List Par}{ζ:Type}{pre:w9 ps->Prop}{post:ζ->Prop}{res:ζ->w9 ps->Res ps}{fn:Func}{code:Code}{n:Nat}(rs:List ResultVar)(hf:P.funcs[f]?=some fn)(hn:fn.ntmps=n)(hb:fn.body=some code)(hr:fn.results=rs.toArray)(he:d0Q P f=true)(hle:(Nat.ble ps.length n&&Z8 ps&&!giv ps)=true)
  (h:∀y x,Xv.wfs ps x->pre x->(cx P n y).base=(cx P n y).w0.heap.size->∀Q,(∀z st,post z->x0W Γ st rs (res z x).r ps (res z x).z->FX (cx P n y) st .normal Q/\FX (cx P n y) st .ret Q)->VX (cx P n y) ⟨O8 0 ps x,I1 0 ps x⟩ code Q):OkE P f ps pre post res:=by
 refine⟨he,fun x hpre w vs go K hK ha=>?_⟩;simp only[ba] at hle;obtain⟨⟨hle,hob⟩,hgv⟩:=hle;have hgv:¬giv ps=true:=by simpa using hgv
 have hle:=Nat.le_of_ble_eq_true hle;have hlen:=ha.len;refine calls_of_wp hf hb ?_;have:=h ⟨w,fun k=>go=some k,K,q9 0 ps go,J4 ps w⟩ x ha.wfs hpre (h0K hgv) (bodyPost P fn fun en w'=>∃z,post z/\p0T ⟨f,ps,res z⟩ x w go K en w') (fun z st hpost hst=>?_) (GhS K w go (X7 ps vs) (J4 ps w) (I1 0 ps x)) { tmps:=vs.toArray++Array.replicate (fn.ntmps-vs.toArray.size) undef,defers:=[] } (k0D hK ha) rfl ⟨rfl,by simp[hn]; omega,fun t s ht=>?_⟩
 ·exact this
 ·have key:∀G a,Sat (cx P n ⟨w,fun k=>go=some k,K,q9 0 ps go,J4 ps w⟩) G->G.o=st.o->EnvR n G st.e a->a.defers=[]/\∃v,(results fn a.tmps).run P G.w=.ok v G.w/\∃z,post z/\p0T ⟨f,ps,res z⟩ x w go K (.returned v) G.w:=fun G a S ho hE=>by
   obtain⟨h1,v,h2,h3⟩:=s0x (c:=⟨f,ps,res z⟩) hΓ hob ha hr hst G a S ho hE;exact⟨h1,v,h2,z,hpost,h3⟩
  exact⟨fun G a S ho hE=>key G a S ho hE,fun G a S ho hE=>key G a S ho hE⟩
 ·obtain⟨_,a2,u,a3,a4⟩:=b0Y (i:=0) (o:=I1 0 ps x) (r0:=X7 ps vs) (B:=J4 ps w) (g0:=go) hob ha (fun _=>rfl) (fun z hz=>by
   rcases c0p (i:=0) ha with ⟨h0,_⟩ | ⟨j,b,T,t,z',cs,h0,_⟩ | ⟨j,E,t,xs,cs,h0,_⟩
   ·rw[h0] at hz; cases hz
   ·rw[h0] at hz ⊢;cases List.mem_singleton.1 hz;rw[lK,if_pos rfl]
   ·rw[h0] at hz ⊢;cases List.mem_singleton.1 hz;rw[lK,if_pos rfl]) t s ht
  rw[a2];refine⟨fun _=>?_,fun hn=>(hn (fun _ h=>by cases h)).elim⟩;have hlt:t<vs.length:=by
   rcases Nat.lt_or_ge t vs.length with h' | h'
   ·exact h'
   ·rw[List.getElem?_eq_none (by omega)] at a3; cases a3
  rw[Array.getD_eq_getD_getElem?,Array.getElem?_append_left (by simpa using hlt)];simp only[Nat.sub_zero] at a3;simpa [a3] using a4
abbrev kE(P:Program)(f:FuncId)(ps:List Par){ρ:Type}(pre:w9 ps->Prop)(post:ρ->Prop)(R:ρ->AV)(Z:ρ->IOT ps):Prop:=OkE P f ps pre post (fun(e:ρ) _=>⟨True,R e,Z e⟩)
def G0I(X:Cx)(Γ:m9)(rs:List ResultVar)(ps:List Par){ρ:Type}(post:ρ->Prop)(R:ρ->AV)(Z:ρ->IOT ps)(x:Exit)(Q:Exit->Act->World->Prop):Prop :=
 ∀{st:St} (e:ρ),post e->C0C Γ st rs ps (R e) (Z e)=some (R e,Z e)->FX X st x Q
theorem y0X{P:Program}{Γ:m9}(hΓ:x6 P Γ){f:FuncId}{ps:List Par}{ρ:Type}{F:w9 ps->Option Unit}{pre:w9 ps->Prop}{post:ρ->Prop}{R:ρ->AV}{Z:ρ->IOT ps}{fn:Func}{code:Code}{n:Nat}(rs:List ResultVar)
  (hF:∀x,Xv.wfs ps x->pre x->F x=some ()) (hf:P.funcs[f]?=some fn) (hn:fn.ntmps=n) (hb:fn.body=some code) (hr:fn.results=rs.toArray) (he:d0Q P f=true) (hle:(Nat.ble ps.length n&&Z8 ps&&!giv ps)=true)
  (h:∀y x r,F x=some r->(cx P n y).base=(cx P n y).w0.heap.size->∀Q,G0I (cx P n y) Γ rs ps post R Z .normal Q->G0I (cx P n y) Γ rs ps post R Z .ret Q->VX (cx P n y) ⟨O8 0 ps x,I1 0 ps x⟩ code Q):kE P f ps pre post R Z :=
 okE hΓ rs hf hn hb hr he hle fun y x hw hp hB Q hQ=>h y x () (hF x hw hp) hB Q (fun e hp he=>(hQ e _ hp (j0U he)).1) (fun e hp he=>(hQ e _ hp (j0U he)).2)
/- What all data of a result are. -/
mutual
def wfA:AV->Prop
 | .d _ t x=>wf t x
 | .agg xs=>D0l xs
 | .tup xs=>D0l xs
 | .ow _ _ t xs=>wf (.sl t) xs
 | _=>True
def D0l:List AV->Prop
 | []=>True
 | a :: r=>wfA a/\D0l r
end
def wfZ:(ps:List Par)->IOT ps->Prop
 | [],_=>True
 | .io _ t :: _,z=>wf t z
 | .dat _ :: r,z=>wfZ r z
 | .agg _ :: r,z=>wfZ r z
 | .fn _ _ :: r,z=>wfZ r z
 | .nof _ :: r,z=>wfZ r z
 | .os _ _ :: r,z=>wfZ r z
mutual
theorem ResR.wf{K:Bool->Nat->Prop}{w:World}:∀{a:AV} {u:Value} {gs:List (Option Nat)},ResR K w a u gs->wfA a
 | .v _,_,_,_=>trivial
 | .d _ _ _,_,_,h=>RT.wf h.1
 | .agg _,_,_,⟨_,_,h⟩=>ResRs.wf h
 | .tup _,_,_,⟨_,_,h⟩=>ResRs.wf h
 | .ow _ _ _ _,_,_,⟨_,_,_,_,h1,h2⟩=>x0J h1 h2
 | .ob _ _,_,_,_=>trivial
 | .ptr _ _,_,_,_=>trivial
 | .pel ..,_,_,_=>trivial
 | .os _ _,_,_,_=>trivial
 | .fn _ _,_,_,_=>trivial
 | .gel _ _,_,_,_=>trivial
 | .og _,_,_,_=>trivial
theorem ResRs.wf{K:Bool->Nat->Prop}{w:World}:∀{as':List AV} {us:List Value} {gs:List (Option Nat)},ResRs K w as' us gs->D0l as'
 | [],_,_,_=>trivial
 | _ :: _,_,_,⟨_,_,_,_,_,_,h1,h2⟩=>⟨ResR.wf h1,ResRs.wf h2⟩
end
theorem IOR.wf{K:Nat->Prop}{w:World}{go:Option Nat}:∀{ps:List Par} {z:IOT ps},IOR K w go ps z->wfZ ps z
 | [],_,_=>trivial
 | .io _ _ :: _,_,⟨_,_,_,_,h⟩=>RT.wf h
 | .dat _ :: r,_,h=>IOR.wf (ps:=r) h
 | .agg _ :: r,_,h=>IOR.wf (ps:=r) h
 | .fn _ _ :: r,_,h=>IOR.wf (ps:=r) h
 | .nof _ :: r,_,h=>IOR.wf (ps:=r) h
 | .os _ _ :: r,_,h=>IOR.wf (ps:=r) h
def wpE(ps:List Par){ρ:Type}(post:ρ->Prop)(R:ρ->AV)(Z:ρ->IOT ps)(z:ρ):Prop:=post z/\wfA (R z)/\wfZ ps (Z z)
def F0b(st:St)(ps:List Par)(f:FuncId):Op->Option (w9 ps×List Nat×Option Nat)
 | .call ⟨.value x,xs,_⟩=>match rd st [] x,rds st [] xs.toList with
   | some (.fn g caps),some as'=>bif Nat.beq g f then O2 st.o ps (as'++caps) else none
   | _,_=>none
 | _=>none
def afE(st:St)(d:Nat){ps:List Par}(res:w9 ps->Res ps)(x:w9 ps)(l:List Nat)(io:Option Nat):Option St :=
 bif b0X st.o (D9 d 0 (res x).r).2.1&&(h0n l||(d0A (res x).r&&isNone io)) then some ⟨(d,⟨[],(D9 d 0 (res x).r).1⟩) :: st.e,((D9 d 0 (res x).r).2.1++X9 st.o ps (res x).z io)++st.o⟩ else none
theorem C0f{X:Cx}{G:Gh}{a:Act}{st:St}{ops:Array Oper}{Q:Exit->Act->World->Prop}{K:Act->World->Prop}{f:FuncId}{ps:List Par}{ζ:Type}{pre:w9 ps->Prop}{post:ζ->Prop}{res:ζ->w9 ps->Res ps}(hk:OkE X.P f ps pre post res)(S:Sat X G)(ho:G.o=st.o)(hE:EnvR X.n G st.e a)
  {d:Nat} {op:Op} {ty:TypeId} {pos:String} {after:Array Edge} (hgv:¬giv ps=true) {x:w9 ps} {l:List Nat} {io:Option Nat} (hargs:F0b st ps f op=some (x,l,io)) (hio:C0z l io=true) (hd:d<X.n) (hs:∀t s,lku st.e t=some s->∀x∈s.p,x.1≠d)
  (hpre:pre x) (hK:∀z,post z->wfA (res z x).r->wfZ ps (res z x).z->∃st',afE st d (res z) x l io=some st'/\∀a' G',Sat X G'->G'.o=st'.o->EnvR X.n G' st'.e a'->K a' G'.w):N5 X.P ops Q ⟨some d,op,ty,pos,after,none⟩ K a G.w:=by
 unfold F0b at hargs;split at hargs
 ·rename_i x0 xs Ts;split at hargs
  ·rename_i g caps as' h1 h2;rw[ce] at hargs;split at hargs
   ·rename_i hgf;have hgf:g=f:=nb hgf;subst hgf;obtain⟨cs,hv,hc⟩:=B9 hE (p:=[]) (fun _ h=>by cases h) h1;have hA:=b0h hE (p:=[]) (fun _ h=>by cases h) h2;rw[<- ho] at hargs;obtain⟨hKl,go,hAR,hfin⟩:=o0H S (d:=d) (AVRs.app hc hA) hgv hargs hio;obtain⟨hent,hcall⟩:=hk
    haveI:m0V X.P g:=⟨hent⟩
    refine r0D (f:=g) (fun dst pos after gg=>?_) (Calls.mono (hcall x hpre G.w _ go _ hKl hAR) ?_)
    ·have e1:xs.map a.eval=(xs.toList.map a.eval).toArray:=by rw[<- Array.toList_map]
     simp only[execOp,resolve,e1,hv];simp[Deferred.ofValue,invoke,g0b]
    ·rintro en w' ⟨z,hz,hpost⟩;obtain⟨_,_,_,_,_,_,hR0,hI0⟩:=hpost;have hR1:=ResR.wf hR0;have hI1:=IOR.wf hI0;have hpost:p0T ⟨g,ps,res z⟩ x G.w go (Bor G l) en w':=⟨_,_,by assumption,by assumption,by assumption,by assumption,hR0,hI0⟩;obtain⟨st',e1,e2⟩:=hK z hz hR1 hI1;unfold afE at e1;rw[ce] at e1;split at e1
     ·rename_i hb;rw[ba,<- ho] at hb;cases e1;obtain⟨v,G',rfl,rfl,hS,hL,hO,hv'⟩:=hfin (res z) hb en w' hpost;refine⟨v,rfl,e2 _ G' hS (by rw[hO,ho]) ?_⟩;exact EnvR.put (p:=[]) (hE.mono hL) hd (fun _ h=>by cases h) hs ⟨fun _=>hv',fun h=>(h (fun _ h=>by cases h)).elim⟩
     ·cases e1
   ·cases hargs
  ·cases hargs
 ·cases hargs
theorem d0j{n:Nat}:∀{a b:List Oper} {i:Nat} {seen:List Nat},I3 n i seen (a++b)=true->I3 n i seen a=true/\∃sn,I3 n (i+a.length) sn b=true/\(∀d∈seen,d∈sn)/\∀o∈a,∀d,o.dst=some d->d∈sn
 | [],b,i,seen,h=>⟨rfl,seen,by simpa using h,fun _ h=>h,fun _ h=>by cases h⟩
 | o :: r,b,i,seen,h=>by
   simp only[List.cons_append,I3,ba] at h ⊢;obtain⟨⟨h1,h2⟩,h3⟩:=h;obtain⟨k1,sn,k2,k3,k4⟩:=d0j h3;refine⟨⟨⟨h1,h2⟩,k1⟩,sn,by rw[List.length_cons,show i+(r.length+1)=i+1+r.length by omega]; exact k2,fun d hd=>k3 d ?_,fun o' ho' d hd=>?_⟩
   ·split
    ·exact List.mem_cons_of_mem _ hd
    ·exact hd
   ·rcases List.mem_cons.1 ho' with rfl | ho'
    ·exact k3 d (by rw[hd]; simp)
    ·exact k4 o' ho' d hd
theorem j0l{l:List Oper}{i:Nat}{o:Oper}(h:B5 l i=some o):l=l.take i++o :: l.drop (i+1)/\i<l.length/\(l.take i).length=i:=by
 have h:=f0g h;have hi:i<l.length:=by
  rcases Nat.lt_or_ge i l.length with h' | h'
  ·exact h'
  ·rw[List.getElem?_eq_none h'] at h; cases h
 refine⟨?_,hi,by rw[List.length_take]; omega⟩;rw[List.getElem?_eq_getElem hi] at h;cases h;rw[<- List.drop_eq_getElem_cons hi,List.take_append_drop]
section
variable {X:Cx} {Γ:m9} {T:List Ct}
theorem l0t(hΓ:x6 X.P Γ)(hT:∀c∈T,Ok X.P c){l:List Oper}{recs:List Rec}{ol:Oper}{st:St}{Q:Exit->Act->World->Prop}(hl:recs.map (·.o)++[ol]=l)(hrun:y0c Γ T l st recs)(hplain:∀t s,lku st.e t=some s->s.p=[])
  (hreg:I3 X.n 0 [] l=true) (hback:Z6 0 l=true) (hchk:z0M (I5 [] l) recs=true) (hlast:∀k,k<recs.length->inL k ((B5 (I5 [] l) recs.length).getD [])=true) (hop:∀G' a',Sat X G'->G'.o=(recs.foldl B7 st).o->EnvR X.n G' (recs.foldl B7 st).e a'->∀K:Act->World->Prop,(∀a2 w2,Q .normal a2 w2->K a2 w2)->N5 X.P l.toArray Q ol K a' G'.w) :
  ∀(fuel:Nat) (listed:Array Bool) (G:Gh) (a:Act),((List.range l.length).filter fun i=>!listed.getD i true).length<=fuel->listed.size=l.length->listed.getD recs.length false=false->o0T (fun k=>listed.getD k false) l->Sat X G->(∀id,lku G.o id=lku (stD (fun k=>listed.getD k false) 0 recs st).o id) ->
   EnvR X.n G (stD (fun k=>listed.getD k false) 0 recs st).e a->wpAny X.P .any l.toArray Q fuel listed a G.w:=by
 have hrl:recs.length+1=l.length:=by rw[<- hl]; simp
 have hll:l[recs.length]?=some ol:=by rw[<- hl,List.getElem?_append_right (by simp)]; simp
 have hro:∀(j:Nat) (R:Rec),recs[j]?=some R->l[j]?=some R.o:=fun j R h=>by
  have hj:j<recs.length:=by
   rcases Nat.lt_or_ge j recs.length with h' | h'
   ·exact h'
   ·rw[List.getElem?_eq_none h'] at h; cases h
  rw[<- hl,List.getElem?_append_left (by simpa using hj),List.getElem?_map,h]; rfl
 have hor:∀(j:Nat) (o:Oper),j<recs.length->l[j]?=some o->∃R,recs[j]?=some R/\R.o=o:=fun j o hj h=>by
  rw[<- hl,List.getElem?_append_left (by simpa using hj),List.getElem?_map] at h;cases hr:recs[j]? with
  | none=>rw[hr] at h; cases h
  | some R=>rw[hr] at h; cases h; exact⟨R,rfl,rfl⟩
 have hbs:=h0J (all:=l) (rest:=l) (acc:=[]) (fun j=>by simp) hback (fun i m h=>by simp at h);have hdst:=g0V hreg;have hbk:∀(i:Nat) (o:Oper) (k:Nat),l[i]?=some o->k∈Z5 o->k<i:=by
  have:∀{m:List Oper} {i:Nat},Z6 i m=true->∀j o k,m[j]?=some o->k∈Z5 o->k<i+j:=by
   intro m
   induction m with
   | nil=>intro i _ j o k h; simp at h
   | cons o0 r ih =>
     intro i h j o k hj hk;simp only[Z6,ba,List.all_eq_true] at h;cases j with
     | zero=>simp only[List.getElem?_cons_zero,oi] at hj; subst hj; have:=h.1 k hk; simpa using this
     | succ j=>have:=ih h.2 j o k (by simpa using hj) hk; omega
  intro i o k h1 h2;have:=this hback i o k h1 h2; omega
 -- all is done: the end
 have hdone:∀(fuel:Nat) (listed:Array Bool) (a:Act) (w:World),listed.size=l.length->(∀i,i<l.length->listed.getD i false=true)->Q .normal a w->wpAny X.P .any l.toArray Q fuel listed a w:=by
  intro fuel listed a w hsz hall hq;have hr:Region.ready .any l.toArray listed=[]:=by
   cases hr:Region.ready .any l.toArray listed with
   | nil=>rfl
   | cons i r =>
     have hi:i∈Region.ready .any l.toArray listed:=by rw[hr]; simp
     obtain⟨h1,o,h2,_⟩:=mem_ready.1 hi;have hlt:i<l.length:=by
      rcases Nat.lt_or_ge i l.length with h | h
      ·exact h
      ·rw[List.getElem?_toArray,List.getElem?_eq_none h] at h2; cases h2
     have:=hall i hlt;have hs:i<listed.size:=by omega
     rw[Array.getD_eq_getD_getElem?,Array.getElem?_eq_getElem hs] at this h1;simp only[Option.getD_some] at this h1;rw[this] at h1; cases h1
  cases fuel with
  | zero=>exact⟨hr,hq⟩
  | succ fuel=>exact⟨fun _=>hq,fun i hi=>by rw[hr] at hi; cases hi⟩
 intro fuel
 induction fuel with
 | zero =>
   intro listed G a hf hsz hun0 hcl S hO hE;have hnil:(List.range l.length).filter (fun i=>!listed.getD i true)=[]:=List.eq_nil_of_length_eq_zero (by omega);have:recs.length∈(List.range l.length).filter (fun i=>!listed.getD i true):=List.mem_filter.2 ⟨List.mem_range.2 (by omega),by
    have hs:recs.length<listed.size:=by omega
    rw[Array.getD_eq_getD_getElem?,Array.getElem?_eq_getElem hs] at hun0 ⊢;simp only[Option.getD_some] at hun0 ⊢;rw[hun0]; rfl⟩
   rw[hnil] at this; cases this
 | succ fuel ih =>
   intro listed G a hf hsz hun0 hcl S hO hE;refine⟨fun hr=>False.elim ?_,fun i hi=>?_⟩
   · -- nothing is ready: all is done
     have hall:∀i,i<l.length->listed.getD i false=true:=by
      intro i
      induction i using Nat.strongRecOn with
      | ind i ihi =>
        intro hi;cases h:listed.getD i false with
        | true=>rfl
        | false =>
          have:i∈Region.ready .any l.toArray listed:=mem_ready.2 ⟨by
           have hs:i<listed.size:=by omega
           rw[Array.getD_eq_getD_getElem?,Array.getElem?_eq_getElem hs] at h ⊢;exact h,l[i],by simp[hi],fun e he hb=>ihi e.on (hbk i l[i] e.on (List.getElem?_eq_getElem hi) (c0a.2 ⟨e,he,hb,rfl⟩)) (by have:=hbk i l[i] e.on (List.getElem?_eq_getElem hi) (c0a.2 ⟨e,he,hb,rfl⟩); omega)⟩
          rw[hr] at this; cases this
     have:=hall recs.length (by omega);rw[hun0] at this; cases this
   ·obtain⟨hun,o,ho,hed⟩:=mem_ready.1 hi;rw[List.getElem?_toArray] at ho;have hilt:i<l.length:=by
     rcases Nat.lt_or_ge i l.length with h | h
     ·exact h
     ·rw[List.getElem?_eq_none h] at ho; cases ho
    have hDi:listed.getD i false=false:=by
     have hs:i<listed.size:=by omega
     rw[Array.getD_eq_getD_getElem?,Array.getElem?_eq_getElem hs] at hun ⊢;exact hun
    -- what stands ahead of i is done
    have hbi:∀k∈((B5 (I5 [] l) i).getD []),k<i/\listed.getD k false=true:=by
     intro k hk;rw[S9] at hk;cases hb:(I5 [] l)[i]? with
     | none=>rw[hb] at hk; cases hk
     | some m =>
       rw[hb] at hk;obtain⟨g1,g2⟩:=hbs i m hb;exact⟨g1 k hk,g2 _ hcl o ho (fun k' hk'=>by obtain⟨e,he,hb',rfl⟩:=c0a.1 hk'; exact hed e he hb') k hk⟩
    by_cases hil:i=recs.length
    · -- the last one
      subst hil;rw[hll] at ho;cases ho;have hD:∀j,j<recs.length->listed.getD (0+j) false=true:=fun j hj=>by
       rw[Nat.zero_add];exact(hbi j (K7.1 (hlast j hj))).2
      rw[m0c (D:=fun k=>listed.getD k false) hD] at hO hE;obtain⟨S',L'⟩:=S.congr (o':=(recs.foldl B7 st).o) (fun i=>(hO i).symm);have key:=hop ⟨G.ρ,G.γ,G.K,G.w,(recs.foldl B7 st).o,G.B,G.δ⟩ a S' rfl (hE.mono L') (wpAny X.P .any l.toArray Q fuel (listed.setIfInBounds recs.length true)) (fun a2 w2 hq=>hdone fuel _ a2 w2 (by simpa using hsz) (fun j hj=>by
       by_cases hjl:j=recs.length
       ·subst hjl;have hs:recs.length<listed.size:=by omega
        simp[hs]
       ·rw[getD_set_ne false (Ne.symm hjl)];have:=hD j (by omega)
        rwa [Nat.zero_add] at this) hq)
      unfold wpOp;rw[List.getElem?_toArray,hll];unfold N5 at key;simp only;split
      ·rename_i hw; rw[if_pos hw] at key; exact .inl key
      ·rename_i hw; rw[if_neg hw] at key; exact key
    obtain⟨R,hR,rfl⟩:=hor i o (by omega) ho;have hbD:∀k,listed.getD k false=true->k<l.length->∀m∈((B5 (I5 [] l) k).getD []),m<k/\listed.getD m false=true:=by
     intro k hk hkl m hm;rw[S9] at hm;cases hb:(I5 [] l)[k]? with
     | none=>rw[hb] at hm; cases hm
     | some b =>
       rw[hb] at hm;obtain⟨g1,g2⟩:=hbs k b hb;exact⟨g1 m hm,g2 _ hcl l[k] (List.getElem?_eq_getElem hkl) (fun k' hk'=>hcl k l[k] (List.getElem?_eq_getElem hkl) hk k' hk') m hm⟩
    have hbs2:∀k,k<l.length->∀m∈((B5 (I5 [] l) k).getD []),m<k:=by
     intro k hkl m hm;rw[S9] at hm;cases hb:(I5 [] l)[k]? with
     | none=>rw[hb] at hm; cases hm
     | some b=>rw[hb] at hm; exact(hbs k b hb).1 m hm
    -- ordered with i: done exactly if earlier in the text
    have hord:∀k,k<l.length->k≠i->(inL k ((B5 (I5 [] l) i).getD [])||inL i ((B5 (I5 [] l) k).getD []))=true->listed.getD k false=decide (k<i):=by
     intro k hkl hne h;rw[Bool.or_eq_true] at h;rcases h with h | h
     ·obtain⟨h1,h2⟩:=hbi k (K7.1 h);rw[h2]; simp[h1]
     ·have h1:=hbs2 k hkl i (K7.1 h);cases hk:listed.getD k false with
      | true=>rw[(hbD k hk hkl i (K7.1 h)).2] at hDi; cases hDi
      | false=>simp; omega
    obtain⟨sj,hsj,hpj,⟨q,hab,hq⟩,hg⟩:=r0s (i:=0) hrun hR;rw[Nat.zero_add] at hsj
    -- the slots and objects that i looks at are as in the text's order
    have hse:∀t,t∈r0m R->lku sj.e t=lku (stD (fun k=>listed.getD k false) 0 recs st).e t:=by
     intro t ht;rw[hsj];refine r0j (fun k R' hk hw=>?_) rfl;rw[Nat.zero_add];by_cases hki:k=i
     ·subst hki; simp only[Nat.lt_irrefl,decide_false]; rw[hDi]
     ·have hc:=c0G hchk hk hR hki;have hkl:k<l.length:=by
       rcases Nat.lt_or_ge k l.length with h | h
       ·exact h
       ·rw[List.getElem?_eq_none (by omega)] at hk; cases hk
      simp only[t0q,ba] at hc;have hw:R'.o.dst=some t:=hw;rw[hw] at hc;simp only[ba] at hc;have h1:=hc.1.1;rw[Bool.or_eq_true] at h1;rcases h1 with h1 | h1
      ·rw[K7.2 ht] at h1; cases h1
      ·exact(hord k hkl hki (by rw[Bool.or_comm] at h1; rw[Bool.or_comm]; exact Bool.or_comm _ _ ▸ h1)).symm
    have hso:∀id,id∈R.fp++R.obs.map Prod.fst->lku sj.o id=lku G.o id:=by
     intro id hid;rw[hO,hsj];refine r0i (fun k R' hk hw=>?_) rfl;rw[Nat.zero_add];by_cases hki:k=i
     ·subst hki; simp only[Nat.lt_irrefl,decide_false]; rw[hDi]
     ·have hc:=c0G hchk hk hR hki;have hkl:k<l.length:=by
       rcases Nat.lt_or_ge k l.length with h | h
       ·exact h
       ·rw[List.getElem?_eq_none (by omega)] at hk; cases hk
      simp only[t0q,ba] at hc;have h1:=hc.2;rw[Bool.or_eq_true] at h1;obtain⟨y,hy,hyi⟩:=hw;rcases h1 with h1 | h1
      ·simp only[C0D,List.all_eq_true] at h1;have:=h1 id (by rw[<- hyi]; exact List.mem_map_of_mem hy);rw[K7.2 hid] at this; cases this
      ·exact(hord k hkl hki (Bool.or_comm _ _ ▸ h1)).symm
    have hps:∀x∈R.p,lku sj.e x.1=lku (stD (fun k=>listed.getD k false) 0 recs st).e x.1:=fun x hx=>hse x.1 (List.mem_append.2 (.inr (List.mem_map_of_mem hx)));have hp':=g0d hpj hps;have hab':T9 Γ T ⟨(stD (fun k=>listed.getD k false) 0 recs st).e,G.o⟩ R.p R.o=some (q,R.av,R.obs,R.fp) :=
     j0b (e:=sj.e) (o:=sj.o) (fun t ht=>hse t (List.mem_append.2 (.inl (l0b ht)))) hab (fun id hid=>hso id (List.mem_append.2 (.inl hid)))
    have hd:∀d,R.o.dst=some d->d<X.n/\(∀x∈R.p,x.1≠d)/\∀t s,lku (stD (fun k=>listed.getD k false) 0 recs st).e t=some s->∀x∈s.p,x.1≠d:=by
     intro d hd;refine⟨(hdst.1 i R.o d ho hd).1,fun x hx e=>?_,fun t s ht x hx e=>?_⟩
     ·have h1:=f0u hchk i R hR;rw[Nat.zero_add,ba] at h1;have h2:=h1.1;simp only[r0p,hd] at h2;rw[K7.2 (List.mem_map.2 ⟨x,hx,e⟩)] at h2;cases h2
     ·rcases j0m ht with h | ⟨k,Rk,hk,hDk,hsp⟩
      ·rw[hplain t s h] at hx; cases hx
      ·rw[Nat.zero_add] at hDk;have hki:i≠k:=fun e'=>by subst e'; rw[hDi] at hDk; cases hDk
       have hkl:k<l.length:=by
        rcases Nat.lt_or_ge k l.length with h | h
        ·exact h
        ·rw[List.getElem?_eq_none (by omega)] at hk; cases hk
       have hc:=c0G hchk hR hk hki;simp only[t0q,ba,hd] at hc;have h2:=hc.1.2;rw[Bool.or_eq_true] at h2;rcases h2 with h2 | h2
       ·rw[K7.2 (List.mem_map.2 ⟨x,by rw[<- hsp]; exact hx,e⟩)] at h2; cases h2
       ·rw[(hbD k hDk hkl i (K7.1 h2)).2] at hDi; cases hDi
    have hset:∀k,(listed.setIfInBounds i true).getD k false=if k=i then true else listed.getD k false:=fun k=>by
     by_cases hki:k=i
     ·subst hki;have hs:k<listed.size:=by omega
      simp[hs]
     ·rw[if_neg hki]; exact getD_set_ne false (Ne.symm hki)
    have key:=r0C (st:=⟨(stD (fun k=>listed.getD k false) 0 recs st).e,G.o⟩) (K:=wpAny X.P .any l.toArray Q fuel (listed.setIfInBounds i true)) hΓ hT (ops:=l.toArray) (all:=l) rfl (Q:=Q) S rfl hE hp' hab' (fun hc=>hq (e0H (fun x hx=>(hps x hx).symm) hc)) hg hd (fun a' G' S' _ hO' hE'=>by
     refine ih (listed.setIfInBounds i true) G' a' ?_ (by simpa using hsz) (by rw[getD_set_ne false hil]; exact hun0) ?_ S' ?_ ?_
     ·have:((List.range l.length).filter fun j=>!(listed.setIfInBounds i true).getD j true).length < ((List.range l.length).filter fun j=>!listed.getD j true).length:=by
       refine h0x (fun j hj=>?_) ⟨i,List.mem_range.2 hilt,by simp only[hun]; rfl,?_⟩
       ·by_cases hji:i=j
        ·subst hji;have hs:i<listed.size:=by omega
         simp[hs] at hj
        ·rwa [getD_set_ne true hji] at hj
       ·have hs:i<listed.size:=by omega
        simp[hs]
      omega
     ·intro k o hk hDk m hm;simp only[hset] at hDk ⊢;by_cases hmi:m=i
      ·rw[if_pos hmi]
      ·rw[if_neg hmi];by_cases hki:k=i
       ·subst hki;rw[ho] at hk;cases hk;obtain⟨e,he,hb',rfl⟩:=c0a.1 hm;exact hed e he hb'
       ·rw[if_neg hki] at hDk;exact hcl k o hk hDk m hm
     ·intro id;rw[hO'];by_cases hw:wrO R id
      ·rw[g0P (D:=fun k=>(listed.setIfInBounds i true).getD k false) (st':=⟨[],G.o⟩) hR hw (by simp only[Nat.zero_add,hset,if_true]) (fun k Rk hik hk hwk=>?_)]
       ·rfl
       ·rw[Nat.zero_add];simp only[hset,if_neg (show k≠i by omega)];have hkl:k<l.length:=by
         rcases Nat.lt_or_ge k l.length with h | h
         ·exact h
         ·rw[List.getElem?_eq_none (by omega)] at hk; cases hk
        have hc:=c0G hchk hk hR (show k≠i by omega);simp only[t0q,ba] at hc;have h1:=hc.2;rw[Bool.or_eq_true] at h1;obtain⟨y,hy,hyi⟩:=hwk;obtain⟨z,hz,hzi⟩:=hw;rcases h1 with h1 | h1
        ·simp only[C0D,List.all_eq_true] at h1;have:=h1 id (by rw[<- hyi]; exact List.mem_map_of_mem hy);rw[K7.2 (List.mem_append.2 (.inr (by rw[<- hzi]; exact List.mem_map_of_mem hz)))] at this; cases this
        ·rw[hord k hkl (show k≠i by omega) (Bool.or_comm _ _ ▸ h1)]; simp; omega
      ·have e1:=k0A ⟨[],G.o⟩ R id hw;simp only[B7] at e1;rw[e1,hO];refine r0i (fun k Rk hk hwk=>?_) rfl;rw[Nat.zero_add];simp only[hset];rw[if_neg (fun e=>by subst e; rw[hR] at hk; cases hk; exact hw hwk)]
     ·refine hE'.congr (fun t=>?_);by_cases hw:wrS R t
      ·have hav:=t0e hab hw;rw[g0Q (D:=fun k=>(listed.setIfInBounds i true).getD k false) (st':=⟨(stD (fun k=>listed.getD k false) 0 recs st).e,G.o⟩) hR hw hav (by simp only[Nat.zero_add,hset,if_true]) (fun k Rk hik hk hwk=>by
        have:=hdst.2 i k R.o Rk.o t ho (hro k Rk hk) hw hwk;omega)]
       rfl
      ·have e1:=k0C ⟨(stD (fun k=>listed.getD k false) 0 recs st).e,G.o⟩ R t hw;simp only[B7] at e1;rw[e1];refine r0j (fun k Rk hk hwk=>?_) rfl;rw[Nat.zero_add];simp only[hset];rw[if_neg (fun e=>by subst e; rw[hR] at hk; cases hk; exact hw hwk)])
    unfold wpOp;rw[List.getElem?_toArray,ho];unfold N5 at key;simp only;split
    ·rename_i hw; rw[if_pos hw] at key; exact .inl key
    ·rename_i hw; rw[if_neg hw] at key; exact key
end
theorem r0Q{X:Cx}{st:St}{Q:Exit->Act->World->Prop}{Γ:m9}{T:List Ct}(hΓ:x6 X.P Γ)(hT:∀c∈T,Ok X.P c){id i:Nat}{l:List Oper}(keep:List Nat)(hreg:I3 X.n 0 [] l=true)(hpl:I9 st.e=true){V:Prop}{st1:St}{rs1:List Rec}(h1:goV Γ T l (l.take i) st []=some (V,st1,rs1))(hV:V){o:Oper}(hn:B5 l i=some o)(_:I9 st1.e=true)
  (hop:(∀d,o.dst=some d->d<X.n)->∀G a,Sat X G->G.o=st1.o->EnvR X.n G st1.e a->∀K:Act->World->Prop,(∀st2 W st3 rs3 G' a',I9 st2.e=true->goV Γ T l (l.drop (i+1)) st2 []=some (W,st3,rs3)->W->FX X (cut keep st3) .normal Q->Sat X G'->G'.o=st2.o->EnvR X.n G' st2.e a'->K a' G'.w)->N5 X.P l.toArray Q o K a G.w):VX X st (.region id l.toArray false) Q:=by
 intro G a S ho hE;obtain⟨el,hil,htl⟩:=j0l hn;refine wp_region_lit ?_;have hreg0:=hreg;rw[el] at hreg0;obtain⟨k1,sn,k2,-,k4⟩:=d0j hreg0;rw[htl,Nat.zero_add] at k2;simp only[I3,ba] at k2;obtain⟨⟨k2,-⟩,k3⟩:=k2;have hdn:∀d,o.dst=some d->d<X.n:=fun d hd=>by
  rw[hd] at k2;simp only[ba] at k2;simpa using k2.1
 obtain⟨recs,e1,e2,e3⟩:=Z4 (V2 (K:=fun st' _=>st'=st1) h1 hV rfl);have hlen:recs.length=i:=by rw[<- htl,<- e1,List.length_map]
 have:=c0B hΓ hT (ops:=l.toArray) (all:=l) rfl (Q:=Q) (rest:=o :: l.drop (i+1)) recs 0 [] st G a (fun j hj=>by
   rw[Nat.zero_add,<- List.getElem?_map,e1,List.getElem?_take_of_lt (by omega)]) (by rw[e1]; exact k1) (fun j oj dj hj=>by omega) (fun t s ht x hx=>by rw[Z7 hpl t s ht] at hx; cases hx) e2 S ho hE
  (fun G1 a1 S1 ho1 hE1=>by
    rw[e3] at ho1 hE1;refine c0o (hop hdn G1 a1 S1 ho1 hE1 _ fun st2 W st3 rs3 G2 a2 hp2 g1 g2 g3 S2 ho2 hE2=>?_);obtain⟨recs2,f1,f2,f3⟩:=Z4 (V2 (K:=fun st' _=>st'=st3) g1 g2 rfl);have:=c0B hΓ hT (ops:=l.toArray) (all:=l) rfl (Q:=Q) (rest:=[]) recs2 (i+1) _ st2 G2 a2 (fun j hj=>by
      rw[<- List.getElem?_map,f1,List.getElem?_drop]) (by rw[f1]; exact k3) (fun j oj dj hj q1 q2=>by
      rcases Nat.lt_or_ge j i with h | h
      ·have hm:oj∈l.take i:=by
        rw[List.mem_iff_getElem?];exact⟨j,by rw[List.getElem?_take_of_lt h]; exact q1⟩
       have:=k4 oj hm dj q2;split
       ·exact List.mem_cons_of_mem _ this
       ·exact this
      ·have:j=i:=by omega
       subst this;have h3:=(f0g hn).symm.trans q1;have h4:o=oj:=Option.some.inj h3;rw[h4,q2];simp) (fun t s ht x hx=>by rw[Z7 hp2 t s ht] at hx; cases hx) f2 S2 ho2 hE2
     (fun G3 a3 S3 ho3 hE3=>by
       rw[f3] at ho3 hE3;obtain⟨G4,S4,ho4,hw4,hE4⟩:=h0B keep S3 ho3 hE3;have:=g3 G4 a3 S4 ho4 hE4
       rwa [hw4] at this)
    rwa [f1,List.append_nil] at this)
 rw[e1] at this
 rwa [<- el] at this
def G0B(n:Nat)(Γ:m9)(T:List Ct)(l:List Oper)(i:Nat)(f:FuncId)(ps:List Par)(st:St):Option (Prop×St×Nat×w9 ps×List Nat×Option Nat) :=
 bif I3 n 0 [] l&&I9 st.e&&!giv ps then(match goV Γ T l (l.take i) st [] with
  | some (V,st1,_)=>(match B5 l i with
    | some ⟨some d,op,_,_,_,none⟩=>bif I9 st1.e then(match F0b st1 ps f op with
      | some (x,m,io)=>bif C0z m io then some (V,st1,d,x,m,io) else none
      | none=>none) else none
    | _=>none)
  | none=>none) else none
def E0X(Γ:m9)(T:List Ct)(l:List Oper)(i:Nat)(keep:List Nat){ps:List Par}(res:w9 ps->Res ps)(st1:St)(d:Nat)(x:w9 ps)(m:List Nat)(io:Option Nat):Option (Prop×St):=match afE st1 d res x m io with
 | some st2=>bif I9 st2.e then(match goV Γ T l (l.drop (i+1)) st2 [] with
   | some (W,st3,_)=>some (W,cut keep st3)
   | none=>none) else none
 | none=>none
def evE(n:Nat)(Γ:m9)(T:List Ct)(l:List Oper)(i:Nat)(keep:List Nat)(f:FuncId){ps:List Par}(pre:w9 ps->Prop)(res:w9 ps->Res ps)(st:St):Option (Prop×Prop×St):=match G0B n Γ T l i f ps st with
 | some (V,st1,d,x,m,io)=>(match E0X Γ T l i keep res st1 d x m io with
   | some (W,st3)=>some (V/\pre x,W,st3)
   | none=>none)
 | none=>none
theorem gdC{V:Prop}[Decidable V]{ρ:Type}{e:Option ρ}{r:ρ}{C:Prop}(H:gd V e=some r)(k:e=some r->C):V/\C:=⟨(J5 H).1,k (J5 H).2⟩
theorem zE[Alw]{P:Program}{n:Nat}{y:World×(Nat->Prop)×(Nat->Prop)×Option (Nat×Value)×Nat}{st:St}{Q:Exit->Act->World->Prop}{Γ:m9}{T:List Ct}{ρ:Type}{r:ρ}(hΓ:x6 P Γ)(hT:∀c∈T,Ok P c){f:FuncId}{ps:List Par}{ζ:Type}[Inhabited ζ]{pre:w9 ps->Prop}{post:ζ->Prop}{R:ζ->AV}{Z:ζ->IOT ps}(hk:kE P f ps pre post R Z)
  (i:Nat) (keep:List Nat) (S:ζ->St) (W:ζ->Prop) {V:Prop} [Decidable V] {g:ζ->Option ρ} {id:Nat} {l:List Oper} (H:gd V (Alw.alp (wpE ps post R Z) g)=some r) (h:∀z,evE n Γ T l i keep f pre (fun _=>⟨True,R z,Z z⟩) st=some (V,W z,S z)) (hc:∀z,wpE ps post R Z z->g z=some r->W z/\FX (cx P n y) (S z) .normal Q):VX (cx P n y) st (.region id l.toArray false) Q:=by
 obtain⟨hV,H0⟩:=J5 H;have HH:=Alw.alp_some H0;clear H0 H;have h0:=h default;unfold evE at h0;split at h0
 ·rename_i V' st1 d x m io h1;have hVV:(V'/\pre x)=V:=by
   split at h0
   ·simp only[oi,pj] at h0; exact h0.1
   ·cases h0
  subst hVV;have h2:∀z,E0X Γ T l i keep (fun _=>⟨True,R z,Z z⟩) st1 d x m io=some (W z,S z):=fun z=>by
   have:=h z;unfold evE at this;rw[h1] at this;simp only at this;split at this
   ·rename_i e2;simp only[oi,pj,true_and] at this;rw[e2,this.1,this.2]
   ·cases this
  clear h0 h;unfold G0B at h1;rw[ce] at h1;split at h1
  ·rename_i hb;simp only[ba] at hb;have hgv:¬giv ps=true:=by simpa using hb.2
   split at h1
   ·rename_i V1 st1' rs1 g1;split at h1
    ·rename_i d' op ty pos after hn;rw[ce] at h1;split at h1
     ·rename_i hp1;split at h1
      ·rename_i x' m' io' ha;rw[ce] at h1;split at h1
       ·rename_i hio;simp only[oi,pj] at h1;obtain⟨rfl,rfl,rfl,rfl,rfl,rfl⟩:=h1;refine r0Q (X:=cx P n y) hΓ hT keep hb.1.1 hb.1.2 g1 hV.1 hn hp1 fun hdn G a S' ho hE K hK=>?_;refine C0f hk S' ho hE hgv ha hio (hdn _ rfl) (fun t s ht x hx=>by rw[Z7 hp1 t s ht] at hx; cases hx) hV.2 fun z hz0 hR hI=>?_;have hz:wpE ps post R Z z:=⟨hz0,hR,hI⟩;have h3:=h2 z;unfold E0X at h3;split at h3
        ·rename_i st2 e2;refine⟨st2,e2,fun a' G' hS' ho' hE'=>?_⟩;rw[ce] at h3;split at h3
         ·rename_i hp2;split at h3
          ·rename_i W' st3 rs3 e3;simp only[oi,pj] at h3;obtain⟨rfl,h4⟩:=h3;exact hK st2 _ st3 rs3 G' a' hp2 e3 (hc z hz (HH z hz)).1 (by rw[h4]; exact(hc z hz (HH z hz)).2) hS' ho' hE'
          ·cases h3
         ·cases h3
        ·cases h3
       ·cases h1
      ·cases h1
     ·cases h1
    ·cases h1
   ·cases h1
  ·cases h1
 ·cases h0
end Go.Proofs.Xv
end
section
namespace Go.Proofs.Xv
open Go Go.RowKit Go.Proofs.Sv Go.Proofs.Xl
def AllS{α:Type}(R:α->α->Prop):List α->List α->Prop
 | [],ys=>ys=[]
 | x :: r,ys=>∃y r',ys=y :: r'/\R x y/\AllS R r r'
def shp:(t:Ty)->den t->den t->Prop
 | .int _,_,_=>True
 | .bool,x,y=>y=x
 | .str,x,y=>y=x
 | .sl e,x,y=>AllS (shp e) x y
 | .pt e,x,y=>shp e x y
 | .pr a b,x,y=>shp a x.1 y.1/\shp b x.2 y.2
theorem AllS.refl{α:Type}{R:α->α->Prop}(h:∀x,R x x):∀xs:List α,AllS R xs xs
 | []=>rfl
 | x :: r=>⟨x,r,rfl,h x,AllS.refl h r⟩
theorem d0Y:∀(t:Ty) (x:den t),shp t x x
 | .int _,_=>trivial
 | .bool,_=>rfl
 | .str,_=>rfl
 | .sl e,x=>AllS.refl (d0Y e) x
 | .pt e,x=>d0Y e x
 | .pr a b,x=>⟨d0Y a x.1,d0Y b x.2⟩
theorem AllS.len{α:Type}{R:α->α->Prop}:∀{xs ys:List α},AllS R xs ys->ys.length=xs.length
 | [],_,h=>by rw[show _=[] from h]
 | _ :: _,_,⟨_,_,e,_,h⟩=>by rw[e,List.length_cons,List.length_cons,AllS.len h]
theorem AllS.all{α:Type}{R:α->α->Prop}{p q:α->Prop}(hpq:∀x y,R x y->p x->q y):∀{xs ys:List α},AllS R xs ys->(∀x∈xs,p x)->∀y∈ys,q y
 | [],_,h,_,y,hy=>by rw[show _=[] from h] at hy; cases hy
 | x :: r,_,⟨y',r',e,h1,h2⟩,hp,y,hy=>by
   subst e;rcases List.mem_cons.1 hy with rfl | hy
   ·exact hpq _ _ h1 (hp x (by simp))
   ·exact AllS.all hpq h2 (fun x hx=>hp x (by simp[hx])) y hy
def Sim(k:IntKind)(u u':Value):Prop:=u'=u∨∃x x',u=.int k x/\u'=.int k x'/\lo k<=x'/\x'<=hi k
def D0d(k:IntKind)(w w':World):Prop:=∀b o u,w.cell? ⟨b,o,none⟩=some u->∃u',w'.cell? ⟨b,o,none⟩=some u'/\Sim k u u'
def SimL(k:IntKind):List Value->List Value->Prop
 | [],vs=>vs=[]
 | u :: r,vs=>∃u' r',vs=u' :: r'/\Sim k u u'/\SimL k r r'
theorem SimL.refl{k:IntKind}:∀us:List Value,SimL k us us
 | []=>rfl
 | u :: r=>⟨u,r,rfl,.inl rfl,SimL.refl r⟩
theorem SimL.split{k:IntKind}{b:List Value}:∀{a cs:List Value},SimL k (a++b) cs->∃a' b',cs=a'++b'/\SimL k a a'/\SimL k b b'
 | [],cs,h=>⟨[],cs,rfl,rfl,h⟩
 | u :: r,cs,⟨u',r',e,h1,h2⟩=>by
   obtain⟨a',b',e2,h3,h4⟩:=SimL.split h2;exact⟨u' :: a',b',by rw[e,e2]; rfl,⟨u',a',rfl,h1,h3⟩,h4⟩
theorem At.sim{k:IntKind}{w w':World}(hM:D0d k w w'){b:Nat}:∀{ds:List Value} {o:Nat},At w b o ds->∃ds',At w' b o ds'/\SimL k ds ds'
 | [],o,_=>⟨[],fun i u h=>by simp at h,rfl⟩
 | d :: r,o,h=>by
   obtain⟨r',h1,h2⟩:=At.sim hM (At.tail h);obtain⟨d',h3,h4⟩:=hM b o d (h 0 d rfl);refine⟨d' :: r',fun i u hu=>?_,d',r',rfl,h4,h2⟩;cases i with
   | zero=>simp only[List.getElem?_cons_zero,oi] at hu; subst hu; exact h3
   | succ i =>
     have:=h1 i u (by simpa using hu)
     rwa [show o+1+i=o+(i+1) by omega] at this
theorem AllR.sim{k:IntKind}{α:Type}{R R':List Value->α->Prop}{S:α->α->Prop}(hR:∀c c' x,SimL k c c'->R c x->∃x',R' c' x'/\S x x'):∀{cs cs':List Value} {xs:List α},SimL k cs cs'->AllR R cs xs->∃xs',AllR R' cs' xs'/\AllS S xs xs'
 | cs,cs',[],hs,h=>by
   rw[show cs=[] from h] at hs;exact⟨[],hs,rfl⟩
 | _,cs',x :: r,hs,⟨c,d,e,h1,h2⟩=>by
   subst e;obtain⟨c',d',rfl,h3,h4⟩:=hs.split;obtain⟨x',h5,h6⟩:=hR c c' x h3 h1;obtain⟨r',h7,h8⟩:=AllR.sim hR h4 h2;exact⟨x' :: r',⟨c',d',rfl,h5,h7⟩,x',r',rfl,h6,h8⟩
theorem j0p{k:IntKind}{u:Value}{cs:List Value}(h:SimL k [u] cs)(hu:∀x,u≠.int k x):cs=[u]:=by
 obtain⟨u',r',rfl,h1,h2⟩:=h;rw[show r'=[] from h2];rcases h1 with rfl | ⟨x,_,rfl,_⟩
 ·rfl
 ·exact(hu x rfl).elim
theorem RT.sim{k:IntKind}{K:Nat->Prop}{w w':World}(hM:D0d k w w'):∀{t:Ty} {cs cs':List Value} {x:den t},SimL k cs cs'->RT K w t cs x->∃x',RT K w' t cs' x'/\shp t x x'
 | .int k0,cs,cs',x,hs,h=>by
   obtain⟨rfl,h1⟩:=h;obtain⟨u',r',rfl,h2,h3⟩:=hs;rw[show r'=[] from h3];rcases h2 with rfl | ⟨x0,x',e,rfl,h4,h5⟩
   ·exact⟨x,⟨rfl,h1⟩,trivial⟩
   ·cases e;exact⟨x',⟨rfl,h4,h5⟩,trivial⟩
 | .bool,cs,cs',x,hs,h=>by
   rw[show cs=_ from h] at hs;exact⟨x,j0p hs (fun _ h=>by cases h),rfl⟩
 | .str,cs,cs',x,hs,h=>by
   rw[h.1] at hs;exact⟨x,⟨j0p hs (fun _ h=>by cases h),h.2⟩,rfl⟩
 | .sl e,cs,cs',xs,hs,⟨p,cap,h1,h2,h3,h4⟩=>by
   rw[h1] at hs;have hc:=j0p hs (fun _ h=>by cases h);rcases h4 with rfl | ⟨b,o,ds,hp,hb,hat,hall⟩
   ·exact⟨[],⟨p,cap,hc,h2,h3,.inl rfl⟩,rfl⟩
   ·obtain⟨ds',g1,g2⟩:=At.sim hM hat;obtain⟨xs',g3,g4⟩:=AllR.sim (fun c c' x hs hr=>RT.sim hM (t:=e) hs hr) g2 hall;exact⟨xs',⟨p,cap,by rw[hc,g4.len],by rw[g4.len]; exact h2,h3,.inr ⟨b,o,ds',hp,hb,g1,g3⟩⟩,g4⟩
 | .pt e,cs,cs',x,hs,⟨b,o,ds,h1,hb,hat,h2⟩=>by
   rw[h1] at hs;have hc:=j0p hs (fun _ h=>by cases h);obtain⟨ds',g1,g2⟩:=At.sim hM hat;obtain⟨x',g3,g4⟩:=RT.sim hM (t:=e) g2 h2;exact⟨x',⟨b,o,ds',hc,hb,g1,g3⟩,g4⟩
 | .pr a b,cs,cs',x,hs,⟨c,d,h,h1,h2⟩=>by
   subst h;obtain⟨c',d',rfl,h3,h4⟩:=hs.split;obtain⟨x1,g1,g2⟩:=RT.sim hM (t:=a) h3 h1;obtain⟨x2,g3,g4⟩:=RT.sim hM (t:=b) h4 h2;exact⟨(x1,x2),⟨c',d',rfl,g1,g3⟩,g2,g4⟩
mutual
def HavA:AV->AV->Prop
 | .d fr t x,b=>bif D8 t then b=.d fr t x else ∃x',b=.d fr t x'/\shp t x x'/\(wf t x->wf t x')
 | .agg xs,b=>∃ys,b=.agg ys/\HavAs xs ys
 | .tup xs,b=>∃ys,b=.tup ys/\HavAs xs ys
 | .fn f xs,b=>∃ys,b=.fn f ys/\HavAs xs ys
 | a,b=>b=a
def HavAs:List AV->List AV->Prop
 | [],ys=>ys=[]
 | x :: r,ys=>∃y r',ys=y :: r'/\HavA x y/\HavAs r r'
end
def HavO:Ob->Ob->Prop
 | .box T cs,b=>∃ds,b=.box T ds/\HavAs cs ds
 | .arr T fr t xs v,b=>bif D8 t then b=.arr T fr t xs v else ∃xs',b=.arr T fr t xs' v/\AllS (shp t) xs xs'
 | a,b=>b=a
theorem x0T{fr:Bool}{t:Ty}{x:den t}{b:AV}:HavA (.d fr t x) b=(bif D8 t then b=.d fr t x else ∃x',b=.d fr t x'/\shp t x x'/\(wf t x->wf t x')):=by unfold HavA; rfl
theorem s0i{T:TypeId}{fr:Bool}{t:Ty}{xs:List (den t)}{v:Nat}{b:Ob}:HavO (.arr T fr t xs v) b=(bif D8 t then b=.arr T fr t xs v else ∃xs',b=.arr T fr t xs' v/\AllS (shp t) xs xs'):=rfl
def A0E:List (Nat×Sl)->List (Nat×Sl)->Prop
 | [],ys=>ys=[]
 | (t,⟨p,a⟩) :: r,ys=>∃b r',ys=(t,⟨p,b⟩) :: r'/\HavA a b/\A0E r r'
def HavL:List (Nat×Ob)->List (Nat×Ob)->Prop
 | [],ys=>ys=[]
 | (i,a) :: r,ys=>∃b r',ys=(i,b) :: r'/\HavO a b/\HavL r r'
def F0i(a b:St):Prop:=∃e o,b=⟨e,o⟩/\A0E a.e e/\HavL a.o o
mutual
theorem HavA.refl:∀a,HavA a a
 | .d fr t x=>by
   simp only[x0T,ce];split
   ·trivial
   ·exact⟨x,rfl,d0Y t x,id⟩
 | .agg xs=>⟨xs,rfl,HavAs.refl xs⟩
 | .tup xs=>⟨xs,rfl,HavAs.refl xs⟩
 | .fn f xs=>⟨xs,rfl,HavAs.refl xs⟩
 | .v _ | .ptr .. | .pel .. | .os .. | .ow .. | .gel .. | .og .. | .ob ..=>by unfold HavA; rfl
theorem HavAs.refl:∀as,HavAs as as
 | []=>by unfold HavAs; rfl
 | a :: r=>by unfold HavAs; exact⟨a,r,rfl,HavA.refl a,HavAs.refl r⟩
end
theorem HavO.refl:∀a,HavO a a
 | .box T cs=>⟨cs,rfl,HavAs.refl cs⟩
 | .arr T fr t xs v=>by
   simp only[s0i,ce];split
   ·trivial
   ·exact⟨xs,rfl,AllS.refl (d0Y t) xs⟩
 | .grd ..=>rfl
def E0Q:Ob->Ob->Prop
 | .box T _,b=>∃ds,b=.box T ds
 | .arr T fr t _ v,b=>∃ys,b=.arr T fr t ys v
 | a,b=>b=a
theorem HavO.kind:∀{a b:Ob},HavO a b->E0Q a b
 | .box _ _,_,⟨ds,h,_⟩=>⟨ds,h⟩
 | .arr _ _ _ xs _,b,h=>by
   rw[s0i,ce] at h;split at h
   ·exact⟨xs,h⟩
   ·obtain⟨ys,h,_⟩:=h; exact⟨ys,h⟩
 | .grd ..,_,h=>h
theorem HavL.lk:∀{o o':List (Nat×Ob)},HavL o o'->∀i,(∀ob,lku o i=some ob->∃ob',lku o' i=some ob'/\HavO ob ob')/\(∀ob',lku o' i=some ob'->∃ob,lku o i=some ob/\HavO ob ob')
 | [],o',h,i=>by rw[show o'=[] from h]; exact⟨(fun _ h=>by cases h),fun _ h=>by cases h⟩
 | (j,a) :: r,_,⟨b,r',e,h1,h2⟩,i=>by
   subst e;rw[lK,lK];by_cases hj:j=i
   ·rw[if_pos hj,if_pos hj];exact⟨(fun ob h=>by cases h; exact⟨b,rfl,h1⟩),fun ob h=>by cases h; exact⟨a,rfl,h1⟩⟩
   ·rw[if_neg hj,if_neg hj];exact HavL.lk h2 i
def up(G:Gh)(w':World)(o':List (Nat×Ob)):Gh:=⟨G.ρ,G.γ,G.K,w',o',G.B,G.δ⟩
section
variable {k:IntKind} {G:Gh} {w':World} (hM:D0d k G.w w')
include hM
mutual
theorem AVR.sim:∀{a:AV} {u:Value},AVR G a u->∃b,HavA a b/\∀o',HavL G.o o'->AVR (up G w' o') b u
 | .v x,u,h=>⟨.v x,rfl,fun _ _=>h⟩
 | .d fr t x,u,h=>by
   simp only[x0T,ce];split
   ·rename_i hk;exact⟨.d fr t x,rfl,fun _ _=>RT.free hk h⟩
   ·obtain⟨x',h1,h2⟩:=RT.sim (K:=rg G fr) hM (SimL.refl [u]) h;exact⟨.d fr t x',⟨x',rfl,h2,fun _=>RT.wf h1⟩,fun _ _=>h1⟩
 | .agg xs,u,⟨us,e,h⟩=>by
   obtain⟨ys,h1,h2⟩:=AVRs.sim h;exact⟨.agg ys,⟨ys,rfl,h1⟩,fun o' ho=>⟨us,e,h2 o' ho⟩⟩
 | .tup xs,u,⟨us,e,h⟩=>by
   obtain⟨ys,h1,h2⟩:=AVRs.sim h;exact⟨.tup ys,⟨ys,rfl,h1⟩,fun o' ho=>⟨us,e,h2 o' ho⟩⟩
 | .fn f xs,u,⟨us,e,h⟩=>by
   obtain⟨ys,h1,h2⟩:=AVRs.sim h;exact⟨.fn f ys,⟨ys,rfl,h1⟩,fun o' ho=>⟨us,e,h2 o' ho⟩⟩
 | .ptr id off,u,⟨⟨T,cs,h1⟩,h2⟩=>⟨.ptr id off,rfl,fun o' ho=>by
    obtain⟨ob,g1,g2⟩:=(ho.lk id).1 _ h1;obtain⟨ds,rfl⟩:=g2.kind;exact⟨⟨T,ds,g1⟩,h2⟩⟩
 | .pel id ver kk s off,u,⟨h0,T,fr,t,xs,ver',h1,h2,h3⟩=>⟨.pel id ver kk s off,rfl,fun o' ho=>by
    obtain⟨ob,g1,g2⟩:=(ho.lk id).1 _ h1;obtain⟨ys,rfl⟩:=g2.kind;exact⟨h0,T,fr,t,ys,ver',g1,h2,h3⟩⟩
 | .os id ver,u,⟨h0,T,fr,t,xs,ver',h1,h2,h3⟩=>⟨.os id ver,rfl,fun o' ho=>by
    obtain⟨ob,g1,g2⟩:=(ho.lk id).1 _ h1;obtain⟨ys,rfl⟩:=g2.kind;exact⟨h0,T,fr,t,ys,ver',g1,h2,h3⟩⟩
 | .gel id kk,u,⟨⟨T,Te,fr,t,xs,hole,h1⟩,h2⟩=>⟨.gel id kk,rfl,fun o' ho=>by
    obtain⟨ob,g1,g2⟩:=(ho.lk id).1 _ h1;have:=g2.kind;rw[show ob=_ from this] at g1;exact⟨⟨T,Te,fr,t,xs,hole,g1⟩,h2⟩⟩
 | .og id,u,⟨h0,⟨T,Te,fr,t,xs,hole,h1⟩,h2⟩=>⟨.og id,rfl,fun o' ho=>by
    obtain⟨ob,g1,g2⟩:=(ho.lk id).1 _ h1;have:=g2.kind;rw[show ob=_ from this] at g1;exact⟨h0,⟨T,Te,fr,t,xs,hole,g1⟩,h2⟩⟩
 | .ow ..,_,h=>h.elim
 | .ob ..,_,h=>h.elim
theorem AVRs.sim:∀{as':List AV} {us:List Value},AVRs G as' us->∃bs,HavAs as' bs/\∀o',HavL G.o o'->AVRs (up G w' o') bs us
 | [],us,h=>⟨[],by unfold HavAs; rfl,fun _ _=>h⟩
 | a :: r,us,⟨u,us',e,h1,h2⟩=>by
   obtain⟨b,g1,g2⟩:=AVR.sim h1;obtain⟨bs,g3,g4⟩:=AVRs.sim h2;have:=hM;exact⟨b :: bs,by unfold HavAs; exact⟨b,bs,rfl,g1,g3⟩,fun o' ho=>⟨u,us',e,g2 o' ho,g4 o' ho⟩⟩
end
theorem ObR.sim{b:Nat}(hw:WE (some b) G.w w'){id:Nat}:∀{ob:Ob},ObR G id ob->H5 (some ob)=false->G.γ id≠some b->∃ob',HavO ob ob'/\∀o',HavL G.o o'->ObR (up G w' o') id ob'
 | .box T cs,⟨b',us,h1,h2,h3,h4⟩,_,hb=>by
   obtain⟨ds,g1,g2⟩:=AVRs.sim hM h4;exact⟨.box T ds,⟨ds,rfl,g1⟩,fun o' ho=>⟨b',us,h1,h2,h3.we hw (fun i e h=>by cases e; subst h; exact hb h1),g2 o' ho⟩⟩
 | .arr T fr t xs v,⟨cs,h1,h2,h3⟩,_,hb=>by
   have h1':=h1.we hw (fun i e h=>by cases e; exact hb h);simp only[s0i,ce];split
   ·rename_i hk;exact⟨.arr T fr t xs v,rfl,fun o' _=>⟨cs,h1',h2.mapR (fun c x hr=>RT.free hk hr),h3⟩⟩
   ·obtain⟨xs',g1,g2⟩:=AllR.sim (k:=k) (R':=RT (rg G fr) w' t) (S:=shp t) (fun c c' x hs hr=>RT.sim hM hs hr) (SimL.refl cs) h2;exact⟨.arr T fr t xs' v,⟨xs',rfl,g2⟩,fun o' _=>⟨cs,by rw[g2.len]; exact h1',g1,h3⟩⟩
 | .grd ..,_,h,_=>by cases h
theorem r0E{b:Nat}(hw:WE (some b) G.w w')(hobs:∀id o,lku G.o id=some o->ObR G id o)(hg:∀id,H5 (lku G.o id)=false)(hb:∀id o,lku G.o id=some o->G.γ id≠some b) :
  ∀l:List (Nat×Ob),∃l',HavL l l'/\∀i ob,lku l i=some ob->lku G.o i=some ob->∃ob',lku l' i=some ob'/\∀o',HavL G.o o'->ObR (up G w' o') i ob'
 | []=>⟨[],rfl,fun _ _ h=>by cases h⟩
 | (j,a) :: r=>by
   obtain⟨r',h1,h2⟩:=r0E hw hobs hg hb r;by_cases hv:lku G.o j=some a
   ·obtain⟨a',g1,g2⟩:=ObR.sim hM hw (hobs j a hv) (by rw[<- hv]; exact hg j) (hb j a hv);refine⟨(j,a') :: r',⟨a',r',rfl,g1,h1⟩,fun i ob hi hG=>?_⟩;rw[lK] at hi ⊢;by_cases hj:j=i
    ·subst hj;rw[if_pos rfl];exact⟨a',rfl,g2⟩
    ·rw[if_neg hj] at hi ⊢;exact h2 i ob hi hG
   ·refine⟨(j,a) :: r',⟨a,r',rfl,HavO.refl a,h1⟩,fun i ob hi hG=>?_⟩;rw[lK] at hi ⊢;by_cases hj:j=i
    ·subst hj;rw[if_pos rfl] at hi;cases hi;exact(hv hG).elim
    ·rw[if_neg hj] at hi ⊢;exact h2 i ob hi hG
end
theorem Sat.hav{X:Cx}{G:Gh}(S:Sat X G){k:IntKind}{w':World}(hM:D0d k G.w w'){b:Nat}(hw:Wr b G.w w')(hK:G.K b)(hb:X.w0.heap.size<=b)(hu:UF w' b)(hg:∀id,H5 (lku G.o id)=false){e:List (Nat×Sl)}{a:Act}(hE:EnvR X.n G e a) :
  ∃o' e',HavL G.o o'/\A0E e e'/\Sat X (up G w' o')/\EnvR X.n (up G w' o') e' a:=by
 have hwe:=WE.of_wr hw;have hne:∀id o,lku G.o id=some o->G.γ id≠some b:=fun id o ho h=>S.imm id o b ho h hK;obtain⟨o',h1,h2⟩:=r0E hM hwe S.obs hg hne G.o;have hlk:=h1.lk;have hg':∀id,H5 (lku o' id)=false:=fun id=>by
  cases h:lku o' id with
  | none=>rfl
  | some ob =>
    obtain⟨ob0,g1,g2⟩:=(hlk id).2 ob h;have:=hg id;rw[g1] at this;cases ob0 with
    | box T cs=>obtain⟨ds,rfl⟩:=g2.kind; rfl
    | arr T fr t xs v=>obtain⟨ds,rfl⟩:=g2.kind; rfl
    | grd=>cases this
 have hS:Sat X (up G w' o'):=by
  refine⟨S.base,hwe.os.trans S.os,hwe.tape.trans S.tape,hwe.output.trans S.output,Nat.le_trans S.size hwe.size,fun i hi hio=>?_,fun id ob hob=>?_,fun id id' ob ob' c ho ho' hc hc'=>?_,fun id ob c ho hc=>?_,fun id ob c ho hc=>?_,fun i hi=>?_,S.kfrom,fun id c _ hgd=>?_,fun i v h=>?_⟩
  ·rw[<- S.block i hi hio];exact hw.block i (by omega)
  ·obtain⟨ob0,g1,g2⟩:=(hlk id).2 ob hob;obtain⟨ob',g3,g4⟩:=h2 id ob0 g1 g1;rw[show lku o' id=some ob from hob] at g3;cases g3;exact g4 o' h1
  ·obtain⟨x,g1,_⟩:=(hlk id).2 ob ho;obtain⟨x',g2,_⟩:=(hlk id').2 ob' ho';exact S.inj id id' x x' c g1 g2 hc hc'
  ·obtain⟨x,g1,_⟩:=(hlk id).2 ob ho;exact S.imm id x c g1 hc
  ·obtain⟨x,g1,_⟩:=(hlk id).2 ob ho;exact S.own id x c g1 hc
  ·by_cases e:i=b
   ·subst e;exact hu.g
   ·exact(S.klt i hi).same hwe.size (hw.block i e)
  ·rw[show lku (up G w' o').o id=lku o' id from rfl,hg' id] at hgd;cases hgd
  ·obtain⟨bb,g1,g2⟩:=AVR.sim hM (S.pin i v h);rw[show bb=_ from g1] at g2;exact g2 o' h1
 have hEE:∀e:List (Nat×Sl),(∀t s,lku e t=some s->(PathP s.p a->AVR G s.a (a.tmps.getD t undef))/\(¬PathP s.p a->a.tmps.getD t undef=undef))->∃e',A0E e e'/\∀t s',lku e' t=some s'->(PathP s'.p a->AVR (up G w' o') s'.a (a.tmps.getD t undef))/\(¬PathP s'.p a->a.tmps.getD t undef=undef):=by
  intro e he
  -- the slots that are seen turn, the hidden ones stay
  have gen:∀l:List (Nat×Sl),∃l',A0E l l'/\∀t s,lku l t=some s->lku e t=some s->∃s',lku l' t=some s'/\(PathP s'.p a->AVR (up G w' o') s'.a (a.tmps.getD t undef))/\(¬PathP s'.p a->a.tmps.getD t undef=undef):=by
   intro l
   induction l with
   | nil=>exact⟨[],rfl,fun _ _ h=>by cases h⟩
   | cons x r ih =>
     obtain⟨t0,p0,a0⟩:=x;obtain⟨r',h3,h4⟩:=ih;by_cases hv:lku e t0=some ⟨p0,a0⟩/\PathP p0 a
     ·obtain⟨q1,q2⟩:=he t0 _ hv.1;obtain⟨a1,g1,g2⟩:=AVR.sim hM (q1 hv.2);refine⟨(t0,⟨p0,a1⟩) :: r',⟨a1,r',rfl,g1,h3⟩,fun t s hs hes=>?_⟩;rw[lK] at hs ⊢;by_cases ht:t0=t
      ·subst ht;rw[if_pos rfl];exact⟨_,rfl,fun _=>g2 o' h1,fun hn=>(hn hv.2).elim⟩
      ·rw[if_neg ht] at hs ⊢;exact h4 t s hs hes
     ·refine⟨(t0,⟨p0,a0⟩) :: r',⟨a0,r',rfl,HavA.refl a0,h3⟩,fun t s hs hes=>?_⟩;rw[lK] at hs ⊢;by_cases ht:t0=t
      ·subst ht;rw[if_pos rfl] at hs ⊢;cases hs;have hnp:¬PathP p0 a:=fun hp=>hv ⟨hes,hp⟩;exact⟨_,rfl,fun hp=>(hnp hp).elim,(he t0 _ hes).2⟩
      ·rw[if_neg ht] at hs ⊢;exact h4 t s hs hes
  obtain⟨e',h3,h4⟩:=gen e;refine⟨e',h3,fun t s' hs'=>?_⟩;have:∀{l l':List (Nat×Sl)},A0E l l'->∀{s'},lku l' t=some s'->∃s,lku l t=some s:=by
   intro l
   induction l with
   | nil=>intro l' hl s' h; rw[show l'=[] from hl] at h; cases h
   | cons x r ih =>
     obtain⟨t0,p0,a0⟩:=x;rintro l' ⟨b1,r',rfl,g1,g2⟩ s' h;rw[lK] at h ⊢;by_cases ht:t0=t
     ·rw[if_pos ht]; exact⟨_,rfl⟩
     ·rw[if_neg ht] at h ⊢;exact ih g2 h
  obtain⟨s,hs⟩:=this h3 hs';obtain⟨s2,g1,g2⟩:=h4 t s hs hs;rw[hs'] at g1;cases g1;exact g2
 obtain⟨e',h3,h4⟩:=hEE e hE.val;exact⟨o',e',h1,h3,hS,hE.defers,hE.size,h4⟩
theorem m0K{w:World}{b:Nat}{cur:Array Value}{T:TypeId}{k:IntKind}{o:Nat}{x y:Int}(hB:w.heap[b]?=some (.cells cur T (0,0)))(hx:cur[o]?=some (.int k x))(hy:lo k<=y/\y<=hi k):D0d k w (w.setRow b (spl cur.toList o [.int k y]).toArray):=by
 intro b' o' u hu;by_cases hb:b'=b
 ·subst hb;unfold World.cell? at hu ⊢;rw[show(⟨b',o',none⟩:Addr).block=b' from rfl] at hu ⊢;rw[hB] at hu;rw[setRow_heap w b' cur _ T (0,0) hB];simp only[Option.isSome_none,Bool.false_eq_true,if_false] at hu ⊢;have ho:o<cur.toList.length:=by
   rcases Nat.lt_or_ge o cur.size with h | h
   ·simpa using h
   ·rw[Array.getElem?_eq_none h] at hx; cases hx
  rw[List.getElem?_toArray];unfold spl;rw[<- Array.getElem?_toList] at hu hx;by_cases e:o'=o
  ·subst e;rw[hx] at hu;cases hu;refine⟨.int k y,?_,.inr ⟨x,y,rfl,rfl,hy⟩⟩;rw[List.append_assoc,List.getElem?_append_right (by rw[List.length_take]; omega),List.length_take];rw[show o'-min o' cur.toList.length=0 by omega];rfl
  ·refine⟨u,?_,.inl rfl⟩;rcases Nat.lt_or_ge o' o with h | h
   ·rw[List.append_assoc,List.getElem?_append_left (by rw[List.length_take]; omega),List.getElem?_take_of_lt h];exact hu
   ·rw[List.getElem?_append_right (by rw[List.length_append,List.length_take]; simp; omega),List.length_append,List.length_take,List.getElem?_drop,<- hu];congr 1;simp only[List.length_cons,List.length_nil];omega
 ·unfold World.cell? at hu ⊢;rw[show(⟨b',o',none⟩:Addr).block=b' from rfl] at hu ⊢;rw[b0N w b b' _ hb];exact⟨u,hu,.inl rfl⟩
def s0h:Ty->Option IntKind
 | .int k=>some k
 | .pr a _=>s0h a
 | _=>none
theorem i0Q{K:Nat->Prop}{w:World}{k:IntKind}:∀{t:Ty} {cs:List Value} {x:den t},s0h t=some k->RT K w t cs x->∃v,cs[0]?=some (.int k v)
 | .int k',cs,x,h,hr=>by
   cases h;exact⟨x,by rw[hr.1]; rfl⟩
 | .pr a b,cs,x,h,⟨c,d,e,h1,h2⟩=>by
   obtain⟨v,hv⟩:=i0Q (t:=a) h h1;refine⟨v,?_⟩;rw[e];cases c with
   | nil=>simp at hv
   | cons y r=>simpa using hv
def r0K:List (Nat×Ob)->Bool
 | []=>true
 | (_,.grd ..) :: _=>false
 | _ :: r=>r0K r
theorem j0E:∀{o:List (Nat×Ob)},r0K o=true->∀i,H5 (lku o i)=false
 | [],_,_=>rfl
 | (j,ob) :: r,h,i=>by
   rw[lK];cases ob with
   | grd=>cases h
   | box T cs =>
     split
     ·rfl
     ·exact j0E (o:=r) h i
   | arr =>
     split
     ·rfl
     ·exact j0E (o:=r) h i
def evH(n:Nat)(Γ:m9)(T:List Ct)(l:List Oper)(i:Nat)(st:St):Option (Prop×St) :=
 bif I3 n 0 [] l&&I9 st.e then(match goV Γ T l (l.take i) st [] with
  | some (V,st1,_)=>(match B5 l i with
    | some ⟨none,.store ti x y,_,_,_,none⟩=>(match rd st1 [] x,rd st1 [] y,lku Γ ti with
      | some (.d true (.pt e) _),some (.d _ (.int k') _),some tt=>bif I9 st1.e&&r0K st1.o&&Nat.beq tt.size 1&&decide (s0h e=some k') then some (V,st1) else none
      | _,_,_=>none)
    | _=>none)
  | none=>none) else none
def G0y(Γ:m9)(T:List Ct)(l:List Oper)(i:Nat)(keep:List Nat)(st2:St):Option (Prop×St):=bif I9 st2.e then(match goV Γ T l (l.drop (i+1)) st2 [] with
 | some (W,st3,_)=>some (W,cut keep st3)
 | none=>none) else none
theorem x0L{X:Cx}{G:Gh}{a:Act}{st:St}{Γ:m9}(hΓ:x6 X.P Γ){ops:Array Oper}{Q:Exit->Act->World->Prop}{K:Act->World->Prop}(S:Sat X G)(ho:G.o=st.o)(hE:EnvR X.n G st.e a)(hbase:X.base=X.w0.heap.size)
  {ti ty:TypeId} {x y:Operand} {pos:String} {after:Array Edge} {k:IntKind} {e:Ty} {x0:den (.pt e)} {fr:Bool} {y0:den (.int k)} {tt:TI} (hx:rd st [] x=some (.d true (.pt e) x0)) (he:s0h e=some k) (hy:rd st [] y=some (.d fr (.int k) y0)) (ht:lku Γ ti=some tt) (hs:tt.size=1) (hg:r0K st.o=true)
  (hK:∀st' a' G',F0i st st'->Sat X G'->G'.o=st'.o->EnvR X.n G' st'.e a'->K a' G'.w):N5 X.P ops Q ⟨none,.store ti x y,ty,pos,after,none⟩ K a G.w:=by
 obtain⟨b,o,ds,hxe,⟨hKb,hBb⟩,hat,hd⟩:=B9 hE (p:=[]) (fun _ h=>by cases h) hx;obtain⟨hye,hyr⟩:=B9 hE (p:=[]) (fun _ h=>by cases h) hy;obtain⟨v0,hv0⟩:=i0Q he hd;have hbX:X.w0.heap.size<=b:=by
  have:=hBb rfl;rw[S.base.1,hbase] at this;exact this
 obtain⟨cur,T,hcur⟩:=(S.klt b hKb).2 hbX;have hc:=hat 0 _ hv0;rw[Nat.add_zero] at hc;have hco:cur[o]?=some (.int k v0):=by
  unfold World.cell? at hc;rw[show(⟨b,o,none⟩:Addr).block=b from rfl,hcur] at hc;simpa using hc
 have hol:o<cur.size:=by
  rcases Nat.lt_or_ge o cur.size with h | h
  ·exact h
  ·rw[Array.getElem?_eq_none h] at hco; cases hco
 haveI:Info X.P ti tt.size tt.bytes tt.zero:=⟨(hΓ ti _ ht).1⟩
 have hB:Blk G.w b cur.toList T:=by unfold Blk; simpa using hcur
 have hye:a.eval y=.int k y0:=by simpa using hye
 have hxe:a.eval x=.pointer (some ⟨b,o,none⟩):=by simpa using hxe
 have hst:=c0C (P:=X.P) (T:=ti) (o:=o) (vs:=[.int k y0]) (v:=a.eval y) (by rw[hye]; rfl) (by simpa using hs.symm) rfl hB (by simp; omega);have hrun:=d0X (ty:=ty) hxe hst;have hM:=m0K hcur hco hyr;have hsz:b<G.w.heap.size:=(S.klt b hKb).lt;obtain⟨o',e',h1,h2,h3,h4⟩:=S.hav hM (e0S G.w b _) hKb hbX ⟨_,T,setRow_heap G.w b cur _ T (0,0) hcur⟩ (fun id=>by rw[ho]; exact j0E hg id) hE;unfold N5;have hwt:Region.wanted ⟨none,.store ti x y,ty,pos,after,none⟩ (yielded ops a.tmps)=true:=rfl;rw[if_pos hwt];unfold Oper.wp;rw[hrun none pos after none];exact hK ⟨e',o'⟩ _ _ ⟨e',o',rfl,h2,by rw[<- ho]; exact h1⟩ h3 rfl h4
theorem zH[Alw]{P:Program}{n:Nat}{y:World×(Nat->Prop)×(Nat->Prop)×Option (Nat×Value)×Nat}{st:St}{Q:Exit->Act->World->Prop}{Γ:m9}{T:List Ct}{r:Unit}(hΓ:x6 P Γ)(hT:∀c∈T,Ok P c)(hbase:(cx P n y).base=(cx P n y).w0.heap.size){ζ:Type}
  (i:Nat) (keep:List Nat) (st1:St) (E:ζ->St) (S:ζ->St) (W:ζ->Prop) {V:Prop} [Decidable V] {p:ζ->Prop} {g:ζ->Option Unit} {id:Nat} {l:List Oper} (H:gd V (Alw.alp p g)=some r) (h:evH n Γ T l i st=some (V,st1)) (hS:∀st2,F0i st1 st2->∃z,p z/\st2=E z)
  (h2:∀z,G0y Γ T l i keep (E z)=some (W z,S z)) (hc:∀z,g z=some r->W z/\FX (cx P n y) (S z) .normal Q):VX (cx P n y) st (.region id l.toArray false) Q:=by
 obtain⟨hV,H0⟩:=J5 H;have HH:=Alw.alp_some H0;clear H0 H;unfold evH at h;rw[ce] at h;split at h
 ·rename_i hb;rw[ba] at hb;split at h
  ·rename_i V1 st1' rs1 g1;split at h
   ·rename_i ti x yy ty pos after hn;split at h
    ·rename_i e0 x0 fr k y0 tt hx hy ht;rw[ce] at h;split at h
     ·rename_i hh;simp only[ba,dq] at hh;obtain⟨⟨⟨hp1,hgr⟩,hsz⟩,hei⟩:=hh;simp only[oi,pj] at h;obtain⟨rfl,rfl⟩:=h;refine r0Q (X:=cx P n y) hΓ hT keep hb.1 hb.2 g1 hV hn hp1 fun _ G a S' ho hE K hK=>?_;refine x0L hΓ S' ho hE hbase hx hei hy ht (nb hsz) hgr fun st' a' G' hh hS' ho' hE'=>?_;obtain⟨z,hz,rfl⟩:=hS st' hh;have h3:=h2 z;unfold G0y at h3;rw[ce] at h3;split at h3
      ·rename_i hp2;split at h3
       ·rename_i W' st3 rs3 e3;simp only[oi,pj] at h3;obtain⟨rfl,h4⟩:=h3;exact hK (E z) _ st3 rs3 G' a' hp2 e3 (hc z (HH z hz)).1 (by rw[h4]; exact(hc z (HH z hz)).2) hS' ho' hE'
       ·cases h3
      ·cases h3
     ·cases h
    ·cases h
   ·cases h
  ·cases h
 ·cases h
def G0x(n:Nat)(Γ:m9)(T:List Ct)(l:List Oper)(i:Nat)(st:St):Option (Prop×St) :=
 bif I3 n 0 [] l&&Z6 0 l&&I9 st.e&&Nat.beq (i+1) l.length then(match goV Γ T l (l.take i) st [] with
  | some (V,st1,rs1)=>bif z0M (I5 [] l) rs1.reverse&&(List.range i).all fun k=>inL k ((B5 (I5 [] l) i).getD []) then(match B5 l i with
    | some ⟨none,.store ti x y,_,_,_,none⟩=>(match rd st1 [] x,rd st1 [] y,lku Γ ti with
      | some (.d true (.pt e) _),some (.d _ (.int k') _),some tt=>bif I9 st1.e&&r0K st1.o&&Nat.beq tt.size 1&&decide (s0h e=some k') then some (V,st1) else none
      | _,_,_=>none)
    | _=>none) else none
  | none=>none) else none
theorem zHD[Alw]{P:Program}{n:Nat}{y:World×(Nat->Prop)×(Nat->Prop)×Option (Nat×Value)×Nat}{st:St}{Q:Exit->Act->World->Prop}{Γ:m9}{T:List Ct}{r:Unit}(hΓ:x6 P Γ)(hT:∀c∈T,Ok P c)[hm:K1 P](hbase:(cx P n y).base=(cx P n y).w0.heap.size){ζ:Type}
  (i:Nat) (keep:List Nat) (st1:St) (E:ζ->St) (S:ζ->St) (W:ζ->Prop) {V:Prop} [Decidable V] {p:ζ->Prop} {g:ζ->Option Unit} {id:Nat} {l:List Oper} (H:gd V (Alw.alp p g)=some r) (h:G0x n Γ T l i st=some (V,st1)) (hS:∀st2,F0i st1 st2->∃z,p z/\st2=E z)
  (h2:∀z,some (True,cut keep (E z))=some (W z,S z)) (hc:∀z,g z=some r->W z/\FX (cx P n y) (S z) .normal Q):VX (cx P n y) st (.region id l.toArray true) Q:=by
 obtain⟨hV,H0⟩:=J5 H;have HH:=Alw.alp_some H0;clear H0 H;unfold G0x at h;rw[ce] at h;split at h
 ·rename_i hb;simp only[ba] at hb;obtain⟨⟨⟨hb1,hb2⟩,hb3⟩,hb4⟩:=hb;have hil:i+1=l.length:=nb hb4;split at h
  ·rename_i V1 st1' rs1 g1;rw[ce] at h;split at h
   ·rename_i hck;rw[ba,List.all_eq_true] at hck;split at h
    ·rename_i ti x yy ty pos after hn;split at h
     ·rename_i e0 x0 fr k y0 tt hx hy ht;rw[ce] at h;split at h
      ·rename_i hh;simp only[ba,dq] at hh;obtain⟨⟨⟨hp1,hgr⟩,hsz⟩,hei⟩:=hh;simp only[oi,pj] at h;obtain⟨rfl,rfl⟩:=h;intro G a S' ho hE;obtain⟨el,hlt,htl⟩:=j0l hn;have hdr:l.drop (i+1)=[]:=List.drop_eq_nil_of_le (by omega);rw[hdr] at el;obtain⟨recs,e1,e2,e3,e4⟩:=Z4 (V2 (K:=fun st' rs=>st'=st1'/\rs=rs1) g1 hV ⟨rfl,rfl⟩);rw[List.append_nil] at e4;have hlen:recs.length=i:=by rw[<- htl,<- e1,List.length_map]
       refine wp_region_any hm.h ?_;have hext:Ext G.w { G.w with drawn:=G.w.drawn+1 }:=(Below.refl _ _).drew;obtain⟨S1,L1⟩:=S'.ext hext;have hst0:∀{recs:List Rec} {i:Nat} {st:St},stD (fun k=>(Array.replicate l.length false).getD k false) i recs st=st:=by
        have hall:∀j,(Array.replicate l.length false).getD j false=false:=fun j=>by
         by_cases hj:j<l.length <;> simp[hj]
        intro recs
        induction recs with
        | nil=>intro i st; rfl
        | cons R r ih=>intro i st; simp only[stD,hall i,Bool.false_eq_true,if_false]; exact ih
       have:=l0t (X:=cx P n y) hΓ hT (Q:=Q) (l:=l) (recs:=recs) (ol:=_) (st:=st) (by rw[e1]; exact el.symm) e2 (Z7 hb3) hb1 hb2 (by rw[<- List.reverse_reverse recs,e4]; exact hck.1) (fun k hk=>by rw[hlen] at hk ⊢; exact hck.2 k (List.mem_range.2 hk)) (fun G' a' S2 ho' hE' K hK=>by
         rw[e3] at ho' hE';refine x0L hΓ S2 ho' hE' hbase hx hei hy ht (nb hsz) hgr fun st' a2 G2 hh hS2 ho2 hE2=>hK _ _ ?_;obtain⟨z,hz,rfl⟩:=hS st' hh;have h3:=h2 z;simp only[oi,pj] at h3;obtain⟨G3,S3,ho3,hw3,hE3⟩:=h0B keep hS2 ho2 hE2;rw[h3.2] at ho3 hE3;have:=(hc z (HH z hz)).2 G3 a2 S3 ho3 hE3
         rwa [hw3] at this) l.length (Array.replicate l.length false) { G with w:={ G.w with drawn:=G.w.drawn+1 } } a
        (by refine Nat.le_trans (List.length_filter_le _ _) ?_; simp) (by simp) (by rw[hlen]; simp[show i<l.length by omega]) (fun j o _ hD=>by
          by_cases hj:j<l.length
          ·simp[hj] at hD
          ·simp[hj] at hD) S1 (fun id=>by rw[hst0]; simp only[ho]) (by rw[hst0]; exact hE.mono L1)
       simpa using this
      ·cases h
     ·cases h
    ·cases h
   ·cases h
  ·cases h
 ·cases h
def grd(j:Nat)(b:Bool)(o:Oper):Oper:={ o with guard:=some (j,b) }
theorem A0F{P:Program}{o:Oper}{j:Nat}{b:Bool}{a:Act}{w:World}{K:Act->World->Prop}{Q:Exit->Act->World->Prop}(h:o.wp P a w K Q):(grd j b o).wp P a w K Q:=h
theorem n0E{X:Cx}{Γ:m9}{T:List Ct}(hΓ:x6 X.P Γ)(hT:∀c∈T,Ok X.P c){ops:Array Oper}{all:List Oper}(ha:ops=all.toArray){Q:Exit->Act->World->Prop}{rest:List Oper}{j:Nat}{oj:Oper}{dj:Nat}{b f:Bool}(hj:B5 all j=some oj)(hdj:oj.dst=some dj) :
  ∀(recs:List Rec) (i:Nat) (seen:List Nat) (st:St) (G:Gh) (a:Act),(∀R∈recs,R.o.guard=none)->I3 X.n i seen (recs.map (·.o))=true->dj∈seen->(∀t s,lku st.e t=some s->∀x∈s.p,x.1∈seen)->lku st.e dj=some ⟨[],.d f .bool b⟩->y0c Γ T all st recs->Sat X G->G.o=st.o->EnvR X.n G st.e a ->
  (∀G' a',Sat X G'->G'.o=(recs.foldl B7 st).o->EnvR X.n G' (recs.foldl B7 st).e a'->wpList X.P ops Q rest a' G'.w)->wpList X.P ops Q (recs.map (fun R=>grd j b R.o)++rest) a G.w
 | [],i,seen,st,G,a,_,_,_,_,_,_,S,ho,hE,hK=>hK G a S ho hE
 | R :: r,i,seen,st,G,a,hgu,hreg,hdjs,hpath,hsl,⟨hp,⟨q,hab,hq⟩,hg,hrun⟩,S,ho,hE,hK=>by
   have hg0:=hgu R (by simp);have hp0:R.p=[]:=by
    unfold d0x at hp;rw[hg0] at hp;simpa using hp.symm
   simp only[List.map_cons,I3,ba] at hreg;obtain⟨⟨hr1,-⟩,hr3⟩:=hreg;have hdn:∀d,R.o.dst=some d->d<X.n/\d ∉ seen:=fun d hd=>by
    rw[hd] at hr1;simp only[ba] at hr1;exact⟨by simpa using hr1.1,d0o hr1.2⟩
   have hd:∀d,R.o.dst=some d->d<X.n/\(∀x∈R.p,x.1≠d)/\∀t s,lku st.e t=some s->∀x∈s.p,x.1≠d:=fun d hd=>⟨(hdn d hd).1,fun x hx=>by (rw[hp0] at hx; cases hx),fun t s ht x hx e=>(hdn d hd).2 (e ▸ hpath t s ht x hx)⟩
   have hin:∀{x:Nat},x∈seen->x∈(match R.o.dst with | some d=>d :: seen | none=>seen):=fun h=>by
    split
    ·exact List.mem_cons_of_mem _ h
    ·exact h
   have key:=r0C (K:=wpList X.P ops Q (r.map (fun R=>grd j b R.o)++rest)) hΓ hT ha (Q:=Q) S ho hE hp hab hq hg hd (fun a' G' S' _ ho' hE'=>by
    refine n0E (f:=f) hΓ hT ha hj hdj r (i+1) _ (B7 st R) G' a' (fun R' hR'=>hgu R' (by simp[hR'])) hr3 (hin hdjs) ?_ ?_ hrun S' ho' hE' hK
    ·intro t s ht x hx;simp only[B7,t0c] at ht;split at ht
     ·rw[lK] at ht;split at ht
      ·cases ht; rw[hp0] at hx; cases hx
      ·exact hin (hpath t s ht x hx)
     ·exact hin (hpath t s ht x hx)
    ·simp only[B7,t0c];split
     ·rename_i d av hd' _;rw[lK,if_neg (fun(e:d=dj)=>(hdn d hd').2 (by rw[e]; exact hdjs))];exact hsl
     ·exact hsl)
   have hv:=(hE.val dj _ hsl).1 (fun _ h=>by cases h);have e:=b0x hv;have hy:=d0H (a:=a) ha hj hdj;rw[e] at hy;simp only at hy;have hw:Region.wanted (grd j b R.o) (yielded ops a.tmps)=true:=by simp[Region.wanted,grd,hy]
   have hw0:Region.wanted R.o (yielded ops a.tmps)=true:=by simp[Region.wanted,hg0]
   unfold N5 at key;rw[if_pos hw0] at key;simp only[List.map_cons,List.cons_append];refine c0o ?_;unfold N5;rw[if_pos hw];exact A0F key
def t0Y(dj:Nat)(b:Bool):List (Nat×AV)->List (Nat×Sl)->List (Nat×Sl)
 | [],e=>e
 | (d,v) :: r,e=>t0Y dj b r ((d,⟨[(dj,b)],v⟩) :: e)
def o0v(n:Nat)(seen:List Nat):List Oper->List (Nat×AV)->Bool
 | [],[]=>true
 | o :: r,(d,_) :: s=>(match o.dst with | some d'=>Nat.beq d' d | none=>false)&&Nat.blt d n&&k0U d seen&&o0v n (d :: seen) r s
 | _,_=>false
theorem k0F{X:Cx}{ops:Array Oper}{all:List Oper}(ha:ops=all.toArray){Q:Exit->Act->World->Prop}{rest:List Oper}{j:Nat}{oj:Oper}{dj:Nat}{b f:Bool}(hj:B5 all j=some oj)(hdj:oj.dst=some dj) :
  ∀(l:List Oper) (dm:List (Nat×AV)) (seen:List Nat) (e:List (Nat×Sl)) (G:Gh) (a:Act),o0v X.n seen l dm=true->dj∈seen->(∀t s,lku e t=some s->∀x∈s.p,x.1∈seen)->lku e dj=some ⟨[],.d f .bool (!b)⟩->EnvR X.n G e a ->
  (∀a',EnvR X.n G (t0Y dj b dm e) a'->wpList X.P ops Q rest a' G.w)->wpList X.P ops Q (l.map (grd j b)++rest) a G.w
 | [],[],seen,e,G,a,_,_,_,_,hE,hK=>hK a hE
 | [],_ :: _,_,_,_,_,h,_,_,_,_,_=>by cases h
 | _ :: _,[],_,_,_,_,h,_,_,_,_,_=>by cases h
 | o :: r,(d,v) :: s,seen,e,G,a,h,hdjs,hpath,hsl,hE,hK=>by
   simp only[o0v,ba] at h;obtain⟨⟨⟨h1,h2⟩,h3⟩,h4⟩:=h;have hdst:o.dst=some d:=by
    split at h1
    ·rename_i d' hd';rw[hd',nb h1]
    ·cases h1
   have h2:d<X.n:=by simpa using h2
   have h3:=d0o h3;have hv:=(hE.val dj _ hsl).1 (fun _ h=>by cases h);have ev:=b0x hv;have hy:=d0H (a:=a) ha hj hdj;rw[ev] at hy;simp only at hy;have hw:Region.wanted (grd j b o) (yielded ops a.tmps)=false:=by
    cases b <;> simp[Region.wanted,grd,hy]
   simp only[List.map_cons,List.cons_append];refine c0o ?_;unfold N5;rw[if_neg (by rw[hw]; simp)];have hnp:¬PathP [(dj,b)] a:=fun hp=>by
    have:=hp (dj,b) (by simp);simp only at this;rw[ev] at this;cases b <;> simp at this
   have hE':EnvR X.n G ((d,⟨[(dj,b)],v⟩) :: e) (a.put (grd j b o).dst undef):=by
    show EnvR X.n G _ (a.put o.dst undef);rw[hdst];exact EnvR.put (st:=⟨e,[]⟩) (p:=[(dj,b)]) hE h2 (fun x hx e'=>by
     simp only[List.mem_singleton] at hx;subst hx;exact h3 (by rw[<- (show dj=d from e')]; exact hdjs)) (fun t s ht x hx e'=>h3 (e' ▸ hpath t s ht x hx)) ⟨fun h=>(hnp h).elim,fun _=>rfl⟩
   exact k0F (f:=f) ha hj hdj r s (d :: seen) _ G _ h4 (List.mem_cons_of_mem _ hdjs) (fun t s' ht x hx=>by
    rw[lK] at ht;split at ht
    ·cases ht;simp only[List.mem_singleton] at hx;subst hx;exact List.mem_cons_of_mem _ hdjs
    ·exact List.mem_cons_of_mem _ (hpath t s' ht x hx)) (by
    rw[lK,if_neg (fun(e':d=dj)=>h3 (by rw[e']; exact hdjs))];exact hsl) hE' hK
def k0b(seen:List Nat)(e:List (Nat×Sl)):Bool:=e.all fun x=>x.2.p.all fun y=>inL y.1 seen
theorem m0R{seen:List Nat}{e:List (Nat×Sl)}(h:k0b seen e=true):∀t s,lku e t=some s->∀x∈s.p,x.1∈seen:=by
 intro t s ht x hx;have:∃z∈e,z.2=s:=by
  clear h
  induction e with
  | nil=>cases ht
  | cons y r ih =>
    obtain⟨d,v⟩:=y;rw[lK] at ht;split at ht
    ·cases ht; exact⟨_,List.mem_cons_self,rfl⟩
    ·obtain⟨z,hz,e⟩:=ih ht;exact⟨z,List.mem_cons_of_mem _ hz,e⟩
 obtain⟨z,hz,rfl⟩:=this;unfold k0b at h;simp only[List.all_eq_true] at h;exact K7.1 (h z hz x hx)
def Z9:List Oper->List Nat
 | []=>[]
 | o :: r=>match o.dst with
   | some d=>d :: Z9 r
   | none=>Z9 r
theorem j0F{d:Nat}{l:List Oper}{o:Oper}(h:o∈l)(hd:o.dst=some d):d∈Z9 l:=by
 induction l with
 | nil=>cases h
 | cons x r ih =>
   simp only[Z9];rcases List.mem_cons.1 h with e | h
   ·subst e;rw[hd];exact List.mem_cons_self
   ·have:=ih h;split
    ·exact List.mem_cons_of_mem _ this
    ·exact this
def ung(o:Oper):Oper:={ o with guard:=none }
def isG(j:Nat)(b:Bool)(o:Oper):Bool:=match o.guard with
 | some (j',b')=>Nat.beq j j'&&(b==b')
 | none=>false
theorem z0w{j:Nat}{b:Bool}{o:Oper}(h:isG j b o=true):grd j b (ung o)=o:=by
 unfold isG at h;split at h
 ·rename_i j' b' hg;rw[ba] at h;have h1:=nb h.1;have h2:b=b':=by simpa using h.2
  subst h1; subst h2;unfold grd ung;cases o;simp only at hg;subst hg;rfl
 ·cases h
def G0z(n:Nat)(Γ:m9)(T:List Ct)(l:List Oper)(i m:Nat)(st:St):Option (Prop×St×Nat×Bool×Nat×Bool) :=
 bif I3 n 0 [] l&&I9 st.e then(match goV Γ T l (l.take i) st [] with
  | some (V,st1,_)=>(match B5 l i with
    | some o=>(match o.guard with
      | some (j,b)=>(match B5 l j with
        | some oj=>(match oj.dst with
          | some dj=>(match lku st1.e dj with
            | some ⟨[],.d _ .bool e⟩=>bif I9 st1.e&&Nat.blt j i&&Nat.ble (i+m) l.length&&((l.drop i).take m).all (isG j b) then some (V,st1,j,b,dj,e) else none
            | _=>none)
          | none=>none)
        | none=>none)
      | none=>none)
    | none=>none)
  | none=>none) else none
def D0O(n:Nat)(Γ:m9)(T:List Ct)(l:List Oper)(i m:Nat)(keep:List Nat)(st2:St):Option (Prop×St) :=
 bif k0b (Z9 (l.take (i+m))) st2.e&&I3 n (i+m) (Z9 (l.take (i+m))) (l.drop (i+m)) then(match goV Γ T l (l.drop (i+m)) st2 [] with
  | some (W,st3,_)=>some (W,cut keep st3)
  | none=>none) else none
def D0M(n:Nat)(Γ:m9)(T:List Ct)(l:List Oper)(i m:Nat)(keep:List Nat)(st1:St):Option (Prop×St) :=
 bif I3 n 0 (Z9 (l.take i)) (((l.drop i).take m).map ung) then(match goV Γ T l (((l.drop i).take m).map ung) st1 [] with
  | some (W,st2,_)=>(match D0O n Γ T l i m keep st2 with
    | some (W2,st3)=>some (W/\W2,st3)
    | none=>none)
  | none=>none) else none
def D0N(n:Nat)(Γ:m9)(T:List Ct)(l:List Oper)(i m:Nat)(keep:List Nat)(dm:List (Nat×AV))(dj:Nat)(b:Bool)(st1:St):Option (Prop×St) :=
 bif o0v n (Z9 (l.take i)) (((l.drop i).take m).map ung) dm then D0O n Γ T l i m keep ⟨t0Y dj b dm st1.e,st1.o⟩ else none
def V3(dj:Nat)(e:Bool)(st:St):St:=⟨(dj,⟨[],.d false .bool e⟩) :: st.e,st.o⟩
theorem zG{P:Program}{n:Nat}{y:World×(Nat->Prop)×(Nat->Prop)×Option (Nat×Value)×Nat}{st:St}{Q:Exit->Act->World->Prop}{Γ:m9}{T:List Ct}{ρ:Type}{r:ρ}(hΓ:x6 P Γ)(hT:∀c∈T,Ok P c)
  (i m:Nat) (keep:List Nat) (dm:List (Nat×AV)) (st1:St) (j:Nat) (b:Bool) (dj:Nat) (ST SF:St) (WT WF:Prop) {V:Prop} [Decidable V] {e:Bool} {A B:Option ρ} {id:Nat} {l:List Oper} (H:gd V (if e=true then A else B)=some r)
  (h1:G0z n Γ T l i m st=some (V,st1,j,b,dj,e)) (hA:(bif b then D0M n Γ T l i m keep (V3 dj true st1) else D0N n Γ T l i m keep dm dj b (V3 dj true st1))=some (WT,ST)) (hB:(bif b then D0N n Γ T l i m keep dm dj b (V3 dj false st1) else D0M n Γ T l i m keep (V3 dj false st1))=some (WF,SF))
  (kA:A=some r->WT/\FX (cx P n y) ST .normal Q) (kB:B=some r->WF/\FX (cx P n y) SF .normal Q):VX (cx P n y) st (.region id l.toArray false) Q:=by
 obtain⟨hV,H0⟩:=J5 H;clear H;unfold G0z at h1;rw[ce] at h1;split at h1
 ·rename_i hb;rw[ba] at hb;split at h1
  ·rename_i V1 st1' rs1 g1;split at h1
   ·rename_i o hn;split at h1
    ·rename_i j' b' hgo;split at h1
     ·rename_i oj hj;split at h1
      ·rename_i dj' hdj;split at h1
       ·rename_i f e' hsl;rw[ce] at h1;split at h1
        ·rename_i hc;simp only[ba] at hc;obtain⟨⟨⟨hp1,hji⟩,him⟩,hall⟩:=hc;simp only[oi,pj] at h1;obtain⟨rfl,rfl,rfl,rfl,rfl,rfl⟩:=h1;have hji:j'<i:=by simpa using hji
         have him:i+m<=l.length:=Nat.le_of_ble_eq_true him;rw[List.all_eq_true] at hall;intro G a S ho hE;have hreg0:=hb.1;have el:l=l.take i++((l.drop i).take m++l.drop (i+m)):=by
          rw[<- List.drop_drop,List.take_append_drop,List.take_append_drop]
         have hti:(l.take i).length=i:=by rw[List.length_take]; omega
         have hblk:(l.drop i).take m=(((l.drop i).take m).map ung).map (grd j' b'):=by
          rw[List.map_map]
          conv=>lhs; rw[<- List.map_id ((l.drop i).take m)]
          exact List.map_congr_left fun o ho=>(z0w (hall o ho)).symm
         refine wp_region_lit ?_;have hr1:=hreg0;rw[el] at hr1;obtain⟨k1,-⟩:=d0j hr1;obtain⟨recs,e1,e2,e3⟩:=Z4 (V2 (K:=fun st' _=>st'=st1') g1 hV rfl);have hlen:recs.length=i:=by rw[<- hti,<- e1,List.length_map]
         have hdjs:dj'∈Z9 (l.take i):=by
          refine j0F (o:=oj) ?_ hdj;rw[List.mem_iff_getElem?];exact⟨j',by rw[List.getElem?_take_of_lt hji]; exact f0g hj⟩
         -- what is behind the guarded ones
         have tail:∀(st2:St) (W:Prop) (st3:St) (G2:Gh) (a2:Act),D0O n Γ T l i m keep st2=some (W,st3)->W/\FX (cx P n y) st3 .normal Q->Sat (cx P n y) G2->G2.o=st2.o->EnvR n G2 st2.e a2->wpList P l.toArray Q (l.drop (i+m)) a2 G2.w:=by
          intro st2 W st3 G2 a2 h2 hk S2 ho2 hE2;unfold D0O at h2;rw[ce] at h2;split at h2
          ·rename_i hcc;rw[ba] at hcc;split at h2
           ·rename_i W' st3' rs3 g3;simp only[oi,pj] at h2;obtain⟨rfl,rfl⟩:=h2;obtain⟨recs2,f1,f2,f3⟩:=Z4 (V2 (K:=fun st' _=>st'=st3') g3 hk.1 rfl);have:=c0B (X:=cx P n y) hΓ hT (ops:=l.toArray) (all:=l) rfl (Q:=Q) (rest:=[]) recs2 (i+m) _ st2 G2 a2 (fun q hq=>by
              rw[<- List.getElem?_map,f1,List.getElem?_drop]) (by rw[f1]; exact hcc.2) (fun q oq dq hq q1 q2=>by
              refine j0F (o:=oq) ?_ q2;rw[List.mem_iff_getElem?];exact⟨q,by rw[List.getElem?_take_of_lt hq]; exact q1⟩) (m0R hcc.1) f2 S2 ho2 hE2
             (fun G3 a3 S3 ho3 hE3=>by
               rw[f3] at ho3 hE3;obtain⟨G4,S4,ho4,hw4,hE4⟩:=h0B keep S3 ho3 hE3;have:=hk.2 G4 a3 S4 ho4 hE4
               rwa [hw4] at this)
            rwa [f1,List.append_nil] at this
           ·cases h2
          ·cases h2
         have:=c0B (X:=cx P n y) hΓ hT (ops:=l.toArray) (all:=l) rfl (Q:=Q) (rest:=(l.drop i).take m++l.drop (i+m)) recs 0 [] st G a (fun q hq=>by
           rw[Nat.zero_add,<- List.getElem?_map,e1,List.getElem?_take_of_lt (by omega)]) (by rw[e1]; exact k1) (fun q oq dq hq=>by omega) (fun t s ht x hx=>by rw[Z7 hb.2 t s ht] at hx; cases hx) e2 S ho hE
          (fun G1 a1 S1 ho1 hE1=>by
            rw[e3] at ho1 hE1;have hsl1:=(hE1.val dj' _ hsl).1 (fun _ h=>by cases h)
            -- the guard's value in the state
            have hset:∀v,e'=v->EnvR n G1 (V3 dj' v st1').e a1:=fun v hv=>by
             refine⟨hE1.defers,hE1.size,fun t s ht=>?_⟩;simp only[V3] at ht;rw[lK] at ht;split at ht
             ·rename_i hd;cases ht;subst hd;subst hv;refine⟨fun _=>?_,fun h=>(h (fun _ h=>by cases h)).elim⟩;have:=b0x hsl1;show RT _ _ _ _ _;rw[this];exact rfl
             ·exact hE1.val t s ht
            have hsb:∀v,lku (V3 dj' v st1').e dj'=some ⟨[],.d false .bool v⟩:=fun v=>by
             simp only[V3]; rw[lK,if_pos rfl]
            have hpl1:∀v t s,lku (V3 dj' v st1').e t=some s->∀x∈s.p,x.1∈Z9 (l.take i):=fun v t s ht x hx=>by
             simp only[V3] at ht;rw[lK] at ht;split at ht
             ·cases ht; cases hx
             ·rw[Z7 hp1 t s ht] at hx; cases hx
            have runT:∀(v:Bool) (W:Prop) (S3:St),e'=v->v=b'->D0M n Γ T l i m keep (V3 dj' v st1')=some (W,S3)->W/\FX (cx P n y) S3 .normal Q->wpList P l.toArray Q ((l.drop i).take m++l.drop (i+m)) a1 G1.w:=by
             intro v W S3 hv hvb h3 hk;unfold D0M at h3;rw[ce] at h3;split at h3
             ·rename_i hrg;split at h3
              ·rename_i W1 st2 rs2 g2;split at h3
               ·rename_i W2 st3 g3;simp only[oi,pj] at h3;obtain⟨rfl,rfl⟩:=h3;obtain⟨recs2,f1,f2,f3⟩:=Z4 (V2 (K:=fun st' _=>st'=st2) g2 hk.1.1 rfl);have:=n0E (X:=cx P n y) hΓ hT (ops:=l.toArray) (all:=l) rfl (Q:=Q) (rest:=l.drop (i+m)) (b:=b') (f:=false) hj hdj recs2 0 (Z9 (l.take i)) (V3 dj' v st1') G1 a1 (fun R hR=>by
                  have:R.o∈((l.drop i).take m).map ung:=by rw[<- f1]; exact List.mem_map_of_mem hR
                  obtain⟨o',_,e⟩:=List.mem_map.1 this;rw[<- e]; rfl) (by rw[f1]; exact hrg) hdjs (hpl1 v) (by rw[<- hvb]; exact hsb v) f2 S1 ho1 (hset v hv)
                 (fun G2 a2 S2 ho2 hE2=>by
                   rw[f3] at ho2 hE2;exact tail st2 W2 _ G2 a2 g3 ⟨hk.1.2,hk.2⟩ S2 ho2 hE2)
                have em:List.map (fun R:Rec=>grd j' b' R.o) recs2=(l.drop i).take m:=by
                 rw[hblk,<- f1,List.map_map];rfl
                rw[em] at this;exact this
               ·cases h3
              ·cases h3
             ·cases h3
            have runF:∀(v:Bool) (W:Prop) (S3:St),e'=v->v=!b'->D0N n Γ T l i m keep dm dj' b' (V3 dj' v st1')=some (W,S3)->W/\FX (cx P n y) S3 .normal Q->wpList P l.toArray Q ((l.drop i).take m++l.drop (i+m)) a1 G1.w:=by
             intro v W S3 hv hvb h3 hk;unfold D0N at h3;rw[ce] at h3;split at h3
             ·rename_i hds;have:=k0F (X:=cx P n y) (ops:=l.toArray) (all:=l) rfl (Q:=Q) (rest:=l.drop (i+m)) (b:=b') (f:=false) hj hdj (((l.drop i).take m).map ung) dm (Z9 (l.take i)) (V3 dj' v st1').e G1 a1 hds hdjs (hpl1 v) (by rw[<- hvb]; exact hsb v) (hset v hv)
               (fun a2 hE2=>tail ⟨t0Y dj' b' dm (V3 dj' v st1').e,st1'.o⟩ W S3 G1 a2 h3 hk S1 ho1 hE2)
              rw[<- hblk] at this;exact this
             ·cases h3
            cases e' with
            | true =>
              rw[if_pos rfl] at H0;cases b' with
              | true=>exact runT true WT ST rfl rfl hA (kA H0)
              | false=>exact runF true WT ST rfl rfl hA (kA H0)
            | false =>
              rw[if_neg (by simp)] at H0;cases b' with
              | true=>exact runF false WF SF rfl rfl hB (kB H0)
              | false=>exact runT false WF SF rfl rfl hB (kB H0))
         rw[e1] at this
         rwa [<- el] at this
        ·cases h1
       ·cases h1
      ·cases h1
     ·cases h1
    ·cases h1
   ·cases h1
  ·cases h1
 ·cases h1
def fzL:List Nat->St->Option St
 | [],st=>some st
 | i :: r,st=>bif Nat.blt i 500000 then(match fzS i st with
   | some st'=>fzL r st'
   | none=>none) else none
theorem s0n{X:Cx}{a:Act}:∀{ids:List Nat} {st st':St} {G:Gh},fzL ids st=some st'->Sat X G->G.o=st.o->EnvR X.n G st.e a->∃G',Sat X G'/\G'.o=st'.o/\G'.w=G.w/\EnvR X.n G' st'.e a
 | [],st,st',G,h,S,ho,hE=>by
   simp only[fzL,oi] at h;subst h;exact⟨G,S,ho,rfl,hE⟩
 | i :: r,st,st',G,h,S,ho,hE=>by
   unfold fzL at h;rw[ce] at h;split at h
   ·rename_i hi;split at h
    ·rename_i st2 h2;obtain⟨G2,S2,ho2,hw2,hE2⟩:=z0x h2 hi S ho hE;obtain⟨G3,S3,ho3,hw3,hE3⟩:=s0n h S2 ho2 hE2;exact⟨G3,S3,ho3,hw3.trans hw2,hE3⟩
    ·cases h
   ·cases h
def evF(n:Nat)(Γ:m9)(T:List Ct)(l:List Oper)(i:Nat)(ids keep:List Nat)(st:St):Option (Prop×St) :=
 bif I3 n 0 [] l&&I9 st.e&&Nat.ble i l.length&&I3 n i (Z9 (l.take i)) (l.drop i) then(match goV Γ T l (l.take i) st [] with
  | some (V,st1,_)=>(match fzL ids st1 with
    | some st2=>bif I9 st2.e then(match goV Γ T l (l.drop i) st2 [] with
      | some (W,st3,_)=>some (V/\W,cut keep st3)
      | none=>none) else none
    | none=>none)
  | none=>none) else none
theorem zF{P:Program}{n:Nat}{y:World×(Nat->Prop)×(Nat->Prop)×Option (Nat×Value)×Nat}{st:St}{Q:Exit->Act->World->Prop}{Γ:m9}{T:List Ct}{ρ:Type}{r:ρ}(hΓ:x6 P Γ)(hT:∀c∈T,Ok P c)(i:Nat)(ids keep:List Nat)(S':St){V:Prop}[Decidable V]{e:Option ρ}{id:Nat}{l:List Oper}(H:gd V e=some r)
  (h:evF n Γ T l i ids keep st=some (V,S')) (hc:e=some r->FX (cx P n y) S' .normal Q):VX (cx P n y) st (.region id l.toArray false) Q:=by
 obtain⟨hV,H⟩:=J5 H;have hc:=hc H;unfold evF at h;rw[ce] at h;split at h
 ·rename_i hb;simp only[ba] at hb;obtain⟨⟨⟨hb1,hb2⟩,hb3⟩,hb4⟩:=hb;split at h
  ·rename_i V1 st1 rs1 g1;split at h
   ·rename_i st2 g2;rw[ce] at h;split at h
    ·rename_i hp2;split at h
     ·rename_i W st3 rs3 g3;simp only[oi,pj] at h;obtain⟨rfl,rfl⟩:=h;intro G a S ho hE;have hi:i<=l.length:=Nat.le_of_ble_eq_true hb3;have hti:(l.take i).length=i:=by rw[List.length_take]; omega
      refine wp_region_lit ?_;have hr1:=hb1;rw[<- List.take_append_drop i l] at hr1;obtain⟨k1,-⟩:=d0j hr1;obtain⟨recs,e1,e2,e3⟩:=Z4 (V2 (K:=fun st' _=>st'=st1) g1 hV.1 rfl);have hlen:recs.length=i:=by rw[<- hti,<- e1,List.length_map]
      have:=c0B (X:=cx P n y) hΓ hT (ops:=l.toArray) (all:=l) rfl (Q:=Q) (rest:=l.drop i) recs 0 [] st G a (fun q hq=>by
        rw[Nat.zero_add,<- List.getElem?_map,e1,List.getElem?_take_of_lt (by omega)]) (by rw[e1]; exact k1) (fun q oq dq hq=>by omega) (fun t s ht x hx=>by rw[Z7 hb2 t s ht] at hx; cases hx) e2 S ho hE
       (fun G1 a1 S1 ho1 hE1=>by
         rw[e3] at ho1 hE1;obtain⟨G2,S2,ho2,hw2,hE2⟩:=s0n g2 S1 ho1 hE1;rw[<- hw2];obtain⟨recs2,f1,f2,f3⟩:=Z4 (V2 (K:=fun st' _=>st'=st3) g3 hV.2 rfl);have:=c0B (X:=cx P n y) hΓ hT (ops:=l.toArray) (all:=l) rfl (Q:=Q) (rest:=[]) recs2 i _ st2 G2 a1 (fun q hq=>by
           rw[<- List.getElem?_map,f1,List.getElem?_drop]) (by rw[f1]; exact hb4) (fun q oq dq hq q1 q2=>by
           refine j0F (o:=oq) ?_ q2;rw[List.mem_iff_getElem?];exact⟨q,by rw[List.getElem?_take_of_lt hq]; exact q1⟩) (fun t s ht x hx=>by rw[Z7 hp2 t s ht] at hx; cases hx) f2 S2 ho2 hE2
          (fun G3 a3 S3 ho3 hE3=>by
            rw[f3] at ho3 hE3;obtain⟨G4,S4,ho4,hw4,hE4⟩:=h0B keep S3 ho3 hE3;have:=hc G4 a3 S4 ho4 hE4
            rwa [hw4] at this)
         rwa [f1,List.append_nil] at this)
      rw[e1] at this
      rwa [List.take_append_drop] at this
     ·cases h
    ·cases h
   ·cases h
  ·cases h
 ·cases h
def G0A(n:Nat)(Γ:m9)(T:List Ct)(l:List Oper)(i:Nat)(ids keep:List Nat)(st:St):Option (Prop×St) :=
 bif I3 n 0 [] l&&Z6 0 l&&I9 st.e&&Nat.beq (i+1) l.length then(match goV Γ T l (l.take i) st [] with
  | some (V,st1,rs1)=>bif z0M (I5 [] l) rs1.reverse&&(List.range i).all fun k=>inL k ((B5 (I5 [] l) i).getD []) then(match B5 l i with
    | some o=>(match o.dst,o.guard,fzL ids st1 with
      | none,none,some st2=>(match goV Γ T l [o] st2 [] with
        | some (W,st3,_)=>some (V/\W,cut keep st3)
        | none=>none)
      | _,_,_=>none)
    | none=>none) else none
  | none=>none) else none
theorem zFD{P:Program}{n:Nat}{y:World×(Nat->Prop)×(Nat->Prop)×Option (Nat×Value)×Nat}{st:St}{Q:Exit->Act->World->Prop}{Γ:m9}{T:List Ct}{ρ:Type}{r:ρ}(hΓ:x6 P Γ)(hT:∀c∈T,Ok P c)[hm:K1 P](i:Nat)(ids keep:List Nat)(S':St){V:Prop}[Decidable V]{e:Option ρ}{id:Nat}{l:List Oper}(H:gd V e=some r)
  (h:G0A n Γ T l i ids keep st=some (V,S')) (hc:e=some r->FX (cx P n y) S' .normal Q):VX (cx P n y) st (.region id l.toArray true) Q:=by
 obtain⟨hV,H⟩:=J5 H;have hc:=hc H;unfold G0A at h;rw[ce] at h;split at h
 ·rename_i hb;simp only[ba] at hb;obtain⟨⟨⟨hb1,hb2⟩,hb3⟩,hb4⟩:=hb;have hil:i+1=l.length:=nb hb4;split at h
  ·rename_i V1 st1 rs1 g1;rw[ce] at h;split at h
   ·rename_i hck;rw[ba,List.all_eq_true] at hck;split at h
    ·rename_i o hn;split at h
     ·rename_i st2 hdst hgu hfz;split at h
      ·rename_i W st3 rs3 g3;simp only[oi,pj] at h;obtain⟨rfl,rfl⟩:=h;intro G a S' ho hE;obtain⟨el,hlt,htl⟩:=j0l hn;have hdr:l.drop (i+1)=[]:=List.drop_eq_nil_of_le (by omega);rw[hdr] at el;obtain⟨recs,e1,e2,e3,e4⟩:=Z4 (V2 (K:=fun st' rs=>st'=st1/\rs=rs1) g1 hV.1 ⟨rfl,rfl⟩);rw[List.append_nil] at e4;have hlen:recs.length=i:=by rw[<- htl,<- e1,List.length_map]
       obtain⟨recs3,f1,f2,f3⟩:=Z4 (V2 (K:=fun st' _=>st'=st3) g3 hV.2 rfl);obtain⟨R,rfl⟩:∃R,recs3=[R]:=by
        have hl3:recs3.length=1:=by rw[<- List.length_map (f:=fun R:Rec=>R.o),f1]; rfl
        exact List.length_eq_one_iff.1 hl3
       simp only[List.map_cons,List.map_nil,List.cons.injEq,and_true] at f1;subst f1;obtain⟨q1,⟨q,q2,q3⟩,q4,_⟩:=f2;refine wp_region_any hm.h ?_;have hext:Ext G.w { G.w with drawn:=G.w.drawn+1 }:=(Below.refl _ _).drew;obtain⟨S1,L1⟩:=S'.ext hext;have hst0:∀{recs:List Rec} {i:Nat} {st:St},stD (fun k=>(Array.replicate l.length false).getD k false) i recs st=st:=by
        have hall:∀j,(Array.replicate l.length false).getD j false=false:=fun j=>by
         by_cases hj:j<l.length <;> simp[hj]
        intro recs
        induction recs with
        | nil=>intro i st; rfl
        | cons R r ih=>intro i st; simp only[stD,hall i,Bool.false_eq_true,if_false]; exact ih
       have:=l0t (X:=cx P n y) hΓ hT (Q:=Q) (l:=l) (recs:=recs) (ol:=R.o) (st:=st) (by rw[e1]; exact el.symm) e2 (Z7 hb3) hb1 hb2 (by rw[<- List.reverse_reverse recs,e4]; exact hck.1) (fun k hk=>by rw[hlen] at hk ⊢; exact hck.2 k (List.mem_range.2 hk)) (fun G' a' S2 ho' hE' K hK=>by
         rw[e3] at ho' hE';obtain⟨G2,S3,ho3,hw3,hE3⟩:=s0n hfz S2 ho' hE';rw[<- hw3];refine r0C (X:=cx P n y) (K:=K) hΓ hT (ops:=l.toArray) (all:=l) rfl (Q:=Q) S3 ho3 hE3 q1 q2 q3 q4 (fun d hd=>by rw[hdst] at hd; cases hd) fun a3 G3 S4 _ ho4 hE4=>hK _ _ ?_;have f3:B7 st2 R=st3:=f3;have ho4:G3.o=st3.o:=by rw[<- f3]; exact ho4
         have hE4:EnvR n G3 st3.e a3:=by rw[<- f3]; exact hE4
         obtain⟨G5,S5,ho5,hw5,hE5⟩:=h0B keep S4 ho4 hE4;have:=hc G5 a3 S5 ho5 hE5
         rwa [hw5] at this) l.length (Array.replicate l.length false) { G with w:={ G.w with drawn:=G.w.drawn+1 } } a
        (by refine Nat.le_trans (List.length_filter_le _ _) ?_; simp) (by simp) (by rw[hlen]; simp[show i<l.length by omega]) (fun j o _ hD=>by
          by_cases hj:j<l.length
          ·simp[hj] at hD
          ·simp[hj] at hD) S1 (fun id=>by rw[hst0]; simp only[ho]) (by rw[hst0]; exact hE.mono L1)
       simpa using this
      ·cases h
     ·cases h
    ·cases h
   ·cases h
  ·cases h
 ·cases h
end Go.Proofs.Xv
end
