/- Marks: trees of memory of which the scalars alone change. Over any program. -/
import Derived.Test.YtechodbafnmddaaGreatDoorXD
import Derived.Test.YtechodbafnmddaaGreatDoorXA
set_option maxHeartbeats 0
section
namespace Go.Proofs.Xv
open Go Go.RowKit Go.Proofs.Sv
def sca(u v:Value):Prop:=(∃k x y,u=.int k x/\v=.int k y/\lo k<=y/\y<=hi k)∨(∃x y,u=.bool x/\v=.bool y)∨∃x y,u=.string x/\v=.string y/\y.size<=9223372036854775807
def alk(u v:Value):Prop:=v=u∨sca u v
theorem alk.sca{u v x:Value}(h:alk u v)(k:Xv.sca u x):Xv.sca v x:=by
 rcases h with rfl | ⟨a,b,c,rfl,rfl,_⟩ | ⟨b,c,rfl,rfl⟩ | ⟨b,c,rfl,rfl,_⟩
 ·exact k
 ·rcases k with ⟨g,d,f,e,rfl,k⟩ | ⟨d,f,e,_⟩ | ⟨d,f,e,_⟩
  ·cases e; exact .inl ⟨_,_,_,rfl,rfl,k⟩
  ·cases e
  grind
 ·rcases k with ⟨g,d,f,e,_⟩ | ⟨d,f,e,rfl⟩ | ⟨d,f,e,_⟩
  ·cases e
  ·exact .inr (.inl ⟨_,_,rfl,rfl⟩)
  grind
 ·rcases k with ⟨g,d,f,e,_⟩ | ⟨d,f,e,_⟩ | ⟨d,f,e,rfl,k⟩
  ·cases e
  ·cases e
  ·exact .inr (.inr ⟨_,_,rfl,rfl,k⟩)
theorem alk.trans{u v x:Value}(h:alk u v)(k:alk v x):alk u x:=by
 rcases k with rfl | k
 ·exact h
 ·rcases h with rfl | h
  ·exact .inr k
  ·refine .inr ?_;rcases h with ⟨a,b,c,rfl,rfl,_⟩ | ⟨b,c,rfl,rfl⟩ | ⟨b,c,rfl,rfl,_⟩
   ·rcases k with ⟨g,d,f,e,rfl,k⟩ | ⟨d,f,e,_⟩ | ⟨d,f,e,_⟩
    ·cases e; exact .inl ⟨_,_,_,rfl,rfl,k⟩
    ·cases e
    grind
   ·rcases k with ⟨g,d,f,e,_⟩ | ⟨d,f,e,rfl⟩ | ⟨d,f,e,_⟩
    ·cases e
    ·exact .inr (.inl ⟨_,_,rfl,rfl⟩)
    grind
   ·rcases k with ⟨g,d,f,e,_⟩ | ⟨d,f,e,_⟩ | ⟨d,f,e,rfl,k⟩
    ·cases e
    ·cases e
    ·exact .inr (.inr ⟨_,_,rfl,rfl,k⟩)
theorem o0q{p:Option Addr}{n c:Nat}{v:Value}(h:alk (.slice p n c) v):v=.slice p n c:=by
 rcases h with h | ⟨_,_,_,e,_⟩ | ⟨_,_,e,_⟩ | ⟨_,_,e,_⟩
 ·exact h
 ·cases e
 ·cases e
 grind
def Alks:List Value->List Value->Prop
 | [],[]=>True
 | u :: r,v :: s=>alk u v/\Alks r s
 | _,_=>False
theorem Alks.refl:∀l:List Value,Alks l l
 | []=>trivial
 | _ :: r=>⟨.inl rfl,Alks.refl r⟩
theorem Alks.split{d:List Value}:∀{c l:List Value},Alks (c++d) l->∃c' d',l=c'++d'/\Alks c c'/\Alks d d'
 | [],l,h=>⟨[],l,rfl,trivial,h⟩
 | u :: r,[],h=>h.elim
 | u :: r,v :: s,⟨h1,h2⟩=>by
   obtain⟨c',d',e,b,a⟩:=Alks.split h2;exact⟨v :: c',d',by grind,⟨h1,b⟩,a⟩
structure WM(F:Nat->Prop)(w w':World):Prop where
 os:w'.os=w.os
 tape:w'.tape=w.tape
 output:w'.output=w.output
 size:w.heap.size<=w'.heap.size
 block:∀k,k<w.heap.size->¬F k->w'.heap[k]?=w.heap[k]?
 cell:∀k i u,F k->w.cell? ⟨k,i,none⟩=some u->∃v,w'.cell? ⟨k,i,none⟩=some v/\alk u v
 uf:∀k,F k->UF w k->UF w' k
theorem WM.refl(F:Nat->Prop)(w:World):WM F w w:=⟨rfl,rfl,rfl,Nat.le_refl _,fun _ _ _=>rfl,fun _ _ u _ h=>⟨u,h,.inl rfl⟩,fun _ _ h=>h⟩
theorem WM.trans{F:Nat->Prop}{a b c:World}(h:WM F a b)(k:WM F b c):WM F a c :=
 ⟨k.os.trans h.os,k.tape.trans h.tape,k.output.trans h.output,Nat.le_trans h.size k.size,fun i e hi=>(k.block i (Nat.lt_of_lt_of_le e h.size) hi).trans (h.block i e hi),fun i j u hi d=>by
   obtain⟨v,f,g⟩:=h.cell i j u hi d;obtain⟨x,l,m⟩:=k.cell i j v hi f;exact⟨x,l,g.trans m⟩,fun i hi d=>k.uf i hi (h.uf i hi d)⟩
theorem E0P{w:World}{b i:Nat}{u:Value}(h:w.cell? ⟨b,i,none⟩=some u):b<w.heap.size:=by
 unfold World.cell? at h
 grind
theorem WM.of_ext{F:Nat->Prop}{w w':World}(h:Ext w w'):WM F w w' :=
 ⟨h.os,h.tape,h.output,h.size,fun k b _=>h.block k b,fun k _ u _ a=>⟨u,(World.cell?_of_block (h.block k (E0P a))).trans a,.inl rfl⟩,fun k _ a=>a.same (h.block k a.lt)⟩
theorem WM.up{F b:Nat->Prop}{w w':World}(h:WM F w w')(k:∀i,F i->b i)(c:∀i,b i->¬F i->i<w.heap.size):WM b w w' :=
 ⟨h.os,h.tape,h.output,h.size,fun i hi d=>h.block i hi (fun e=>d (k i e)),fun i j u hi a=>by
   by_cases e:F i
   ·exact h.cell i j u e a
   ·exact⟨u,(World.cell?_of_block (h.block i (c i hi e) e)).trans a,.inl rfl⟩,fun i hi a=>by
   by_cases e:F i
   ·exact h.uf i e a
   ·exact a.same (h.block i (c i hi e) e)⟩
theorem C0D{F:Nat->Prop}{w w':World}(h:WM F w w'){b:Nat}(c:F b):∀{ds:List Value} {o:Nat},At w b o ds->∃ds',At w' b o ds'/\Alks ds ds'
 | [],o,_=>⟨[],(fun i u j=>by grind),trivial⟩
 | u :: r,o,hat=>by
   obtain⟨v,g,d⟩:=h.cell b (o+0) u c (hat 0 u rfl);obtain⟨ds',e,f⟩:=C0D h c (o:=o+1) (ds:=r) (fun i x a=>by
    have:=hat (i+1) x a
    rwa [show o+(i+1)=o+1+i by omega] at this)
   refine⟨v :: ds',fun i x a=>?_,d,f⟩;cases i with
   | zero =>
     grind
   | succ i =>
     have:=e i x a
     rwa [show o+1+i=o+(i+1) by omega] at this
def SH(F:Nat->Prop)(w:World):(t:Ty)->List Value->c7 t->Prop
 | .int k,cs,_=>∃y,cs=[.int k y]/\lo k<=y/\y<=hi k
 | .bool,cs,_=>∃y,cs=[.bool y]
 | .str,cs,_=>∃y,cs=[.string y]/\y.size<=9223372036854775807
 | .sl e,cs,xs=>∃p cap,cs=[.slice p xs.length cap]/\xs.length<=cap/\cap<=9223372036854775807 /\
    (xs=[]∨∃b o ds,p=some ⟨b,o,none⟩/\F b/\UF w b/\At w b o ds/\AllR (SH F w e) ds xs)
 | .pt _,_,_=>False
 | .pr a b,cs,x=>∃c d,cs=c++d/\SH F w a c x.1/\SH F w b d x.2
def Lq:Ty->Bool
 | .pt _=>false
 | .sl e=>Lq e
 | .pr a b=>Lq a&&Lq b
 | _=>true
theorem SH.of{K F:Nat->Prop}{w:World}(f:∀k,K k->F k/\UF w k):∀{t:Ty} {cs:List Value} {x:c7 t},Lq t=true->RT K w t cs x->SH F w t cs x
 | .int _,_,x,_,h=>⟨x,h.1,h.2⟩
 | .bool,_,x,_,h=>⟨x,h⟩
 | .str,_,x,_,h=>⟨x,h.1,h.2⟩
 | .sl e,_,xs,hn,⟨p,cap,h1,h2,h3,g⟩=>by
   refine⟨p,cap,h1,h2,h3,?_⟩;rcases g with g | ⟨b,o,ds,hp,hb,hat,hall⟩
   ·grind
   ·exact .inr ⟨b,o,ds,hp,(f b hb).1,(f b hb).2,hat,hall.mapR (fun c x h=>SH.of (t:=e) f hn h)⟩
 | .pr a b,_,x,hn,⟨c,d,h,h1,h2⟩=>by
   simp only[Lq,ba] at hn;exact⟨c,d,h,SH.of f hn.1 h1,SH.of f hn.2 h2⟩
theorem SH.len{F:Nat->Prop}{w:World}:∀{t:Ty} {cs:List Value} {x:c7 t},SH F w t cs x->cs.length=sz t
 | .int _,_,_,⟨_,h,_⟩=>by rw[h]; rfl
 | .bool,_,_,⟨_,h⟩=>by rw[h]; rfl
 | .str,_,_,⟨_,h,_⟩=>by rw[h]; rfl
 | .sl _,_,_,⟨_,_,h,_⟩=>by rw[h]; rfl
 | .pr a b,_,_,⟨c,d,h,h1,h2⟩=>by rw[h,List.length_append,SH.len h1,SH.len h2]; rfl
theorem AllR.alks{b:Type}{R R':List Value->b->Prop}(f:∀c c' x,R c x->Alks c c'->R' c' x){cs a:List Value}{xs:List b}(h:AllR R cs xs)(k:Alks cs a):AllR R' a xs:=by
 induction xs generalizing cs a with
 | nil =>
   rw[show cs=[] from h] at k
   match a,k with
   | [],_=>exact(show([]:List Value)=[] from rfl)
 | cons x r n =>
   obtain⟨c,d,e,g,l⟩:=h;subst e;obtain⟨c',m,e,i,j⟩:=k.split;exact⟨c',m,e,f _ _ _ g i,n l j⟩
theorem Tw{u:Value}{cs:List Value}(h:Alks [u] cs):∃v,cs=[v]/\alk u v:=by
 cases cs with
 | nil=>exact h.elim
 | cons v r =>
   cases r with
   | nil=>exact⟨v,rfl,h.1⟩
   | cons _ _=>exact h.2.elim
theorem SH.alks{F:Nat->Prop}{w w':World}(f:WM F w w'):∀{t:Ty} {cs cs':List Value} {x:c7 t},SH F w t cs x->Alks cs cs'->SH F w' t cs' x
 | .int k,_,_,_,⟨y,h,h1⟩,ha=>by
   subst h;obtain⟨v,rfl,h⟩:=Tw ha;rcases h with rfl | ⟨_,_,z,e,rfl,h⟩ | ⟨_,_,e,_⟩ | ⟨_,_,e,_⟩
   ·exact⟨y,rfl,h1⟩
   ·cases e; exact⟨z,rfl,h⟩
   ·cases e
   grind
 | .bool,_,_,_,⟨y,h⟩,ha=>by
   subst h;obtain⟨v,rfl,h⟩:=Tw ha;rcases h with rfl | ⟨_,_,z,e,_⟩ | ⟨_,z,e,rfl⟩ | ⟨_,_,e,_⟩
   ·exact⟨y,rfl⟩
   ·cases e
   ·exact⟨z,rfl⟩
   grind
 | .str,_,_,_,⟨y,h,h1⟩,ha=>by
   subst h;obtain⟨v,rfl,h⟩:=Tw ha;rcases h with rfl | ⟨_,_,z,e,_⟩ | ⟨_,z,e,_⟩ | ⟨_,z,e,rfl,h⟩
   ·exact⟨y,rfl,h1⟩
   ·cases e
   ·cases e
   ·exact⟨z,rfl,h⟩
 | .sl e,_,_,xs,⟨p,cap,h1,h2,h3,j⟩,ha=>by
   subst h1;obtain⟨v,rfl,h⟩:=Tw ha;have h:=o0q h;subst h;refine⟨p,cap,rfl,h2,h3,?_⟩;rcases j with j | ⟨b,o,ds,hp,hb,hu,hat,hall⟩
   ·grind
   ·obtain⟨g,u,l⟩:=C0D f hb hat;exact .inr ⟨b,o,g,hp,hb,f.uf b hb hu,u,AllR.alks (R:=SH F w e) (R':=SH F w' e) (fun c i x r n=>SH.alks (t:=e) f r n) hall l⟩
 | .pr a b,_,cs',x,⟨c,d,h,h1,h2⟩,ha=>by
   subst h;obtain⟨i,s,e,m,q⟩:=ha.split;exact⟨i,s,e,SH.alks f h1 m,SH.alks f h2 q⟩
theorem SH.wm{F:Nat->Prop}{w w':World}{t:Ty}{cs:List Value}{x:c7 t}(h:SH F w t cs x)(a:WM F w w'):SH F w' t cs x:=h.alks a (Alks.refl cs)
theorem SH.get{F:Nat->Prop}{w:World}{e:Ty}{p:Option Addr}{n a:Nat}{xs:List (c7 e)}(h:SH F w (.sl e) [.slice p n a] xs){i:Nat}(hi:i<xs.length) :
  n=xs.length/\∃b o c,p=some ⟨b,o,none⟩/\F b/\UF w b/\At w b (o+i*sz e) c/\SH F w e c xs[i]:=by
 obtain⟨s,j,d,q,r,f⟩:=h;simp only[List.cons.injEq,Value.slice.injEq,and_true] at d;obtain⟨rfl,rfl,rfl⟩:=d;refine⟨rfl,?_⟩;rcases f with f | ⟨b,o,ds,hp,hb,hu,hat,hall⟩
 ·grind
 ·obtain⟨k,c,g,rfl,l,m⟩:=hall.get (fun c x h=>SH.len h) hi;refine⟨b,o,c,hp,hb,hu,?_,m⟩;rw[<- l]; exact hat.mid
def l8:(t:Ty)->c7 t->Nat
 | .int _,_=>1
 | .bool,_=>1
 | .str,_=>1
 | .sl e,xs=>(xs.map (l8 e)).sum
 | .pt _,_=>0
 | .pr a b,x=>l8 a x.1+l8 b x.2
def A8(e:Ty)(xs:List (c7 e))(i:Nat):Nat:=((xs.take i).map (l8 e)).sum
theorem Dt(e:Ty)(xs:List (c7 e)):A8 e xs 0=0:=by grind[A8]
theorem CG{e:Ty}{xs:List (c7 e)}{i:Nat}(h:i<xs.length):A8 e xs (i+1)=A8 e xs i+l8 e xs[i]:=by
 grind[A8,List.take_succ_eq_append_getElem,List.sum_append_nat]
theorem CF(e:Ty)(xs:List (c7 e)):A8 e xs xs.length=l8 (.sl e) xs:=by
 unfold A8;rw[List.take_length];rfl
theorem N4(e:Ty)(xs:List (c7 e)):∀i,i<=xs.length->A8 e xs i<=l8 (.sl e) xs:=by
 intro i hi;have a:∀m,i+m<=xs.length->A8 e xs i<=A8 e xs (i+m):=by
  intro m
  induction m with
  | zero=>grind
  | succ m b =>
    grind[CG,Nat.add_assoc]
 have:=a (xs.length-i) (by omega);rw[show i+(xs.length-i)=xs.length by omega,CF] at this;omega
section
variable {P:Program} {n:Nat} {e:y9} {w w0:World} {Q:Exit->Act->World->Prop} {ops:Array Oper} {rest:List Oper} {d:Nat} {ty:TypeId} {pos:String} {after:Array Edge} {F:Nat->Prop}
theorem F0E{b o:Nat}{u f:Value}{a:Array Value}{T:TypeId}(n:F b)(l:w.heap[b]?=some (.cells a T (0,0)))(j:w.cell? ⟨b,o,none⟩=some f)(x:alk f u):WM F w (w.setRow b (r8 a.toList o [u]).toArray):=by
 have m:=setRow_heap w b a (r8 a.toList o [u]).toArray T (0,0) l;have s:a[o]?=some f:=by
  unfold World.cell? at j;rw[show(⟨b,o,none⟩:Addr).block=b from rfl,l] at j;simpa using j
 have t:o<a.size:=by
  rcases Nat.lt_or_ge o a.size with h | h
  ·exact h
  ·grind
 refine⟨rfl,rfl,rfl,by simp_all,fun k _ g=>Fz w b k _ (fun e=>g (e ▸ n)),fun k i v g d=>?_,fun k g ⟨c,q,h⟩=>?_⟩
 ·by_cases e:k=b
  ·subst e;unfold World.cell? at d ⊢;rw[show(⟨k,i,none⟩:Addr).block=k from rfl,l] at d;rw[show(⟨k,i,none⟩:Addr).block=k from rfl,m];have d:a[i]?=some v:=by simpa using d
   have r:i<a.size:=by
    rcases Nat.lt_or_ge i a.size with h | h
    ·exact h
    ·grind
   by_cases y:i=o
   ·grind[r8,Nat.min_eq_left,Nat.le_of_lt]
   ·refine⟨v,?_,.inl rfl⟩
    grind[r8]
  ·refine⟨v,?_,.inl rfl⟩
   grind[World.cell?_of_block,Fz]
 ·by_cases e:k=b
  ·subst e; exact⟨_,_,m⟩
  ·exact⟨c,q,(Fz w b k _ (fun h=>e h)).trans h⟩
theorem YE{T y:Nat}{z u f:Value}{x v:Operand}{b o:Nat}[Info P T 1 y z](E:Sv.ev e x=some (.pointer (some ⟨b,o,none⟩)))(hv:Sv.ev e v=some u)(W:u.cells.toList=[u])(X:ones [u]=true)(l:WM F w0 w)(i:F b)(G:UF w0 b)(V:w0.cell? ⟨b,o,none⟩=some f)(t:sca f u)
  (k:∀w',WM F w0 w'->VO P n ops rest e w' Q):VO P n ops (⟨none,.store T x v,ty,pos,after,none⟩ :: rest) e w Q:=by
 obtain⟨d,H,r⟩:=l.uf b i G;obtain⟨u1,c,q⟩:=l.cell b o f i V;have j:o<d.size:=by
  unfold World.cell? at c;rw[show(⟨b,o,none⟩:Addr).block=b from rfl,r] at c;have c:d[o]?=some u1:=by simpa using c
  rcases Nat.lt_or_ge o d.size with h | h
  ·exact h
  ·grind
 have m:Blk w b d.toList H:=by unfold Blk; simpa using r
 refine RW (w':=w.setRow b (r8 d.toList o [u]).toArray) ?_ (k _ (l.trans (F0E i r c (.inr (q.sca t)))));intro a Y pos after g s;simp only[execOp,s.ev E,s.ev hv];simp[Instr.storeAt,Instr.sureAddr,GQ (P:=P) (T:=T) W rfl X m (by rw[List.length_singleton,Array.length_toList]; exact j),Result.andThen]
theorem x0u{T:TypeId}{x:Operand}{b o:Nat}{p:Option Addr}{m c:Nat}[K9 P T](j:Sv.ev e x=some (.pointer (some ⟨b,o,none⟩)))(f:WM F w0 w)(a:F b)(g:w0.cell? ⟨b,o,none⟩=some (.slice p m c))(l:Nat.blt d n=true)
  (h:VO P n ops rest ((d,.slice p m c) :: e) w Q):VO P n ops (⟨some d,.load T x,ty,pos,after,none⟩ :: rest) e w Q:=by
 obtain⟨v,i,k⟩:=f.cell b o _ a g
 grind[o0q,C0I]
theorem C0J{T E s y:Nat}{z:Value}{x ix:Operand}{b o a c k:Nat}[I6 P T E][Info P E s y z](g:Sv.ev e x=some (.slice (some ⟨b,o,none⟩) a c))(hi:Sv.ev e ix=some (.int .i64 (k:Int)))(f:k<a)(i:Nat.blt d n=true)
  (h:VO P n ops rest ((d,.pointer (some ⟨b,o+k*s,none⟩)) :: e) w Q):VO P n ops (⟨some d,.indexAddr T x ix,ty,pos,after,none⟩ :: rest) e w Q :=
 F5 _ (OM g hi f) i h
end
theorem Ib{F:Nat->Prop}{w w':World}{b:Nat}{cs:List Value}{T:TypeId}(h:Blk w b cs T)(k:WM F w w')(c:¬F b):Blk w' b cs T:=by
 unfold Blk at h ⊢;rcases Nat.lt_or_ge b w.heap.size with a | a
 ·exact(k.block b a c).trans h
 grind
def CE(P:Program)(f:Nat)(t:Ty):Prop:=∀(F:Nat->Prop) (w:World) (u:Value) (x:c7 t) (k:Int),(∀i,F i->i<w.heap.size)->SH F w t [u] x->0<=k->k+(l8 t x:Int)<=9223372036854775807 ->
 Calls P f #[u,.int .i64 k] w fun en w'=>en=.returned (.int .i64 (k+(l8 t x:Int)))/\WM F w w'
def Rg(P:Program)(f:Nat)(t:Ty):Prop:=∀(F:Nat->Prop) (w:World) (cs:List Value) (x:c7 t) (k:Int),(∀i,F i->i<w.heap.size)->SH F w t cs x->0<=k->k+(l8 t x:Int)<=9223372036854775807 ->
 Calls P f #[.agg cs.toArray,.int .i64 k] w fun en w'=>en=.returned (.int .i64 (k+(l8 t x:Int)))/\WM F w w'
end Go.Proofs.Xv
end
section
namespace Go.Proofs.Xv
open Go Go.RowKit Go.Proofs.Sv Go.Proofs.Xl
structure WO(F:Nat->Prop)(w w':World):Prop where
 os:w'.os=w.os
 tape:w'.tape=w.tape
 output:w'.output=w.output
 size:w.heap.size<=w'.heap.size
 block:∀k,k<w.heap.size->¬F k->w'.heap[k]?=w.heap[k]?
theorem WM.wo{F:Nat->Prop}{w w':World}(h:WM F w w'):WO F w w':=⟨h.os,h.tape,h.output,h.size,h.block⟩
theorem WO.refl(F:Nat->Prop)(w:World):WO F w w:=⟨rfl,rfl,rfl,Nat.le_refl _,fun _ _ _=>rfl⟩
theorem WO.trans{F:Nat->Prop}{a b c:World}(h:WO F a b)(k:WO F b c):WO F a c :=
 ⟨k.os.trans h.os,k.tape.trans h.tape,k.output.trans h.output,Nat.le_trans h.size k.size,fun i d hi=>(k.block i (Nat.lt_of_lt_of_le d h.size) hi).trans (h.block i d hi)⟩
theorem WO.up{F a:Nat->Prop}{w w':World}(h:WO F w w')(k:∀i,F i->a i):WO a w w' :=
 ⟨h.os,h.tape,h.output,h.size,fun i hi b=>h.block i hi (fun e=>b (k i e))⟩
theorem WO.ext{F:Nat->Prop}{a w w':World}(h:WO F w w')(k:Ext a w)(b:∀i,F i->a.heap.size<=i):Ext a w' :=
 ⟨h.os.trans k.os,h.tape.trans k.tape,h.output.trans k.output,Nat.le_trans k.size h.size,fun i hi=>(h.block i (Nat.lt_of_lt_of_le hi k.size) (fun e=>by grind)).trans (k.block i hi)⟩
def Fa(p:Prop)(n m:Nat)(w:World)(t:Ty)(cs:List Value)(x:c7 t):Prop:=RT (fun k=>n<=k/\k<m/\(p->UF w k)) w t cs x
section
variable {p:Prop} {n m:Nat} {w w':World} {t:Ty} {cs:List Value} {x:c7 t} {F:Nat->Prop}
theorem Fa.ext(h:Fa p n m w t cs x)(k:Ext w w'):Fa p n m w' t cs x :=
 RT.same (fun i hi a=>⟨⟨hi.1,hi.2.1,fun b=>(hi.2.2 b).same (k.block i a)⟩,k.block i a⟩) h
theorem Fa.wo(h:Fa p n m w t cs x)(k:WO F w w')(a:∀i,n<=i->i<m->¬F i):Fa p n m w' t cs x :=
 RT.same (fun i hi b=>⟨⟨hi.1,hi.2.1,fun c=>(hi.2.2 c).same (k.block i b (a i hi.1 hi.2.1))⟩,k.block i b (a i hi.1 hi.2.1)⟩) h
theorem Fa.arg(h:Fa p n m w t cs x):RT (fun k=>k<w.heap.size) w t cs x:=RT.same (fun _ _ hi=>⟨hi,rfl⟩) h
theorem Fa.sh(h:Fa True n m w t cs x)(b:Lq t=true):SH (fun k=>n<=k/\k<m) w t cs x:=SH.of (fun _ a=>⟨⟨a.1,a.2.1⟩,a.2.2 trivial⟩) b h
theorem Fa.of{K:Nat->Prop}(h:RT K w t cs x):Fa False 0 w.heap.size w t cs x:=RT.same (fun _ _ hi=>⟨⟨Nat.zero_le _,hi,False.elim⟩,rfl⟩) h
theorem P1{b:Nat}{T:TypeId}(h:Blk w b cs T)(k:WO F w w')(c:¬F b):Blk w' b cs T:=by
 unfold Blk at h ⊢;rcases Nat.lt_or_ge b w.heap.size with a | a
 ·exact(k.block b a c).trans h
 grind
end
class FacT(P:Program):Prop where
 h:∀w,Fac P w
theorem L3{P:Program}{f:FuncId}{ps:List o6}{i:Type}[Inhabited i]{F:A4 ps->Option i}{R:i->AV}{Z:i->F0 ps}(h:Ok P (b9 f ps F R Z))(l:∀r,FK (R r)=true)(_:H8 ps=false){x:A4 ps}{r:i}{w:World}{vs:List Value}
  (m:F x=some r) (s:ArgsR (fun k=>k<w.heap.size) w none ps x vs) (y:Fac P w:=by exact FacT.h _) :
  Calls P f vs.toArray w fun en w'=>∃v,en=.returned v/\Ext w w'/\ResR (fun fr k=>fr=true->w.heap.size<=k/\k<w'.heap.size/\(True->UF w' k)) w' (frz (R r)) v []:=by
 have z:((b9 f ps F R Z).res x).q:=by show(F x).isSome=true; rw[m]; rfl
 refine Calls.mono (h.2 x z w vs none (fun k=>k<w.heap.size) ⟨fun _ d=>d,w,y,Ext.refl w,fun _ e=>by cases e⟩ s) ?_;rintro en w' ⟨v,n,e,t,E,u,c,G⟩;have c:ResR (fun fr=>IT fr (fun k=>k<w.heap.size) w w' n) w' (R (vl (F x))) v n:=c;have g:=ResR.lt c;rw[m] at c;refine⟨v,e,t.ext,ResR.frz (fun fr k d o=>?_) (l _) (fun b j fr o=>?_) c⟩
 ·subst o;have a:w.heap.size<=k:=by
   rcases d.1 with a | a
   ·grind
   ·exact a
  exact⟨a,d.2.1.1,fun _=>d.2.1.2 a⟩
 ·have a:=(u b j).resolve_right (fun h=>by grind);exact⟨a,(g b j).lt,fun _=>g b j⟩
section
variable {K:Bool->Nat->Prop} {w:World} {v:Value}
theorem I0u{k:IntKind}{fr:Bool}{x:Int}(h:ResR K w (.d fr (.int k) x) v []):v=.int k x:=by
 have h:=h.1.1;simpa using h
theorem u0W{fr:Bool}{x:Bool}(h:ResR K w (.d fr .bool x) v []):v=.bool x:=by
 have h:[v]=[.bool x]:=h.1;simpa using h
theorem O4{t:Ty}{fr:Bool}{x:c7 t}(h:ResR K w (.d fr t x) v []):RT (K fr) w t [v] x:=h.1
theorem Du{a:AV}{l:List AV}{us:List Value}(h:ResRs K w (a :: l) us []):∃u us',us=u :: us'/\ResR K w a u []/\ResRs K w l us' []:=by
 obtain⟨u,us',c,g,rfl,e,d,f⟩:=h;cases c with
 | nil=>grind
 | cons a b=>grind
end
def AG:Int->Nat->List Value
 | _,0=>[]
 | k,m+1=>.int .i64 k :: AG (k+1) m
theorem r0b:∀(m:Nat) (k:Int),AG k (m+1)=AG k m++[.int .i64 (k+(m:Int))]
 | 0,k=>by simp[AG]
 | m+1,k=>by
   rw[AG,r0b m (k+1),AG,List.cons_append,show k+1+(m:Int)=k+((m+1:Nat):Int) by omega]
theorem v0u:∀(m:Nat) (k:Int),(AG k m).length=m
 | 0,_=>rfl
 | m+1,k=>by rw[AG,List.length_cons,v0u m]
theorem D0I{l:List Value}{p:Nat}{u:Value}(a:p<l.length)(i:Nat):(r8 l p [u])[i]?=if i=p then some u else l[i]?:=by
 grind[r8]
theorem E0a{u v:Value}{a b:List Value}{i:Nat}(h:i≠a.length):(a++v :: b)[i]?=(a++u :: b)[i]?:=by
 grind
theorem C0C{w:World}{b o:Nat}{v u:Value}{c k:List Value}{a:Array Value}{T:TypeId}(m:w.heap[b]?=some (.cells a T (0,0)))(h:At w b o (c++v :: k)) :
  o+c.length<a.size/\At (w.setRow b (r8 a.toList (o+c.length) [u]).toArray) b o (c++u :: k):=by
 have l:∀i x,w.cell? ⟨b,i,none⟩=some x->a.toList[i]?=some x:=by
  intro i x d;unfold World.cell? at d;rw[show(⟨b,i,none⟩:Addr).block=b from rfl,m] at d;simpa using d
 have g:o+c.length<a.size:=by
  have j:=l _ _ (h c.length v (by grind));rcases Nat.lt_or_ge (o+c.length) a.size with f | f
  ·exact f
  ·rw[List.getElem?_eq_none (by simpa using f)] at j; cases j
 refine⟨g,fun i x d=>?_⟩;have q:=setRow_heap w b a (r8 a.toList (o+c.length) [u]).toArray T (0,0) m;have n:(r8 a.toList (o+c.length) [u])[o+i]?=some x:=by
  rw[D0I (by omega)];by_cases e:i=c.length
  ·grind
  ·rw[if_neg (by omega)];rw[<- E0a (v:=v) e] at d;exact l _ _ (h i x d)
 unfold World.cell?
 grind
section
variable {P:Program} {n:Nat} {e:y9} {w:World} {Q:Exit->Act->World->Prop} {ops:Array Oper} {rest:List Oper} {d:Nat} {ty:TypeId} {pos:String} {after:Array Edge}
theorem m0q{T y:Nat}{W:Value}{x v:Operand}{b o a j:Nat}{z k:Int}{ds:List Value}[Info P T 1 y W](H:Sv.ev e x=some (.pointer (some ⟨b,a,none⟩)))(G:Sv.ev e v=some (.int .i64 z))(s:a=o+j)(hz:z=k+(j:Int))(E:j<ds.length)(d:At w b o (AG k j++ds.drop j))(t:UF w b)
  (F:∀w',WO (fun i=>i=b) w w'->(∀i,UF w i->UF w' i)->At w' b o (AG k (j+1)++ds.drop (j+1))->VO P n ops rest e w' Q):VO P n ops (⟨none,.store T x v,ty,pos,after,none⟩ :: rest) e w Q:=by
 obtain⟨c,m,h⟩:=t;rw[List.drop_eq_getElem_cons E] at d;obtain⟨l,X⟩:=C0C (u:=.int .i64 z) h d;rw[v0u] at l X;have f:Blk w b c.toList m:=by unfold Blk; simpa using h
 have V:=setRow_heap w b c (r8 c.toList (o+j) [.int .i64 z]).toArray m (0,0) h;refine RW (w':=w.setRow b (r8 c.toList (o+j) [.int .i64 z]).toArray) ?_ (F _ ⟨rfl,rfl,rfl,by simp_all,fun i _ hi=>Fz w b i _ hi⟩ (fun i hi=>?_) ?_)
 ·intro Y r pos after g q;simp only[execOp,q.ev H,q.ev G];subst s;simp[Instr.storeAt,Instr.sureAddr,GQ (P:=P) (T:=T) (show(Value.int .i64 z).cells.toList=[.int .i64 z] from rfl) rfl (show ones [Value.int .i64 z]=true from rfl) f (by rw[List.length_singleton,Array.length_toList]; exact l),Result.andThen]
 ·by_cases e:i=b
  ·subst e; exact⟨_,_,V⟩
  ·exact hi.same (Fz w b i _ e)
 grind[r0b,List.append_assoc,List.singleton_append]
theorem VB{T E s y:Nat}{z:Value}{x ix:Operand}{b o a c k:Nat}[I6 P T E][Info P E s y z](g:Sv.ev e x=some (.slice (some ⟨b,o,none⟩) a c))(hi:Sv.ev e ix=some (.int .i64 (k:Int)))(f:k<a)(i:Nat.blt d n=true)
  (h:VO P n ops rest ((d,.pointer (some ⟨b,o+k*s,none⟩)) :: e) w Q):VO P n ops (⟨some d,.indexAddr T x ix,ty,pos,after,none⟩ :: rest) e w Q :=
 F5 _ (OM g hi f) i h
end
theorem RT.row{K:Nat->Prop}{w:World}{e:Ty}{u:Value}{xs:List (c7 e)}(h:RT K w (.sl e) [u] xs) :
  ∃p cap,u=.slice p xs.length cap/\∃b o ds,(0<xs.length->p=some ⟨b,o,none⟩/\K b)/\At w b o ds/\ds.length=xs.length*sz e /\
   ∀w' xs',xs'.length=xs.length->∀ds',At w' b o ds'->AllR (RT K w' e) ds' xs'->RT K w' (.sl e) [u] xs':=by
 obtain⟨p,cap,a,k,j,f⟩:=h;simp only[List.cons.injEq,and_true] at a;subst a;refine⟨p,cap,rfl,?_⟩;rcases f with f | ⟨b,o,ds,hp,hb,hat,hall⟩
 ·subst f;refine⟨0,0,[],fun h=>by grind,fun i u l=>by grind,by simp,fun w' xs' d ds' _ _=>?_⟩;have:xs'=[]:=List.eq_nil_of_length_eq_zero d;subst this;exact⟨p,cap,rfl,k,j,.inl rfl⟩
 ·exact⟨b,o,ds,fun _=>⟨hp,hb⟩,hat,hall.len (fun c x h=>RT.len h),fun w' xs' d ds' a g=>⟨p,cap,by rw[d],by omega,j,.inr ⟨b,o,ds',hp,hb,a,g⟩⟩⟩
def MkE(P:Program)(f:Nat)(t:Ty)(n:Nat)(mk:Int->Nat->List (c7 t)):Prop:=∀(K:Nat->Prop) (w:World) (u:Value) (xs:List (c7 t)) (k:Int),(∀i,K i->UF w i)->RT K w (.sl t) [u] xs->0<=k->k+((n*xs.length:Nat):Int)<=9223372036854775807 ->
 Calls P f #[u,.int .i64 k] w fun en w'=>en=.returned (.int .i64 (k+((n*xs.length:Nat):Int)))/\WO K w w'/\(∀i,UF w i->UF w' i)/\RT K w' (.sl t) [u] (mk k xs.length)
theorem Y2{b:Nat}{w w':World}(h:Wr b w w'):WO (fun i=>i=b) w w':=⟨h.os,h.tape,h.output,by rw[h.size]; exact Nat.le_refl _,fun k _ a=>h.block k a⟩
theorem I0R{l:List Value}(h:l.length=5):∃a b c d e,l=[a,b,c,d,e]:=by
 match l,h with
 | [a,b,c,d,e],_=>exact⟨a,b,c,d,e,rfl⟩
section
variable {P:Program} {n:Nat} {e:y9} {w:World} {Q:Exit->Act->World->Prop} {ops:Array Oper}
theorem Gu{l:List Oper}{d:Nat}{b:Bool}(a:b=false)(h:VO P n ops l ((d,.bool false) :: e) w Q):VO P n ops l ((d,.bool b) :: e) w Q:=by grind
end
section
variable {P:Program} {n:Nat} {e:y9} {w w0:World} {Q:Exit->Act->World->Prop} {ops:Array Oper} {rest:List Oper} {d:Nat} {ty:TypeId} {pos:String} {after:Array Edge} {F:Nat->Prop}
theorem pu{a:Op}{v:Value}(k:VO P n ops rest ((d,v) :: e) w Q)(h:AM e a=some v:=by rfl)(b:Nat.blt d n=true:=by rfl):VO P n ops (⟨some d,a,ty,pos,after,none⟩ :: rest) e w Q:=F4 h b k
theorem ad{T T':TypeId}{x y:Operand}{a b:Int}(k:VO P n ops rest ((d,.int .i64 (a+b)) :: e) w Q)(f:Sv.ev e x=some (.int .i64 a):=by rfl)(h:Sv.ev e y=some (.int .i64 b):=by rfl)(g:Nat.blt d n=true:=by rfl)(c : -9223372036854775808<=a+b/\a+b<=9223372036854775807:=by omega) :
 VO P n ops (⟨some d,.binOp .add T x y T',ty,pos,after,none⟩ :: rest) e w Q:=F5 _ (Kb f h c) g k
theorem fm{T:TypeId}{x:Operand}{b o f a:Nat}[x8 P T f a](k:VO P n ops rest ((d,.pointer (some ⟨b,o+a,none⟩)) :: e) w Q)(c:Sv.ev e x=some (.pointer (some ⟨b,o,none⟩)):=by rfl)(g:Nat.blt d n=true:=by rfl) :
 VO P n ops (⟨some d,.fieldAddr T x f,ty,pos,after,none⟩ :: rest) e w Q:=VD c g k
theorem im{T E s y:Nat}{z:Value}{x ix:Operand}{b o a c k:Nat}[I6 P T E][Info P E s y z](f:k<a)(h:VO P n ops rest ((d,.pointer (some ⟨b,o+k*s,none⟩)) :: e) w Q)
 (g:Sv.ev e x=some (.slice (some ⟨b,o,none⟩) a c):=by rfl) (hi:Sv.ev e ix=some (.int .i64 (k:Int)):=by rfl) (i:Nat.blt d n=true:=by rfl):VO P n ops (⟨some d,.indexAddr T x ix,ty,pos,after,none⟩ :: rest) e w Q:=C0J g hi f i h
theorem si{T y:Nat}{z:Value}{x v:Operand}{b o:Nat}{u c:Int}[Info P T 1 y z](h:WM F w0 w)(d:F b)(g:UF w0 b)(l:w0.cell? ⟨b,o,none⟩=some (.int .i64 c))
  (k:∀w',WM F w0 w'->VO P n ops rest e w' Q) (j:Sv.ev e x=some (.pointer (some ⟨b,o,none⟩)):=by rfl) (f:Sv.ev e v=some (.int .i64 u):=by rfl) (i : -9223372036854775808<=u:=by omega) (a:u<=9223372036854775807:=by omega):VO P n ops (⟨none,.store T x v,ty,pos,after,none⟩ :: rest) e w Q :=
 YE j f rfl rfl h d g l (.inl ⟨_,_,_,rfl,rfl,i,a⟩) k
theorem ss{T y:Nat}{z:Value}{x v:Operand}{b o:Nat}{u c:ByteArray}[Info P T 1 y z](g:WM F w0 w)(d:F b)(f:UF w0 b)(j:w0.cell? ⟨b,o,none⟩=some (.string c))(h:u.size<=9223372036854775807)
  (k:∀w',WM F w0 w'->VO P n ops rest e w' Q) (i:Sv.ev e x=some (.pointer (some ⟨b,o,none⟩)):=by rfl) (a:Sv.ev e v=some (.string u):=by rfl):VO P n ops (⟨none,.store T x v,ty,pos,after,none⟩ :: rest) e w Q :=
 YE i a rfl rfl g d f j (.inr (.inr ⟨_,_,rfl,rfl,h⟩)) k
theorem sb{T y:Nat}{z:Value}{x v:Operand}{b o:Nat}{u c:Bool}[Info P T 1 y z](g:WM F w0 w)(d:F b)(f:UF w0 b)(i:w0.cell? ⟨b,o,none⟩=some (.bool c))
  (k:∀w',WM F w0 w'->VO P n ops rest e w' Q) (h:Sv.ev e x=some (.pointer (some ⟨b,o,none⟩)):=by rfl) (a:Sv.ev e v=some (.bool u):=by rfl):VO P n ops (⟨none,.store T x v,ty,pos,after,none⟩ :: rest) e w Q :=
 YE h a rfl rfl g d f i (.inr (.inl ⟨_,_,rfl,rfl⟩)) k
theorem lm{T:TypeId}{x:Operand}{b o:Nat}{p:Option Addr}{m c:Nat}[K9 P T](f:WM F w0 w)(a:F b)(i:w0.cell? ⟨b,o,none⟩=some (.slice p m c))(h:VO P n ops rest ((d,.slice p m c) :: e) w Q)
 (g:Sv.ev e x=some (.pointer (some ⟨b,o,none⟩)):=by rfl) (j:Nat.blt d n=true:=by rfl):VO P n ops (⟨some d,.load T x,ty,pos,after,none⟩ :: rest) e w Q:=x0u g f a i j h
theorem mc{f:Nat}{t:Ty}{xs:List Operand}{b:Array TypeId}{u:Value}{x:c7 t}{k:Int}[C7 P f](M:CE P f t)(j:∀i,F i->i<w0.heap.size)(c:WM F w0 w)(q:SH F w0 t [u] x)
  (h:∀w',WM F w0 w'->WM F w w'->VO P n ops rest ((d,.int .i64 (k+(l8 t x:Int))) :: e) w' Q) (m:evl e xs=some [u,.int .i64 k]:=by rfl) (o:Nat.blt d n=true:=by rfl) (l:0<=k:=by omega) (g:k+(l8 t x:Int)<=9223372036854775807:=by omega):VO P n ops (⟨some d,.call ⟨.value (.func f),xs.toArray,b⟩,ty,pos,after,none⟩ :: rest) e w Q:=by
 refine V6 m o (Calls.mono (M F w u x k (fun i hi=>Nat.lt_of_lt_of_le (j i hi) c.size) (q.wm c) l g) ?_);rintro _ w' ⟨rfl,a⟩;exact⟨_,rfl,h w' (c.trans a) a⟩
theorem ma{f:Nat}{t:Ty}{xs:List Operand}{b:Array TypeId}{cs:List Value}{x:c7 t}{k:Int}[C7 P f](M:Rg P f t)(j:∀i,F i->i<w0.heap.size)(c:WM F w0 w)(q:SH F w0 t cs x)
  (h:∀w',WM F w0 w'->WM F w w'->VO P n ops rest ((d,.int .i64 (k+(l8 t x:Int))) :: e) w' Q) (m:evl e xs=some [.agg cs.toArray,.int .i64 k]:=by rfl) (o:Nat.blt d n=true:=by rfl) (l:0<=k:=by omega) (g:k+(l8 t x:Int)<=9223372036854775807:=by omega):VO P n ops (⟨some d,.call ⟨.value (.func f),xs.toArray,b⟩,ty,pos,after,none⟩ :: rest) e w Q:=by
 refine V6 m o (Calls.mono (M F w cs x k (fun i hi=>Nat.lt_of_lt_of_le (j i hi) c.size) (q.wm c) l g) ?_);rintro _ w' ⟨rfl,a⟩;exact⟨_,rfl,h w' (c.trans a) a⟩
def TxC(P:Program)(f:Nat):Prop:=∀(k:Int) (w:World),R9 k->Calls P f #[.int .i64 k] w fun en w'=>∃s,en=.returned (.string s)/\s.size<=9223372036854775807/\Ext w w'
theorem NV{f:Nat}{xs:List Operand}{a:Array TypeId}{k:Int}[C7 P f](M:TxC P f)(g:WM F w0 w)(h:∀w' s,s.size<=9223372036854775807->WM F w0 w'->VO P n ops rest ((d,.string s) :: e) w' Q)
  (i:evl e xs=some [.int .i64 k]:=by rfl) (l:Nat.blt d n=true:=by rfl) (c : -9223372036854775808<=k/\k<=9223372036854775807:=by omega):VO P n ops (⟨some d,.call ⟨.value (.func f),xs.toArray,a⟩,ty,pos,after,none⟩ :: rest) e w Q:=by
 refine V6 i l (Calls.mono (M k w c) ?_);rintro _ w' ⟨s,rfl,b,j⟩;exact⟨_,rfl,h w' s b (g.trans (WM.of_ext j))⟩
theorem ra{id:Nat}{l:List Oper}{c:Code}(h:VO P n l.toArray l e w (Y1 P c Q)):VS P n (.seq (.region id l.toArray false) c) e w Q:=p5 (H4 h)
theorem rb{id:Nat}{l:List Oper}{c:Code}(h:VO P n l.toArray l e w (Y1 P c Q)):VO P n ops [] e w (Y1 P (.seq (.region id l.toArray false) c) Q):=oN (nQ (p5 (H4 h)))
theorem rc{id:Nat}{l:List Oper}(h:VO P n l.toArray l e w Q):VO P n ops [] e w (Y1 P (.region id l.toArray false) Q):=oN (nQ (H4 h))
theorem CH{id k:Nat}{l:List Oper}(h:VO P n l.toArray l e w Q):VO P n ops [] e w (CD k (Y1 P (.region id l.toArray false) Q)):=oN (BL (nQ (H4 h)))
theorem ci{f:FuncId}{ps:List o6}{a:Type}[Inhabited a]{F:A4 ps->Option a}{R:a->AV}{Z:a->F0 ps}{xs:List Operand}{b:Array TypeId}[C7 P f](h:Ok P (b9 f ps F R Z)){x:A4 ps}{r:a}{vs:List Value}{z:Int}{c:IntKind}{fr:Bool}(j:F x=some r)(l:ArgsR (fun k=>k<w.heap.size) w none ps x vs)
  (k:∀w',Ext w w'->VO P n ops rest ((d,.int c z) :: e) w' Q) (m:evl e xs=some vs:=by rfl) (o:Nat.blt d n=true:=by rfl) (i:H8 ps=false:=by rfl) (g:∀r,FK (R r)=true:=by intro _; rfl) (hz:frz (R r)=.d fr (.int c) z:=by rfl) (q:Fac P w:=by exact FacT.h _):VO P n ops (⟨some d,.call ⟨.value (.func f),xs.toArray,b⟩,ty,pos,after,none⟩ :: rest) e w Q:=by
 grind[V6,Calls.mono,L3,I0u]
theorem cb{f:FuncId}{ps:List o6}{a:Type}[Inhabited a]{F:A4 ps->Option a}{R:a->AV}{Z:a->F0 ps}{xs:List Operand}{b:Array TypeId}[C7 P f](h:Ok P (b9 f ps F R Z)){x:A4 ps}{r:a}{vs:List Value}{z:Bool}{fr:Bool}(i:F x=some r)(j:ArgsR (fun k=>k<w.heap.size) w none ps x vs)
  (k:∀w',Ext w w'->VO P n ops rest ((d,.bool z) :: e) w' Q) (l:evl e xs=some vs:=by rfl) (m:Nat.blt d n=true:=by rfl) (g:H8 ps=false:=by rfl) (c:∀r,FK (R r)=true:=by intro _; rfl) (hz:frz (R r)=.d fr .bool z:=by rfl) (o:Fac P w:=by exact FacT.h _):VO P n ops (⟨some d,.call ⟨.value (.func f),xs.toArray,b⟩,ty,pos,after,none⟩ :: rest) e w Q:=by
 grind[V6,Calls.mono,L3,u0W]
end
def S0:Int->Nat->List (Int×Int)
 | _,0=>[]
 | k,m+1=>(k,k+1) :: S0 (k+1+1) m
theorem VE:∀(m:Nat) (k:Int),(S0 k m).length=m
 | 0,_=>rfl
 | m+1,k=>by rw[S0,List.length_cons,VE m]
theorem v0x{K:Nat->Prop}{w:World}:∀(m:Nat) (k:Int),0<=k->k+((2*m:Nat):Int)<=9223372036854775808->AllR (RT K w (.pr (.int .i64) (.int .i64))) (AG k (2*m)) (S0 k m)
 | 0,_,_,_=>rfl
 | m+1,k,h0,h1=>by
   refine⟨[.int .i64 k,.int .i64 (k+1)],AG (k+1+1) (2*m),rfl,?_,v0x m (k+1+1) (by omega) (by omega)⟩;have hi:∀z:Int,0<=z->z<=9223372036854775807->RT K w (.int .i64) [.int .i64 z] z:=fun z a b=>⟨rfl,by show -9223372036854775808<=z; omega,b⟩;exact⟨[_],[_],rfl,hi k h0 (by omega),hi _ (by omega) (by omega)⟩
def AF:Int->Nat->List Value
 | _,0=>[]
 | k,m+1=>.bool (k.tmod 3==0) :: AF (k+1) m
theorem r0c:∀(m:Nat) (k:Int),AF k (m+1)=AF k m++[.bool ((k+(m:Int)).tmod 3==0)]
 | 0,k=>by simp[AF]
 | m+1,k=>by
   rw[AF,r0c m (k+1),AF,List.cons_append,show k+1+(m:Int)=k+((m+1:Nat):Int) by omega]
theorem v0H:∀(m:Nat) (k:Int),(AF k m).length=m
 | 0,_=>rfl
 | m+1,k=>by rw[AF,List.length_cons,v0H m]
def AH:Int->Nat->List Bool
 | _,0=>[]
 | k,m+1=>(k.tmod 3==0) :: AH (k+1) m
theorem VC:∀(m:Nat) (k:Int),(AH k m).length=m
 | 0,_=>rfl
 | m+1,k=>by rw[AH,List.length_cons,VC m]
theorem v0z{K:Nat->Prop}{w:World}:∀(m:Nat) (k:Int),AllR (RT K w .bool) (AF k m) (AH k m)
 | 0,_=>rfl
 | m+1,k=>⟨[.bool (k.tmod 3==0)],AF (k+1) m,rfl,rfl,v0z m (k+1)⟩
section
variable {P:Program} {n:Nat} {e:y9} {w:World} {Q:Exit->Act->World->Prop} {ops:Array Oper} {rest:List Oper} {d:Nat} {ty:TypeId} {pos:String} {after:Array Edge}
theorem t0G{T y:Nat}{X:Value}{x v:Operand}{b o a j:Nat}{z:Bool}{k:Int}{ds:List Value}[Info P T 1 y X](V:Sv.ev e x=some (.pointer (some ⟨b,a,none⟩)))(H:Sv.ev e v=some (.bool z))(t:a=o+j)(hz:z=((k+(j:Int)).tmod 3==0))(F:j<ds.length)(d:At w b o (AF k j++ds.drop j))(E:UF w b)
  (G:∀w',WO (fun i=>i=b) w w'->(∀i,UF w i->UF w' i)->At w' b o (AF k (j+1)++ds.drop (j+1))->VO P n ops rest e w' Q):VO P n ops (⟨none,.store T x v,ty,pos,after,none⟩ :: rest) e w Q:=by
 obtain⟨c,m,h⟩:=E;rw[List.drop_eq_getElem_cons F] at d;obtain⟨l,r⟩:=C0C (u:=.bool z) h d;rw[v0H] at l r;have f:Blk w b c.toList m:=by unfold Blk; simpa using h
 have W:=setRow_heap w b c (r8 c.toList (o+j) [.bool z]).toArray m (0,0) h;refine RW (w':=w.setRow b (r8 c.toList (o+j) [.bool z]).toArray) ?_ (G _ ⟨rfl,rfl,rfl,by simp_all,fun i _ hi=>Fz w b i _ hi⟩ (fun i hi=>?_) ?_)
 ·intro Y s pos after g q;simp only[execOp,q.ev V,q.ev H];subst t;simp[Instr.storeAt,Instr.sureAddr,GQ (P:=P) (T:=T) (show(Value.bool z).cells.toList=[.bool z] from rfl) rfl (show ones [Value.bool z]=true from rfl) f (by rw[List.length_singleton,Array.length_toList]; exact l),Result.andThen]
 ·by_cases e:i=b
  ·subst e; exact⟨_,_,W⟩
  ·exact hi.same (Fz w b i _ e)
 rw[r0c,<- hz,List.append_assoc,List.singleton_append];exact r
end
section
variable {P:Program} {n:Nat} {e:y9} {w w0:World} {Q:Exit->Act->World->Prop} {l:List Oper} {fuel:Nat} {listed:Array Bool} {d:Nat} {ty:TypeId} {pos:String} {after:Array Edge}
theorem VF{ops:Array Oper}(R:World->y9->y9->Prop)(h:(∀w' e',R w' e' e->J0 n .normal e' w' Q)->VH P n ops w0 fuel listed e w Q)(a:∀w' e',R w' e' e->J0 n .normal e' w' Q):VH P n ops w0 fuel listed e w Q:=h a
theorem Ai{i:Nat}{T:TypeId}{s y:Nat}{z:Value}{cs:List Value}[f:Info P T s y z](hi:BZ l i=some ⟨some d,.alloc T,ty,pos,after,none⟩)(h:z.cells.toList=cs)(q:Nat.blt d n=true)
  (k:∀b w',OL w b w'->Blk w' b cs T->VH P n l.toArray w0 fuel (listed.setIfInBounds i true) ((d,.pointer (some ⟨b,0,none⟩)) :: e) w' Q):IL P n l w0 fuel listed e w Q i:=by
 subst h;obtain⟨m,c,r,u,o⟩:=f.get;refine C0K (v:=.pointer (some ⟨w.heap.size,0,none⟩)) (w':=w.alloc (.cells z.cells T)) hi ?_ q (k _ _ (IJ _ _) (IK _ _ _));intro a j pos after g t;have hz:=II w c o;simp only[execOp,Instr.alloc,Sem.run_bind,hz,Result.andThen];rfl
theorem Aj{i:Nat}{T T' s y:Nat}{z:Value}{x v:Operand}{b o:Nat}{cs vs:List Value}{u:Value}[Info P T s y z](hi:BZ l i=some ⟨none,.store T x v,ty,pos,after,none⟩)(q:Sv.ev e x=some (.pointer (some ⟨b,o,none⟩)))(m:Sv.ev e v=some u)(g:Blk w b cs T')
  (E:u.cells.toList=vs) (t:Z3 vs s=true) (j:ones vs=true) (r:Nat.ble (o+s) cs.length=true)
  (k:∀w',Wr b w w'->Blk w' b (r8 cs o vs) T'->Ext w0 w'/\VH P n l.toArray w0 fuel (listed.setIfInBounds i true) e w' Q):IL P n l w0 fuel listed e w Q i:=by
 have c:=Q6 t;intro a d;unfold wpOp;simp only[OP hi,Region.wanted,if_true,Oper.wp];have f:=GQ (P:=P) (T:=T) (o:=o) E c j g (by rw[c]; exact Nat.le_of_ble_eq_true r);have:(execOp a.eval ⟨none,.store T x v,ty,pos,after,none⟩).run P w=.ok .skip (w.setRow b (r8 cs o vs).toArray):=by
  simp only[execOp,d.ev q,d.ev m];simp[Instr.storeAt,Instr.sureAddr,f,Result.andThen]
 have h:=k _ (KG w b _) (setRow_heap w b cs.toArray _ T' (0,0) g);rw[this];exact .inl ⟨h.1,h.2.2 _ (d.put_none _)⟩
end
def U0O(P:Program)(f:Nat):Prop:=∀(K:Nat->Prop) (w:World) (u:Value) (xs:List Bool) (k:Int),(∀i,K i->UF w i)->RT K w (.sl .bool) [u] xs->0<=k->k+(xs.length:Int)<=9223372036854775807 ->
 Calls P f #[u,.int .i64 k] w fun en w'=>en=.returned (.int .i64 (k+(xs.length:Int)))/\WO K w w'/\(∀i,UF w i->UF w' i)/\RT K w' (.sl .bool) [u] (AH k xs.length)
theorem Ag{P:Program}{f:FuncId}{ps:List o6}{c:Type}[Inhabited c]{F:A4 ps->Option c}{R:c->AV}{Z:c->F0 ps}(h:Ok P (b9 f ps F R Z))(d:∀r,DQ (R r)=true)(s:H8 ps=false){x:A4 ps}{r:c}{w:World}{vs:List Value}
  (l:F x=some r) (n:ArgsR (fun k=>k<w.heap.size) w none ps x vs) (z:Fac P w:=by exact FacT.h _) :
  Calls P f vs.toArray w fun en w'=>∃v gs,en=.returned v/\Ext w w'/\Cb gs/\(∀b,some b∈gs->w.heap.size<=b/\UF w' b)/\ResR (fun _ _=>False) w' (R r) v gs:=by
 have E:((b9 f ps F R Z).res x).q:=by show(F x).isSome=true; rw[l]; rfl
 refine Calls.mono (h.2 x E w vs none (fun k=>k<w.heap.size) ⟨fun _ o=>o,w,z,Ext.refl w,fun _ e=>by cases e⟩ n) ?_;rintro en w' ⟨v,gs,e,y,t,i,a,G⟩;have a:ResR (fun u=>IT u (fun k=>k<w.heap.size) w w' gs) w' (R (vl (F x))) v gs:=a;have g:=ResR.lt a;rw[l] at a;exact⟨v,gs,e,y.ext,t,fun b j=>⟨(i b j).resolve_right (fun h=>by have m:H8 ps=true:=h.1; rw[s] at m; cases m),g b j⟩,ResR.kf (d _) a⟩
def Ap3(n m:Nat)(w:World)(t1 t2 t3:Ty)(cs:List Value)(x:List (c7 t1)×List (c7 t2)×List (c7 t3)):Prop :=
 ∃u1 u2 u3,cs=[u1,u2,u3]/\∃g1 g2 g3:Option Nat,(∀k,(g1=some k∨g2=some k∨g3=some k)->n<=k/\k<m/\UF w k)/\(∀k,g1=some k->g2≠some k/\g3≠some k)/\(∀k,g2=some k->g3≠some k) /\
  RT (fun k=>g1=some k) w (.sl t1) [u1] x.1/\RT (fun k=>g2=some k) w (.sl t2) [u2] x.2.1/\RT (fun k=>g3=some k) w (.sl t3) [u3] x.2.2
section
variable {n m:Nat} {w w':World} {t1 t2 t3:Ty} {cs:List Value} {x:List (c7 t1)×List (c7 t2)×List (c7 t3)} {F:Nat->Prop}
theorem Ap3.fa(h:Ap3 n m w t1 t2 t3 cs x):Fa True n m w (.pr (.sl t1) (.pr (.sl t2) (.sl t3))) cs x:=by
 obtain⟨f,c,u3,rfl,l,i,d,a,_,_,j,o,g⟩:=h;have up:∀k,(l=some k∨i=some k∨d=some k)->n<=k/\k<m/\(True->UF w k):=fun k b=>⟨(a k b).1,(a k b).2.1,fun _=>(a k b).2.2⟩;exact⟨[f],[c,u3],rfl,RT.up j fun k e=>up k (.inl e),[c],[u3],rfl,RT.up o fun k e=>up k (.inr (.inl e)),RT.up g fun k e=>up k (.inr (.inr e))⟩
theorem Ap3.wo(h:Ap3 n m w t1 t2 t3 cs x)(k:WO F w w')(l:∀i,n<=i->i<m->¬F i):Ap3 n m w' t1 t2 t3 cs x:=by
 obtain⟨q,s,u3,rfl,j,g,f,c,v,o,t,u,r⟩:=h;have d:∀i,(j=some i∨g=some i∨f=some i)->i<w.heap.size->w'.heap[i]?=w.heap[i]?:=fun i a b=>k.block i b (l i (c i a).1 (c i a).2.1);exact⟨q,s,u3,rfl,j,g,f,fun i a=>⟨(c i a).1,(c i a).2.1,(c i a).2.2.same (d i a (c i a).2.2.lt)⟩,v,o,RT.same (fun i e b=>⟨e,d i (.inl e) b⟩) t,RT.same (fun i e b=>⟨e,d i (.inr (.inl e)) b⟩) u,RT.same (fun i e b=>⟨e,d i (.inr (.inr e)) b⟩) r⟩
theorem Ap3.ext(h:Ap3 n m w t1 t2 t3 cs x)(k:Ext w w'):Ap3 n m w' t1 t2 t3 cs x :=
 h.wo (F:=fun _=>False) ⟨k.os,k.tape,k.output,k.size,fun i hi _=>k.block i hi⟩ (fun _ _ _ h=>h)
theorem Ap3.arg(h:Ap3 n m w t1 t2 t3 cs x):RT (fun k=>k<w.heap.size) w (.pr (.sl t1) (.pr (.sl t2) (.sl t3))) cs x:=h.fa.arg
end
theorem Ah{w:World}{n:Nat}{T1 T2 V:TypeId}{H f2 Q f4:Bool}{t1 t2 t3:Ty}{l:List (c7 t1)×List (c7 t2)×List (c7 t3)}{c:Int}{v:Value}{j:List (Option Nat)}
  (h:ResR (fun _ _=>False) w (.tup [.agg [.ow T1 H t1 l.1,.ow T2 f2 t2 l.2.1,.ow V Q t3 l.2.2],.d f4 (.int .i64) c]) v j) (t:Cb j) (i:∀b,some b∈j->n<=b/\UF w b) :
  ∃u1 u2 u3,v=.tuple #[.agg #[u1,u2,u3],.int .i64 c]/\Ap3 n w.heap.size w t1 t2 t3 [u1,u2,u3] l:=by
 obtain⟨us,rfl,u,W,ga,gb,rfl,rfl,⟨ws,rfl,Y⟩,u2,P,gc,z,rfl,rfl,X,rfl,rfl⟩:=h;obtain⟨q,aA,k1,k2,rfl,rfl,⟨y,c1,rfl,o1,p1,F⟩,o,T,k3,k4,rfl,rfl,⟨m,c2,rfl,o2,p2,E⟩,r,G,k5,k6,rfl,rfl,⟨f,c3,rfl,o3,p3,q3⟩,rfl,rfl⟩:=Y;obtain⟨⟨s,_⟩,rfl⟩:=X;simp only[List.cons.injEq,and_true] at s;subst s;refine⟨q,o,r,rfl,q,o,r,rfl,y,m,f,fun k a=>?_,fun k a=>?_,fun k a=>?_,?_,?_,?_⟩
 ·have g:some k∈[y]++([m]++([f]++[]))++([]++[]):=by
   rcases a with rfl | rfl | rfl <;> simp
  exact⟨(i k g).1,(i k g).2.lt,(i k g).2⟩
 ·have:some k ∉ [m,f]:=t.1 k a;exact⟨fun e=>this (by rw[e]; simp),fun e=>this (by rw[e]; simp)⟩
 ·have:some k ∉ [f]:=t.2.1 k a;exact fun e=>this (by rw[e]; simp)
 ·exact Jl p1 (F.mapR fun c x h=>RT.up h fun _ e=>e.elim) fun b e=>e
 ·exact Jl p2 (E.mapR fun c x h=>RT.up h fun _ e=>e.elim) fun b e=>e
 ·exact Jl p3 (q3.mapR fun c x h=>RT.up h fun _ e=>e.elim) fun b e=>e
def MkT(P:Program)(f:Nat):Prop:=∀(n m:Nat) (w:World) (cs:List Value) (x:List Bool×List (Int×Int)×List (Int×Int)) (k:Int),Ap3 n m w .bool (.pr (.int .i64) (.int .i64)) (.pr (.int .i64) (.int .i64)) cs x->0<=k->k+((x.1.length+2*x.2.1.length+2*x.2.2.length:Nat):Int)<=9223372036854775807 ->
 Calls P f #[.agg cs.toArray,.int .i64 k] w fun en w'=>en=.returned (.int .i64 (k+((x.1.length+2*x.2.1.length+2*x.2.2.length:Nat):Int)))/\WO (fun i=>n<=i/\i<m) w w' /\
  Ap3 n m w' .bool (.pr (.int .i64) (.int .i64)) (.pr (.int .i64) (.int .i64)) cs (AH k x.1.length,S0 (k+(x.1.length:Int)) x.2.1.length,S0 (k+((x.1.length+2*x.2.1.length:Nat):Int)) x.2.2.length)
end Go.Proofs.Xv
end
