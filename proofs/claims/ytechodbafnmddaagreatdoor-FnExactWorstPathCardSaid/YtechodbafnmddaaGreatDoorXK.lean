/- Marks: trees of memory of which the scalars alone change. Over any program. -/
import Derived.Test.YtechodbafnmddaaGreatDoorXD
import Derived.Test.YtechodbafnmddaaGreatDoorXA
set_option maxHeartbeats 0
section
namespace Go.Proofs.Xv
open Go Go.RowKit Go.Proofs.Sv
def sca(u v:Value):Prop:=(∃k x y,u=.int k x/\v=.int k y/\lo k<=y/\y<=hi k)∨(∃x y,u=.bool x/\v=.bool y)∨∃x y,u=.string x/\v=.string y/\y.size<=9223372036854775807
def alk(u v:Value):Prop:=v=u∨sca u v
theorem alk.sca{u v x:Value}(h:alk u v)(k:Xv.sca u x):Xv.sca v x:=by
 rcases h with rfl | ⟨a,b,c,rfl,rfl,_⟩ | ⟨b,c,rfl,rfl⟩ | ⟨b,c,rfl,rfl,_⟩
 ·exact k
 ·rcases k with ⟨g,f,d,e,rfl,k⟩ | ⟨f,d,e,_⟩ | ⟨f,d,e,_⟩
  ·cases e; exact .inl ⟨_,_,_,rfl,rfl,k⟩
  ·cases e
  grind
 ·rcases k with ⟨g,f,d,e,_⟩ | ⟨f,d,e,rfl⟩ | ⟨f,d,e,_⟩
  ·cases e
  ·exact .inr (.inl ⟨_,_,rfl,rfl⟩)
  grind
 ·rcases k with ⟨g,f,d,e,_⟩ | ⟨f,d,e,_⟩ | ⟨f,d,e,rfl,k⟩
  ·cases e
  ·cases e
  ·exact .inr (.inr ⟨_,_,rfl,rfl,k⟩)
theorem alk.trans{u v x:Value}(h:alk u v)(k:alk v x):alk u x:=by
 rcases k with rfl | k
 ·exact h
 ·rcases h with rfl | h
  ·exact .inr k
  ·refine .inr ?_;rcases h with ⟨a,b,c,rfl,rfl,_⟩ | ⟨b,c,rfl,rfl⟩ | ⟨b,c,rfl,rfl,_⟩
   ·rcases k with ⟨g,f,d,e,rfl,k⟩ | ⟨f,d,e,_⟩ | ⟨f,d,e,_⟩
    ·cases e; exact .inl ⟨_,_,_,rfl,rfl,k⟩
    ·cases e
    grind
   ·rcases k with ⟨g,f,d,e,_⟩ | ⟨f,d,e,rfl⟩ | ⟨f,d,e,_⟩
    ·cases e
    ·exact .inr (.inl ⟨_,_,rfl,rfl⟩)
    grind
   ·rcases k with ⟨g,f,d,e,_⟩ | ⟨f,d,e,_⟩ | ⟨f,d,e,rfl,k⟩
    ·cases e
    ·cases e
    ·exact .inr (.inr ⟨_,_,rfl,rfl,k⟩)
theorem n0S{p:Option Addr}{n c:Nat}{v:Value}(h:alk (.slice p n c) v):v=.slice p n c:=by
 rcases h with h | ⟨_,_,_,e,_⟩ | ⟨_,_,e,_⟩ | ⟨_,_,e,_⟩
 ·exact h
 ·cases e
 ·cases e
 grind
def Alks:List Value->List Value->Prop
 | [],[]=>True
 | u :: r,v :: s=>alk u v/\Alks r s
 | _,_=>False
theorem Alks.refl:∀l:List Value,Alks l l
 | []=>trivial
 | _ :: r=>⟨.inl rfl,Alks.refl r⟩
theorem Alks.split{d:List Value}:∀{c l:List Value},Alks (c++d) l->∃c' d',l=c'++d'/\Alks c c'/\Alks d d'
 | [],l,h=>⟨[],l,rfl,trivial,h⟩
 | u :: r,[],h=>h.elim
 | u :: r,v :: s,⟨h1,h2⟩=>by
   obtain⟨c',d',e,b,a⟩:=Alks.split h2;exact⟨v :: c',d',by grind,⟨h1,b⟩,a⟩
structure WM(F:Nat->Prop)(w w':World):Prop where
 os:w'.os=w.os
 tape:w'.tape=w.tape
 output:w'.output=w.output
 size:w.heap.size<=w'.heap.size
 block:∀k,k<w.heap.size->¬F k->w'.heap[k]?=w.heap[k]?
 cell:∀k i u,F k->w.cell? ⟨k,i,none⟩=some u->∃v,w'.cell? ⟨k,i,none⟩=some v/\alk u v
 uf:∀k,F k->UF w k->UF w' k
theorem WM.refl(F:Nat->Prop)(w:World):WM F w w:=⟨rfl,rfl,rfl,Nat.le_refl _,fun _ _ _=>rfl,fun _ _ u _ h=>⟨u,h,.inl rfl⟩,fun _ _ h=>h⟩
theorem WM.trans{F:Nat->Prop}{a b c:World}(h:WM F a b)(k:WM F b c):WM F a c :=
 ⟨k.os.trans h.os,k.tape.trans h.tape,k.output.trans h.output,Nat.le_trans h.size k.size,fun i e hi=>(k.block i (Nat.lt_of_lt_of_le e h.size) hi).trans (h.block i e hi),fun i j u hi d=>by
   obtain⟨v,m,l⟩:=h.cell i j u hi d;obtain⟨x,g,f⟩:=k.cell i j v hi m;exact⟨x,g,l.trans f⟩,fun i hi d=>k.uf i hi (h.uf i hi d)⟩
theorem D0B{w:World}{b i:Nat}{u:Value}(h:w.cell? ⟨b,i,none⟩=some u):b<w.heap.size:=by
 unfold World.cell? at h
 grind
theorem WM.of_ext{F:Nat->Prop}{w w':World}(h:Ext w w'):WM F w w' :=
 ⟨h.os,h.tape,h.output,h.size,fun k b _=>h.block k b,fun k _ u _ a=>⟨u,(World.cell?_of_block (h.block k (D0B a))).trans a,.inl rfl⟩,fun k _ a=>a.same (h.block k a.lt)⟩
theorem WM.up{F b:Nat->Prop}{w w':World}(h:WM F w w')(k:∀i,F i->b i)(c:∀i,b i->¬F i->i<w.heap.size):WM b w w' :=
 ⟨h.os,h.tape,h.output,h.size,fun i hi d=>h.block i hi (fun e=>d (k i e)),fun i j u hi a=>by
   by_cases e:F i
   ·exact h.cell i j u e a
   ·exact⟨u,(World.cell?_of_block (h.block i (c i hi e) e)).trans a,.inl rfl⟩,fun i hi a=>by
   by_cases e:F i
   ·exact h.uf i e a
   ·exact a.same (h.block i (c i hi e) e)⟩
theorem B0B{F:Nat->Prop}{w w':World}(h:WM F w w'){b:Nat}(c:F b):∀{ds:List Value} {o:Nat},At w b o ds->∃ds',At w' b o ds'/\Alks ds ds'
 | [],o,_=>⟨[],(fun i u g=>by grind),trivial⟩
 | u :: r,o,hat=>by
   obtain⟨v,j,f⟩:=h.cell b (o+0) u c (hat 0 u rfl);obtain⟨ds',e,d⟩:=B0B h c (o:=o+1) (ds:=r) (fun i x a=>by
    have:=hat (i+1) x a
    rwa [show o+(i+1)=o+1+i by omega] at this)
   refine⟨v :: ds',fun i x a=>?_,f,d⟩;cases i with
   | zero =>
     grind
   | succ i =>
     have:=e i x a
     rwa [show o+1+i=o+(i+1) by omega] at this
def SH(F:Nat->Prop)(w:World):(t:Ty)->List Value->c9 t->Prop
 | .int k,cs,_=>∃y,cs=[.int k y]/\lo k<=y/\y<=hi k
 | .bool,cs,_=>∃y,cs=[.bool y]
 | .str,cs,_=>∃y,cs=[.string y]/\y.size<=9223372036854775807
 | .sl e,cs,xs=>∃p cap,cs=[.slice p xs.length cap]/\xs.length<=cap/\cap<=9223372036854775807 /\
    (xs=[]∨∃b o ds,p=some ⟨b,o,none⟩/\F b/\UF w b/\At w b o ds/\AllR (SH F w e) ds xs)
 | .pt _,_,_=>False
 | .pr a b,cs,x=>∃c d,cs=c++d/\SH F w a c x.1/\SH F w b d x.2
def Ki:Ty->Bool
 | .pt _=>false
 | .sl e=>Ki e
 | .pr a b=>Ki a&&Ki b
 | _=>true
theorem SH.of{K F:Nat->Prop}{w:World}(f:∀k,K k->F k/\UF w k):∀{t:Ty} {cs:List Value} {x:c9 t},Ki t=true->RT K w t cs x->SH F w t cs x
 | .int _,_,x,_,h=>⟨x,h.1,h.2⟩
 | .bool,_,x,_,h=>⟨x,h⟩
 | .str,_,x,_,h=>⟨x,h.1,h.2⟩
 | .sl e,_,xs,hn,⟨p,cap,h1,h2,h3,g⟩=>by
   refine⟨p,cap,h1,h2,h3,?_⟩;rcases g with g | ⟨b,o,ds,hp,hb,hat,hall⟩
   ·grind
   ·exact .inr ⟨b,o,ds,hp,(f b hb).1,(f b hb).2,hat,hall.mapR (fun c x h=>SH.of (t:=e) f hn h)⟩
 | .pr a b,_,x,hn,⟨c,d,h,h1,h2⟩=>by
   simp only[Ki,ba] at hn;exact⟨c,d,h,SH.of f hn.1 h1,SH.of f hn.2 h2⟩
theorem SH.len{F:Nat->Prop}{w:World}:∀{t:Ty} {cs:List Value} {x:c9 t},SH F w t cs x->cs.length=sz t
 | .int _,_,_,⟨_,h,_⟩=>by rw[h]; rfl
 | .bool,_,_,⟨_,h⟩=>by rw[h]; rfl
 | .str,_,_,⟨_,h,_⟩=>by rw[h]; rfl
 | .sl _,_,_,⟨_,_,h,_⟩=>by rw[h]; rfl
 | .pr a b,_,_,⟨c,d,h,h1,h2⟩=>by rw[h,List.length_append,SH.len h1,SH.len h2]; rfl
theorem AllR.alks{b:Type}{R R':List Value->b->Prop}(g:∀c c' x,R c x->Alks c c'->R' c' x){cs a:List Value}{xs:List b}(h:AllR R cs xs)(k:Alks cs a):AllR R' a xs:=by
 induction xs generalizing cs a with
 | nil =>
   rw[show cs=[] from h] at k
   match a,k with
   | [],_=>exact(show([]:List Value)=[] from rfl)
 | cons x r j =>
   obtain⟨c,d,e,m,l⟩:=h;subst e;obtain⟨c',f,e,i,n⟩:=k.split;exact⟨c',f,e,g _ _ _ m i,j l n⟩
theorem Sc{u:Value}{cs:List Value}(h:Alks [u] cs):∃v,cs=[v]/\alk u v:=by
 cases cs with
 | nil=>exact h.elim
 | cons v r =>
   cases r with
   | nil=>exact⟨v,rfl,h.1⟩
   | cons _ _=>exact h.2.elim
theorem SH.alks{F:Nat->Prop}{w w':World}(f:WM F w w'):∀{t:Ty} {cs cs':List Value} {x:c9 t},SH F w t cs x->Alks cs cs'->SH F w' t cs' x
 | .int k,_,_,_,⟨y,h,h1⟩,ha=>by
   subst h;obtain⟨v,rfl,h⟩:=Sc ha;rcases h with rfl | ⟨_,_,z,e,rfl,h⟩ | ⟨_,_,e,_⟩ | ⟨_,_,e,_⟩
   ·exact⟨y,rfl,h1⟩
   ·cases e; exact⟨z,rfl,h⟩
   ·cases e
   grind
 | .bool,_,_,_,⟨y,h⟩,ha=>by
   subst h;obtain⟨v,rfl,h⟩:=Sc ha;rcases h with rfl | ⟨_,_,z,e,_⟩ | ⟨_,z,e,rfl⟩ | ⟨_,_,e,_⟩
   ·exact⟨y,rfl⟩
   ·cases e
   ·exact⟨z,rfl⟩
   grind
 | .str,_,_,_,⟨y,h,h1⟩,ha=>by
   subst h;obtain⟨v,rfl,h⟩:=Sc ha;rcases h with rfl | ⟨_,_,z,e,_⟩ | ⟨_,z,e,_⟩ | ⟨_,z,e,rfl,h⟩
   ·exact⟨y,rfl,h1⟩
   ·cases e
   ·cases e
   ·exact⟨z,rfl,h⟩
 | .sl e,_,_,xs,⟨p,cap,h1,h2,h3,j⟩,ha=>by
   subst h1;obtain⟨v,rfl,h⟩:=Sc ha;have h:=n0S h;subst h;refine⟨p,cap,rfl,h2,h3,?_⟩;rcases j with j | ⟨b,o,ds,hp,hb,hu,hat,hall⟩
   ·grind
   ·obtain⟨g,q,s⟩:=B0B f hb hat;exact .inr ⟨b,o,g,hp,hb,f.uf b hb hu,q,AllR.alks (R:=SH F w e) (R':=SH F w' e) (fun c i x m l=>SH.alks (t:=e) f m l) hall s⟩
 | .pr a b,_,cs',x,⟨c,d,h,h1,h2⟩,ha=>by
   subst h;obtain⟨i,n,e,r,u⟩:=ha.split;exact⟨i,n,e,SH.alks f h1 r,SH.alks f h2 u⟩
theorem SH.wm{F:Nat->Prop}{w w':World}{t:Ty}{cs:List Value}{x:c9 t}(h:SH F w t cs x)(a:WM F w w'):SH F w' t cs x:=h.alks a (Alks.refl cs)
theorem SH.get{F:Nat->Prop}{w:World}{e:Ty}{p:Option Addr}{n a:Nat}{xs:List (c9 e)}(h:SH F w (.sl e) [.slice p n a] xs){i:Nat}(hi:i<xs.length) :
  n=xs.length/\∃b o c,p=some ⟨b,o,none⟩/\F b/\UF w b/\At w b (o+i*sz e) c/\SH F w e c xs[i]:=by
 obtain⟨q,g,f,s,r,d⟩:=h;simp only[List.cons.injEq,Value.slice.injEq,and_true] at f;obtain⟨rfl,rfl,rfl⟩:=f;refine⟨rfl,?_⟩;rcases d with d | ⟨b,o,ds,hp,hb,hu,hat,hall⟩
 ·grind
 ·obtain⟨k,c,j,rfl,l,m⟩:=hall.get (fun c x h=>SH.len h) hi;refine⟨b,o,c,hp,hb,hu,?_,m⟩;rw[<- l]; exact hat.mid
def l7:(t:Ty)->c9 t->Nat
 | .int _,_=>1
 | .bool,_=>1
 | .str,_=>1
 | .sl e,xs=>(xs.map (l7 e)).sum
 | .pt _,_=>0
 | .pr a b,x=>l7 a x.1+l7 b x.2
def y9(e:Ty)(xs:List (c9 e))(i:Nat):Nat:=((xs.take i).map (l7 e)).sum
theorem Bq(e:Ty)(xs:List (c9 e)):y9 e xs 0=0:=by grind[y9]
theorem AA{e:Ty}{xs:List (c9 e)}{i:Nat}(h:i<xs.length):y9 e xs (i+1)=y9 e xs i+l7 e xs[i]:=by
 grind[y9,List.take_succ_eq_append_getElem,List.sum_append_nat]
theorem Az(e:Ty)(xs:List (c9 e)):y9 e xs xs.length=l7 (.sl e) xs:=by
 unfold y9;rw[List.take_length];rfl
theorem K3(e:Ty)(xs:List (c9 e)):∀i,i<=xs.length->y9 e xs i<=l7 (.sl e) xs:=by
 intro i hi;have a:∀m,i+m<=xs.length->y9 e xs i<=y9 e xs (i+m):=by
  intro m
  induction m with
  | zero=>grind
  | succ m b =>
    grind[AA,Nat.add_assoc]
 have:=a (xs.length-i) (by omega);rw[show i+(xs.length-i)=xs.length by omega,Az] at this;omega
section
variable {P:Program} {n:Nat} {e:A9} {w w0:World} {Q:Exit->Act->World->Prop} {ops:Array Oper} {rest:List Oper} {d:Nat} {ty:TypeId} {pos:String} {after:Array Edge} {F:Nat->Prop}
theorem E0z{b o:Nat}{u j:Value}{a:Array Value}{T:TypeId}(s:F b)(l:w.heap[b]?=some (.cells a T (0,0)))(g:w.cell? ⟨b,o,none⟩=some j)(y:alk j u):WM F w (w.setRow b (u6 a.toList o [u]).toArray):=by
 have m:=setRow_heap w b a (u6 a.toList o [u]).toArray T (0,0) l;have r:a[o]?=some j:=by
  unfold World.cell? at g;rw[show(⟨b,o,none⟩:Addr).block=b from rfl,l] at g;simpa using g
 have t:o<a.size:=by
  rcases Nat.lt_or_ge o a.size with h | h
  ·exact h
  ·grind
 refine⟨rfl,rfl,rfl,by simp_all,fun k _ f=>HB w b k _ (fun e=>f (e ▸ s)),fun k i v f d=>?_,fun k f ⟨c,q,h⟩=>?_⟩
 ·by_cases e:k=b
  ·subst e;unfold World.cell? at d ⊢;rw[show(⟨k,i,none⟩:Addr).block=k from rfl,l] at d;rw[show(⟨k,i,none⟩:Addr).block=k from rfl,m];have d:a[i]?=some v:=by simpa using d
   have n:i<a.size:=by
    rcases Nat.lt_or_ge i a.size with h | h
    ·exact h
    ·grind
   by_cases x:i=o
   ·grind[u6,Nat.min_eq_left,Nat.le_of_lt]
   ·refine⟨v,?_,.inl rfl⟩
    grind[u6]
  ·refine⟨v,?_,.inl rfl⟩
   grind[World.cell?_of_block,HB]
 ·by_cases e:k=b
  ·subst e; exact⟨_,_,m⟩
  ·exact⟨c,q,(HB w b k _ (fun h=>e h)).trans h⟩
theorem WW{T y:Nat}{z u l:Value}{x v:Operand}{b o:Nat}[Info P T 1 y z](W:Sv.ev e x=some (.pointer (some ⟨b,o,none⟩)))(t:Sv.ev e v=some u)(Y:u.cells.toList=[u])(h1:ones [u]=true)(q:WM F w0 w)(m:F b)(hU:UF w0 b)(G:w0.cell? ⟨b,o,none⟩=some l)(H:sca l u)
  (k:∀w',WM F w0 w'->VO P n ops rest e w' Q):VO P n ops (⟨none,.store T x v,ty,pos,after,none⟩ :: rest) e w Q:=by
 obtain⟨d,V,i⟩:=q.uf b m hU;obtain⟨X,c,f⟩:=q.cell b o l m G;have j:o<d.size:=by
  unfold World.cell? at c;rw[show(⟨b,o,none⟩:Addr).block=b from rfl,i] at c;have c:d[o]?=some X:=by simpa using c
  rcases Nat.lt_or_ge o d.size with h | h
  ·exact h
  ·grind
 have r:Blk w b d.toList V:=by unfold Blk; simpa using i
 refine Vo (w':=w.setRow b (u6 d.toList o [u]).toArray) ?_ (k _ (q.trans (E0z m i c (.inr (f.sca H)))));intro a E pos after g s;simp only[execOp,s.ev W,s.ev t];simp[Instr.storeAt,Instr.sureAddr,JA (P:=P) (T:=T) Y rfl h1 r (by rw[List.length_singleton,Array.length_toList]; exact j),Result.andThen]
theorem w0B{T:TypeId}{x:Operand}{b o:Nat}{p:Option Addr}{m c:Nat}[K2 P T](i:Sv.ev e x=some (.pointer (some ⟨b,o,none⟩)))(a:WM F w0 w)(g:F b)(f:w0.cell? ⟨b,o,none⟩=some (.slice p m c))(j:Nat.blt d n=true)
  (h:VO P n ops rest ((d,.slice p m c) :: e) w Q):VO P n ops (⟨some d,.load T x,ty,pos,after,none⟩ :: rest) e w Q:=by
 obtain⟨v,l,k⟩:=a.cell b o _ g f
 grind[n0S,B0I]
theorem B0K{T E s y:Nat}{z:Value}{x ix:Operand}{b o a c k:Nat}[H4 P T E][Info P E s y z](g:Sv.ev e x=some (.slice (some ⟨b,o,none⟩) a c))(hi:Sv.ev e ix=some (.int .i64 (k:Int)))(f:k<a)(i:Nat.blt d n=true)
  (h:VO P n ops rest ((d,.pointer (some ⟨b,o+k*s,none⟩)) :: e) w Q):VO P n ops (⟨some d,.indexAddr T x ix,ty,pos,after,none⟩ :: rest) e w Q :=
 F0 _ (ND g hi f) i h
end
theorem CN{F:Nat->Prop}{w w':World}{b:Nat}{cs:List Value}{T:TypeId}(h:Blk w b cs T)(k:WM F w w')(c:¬F b):Blk w' b cs T:=by
 unfold Blk at h ⊢;rcases Nat.lt_or_ge b w.heap.size with a | a
 ·exact(k.block b a c).trans h
 grind
def Ay(P:Program)(f:Nat)(t:Ty):Prop:=∀(F:Nat->Prop) (w:World) (u:Value) (x:c9 t) (k:Int),(∀i,F i->i<w.heap.size)->SH F w t [u] x->0<=k->k+(l7 t x:Int)<=9223372036854775807 ->
 Calls P f #[u,.int .i64 k] w fun en w'=>en=.returned (.int .i64 (k+(l7 t x:Int)))/\WM F w w'
def MQ(P:Program)(f:Nat)(t:Ty):Prop:=∀(F:Nat->Prop) (w:World) (cs:List Value) (x:c9 t) (k:Int),(∀i,F i->i<w.heap.size)->SH F w t cs x->0<=k->k+(l7 t x:Int)<=9223372036854775807 ->
 Calls P f #[.agg cs.toArray,.int .i64 k] w fun en w'=>en=.returned (.int .i64 (k+(l7 t x:Int)))/\WM F w w'
end Go.Proofs.Xv
end
section
namespace Go.Proofs.Xv
open Go Go.RowKit Go.Proofs.Sv Go.Proofs.Xl
structure WO(F:Nat->Prop)(w w':World):Prop where
 os:w'.os=w.os
 tape:w'.tape=w.tape
 output:w'.output=w.output
 size:w.heap.size<=w'.heap.size
 block:∀k,k<w.heap.size->¬F k->w'.heap[k]?=w.heap[k]?
theorem WM.wo{F:Nat->Prop}{w w':World}(h:WM F w w'):WO F w w':=⟨h.os,h.tape,h.output,h.size,h.block⟩
theorem WO.refl(F:Nat->Prop)(w:World):WO F w w:=⟨rfl,rfl,rfl,Nat.le_refl _,fun _ _ _=>rfl⟩
theorem WO.trans{F:Nat->Prop}{a b c:World}(h:WO F a b)(k:WO F b c):WO F a c :=
 ⟨k.os.trans h.os,k.tape.trans h.tape,k.output.trans h.output,Nat.le_trans h.size k.size,fun i d hi=>(k.block i (Nat.lt_of_lt_of_le d h.size) hi).trans (h.block i d hi)⟩
theorem WO.up{F a:Nat->Prop}{w w':World}(h:WO F w w')(k:∀i,F i->a i):WO a w w' :=
 ⟨h.os,h.tape,h.output,h.size,fun i hi b=>h.block i hi (fun e=>b (k i e))⟩
theorem WO.ext{F:Nat->Prop}{a w w':World}(h:WO F w w')(k:Ext a w)(b:∀i,F i->a.heap.size<=i):Ext a w' :=
 ⟨h.os.trans k.os,h.tape.trans k.tape,h.output.trans k.output,Nat.le_trans k.size h.size,fun i hi=>(h.block i (Nat.lt_of_lt_of_le hi k.size) (fun e=>by grind)).trans (k.block i hi)⟩
def Fa(p:Prop)(n m:Nat)(w:World)(t:Ty)(cs:List Value)(x:c9 t):Prop:=RT (fun k=>n<=k/\k<m/\(p->UF w k)) w t cs x
section
variable {p:Prop} {n m:Nat} {w w':World} {t:Ty} {cs:List Value} {x:c9 t} {F:Nat->Prop}
theorem Fa.ext(h:Fa p n m w t cs x)(k:Ext w w'):Fa p n m w' t cs x :=
 RT.same (fun i hi a=>⟨⟨hi.1,hi.2.1,fun b=>(hi.2.2 b).same (k.block i a)⟩,k.block i a⟩) h
theorem Fa.wo(h:Fa p n m w t cs x)(k:WO F w w')(a:∀i,n<=i->i<m->¬F i):Fa p n m w' t cs x :=
 RT.same (fun i hi b=>⟨⟨hi.1,hi.2.1,fun c=>(hi.2.2 c).same (k.block i b (a i hi.1 hi.2.1))⟩,k.block i b (a i hi.1 hi.2.1)⟩) h
theorem Fa.arg(h:Fa p n m w t cs x):RT (fun k=>k<w.heap.size) w t cs x:=RT.same (fun _ _ hi=>⟨hi,rfl⟩) h
theorem Fa.sh(h:Fa True n m w t cs x)(b:Ki t=true):SH (fun k=>n<=k/\k<m) w t cs x:=SH.of (fun _ a=>⟨⟨a.1,a.2.1⟩,a.2.2 trivial⟩) b h
theorem Fa.of{K:Nat->Prop}(h:RT K w t cs x):Fa False 0 w.heap.size w t cs x:=RT.same (fun _ _ hi=>⟨⟨Nat.zero_le _,hi,False.elim⟩,rfl⟩) h
theorem L8{b:Nat}{T:TypeId}(h:Blk w b cs T)(k:WO F w w')(c:¬F b):Blk w' b cs T:=by
 unfold Blk at h ⊢;rcases Nat.lt_or_ge b w.heap.size with a | a
 ·exact(k.block b a c).trans h
 grind
end
class FacT(P:Program):Prop where
 h:∀w,Fac P w
theorem R1{P:Program}{f:FuncId}{ps:List q9}{d:Type}[Inhabited d]{F:C8 ps->Option d}{R:d->AV}{Z:d->D4 ps}(h:Ok P (c7 f ps F R Z))(j:∀r,Fh (R r)=true)(_:H2 ps=false){x:C8 ps}{r:d}{w:World}{vs:List Value}
  (n:F x=some r) (z:ArgsR (fun k=>k<w.heap.size) w none ps x vs) (t:Fac P w:=by exact FacT.h _) :
  Calls P f vs.toArray w fun en w'=>∃v,en=.returned v/\Ext w w'/\ResR (fun fr k=>fr=true->w.heap.size<=k/\k<w'.heap.size/\(True->UF w' k)) w' (frz (R r)) v []:=by
 have y:((c7 f ps F R Z).res x).q:=by show(F x).isSome=true; rw[n]; rfl
 refine Calls.mono (h.2 x y w vs none (fun k=>k<w.heap.size) ⟨fun _ c=>c,w,t,Ext.refl w,fun _ e=>by cases e⟩ z) ?_;rintro en w' ⟨v,o,e,s,E,u,g,G⟩;have g:ResR (fun fr=>JJ fr (fun k=>k<w.heap.size) w w' o) w' (R (vl (F x))) v o:=g;have i:=ResR.lt g;rw[n] at g;refine⟨v,e,s.ext,ResR.frz (fun fr k c m=>?_) (j _) (fun b l fr m=>?_) g⟩
 ·subst m;have a:w.heap.size<=k:=by
   rcases c.1 with a | a
   ·grind
   ·exact a
  exact⟨a,c.2.1.1,fun _=>c.2.1.2 a⟩
 ·have a:=(u b l).resolve_right (fun h=>by grind);exact⟨a,(i b l).lt,fun _=>i b l⟩
section
variable {K:Bool->Nat->Prop} {w:World} {v:Value}
theorem PV{k:IntKind}{fr:Bool}{x:Int}(h:ResR K w (.d fr (.int k) x) v []):v=.int k x:=by
 have h:=h.1.1;simpa using h
theorem TX{fr:Bool}{x:Bool}(h:ResR K w (.d fr .bool x) v []):v=.bool x:=by
 have h:[v]=[.bool x]:=h.1;simpa using h
theorem Cb{t:Ty}{fr:Bool}{x:c9 t}(h:ResR K w (.d fr t x) v []):RT (K fr) w t [v] x:=h.1
theorem TW{a b:AV}(h:ResR K w (.tup [a,b]) v []):∃u1 u2,v=.tuple #[u1,u2]/\ResR K w a u1 []/\ResR K w b u2 []:=by
 obtain⟨k,rfl,u1,g,c,j,rfl,e,o,u2,f,m,l,rfl,i,n,rfl,d⟩:=h;subst d;cases c with
 | nil =>
   grind
 | cons a b=>grind
theorem AD{a:AV}{l:List AV}{us:List Value}(h:ResRs K w (a :: l) us []):∃u us',us=u :: us'/\ResR K w a u []/\ResRs K w l us' []:=by
 obtain⟨u,us',c,g,rfl,e,d,f⟩:=h;cases c with
 | nil=>grind
 | cons a b=>grind
end
def Ag:Int->Nat->List Value
 | _,0=>[]
 | k,m+1=>.int .i64 k :: Ag (k+1) m
theorem q0E:∀(m:Nat) (k:Int),Ag k (m+1)=Ag k m++[.int .i64 (k+(m:Int))]
 | 0,k=>by simp[Ag]
 | m+1,k=>by
   rw[Ag,q0E m (k+1),Ag,List.cons_append,show k+1+(m:Int)=k+((m+1:Nat):Int) by omega]
theorem u0D:∀(m:Nat) (k:Int),(Ag k m).length=m
 | 0,_=>rfl
 | m+1,k=>by rw[Ag,List.length_cons,u0D m]
def AB:Int->Nat->List Int
 | _,0=>[]
 | k,m+1=>k :: AB (k+1) m
theorem TU:∀(m:Nat) (k:Int),(AB k m).length=m
 | 0,_=>rfl
 | m+1,k=>by rw[AB,List.length_cons,TU m]
theorem u0G{K:Nat->Prop}{w:World}:∀(m:Nat) (k:Int),0<=k->k+(m:Int)<=9223372036854775808->AllR (RT K w (.int .i64)) (Ag k m) (AB k m)
 | 0,_,_,_=>rfl
 | m+1,k,h0,h1=>⟨[.int .i64 k],Ag (k+1) m,rfl,⟨rfl,by show -9223372036854775808<=k; omega,by show k<=(9223372036854775807:Int); omega⟩,u0G m (k+1) (by omega) (by omega)⟩
theorem C0x{l:List Value}{p:Nat}{u:Value}(a:p<l.length)(i:Nat):(u6 l p [u])[i]?=if i=p then some u else l[i]?:=by
 grind[u6]
theorem C0M{u v:Value}{a b:List Value}{i:Nat}(h:i≠a.length):(a++v :: b)[i]?=(a++u :: b)[i]?:=by
 grind
theorem H0V{w:World}{b o:Nat}{v u:Value}{c k:List Value}{a:Array Value}{T:TypeId}(l:w.heap[b]?=some (.cells a T (0,0)))(h:At w b o (c++v :: k)) :
  o+c.length<a.size/\At (w.setRow b (u6 a.toList (o+c.length) [u]).toArray) b o (c++u :: k):=by
 have j:∀i x,w.cell? ⟨b,i,none⟩=some x->a.toList[i]?=some x:=by
  intro i x d;unfold World.cell? at d;rw[show(⟨b,i,none⟩:Addr).block=b from rfl,l] at d;simpa using d
 have g:o+c.length<a.size:=by
  have m:=j _ _ (h c.length v (by grind));rcases Nat.lt_or_ge (o+c.length) a.size with f | f
  ·exact f
  ·rw[List.getElem?_eq_none (by simpa using f)] at m; cases m
 refine⟨g,fun i x d=>?_⟩;have q:=setRow_heap w b a (u6 a.toList (o+c.length) [u]).toArray T (0,0) l;have n:(u6 a.toList (o+c.length) [u])[o+i]?=some x:=by
  rw[C0x (by omega)];by_cases e:i=c.length
  ·grind
  ·rw[if_neg (by omega)];rw[<- C0M (v:=v) e] at d;exact j _ _ (h i x d)
 unfold World.cell?
 grind
section
variable {P:Program} {n:Nat} {e:A9} {w:World} {Q:Exit->Act->World->Prop} {ops:Array Oper} {rest:List Oper} {d:Nat} {ty:TypeId} {pos:String} {after:Array Edge}
theorem s0U{T y:Nat}{V:Value}{x v:Operand}{b o a j:Nat}{z k:Int}{ds:List Value}[Info P T 1 y V](t:Sv.ev e x=some (.pointer (some ⟨b,a,none⟩)))(r:Sv.ev e v=some (.int .i64 z))(E:a=o+j)(hz:z=k+(j:Int))(H:j<ds.length)(d:At w b o (Ag k j++ds.drop j))(G:UF w b)
  (X:∀w',WO (fun i=>i=b) w w'->(∀i,UF w i->UF w' i)->At w' b o (Ag k (j+1)++ds.drop (j+1))->VO P n ops rest e w' Q):VO P n ops (⟨none,.store T x v,ty,pos,after,none⟩ :: rest) e w Q:=by
 obtain⟨c,l,h⟩:=G;rw[List.drop_eq_getElem_cons H] at d;obtain⟨q,W⟩:=H0V (u:=.int .i64 z) h d;rw[u0D] at q W;have f:Blk w b c.toList l:=by unfold Blk; simpa using h
 have F:=setRow_heap w b c (u6 c.toList (o+j) [.int .i64 z]).toArray l (0,0) h;refine Vo (w':=w.setRow b (u6 c.toList (o+j) [.int .i64 z]).toArray) ?_ (X _ ⟨rfl,rfl,rfl,by simp_all,fun i _ hi=>HB w b i _ hi⟩ (fun i hi=>?_) ?_)
 ·intro Y s pos after g m;simp only[execOp,m.ev t,m.ev r];subst E;simp[Instr.storeAt,Instr.sureAddr,JA (P:=P) (T:=T) (show(Value.int .i64 z).cells.toList=[.int .i64 z] from rfl) rfl (show ones [Value.int .i64 z]=true from rfl) f (by rw[List.length_singleton,Array.length_toList]; exact q),Result.andThen]
 ·by_cases e:i=b
  ·subst e; exact⟨_,_,F⟩
  ·exact hi.same (HB w b i _ e)
 grind[q0E,List.append_assoc,List.singleton_append]
theorem B0J{T E s y:Nat}{z:Value}{x ix:Operand}{b o a c k:Nat}[H4 P T E][Info P E s y z](g:Sv.ev e x=some (.slice (some ⟨b,o,none⟩) a c))(hi:Sv.ev e ix=some (.int .i64 (k:Int)))(f:k<a)(i:Nat.blt d n=true)
  (h:VO P n ops rest ((d,.pointer (some ⟨b,o+k*s,none⟩)) :: e) w Q):VO P n ops (⟨some d,.indexAddr T x ix,ty,pos,after,none⟩ :: rest) e w Q :=
 F0 _ (ND g hi f) i h
end
theorem RT.row{K:Nat->Prop}{w:World}{e:Ty}{u:Value}{xs:List (c9 e)}(h:RT K w (.sl e) [u] xs) :
  ∃p cap,u=.slice p xs.length cap/\∃b o ds,(0<xs.length->p=some ⟨b,o,none⟩/\K b)/\At w b o ds/\ds.length=xs.length*sz e /\
   ∀w' xs',xs'.length=xs.length->∀ds',At w' b o ds'->AllR (RT K w' e) ds' xs'->RT K w' (.sl e) [u] xs':=by
 obtain⟨p,cap,a,k,j,d⟩:=h;simp only[List.cons.injEq,and_true] at a;subst a;refine⟨p,cap,rfl,?_⟩;rcases d with d | ⟨b,o,ds,hp,hb,hat,hall⟩
 ·subst d;refine⟨0,0,[],fun h=>by grind,fun i u l=>by grind,by simp,fun w' xs' g ds' _ _=>?_⟩;have:xs'=[]:=List.eq_nil_of_length_eq_zero g;subst this;exact⟨p,cap,rfl,k,j,.inl rfl⟩
 ·exact⟨b,o,ds,fun _=>⟨hp,hb⟩,hat,hall.len (fun c x h=>RT.len h),fun w' xs' g ds' a f=>⟨p,cap,by rw[g],by omega,j,.inr ⟨b,o,ds',hp,hb,a,f⟩⟩⟩
def MkE(P:Program)(f:Nat)(t:Ty)(n:Nat)(mk:Int->Nat->List (c9 t)):Prop:=∀(K:Nat->Prop) (w:World) (u:Value) (xs:List (c9 t)) (k:Int),(∀i,K i->UF w i)->RT K w (.sl t) [u] xs->0<=k->k+((n*xs.length:Nat):Int)<=9223372036854775807 ->
 Calls P f #[u,.int .i64 k] w fun en w'=>en=.returned (.int .i64 (k+((n*xs.length:Nat):Int)))/\WO K w w'/\(∀i,UF w i->UF w' i)/\RT K w' (.sl t) [u] (mk k xs.length)
theorem Fa.mkE{P:Program}{f:Nat}{t:Ty}{n:Nat}{mk:Int->Nat->List (c9 t)}(h:MkE P f t n mk){a b:Nat}{w:World}{u:Value}{xs:List (c9 t)}{k:Int}(g:Fa True a b w (.sl t) [u] xs)(d:0<=k)(m:k+((n*xs.length:Nat):Int)<=9223372036854775807) :
  Calls P f #[u,.int .i64 k] w fun en w'=>en=.returned (.int .i64 (k+((n*xs.length:Nat):Int)))/\WO (fun i=>a<=i/\i<b) w w'/\Fa True a b w' (.sl t) [u] (mk k xs.length):=by
 refine Calls.mono (h _ w u xs k (fun i hi=>hi.2.2 trivial) g d m) ?_;rintro en w' ⟨e,c,l,j⟩;exact⟨e,c.up (fun i hi=>⟨hi.1,hi.2.1⟩),RT.up j (fun i hi=>⟨hi.1,hi.2.1,fun _=>l i (hi.2.2 trivial)⟩)⟩
theorem E0y{b:Nat}{w w':World}(h:Wr b w w'):WO (fun i=>i=b) w w':=⟨h.os,h.tape,h.output,by rw[h.size]; exact Nat.le_refl _,fun k _ a=>h.block k a⟩
theorem H0B{l:List Value}(h:l.length=5):∃a b c d e,l=[a,b,c,d,e]:=by
 match l,h with
 | [a,b,c,d,e],_=>exact⟨a,b,c,d,e,rfl⟩
section
variable {P:Program} {n:Nat} {e:A9} {w:World} {Q:Exit->Act->World->Prop} {ops:Array Oper}
theorem FI{l:List Oper}{d:Nat}{b:Bool}(a:b=false)(h:VO P n ops l ((d,.bool false) :: e) w Q):VO P n ops l ((d,.bool b) :: e) w Q:=by grind
end
section
variable {P:Program} {n:Nat} {e:A9} {w w0:World} {Q:Exit->Act->World->Prop} {ops:Array Oper} {rest:List Oper} {d:Nat} {ty:TypeId} {pos:String} {after:Array Edge} {F:Nat->Prop}
theorem pu{a:Op}{v:Value}(k:VO P n ops rest ((d,v) :: e) w Q)(h:Z0 e a=some v:=by rfl)(b:Nat.blt d n=true:=by rfl):VO P n ops (⟨some d,a,ty,pos,after,none⟩ :: rest) e w Q:=L6 h b k
theorem ad{T T':TypeId}{x y:Operand}{a b:Int}(k:VO P n ops rest ((d,.int .i64 (a+b)) :: e) w Q)(c:Sv.ev e x=some (.int .i64 a):=by rfl)(f:Sv.ev e y=some (.int .i64 b):=by rfl)(h:Nat.blt d n=true:=by rfl)(g : -9223372036854775808<=a+b/\a+b<=9223372036854775807:=by omega) :
 VO P n ops (⟨some d,.binOp .add T x y T',ty,pos,after,none⟩ :: rest) e w Q:=F0 _ (MO c f g) h k
theorem fm{T:TypeId}{x:Operand}{b o f a:Nat}[x8 P T f a](k:VO P n ops rest ((d,.pointer (some ⟨b,o+a,none⟩)) :: e) w Q)(c:Sv.ev e x=some (.pointer (some ⟨b,o,none⟩)):=by rfl)(g:Nat.blt d n=true:=by rfl) :
 VO P n ops (⟨some d,.fieldAddr T x f,ty,pos,after,none⟩ :: rest) e w Q:=m0d c g k
theorem im{T E s y:Nat}{z:Value}{x ix:Operand}{b o a c k:Nat}[H4 P T E][Info P E s y z](f:k<a)(h:VO P n ops rest ((d,.pointer (some ⟨b,o+k*s,none⟩)) :: e) w Q)
 (g:Sv.ev e x=some (.slice (some ⟨b,o,none⟩) a c):=by rfl) (hi:Sv.ev e ix=some (.int .i64 (k:Int)):=by rfl) (i:Nat.blt d n=true:=by rfl):VO P n ops (⟨some d,.indexAddr T x ix,ty,pos,after,none⟩ :: rest) e w Q:=B0K g hi f i h
theorem si{T y:Nat}{z:Value}{x v:Operand}{b o:Nat}{u a:Int}[Info P T 1 y z](d:WM F w0 w)(i:F b)(l:UF w0 b)(g:w0.cell? ⟨b,o,none⟩=some (.int .i64 a))
  (k:∀w',WM F w0 w'->VO P n ops rest e w' Q) (f:Sv.ev e x=some (.pointer (some ⟨b,o,none⟩)):=by rfl) (c:Sv.ev e v=some (.int .i64 u):=by rfl) (h : -9223372036854775808<=u:=by omega) (j:u<=9223372036854775807:=by omega):VO P n ops (⟨none,.store T x v,ty,pos,after,none⟩ :: rest) e w Q :=
 WW f c rfl rfl d i l g (.inl ⟨_,_,_,rfl,rfl,h,j⟩) k
theorem ss{T y:Nat}{z:Value}{x v:Operand}{b o:Nat}{u a:ByteArray}[Info P T 1 y z](d:WM F w0 w)(i:F b)(j:UF w0 b)(g:w0.cell? ⟨b,o,none⟩=some (.string a))(f:u.size<=9223372036854775807)
  (k:∀w',WM F w0 w'->VO P n ops rest e w' Q) (h:Sv.ev e x=some (.pointer (some ⟨b,o,none⟩)):=by rfl) (c:Sv.ev e v=some (.string u):=by rfl):VO P n ops (⟨none,.store T x v,ty,pos,after,none⟩ :: rest) e w Q :=
 WW h c rfl rfl d i j g (.inr (.inr ⟨_,_,rfl,rfl,f⟩)) k
theorem sb{T y:Nat}{z:Value}{x v:Operand}{b o:Nat}{u a:Bool}[Info P T 1 y z](d:WM F w0 w)(h:F b)(i:UF w0 b)(g:w0.cell? ⟨b,o,none⟩=some (.bool a))
  (k:∀w',WM F w0 w'->VO P n ops rest e w' Q) (f:Sv.ev e x=some (.pointer (some ⟨b,o,none⟩)):=by rfl) (c:Sv.ev e v=some (.bool u):=by rfl):VO P n ops (⟨none,.store T x v,ty,pos,after,none⟩ :: rest) e w Q :=
 WW f c rfl rfl d h i g (.inr (.inl ⟨_,_,rfl,rfl⟩)) k
theorem lm{T:TypeId}{x:Operand}{b o:Nat}{p:Option Addr}{m c:Nat}[K2 P T](a:WM F w0 w)(j:F b)(g:w0.cell? ⟨b,o,none⟩=some (.slice p m c))(h:VO P n ops rest ((d,.slice p m c) :: e) w Q)
 (f:Sv.ev e x=some (.pointer (some ⟨b,o,none⟩)):=by rfl) (i:Nat.blt d n=true:=by rfl):VO P n ops (⟨some d,.load T x,ty,pos,after,none⟩ :: rest) e w Q:=w0B f a j g i h
theorem mc{f:Nat}{t:Ty}{xs:List Operand}{c:Array TypeId}{u:Value}{x:c9 t}{k:Int}[C4 P f](M:Ay P f t)(o:∀i,F i->i<w0.heap.size)(b:WM F w0 w)(m:SH F w0 t [u] x)
  (h:∀w',WM F w0 w'->WM F w w'->VO P n ops rest ((d,.int .i64 (k+(l7 t x:Int))) :: e) w' Q) (g:evl e xs=some [u,.int .i64 k]:=by rfl) (l:Nat.blt d n=true:=by rfl) (j:0<=k:=by omega) (q:k+(l7 t x:Int)<=9223372036854775807:=by omega):VO P n ops (⟨some d,.call ⟨.value (.func f),xs.toArray,c⟩,ty,pos,after,none⟩ :: rest) e w Q:=by
 refine V8 g l (Calls.mono (M F w u x k (fun i hi=>Nat.lt_of_lt_of_le (o i hi) b.size) (m.wm b) j q) ?_);rintro _ w' ⟨rfl,a⟩;exact⟨_,rfl,h w' (b.trans a) a⟩
theorem ma{f:Nat}{t:Ty}{xs:List Operand}{c:Array TypeId}{cs:List Value}{x:c9 t}{k:Int}[C4 P f](M:MQ P f t)(o:∀i,F i->i<w0.heap.size)(b:WM F w0 w)(m:SH F w0 t cs x)
  (h:∀w',WM F w0 w'->WM F w w'->VO P n ops rest ((d,.int .i64 (k+(l7 t x:Int))) :: e) w' Q) (g:evl e xs=some [.agg cs.toArray,.int .i64 k]:=by rfl) (l:Nat.blt d n=true:=by rfl) (j:0<=k:=by omega) (q:k+(l7 t x:Int)<=9223372036854775807:=by omega):VO P n ops (⟨some d,.call ⟨.value (.func f),xs.toArray,c⟩,ty,pos,after,none⟩ :: rest) e w Q:=by
 refine V8 g l (Calls.mono (M F w cs x k (fun i hi=>Nat.lt_of_lt_of_le (o i hi) b.size) (m.wm b) j q) ?_);rintro _ w' ⟨rfl,a⟩;exact⟨_,rfl,h w' (b.trans a) a⟩
def TxC(P:Program)(f:Nat):Prop:=∀(k:Int) (w:World),K1 k->Calls P f #[.int .i64 k] w fun en w'=>∃s,en=.returned (.string s)/\s.size<=9223372036854775807/\Ext w w'
theorem MP{f:Nat}{xs:List Operand}{a:Array TypeId}{k:Int}[C4 P f](M:TxC P f)(c:WM F w0 w)(h:∀w' s,s.size<=9223372036854775807->WM F w0 w'->VO P n ops rest ((d,.string s) :: e) w' Q)
  (g:evl e xs=some [.int .i64 k]:=by rfl) (i:Nat.blt d n=true:=by rfl) (b : -9223372036854775808<=k/\k<=9223372036854775807:=by omega):VO P n ops (⟨some d,.call ⟨.value (.func f),xs.toArray,a⟩,ty,pos,after,none⟩ :: rest) e w Q:=by
 refine V8 g i (Calls.mono (M k w b) ?_);rintro _ w' ⟨s,rfl,l,j⟩;exact⟨_,rfl,h w' s l (c.trans (WM.of_ext j))⟩
theorem ra{id:Nat}{l:List Oper}{c:Code}(h:VO P n l.toArray l e w (Y0 P c Q)):VS P n (.seq (.region id l.toArray false) c) e w Q:=l9 (I9 h)
theorem rb{id:Nat}{l:List Oper}{c:Code}(h:VO P n l.toArray l e w (Y0 P c Q)):VO P n ops [] e w (Y0 P (.seq (.region id l.toArray false) c) Q):=oN (nQ (l9 (I9 h)))
theorem rc{id:Nat}{l:List Oper}(h:VO P n l.toArray l e w Q):VO P n ops [] e w (Y0 P (.region id l.toArray false) Q):=oN (nQ (I9 h))
theorem Br{id k:Nat}{l:List Oper}(h:VO P n l.toArray l e w Q):VO P n ops [] e w (CL k (Y0 P (.region id l.toArray false) Q)):=oN (Bp (nQ (I9 h)))
theorem ci{f:FuncId}{ps:List q9}{a:Type}[Inhabited a]{F:C8 ps->Option a}{R:a->AV}{Z:a->D4 ps}{xs:List Operand}{b:Array TypeId}[C4 P f](h:Ok P (c7 f ps F R Z)){x:C8 ps}{r:a}{vs:List Value}{z:Int}{c:IntKind}{fr:Bool}(o:F x=some r)(q:ArgsR (fun k=>k<w.heap.size) w none ps x vs)
  (k:∀w',Ext w w'->VO P n ops rest ((d,.int c z) :: e) w' Q) (j:evl e xs=some vs:=by rfl) (m:Nat.blt d n=true:=by rfl) (i:H2 ps=false:=by rfl) (g:∀r,Fh (R r)=true:=by intro _; rfl) (hz:frz (R r)=.d fr (.int c) z:=by rfl) (l:Fac P w:=by exact FacT.h _):VO P n ops (⟨some d,.call ⟨.value (.func f),xs.toArray,b⟩,ty,pos,after,none⟩ :: rest) e w Q:=by
 grind[V8,Calls.mono,R1,PV]
theorem cb{f:FuncId}{ps:List q9}{a:Type}[Inhabited a]{F:C8 ps->Option a}{R:a->AV}{Z:a->D4 ps}{xs:List Operand}{b:Array TypeId}[C4 P f](h:Ok P (c7 f ps F R Z)){x:C8 ps}{r:a}{vs:List Value}{z:Bool}{fr:Bool}(m:F x=some r)(o:ArgsR (fun k=>k<w.heap.size) w none ps x vs)
  (k:∀w',Ext w w'->VO P n ops rest ((d,.bool z) :: e) w' Q) (i:evl e xs=some vs:=by rfl) (l:Nat.blt d n=true:=by rfl) (g:H2 ps=false:=by rfl) (c:∀r,Fh (R r)=true:=by intro _; rfl) (hz:frz (R r)=.d fr .bool z:=by rfl) (j:Fac P w:=by exact FacT.h _):VO P n ops (⟨some d,.call ⟨.value (.func f),xs.toArray,b⟩,ty,pos,after,none⟩ :: rest) e w Q:=by
 grind[V8,Calls.mono,R1,TX]
end
end Go.Proofs.Xv
end
