/- Typed data of Go programs and how they lie in memory. Over any program. -/
import Derived.Test.YtphnknndgfgepaaGreatDoorXA6
import Derived.Laws.StructEq
import Derived.Laws.Pointers
import Derived.Lib.Join
import Derived.Lib.ItoaLen
import Derived.Laws.Slices
section
namespace Go.Proofs.Xv
open Go Go.RowKit Go.Proofs.Sv
inductive Ty
 | int (k:IntKind) | bool | str | sl (e:Ty) | pt (e:Ty) | pr (a b:Ty)
 deriving DecidableEq
@[reducible] def den:Ty->Type
  | .int _=>Int
  | .bool=>Bool
  | .str=>ByteArray
  | .sl e=>List (den e)
  | .pt e=>den e
  | .pr a b=>den a×den b
def sz:Ty->Nat
 | .pr a b=>sz a+sz b
 | _=>1
theorem n0B:∀t,0<sz t
 | .int _ | .bool | .str | .sl _ | .pt _=>Nat.one_pos
 | .pr a b=>by have:=n0B a; simp only[sz]; omega
def d6:(t:Ty)->den t
 | .int _=>(0:Int)
 | .bool=>false
 | .str=>(⟨#[]⟩:ByteArray)
 | .sl _=>[]
 | .pt e=>d6 e
 | .pr a b=>(d6 a,d6 b)
def lo:IntKind->Int
 | .i8 => -128 | .i16 => -32768 | .i32 => -2147483648 | .i64 => -9223372036854775808 | _=>0
def hi:IntKind->Int
 | .i8=>127 | .i16=>32767 | .i32=>2147483647 | .i64=>9223372036854775807 | .u8=>255 | .u16=>65535 | .u32=>4294967295 | .u64=>18446744073709551615
def wf:(t:Ty)->den t->Prop
 | .int k,x=>lo k<=x/\x<=hi k
 | .bool,_=>True
 | .str,s=>s.size<=9223372036854775807
 | .sl e,xs=>xs.length<=9223372036854775807/\∀x∈xs,wf e x
 | .pt e,x=>wf e x
 | .pr a b,x=>wf a x.1/\wf b x.2
def UF(w:World)(k:Nat):Prop:=∃c T,w.heap[k]?=some (.cells c T (0,0))
theorem UF.lt{w:World}{k:Nat}(h:UF w k):k<w.heap.size:=by
 obtain⟨c,T,h⟩:=h;rcases Nat.lt_or_ge k w.heap.size with h' | h'
 ·exact h'
 ·rw[Array.getElem?_eq_none h'] at h; cases h
theorem UF.same{w w':World}{k:Nat}(h:UF w k)(e:w'.heap[k]?=w.heap[k]?):UF w' k:=by
 obtain⟨c,T,h⟩:=h;exact⟨c,T,e.trans h⟩
def UFg(w:World)(n k:Nat):Prop:=k<w.heap.size/\(n<=k->UF w k)
theorem UFg.lt{w:World}{n k:Nat}(h:UFg w n k):k<w.heap.size:=h.1
theorem UFg.same{w w':World}{n k:Nat}(h:UFg w n k)(hs:w.heap.size<=w'.heap.size)(e:w'.heap[k]?=w.heap[k]?):UFg w' n k:=⟨Nat.lt_of_lt_of_le h.1 hs,fun hn=>(h.2 hn).same e⟩
theorem UF.g{w:World}{n k:Nat}(h:UF w k):UFg w n k:=⟨h.lt,fun _=>h⟩
theorem g0f{w:World}{E s:Nat}{b:Nat}{v:Value}{n:Nat}{cs:List Value}(h:Own w E s (some b) v n cs):UF w b:=by
 rcases h with ⟨h,_⟩ | ⟨b',o,cap,cur,hb,_,h,_⟩
 ·cases h
 ·cases hb; exact⟨_,_,h⟩
theorem s0U{w:World}{b:Nat}{cs:List Value}{T:TypeId}(h:Blk w b cs T):UF w b:=⟨_,_,h⟩
def AllR{α:Type}(R:List Value->α->Prop):List Value->List α->Prop
 | cs,[]=>cs=[]
 | cs,x :: r=>∃c d,cs=c++d/\R c x/\AllR R d r
def RT(K:Nat->Prop)(w:World):(t:Ty)->List Value->den t->Prop
 | .int k,cs,x=>cs=[.int k x]/\(lo k<=x/\x<=hi k)
 | .bool,cs,x=>cs=[.bool x]
 | .str,cs,s=>cs=[.string s]/\s.size<=9223372036854775807
 | .sl e,cs,xs=>∃p cap,cs=[.slice p xs.length cap]/\xs.length<=cap/\cap<=9223372036854775807 /\
    (xs=[]∨∃b o ds,p=some ⟨b,o,none⟩/\K b/\At w b o ds/\AllR (RT K w e) ds xs)
 | .pt e,cs,x=>∃b o ds,cs=[.pointer (some ⟨b,o,none⟩)]/\K b/\At w b o ds/\RT K w e ds x
 | .pr a b,cs,x=>∃c d,cs=c++d/\RT K w a c x.1/\RT K w b d x.2
theorem AllR.mapR{α:Type}{R R':List Value->α->Prop}(h:∀c x,R c x->R' c x):∀{cs:List Value} {xs:List α},AllR R cs xs->AllR R' cs xs
 | _,[],k=>k
 | _,_ :: _,⟨c,d,e,k1,k2⟩=>⟨c,d,e,h _ _ k1,AllR.mapR h k2⟩
theorem AllR.mem{α:Type}{R:List Value->α->Prop}:∀{cs:List Value} {xs:List α},AllR R cs xs->∀x∈xs,∃c,R c x
 | _,[],_,x,hx=>by cases hx
 | _,_ :: _,⟨c,d,e,k1,k2⟩,x,hx=>by
   rcases List.mem_cons.1 hx with rfl | hx
   ·exact⟨c,k1⟩
   ·exact AllR.mem k2 x hx
theorem AllR.len{α:Type}{R:List Value->α->Prop}{s:Nat}(hR:∀c x,R c x->c.length=s):∀{cs:List Value} {xs:List α},AllR R cs xs->cs.length=xs.length*s
 | cs,[],h=>by rw[show cs=[] from h]; simp
 | cs,x :: r,⟨c,d,e,k1,k2⟩=>by
   subst e;rw[List.length_append,hR _ _ k1,AllR.len hR k2,List.length_cons,Nat.add_mul]; omega
theorem AllR.app{α:Type}{R:List Value->α->Prop}{ds:List Value}{ys:List α}(k:AllR R ds ys):∀{cs:List Value} {xs:List α},AllR R cs xs->AllR R (cs++ds) (xs++ys)
 | cs,[],h=>by rw[show cs=[] from h]; exact k
 | _,_ :: _,⟨c,d,e,h1,h2⟩=>⟨c,d++ds,by rw[e]; simp,h1,AllR.app k h2⟩
theorem AllR.one{α:Type}{R:List Value->α->Prop}{c:List Value}{x:α}(h:R c x):AllR R c [x]:=⟨c,[],by simp,h,rfl⟩
theorem AllR.get{α:Type}{R:List Value->α->Prop}{s:Nat}(hR:∀c x,R c x->c.length=s):∀{cs:List Value} {xs:List α} {i:Nat} (_:AllR R cs xs) (hi:i<xs.length),
  ∃pre c post,cs=pre++c++post/\pre.length=i*s/\R c xs[i]
 | _,x :: r,0,⟨c,d,e,h1,h2⟩,_=>⟨[],c,d,by simp[e],by simp,h1⟩
 | _,x :: r,i+1,⟨c,d,e,h1,h2⟩,hi=>by
   obtain⟨pre,c',post,e',h3,h4⟩:=AllR.get hR h2 (i:=i) (by simpa using hi);refine⟨c++pre,c',post,by rw[e,e']; simp,?_,h4⟩;rw[List.length_append,hR _ _ h1,h3,Nat.add_mul]; omega
theorem AllR.set{α:Type}{R:List Value->α->Prop}{s:Nat}(hR:∀c x,R c x->c.length=s){c':List Value}{y:α}(hy:R c' y):∀{cs:List Value} {xs:List α} {i:Nat} (_:AllR R cs xs) (_:i<xs.length),
  AllR R (cs.take (i*s)++c'++cs.drop ((i+1)*s)) (xs.set i y)
 | _,x :: r,0,⟨c,d,e,h1,h2⟩,_=>by
   subst e;refine⟨c',d,?_,hy,h2⟩;have:=hR _ _ h1;simp[<- this]
 | _,x :: r,i+1,⟨c,d,e,h1,h2⟩,hi=>by
   subst e;have hl:=hR _ _ h1;refine⟨c,d.take (i*s)++c'++d.drop ((i+1)*s),?_,h1,AllR.set hR hy h2 (by simpa using hi)⟩;have e1:(i+1)*s=c.length+i*s:=by rw[hl,Nat.add_mul]; omega
   have e2:(i+1+1)*s=c.length+(i+1)*s:=by rw[hl,Nat.add_mul (i+1)]; omega
   rw[e2,List.drop_length_add_append,e1,List.take_length_add_append];simp
theorem RT.len{K:Nat->Prop}{w:World}:∀{t:Ty} {cs:List Value} {x:den t},RT K w t cs x->cs.length=sz t
 | .int _,_,_,h=>by rw[h.1]; rfl
 | .bool,_,_,h=>by rw[show _=_ from h]; rfl
 | .str,_,_,h=>by rw[h.1]; rfl
 | .sl _,_,_,⟨_,_,h,_⟩=>by rw[h]; rfl
 | .pt _,_,_,⟨_,_,_,h,_⟩=>by rw[h]; rfl
 | .pr a b,_,_,⟨c,d,h,h1,h2⟩=>by rw[h,List.length_append,RT.len h1,RT.len h2]; rfl
theorem RT.same{K K':Nat->Prop}{w w':World}(hK:∀k,K k->k<w.heap.size->K' k/\w'.heap[k]?=w.heap[k]?):∀{t:Ty} {cs:List Value} {x:den t},RT K w t cs x->RT K' w' t cs x
 | .int _,_,_,h=>h
 | .bool,_,_,h=>h
 | .str,_,_,h=>h
 | .sl e,_,xs,⟨p,cap,h1,h2,h3,h4⟩=>by
   refine⟨p,cap,h1,h2,h3,?_⟩;rcases h4 with h4 | ⟨b,o,ds,hp,hb,hat,hall⟩
   ·exact .inl h4
   ·rcases Nat.eq_zero_or_pos ds.length with hz | hz
    ·left;have:=hall.len (fun c x h=>RT.len h);rw[hz] at this;rcases Nat.mul_eq_zero.1 this.symm with h' | h'
     ·exact List.eq_nil_of_length_eq_zero h'
     ·have:=n0B e; omega
    ·have hlt:=hat.lt hz;exact .inr ⟨b,o,ds,hp,(hK b hb hlt).1,hat.same (fun _=>(hK b hb hlt).2),hall.mapR (fun c x h=>RT.same hK h)⟩
 | .pt e,_,x,⟨b,o,ds,h1,hb,hat,h2⟩=>by
   have hz:0<ds.length:=by rw[RT.len h2]; exact n0B e
   have hlt:=hat.lt hz;exact⟨b,o,ds,h1,(hK b hb hlt).1,hat.same (fun _=>(hK b hb hlt).2),RT.same hK h2⟩
 | .pr a b,_,x,⟨c,d,h,h1,h2⟩=>⟨c,d,h,RT.same hK h1,RT.same hK h2⟩
def D8:Ty->Bool
 | .int _ | .bool | .str=>true
 | .sl _ | .pt _=>false
 | .pr a b=>D8 a&&D8 b
theorem RT.free{K K':Nat->Prop}{w w':World}:∀{t:Ty} {cs:List Value} {x:den t},D8 t=true->RT K w t cs x->RT K' w' t cs x
 | .int _,_,_,_,h=>h
 | .bool,_,_,_,h=>h
 | .str,_,_,_,h=>h
 | .pr a b,_,x,hk,⟨c,d,h,h1,h2⟩=>by
   simp only[D8,ba] at hk;exact⟨c,d,h,RT.free hk.1 h1,RT.free hk.2 h2⟩
theorem RT.up{K K':Nat->Prop}{w:World}{t:Ty}{cs:List Value}{x:den t}(h:RT K w t cs x)(hK:∀k,K k->K' k):RT K' w t cs x:=RT.same (fun k hk _=>⟨hK k hk,rfl⟩) h
theorem RT.wf{K:Nat->Prop}{w:World}:∀{t:Ty} {cs:List Value} {x:den t},RT K w t cs x->Xv.wf t x
 | .int _,_,_,h=>h.2
 | .bool,_,_,_=>trivial
 | .str,_,_,h=>h.2
 | .sl e,_,xs,⟨p,cap,h1,h2,h3,h4⟩=>by
   refine⟨by omega,fun x hx=>?_⟩;rcases h4 with rfl | ⟨b,o,ds,hp,hb,hat,hall⟩
   ·cases hx
   ·obtain⟨c,hc⟩:=hall.mem x hx;exact RT.wf hc
 | .pt e,_,x,⟨b,o,ds,h1,hb,hat,h2⟩=>RT.wf (t:=e) h2
 | .pr a b,_,x,⟨c,d,h,h1,h2⟩=>⟨RT.wf h1,RT.wf h2⟩
theorem RT.one{K:Nat->Prop}{w:World}:∀{t:Ty} {cs:List Value} {x:den t},RT K w t cs x->∀u∈cs,u.oneCell'=true
 | .int _,_,_,h,u,hu=>by rw[h.1] at hu; cases List.mem_singleton.1 hu; rfl
 | .bool,_,_,h,u,hu=>by rw[show _=_ from h] at hu; cases List.mem_singleton.1 hu; rfl
 | .str,_,_,h,u,hu=>by rw[h.1] at hu; cases List.mem_singleton.1 hu; rfl
 | .sl _,_,_,⟨_,_,h,_⟩,u,hu=>by rw[h] at hu; cases List.mem_singleton.1 hu; rfl
 | .pt _,_,_,⟨_,_,_,h,_⟩,u,hu=>by rw[h] at hu; cases List.mem_singleton.1 hu; rfl
 | .pr a b,_,_,⟨c,d,h,h1,h2⟩,u,hu=>by
   rw[h] at hu;rcases List.mem_append.1 hu with hu | hu
   ·exact RT.one h1 u hu
   ·exact RT.one h2 u hu
theorem RT.get{K:Nat->Prop}{w:World}{e:Ty}{p:Option Addr}{n cap:Nat}{xs:List (den e)}(h:RT K w (.sl e) [.slice p n cap] xs){i:Nat}(hi:i<xs.length) :
  n=xs.length/\∃b o c,p=some ⟨b,o,none⟩/\K b/\At w b (o+i*sz e) c/\RT K w e c xs[i]:=by
 obtain⟨p',cap',h1,h2,h3,h4⟩:=h;simp only[List.cons.injEq,Value.slice.injEq,and_true] at h1;obtain⟨rfl,rfl,rfl⟩:=h1;refine⟨rfl,?_⟩;rcases h4 with h4 | ⟨b,o,ds,hp,hb,hat,hall⟩
 ·subst h4; simp at hi
 ·obtain⟨pre,c,post,rfl,h5,h6⟩:=hall.get (fun c x h=>RT.len h) hi;refine⟨b,o,c,hp,hb,?_,h6⟩;rw[<- h5]; exact hat.mid
inductive AV
 | v (x:Value)
 | d (fr:Bool) (t:Ty) (x:den t)
 | agg (xs:List AV)
 | tup (xs:List AV)
 | ptr (id off:Nat)
 | pel (id ver k s off:Nat)
 | os (id ver:Nat)
 | fn (f:FuncId) (caps:List AV)
 | ow (T:TypeId) (fr:Bool) (t:Ty) (xs:List (den t))
 | gel (id k:Nat)
 | og (id:Nat)
 | ob (T:TypeId) (cs:List AV)
inductive Ob
 | box (T:TypeId) (cs:List AV)
 | arr (T:TypeId) (fr:Bool) (t:Ty) (xs:List (den t)) (ver:Nat)
 | grd (T Te:TypeId) (fr:Bool) (t:Ty) (xs:List (List (den t))) (hole:Option Nat)
def lku{β:Type}:List (Nat×β)->Nat->Option β
 | [],_=>none
 | (d,v) :: e,t=>bif Nat.beq d t then some v else lku e t
theorem lK{β:Type}(d:Nat)(v:β)(e:List (Nat×β))(t:Nat):lku ((d,v) :: e) t=if d=t then some v else lku e t:=by
 show(bif Nat.beq d t then some v else lku e t)=_;by_cases h:d=t
 ·subst h; simp
 ·have:Nat.beq d t=false:=Bool.eq_false_iff.2 (fun hb=>h (nb hb));rw[this]; simp[h]
structure Gh where
 ρ:Nat->Value
 γ:Nat->Option Nat
 K:Nat->Prop
 w:World
 o:List (Nat×Ob)
 B:Nat
 δ:Nat->Nat->Prop
def rg(G:Gh)(fr:Bool)(k:Nat):Prop:=G.K k/\(fr=true->G.B<=k)
mutual
def AVR(G:Gh):AV->Value->Prop
 | .v x,u=>u=x
 | .d fr t x,u=>RT (rg G fr) G.w t [u] x
 | .agg xs,u=>∃us:List Value,u=.agg us.toArray/\AVRs G xs us
 | .tup xs,u=>∃us:List Value,u=.tuple us.toArray/\AVRs G xs us
 | .ptr id off,u=>(∃T cs,lku G.o id=some (.box T cs))/\∃b,G.ρ id=.pointer (some ⟨b,0,none⟩)/\u=.pointer (some ⟨b,off,none⟩)
 | .pel id ver k s off,u=>u.oneCell'=true/\∃T fr t xs ver',lku G.o id=some (.arr T fr t xs ver')/\ver<=ver'/\(ver=ver'->∃b o n c,G.ρ id=.slice (some ⟨b,o,none⟩) n c/\u=.pointer (some ⟨b,o+(k*s+off),none⟩))
 | .os id ver,u=>u.oneCell'=true/\∃T fr t xs ver',lku G.o id=some (.arr T fr t xs ver')/\ver<=ver'/\(ver=ver'->u=G.ρ id)
 | .fn f caps,u=>∃us:List Value,u=.func (.func f) #[] us.toArray/\AVRs G caps us
 | .ow ..,_=>False
 | .ob ..,_=>False
 | .gel id k,u=>(∃T Te fr t xs hole,lku G.o id=some (.grd T Te fr t xs hole))/\∃b o n c,G.ρ id=.slice (some ⟨b,o,none⟩) n c/\u=.pointer (some ⟨b,o+k,none⟩)
 | .og id,u=>u.oneCell'=true/\(∃T Te fr t xs hole,lku G.o id=some (.grd T Te fr t xs hole))/\u=G.ρ id
def AVRs(G:Gh):List AV->List Value->Prop
 | [],us=>us=[]
 | a :: r,us=>∃u us',us=u :: us'/\AVR G a u/\AVRs G r us'
end
theorem AVRs.len{G:Gh}:∀{as:List AV} {us:List Value},AVRs G as us->us.length=as.length
 | [],us,h=>by rw[show us=[] from h]; rfl
 | a :: r,us,⟨u,us',e,_,h⟩=>by rw[e]; simp[AVRs.len h]
theorem AVRs.app{G:Gh}{bs:List AV}{vs:List Value}(k:AVRs G bs vs):∀{as:List AV} {us:List Value},AVRs G as us->AVRs G (as++bs) (us++vs)
 | [],us,h=>by rw[show us=[] from h]; exact k
 | a :: r,us,⟨u,us',e,h1,h2⟩=>⟨u,us'++vs,by rw[e]; rfl,h1,AVRs.app k h2⟩
theorem AVRs.split{G:Gh}{bs:List AV}:∀{as:List AV} {us:List Value},AVRs G (as++bs) us->∃us1 us2,us=us1++us2/\AVRs G as us1/\AVRs G bs us2
 | [],us,h=>⟨[],us,rfl,rfl,h⟩
 | a :: r,us,⟨u,us',e,h1,h2⟩=>by
   obtain⟨a1,a2,e',h3,h4⟩:=AVRs.split h2;exact⟨u :: a1,a2,by rw[e,e']; rfl,⟨u,a1,rfl,h1,h3⟩,h4⟩
theorem AVRs.take{G:Gh}{as:List AV}{us:List Value}(h:AVRs G as us)(k:Nat):AVRs G (as.take k) (us.take k)/\AVRs G (as.drop k) (us.drop k):=by
 rw[<- List.take_append_drop k as] at h;obtain⟨a1,a2,e,h1,h2⟩:=h.split;have hl:=h1.len;have hl2:=h2.len;subst e;by_cases hk:k<=as.length
 ·have:a1.length=k:=by rw[hl,List.length_take]; omega
  subst this;simpa using ⟨h1,h2⟩
 ·have e1:as.drop k=[]:=List.drop_eq_nil_of_le (by omega);have e3:as.take k=as:=List.take_of_length_le (by omega);rw[e1] at h2 hl2 ⊢;have:a2=[]:=h2;subst this;rw[e3] at h1 hl ⊢;simp only[List.append_nil];rw[List.take_of_length_le (by omega),List.drop_eq_nil_of_le (by omega)];exact⟨h1,rfl⟩
theorem AVRs.get{G:Gh}:∀{as:List AV} {us:List Value} {i:Nat} {a:AV},AVRs G as us->as[i]?=some a->∃u,us[i]?=some u/\AVR G a u
 | a :: r,us,0,x,⟨u,us',e,h1,h2⟩,hx=>by
   simp at hx; subst hx; exact⟨u,by rw[e]; rfl,h1⟩
 | a :: r,us,i+1,x,⟨u,us',e,h1,h2⟩,hx=>by
   obtain⟨v,hv,hr⟩:=AVRs.get h2 (i:=i) (by simpa using hx);exact⟨v,by rw[e]; simpa using hv,hr⟩
def D0I:AV->Bool
 | .v x=>x.oneCell'
 | .d _ t _=>match t with | .pr _ _=>false | _=>true
 | .agg _ | .tup _ | .ow .. | .ob ..=>false
 | _=>true
theorem AVR.one{G:Gh}:∀{a:AV} {u:Value},AVR G a u->D0I a=true->u.oneCell'=true
 | .v x,u,h,ho=>by rw[show u=x from h]; exact ho
 | .d _ t x,u,h,_=>RT.one h u (List.mem_singleton.2 rfl)
 | .ptr _ _,u,⟨_,_,_,h⟩,_=>by rw[h]; rfl
 | .pel ..,u,h,_=>h.1
 | .os ..,u,h,_=>h.1
 | .fn ..,u,⟨_,h,_⟩,_=>by rw[h]; rfl
 | .gel ..,u,⟨_,_,_,_,_,_,h⟩,_=>by rw[h]; rfl
 | .og ..,u,h,_=>h.1
 | .ow ..,_,h,_=>h.elim
 | .ob ..,_,h,_=>h.elim
structure Rows(G:Gh)(id:Nat)(Te:TypeId)(fr:Bool)(t:Ty)(xs:List (List (den t)))(hole:Option Nat)(vs:List Value)(bs:Nat->Option Nat):Prop where
 len:vs.length=xs.length
 blk:∀b,G.δ id b↔∃k,k<xs.length/\hole≠some k/\bs k=some b
 inj:∀k k' b,k<xs.length->k'<xs.length->hole≠some k->hole≠some k'->bs k=some b->bs k'=some b->k=k'
 row:∀k,k<xs.length->hole≠some k->∃cs,Own G.w Te (sz t) (bs k) (vs.getD k (.bool false)) (xs.getD k []).length cs/\AllR (RT (rg G fr) G.w t) cs (xs.getD k [])/\∀b,bs k=some b->G.B<=b
 one:∀v∈vs,v.oneCell'=true
def ObR(G:Gh)(id:Nat):Ob->Prop
 | .box T cs=>∃b us,G.γ id=some b/\G.ρ id=.pointer (some ⟨b,0,none⟩)/\Blk G.w b us T/\AVRs G cs us
 | .arr T fr t xs _=>∃cs,Own G.w T (sz t) (G.γ id) (G.ρ id) xs.length cs/\AllR (RT (rg G fr) G.w t) cs xs/\∀b,G.γ id=some b->G.B<=b
 | .grd T Te fr t xs hole=>∃vs bs,Own G.w T 1 (G.γ id) (G.ρ id) xs.length vs/\Rows G id Te fr t xs hole vs bs/\∀b,G.γ id=some b->G.B<=b
def H5:Option Ob->Bool
 | some (.grd ..)=>true
 | _=>false
structure Cx where
 P:Program
 n:Nat
 w0:World
 io:Nat->Prop
 K0:Nat->Prop
 pin:Option (Nat×Value)
 base:Nat
structure Sat(X:Cx)(G:Gh):Prop where
 base:G.B=X.base/\X.base<=X.w0.heap.size
 os:G.w.os=X.w0.os
 tape:G.w.tape=X.w0.tape
 output:G.w.output=X.w0.output
 size:X.w0.heap.size<=G.w.heap.size
 block:∀k,k<X.w0.heap.size->¬X.io k->G.w.heap[k]?=X.w0.heap[k]?
 obs:∀id o,lku G.o id=some o->ObR G id o
 inj:∀id id' o o' b,lku G.o id=some o->lku G.o id'=some o'->G.γ id=some b->G.γ id'=some b->id=id'
 imm:∀id o b,lku G.o id=some o->G.γ id=some b->¬G.K b
 own:∀id o b,lku G.o id=some o->G.γ id=some b->X.w0.heap.size<=b∨X.io b
 klt:∀k,G.K k->UFg G.w X.w0.heap.size k
 kfrom:∀k,G.K k->X.K0 k∨X.base<=k
 sep:∀id b,G.δ id b->H5 (lku G.o id)=true->(X.w0.heap.size<=b∨X.io b)/\¬G.K b/\(∀i o,lku G.o i=some o->G.γ i≠some b)/\∀i,G.δ i b->H5 (lku G.o i)=true->id=i
 pin:∀i v,X.pin=some (i,v)->AVR G (.ptr (500000+i) 0) v
theorem Sat.le{X:Cx}{G:Gh}(S:Sat X G):G.B<=X.w0.heap.size:=by
 rw[S.base.1]; exact S.base.2
structure GLe(G G':Gh):Prop where
 hB:G'.B=G.B
 hK:∀k,G.K k->k<G.w.heap.size->G'.K k/\G'.w.heap[k]?=G.w.heap[k]?
 hbox:∀id T cs,lku G.o id=some (.box T cs)->G'.ρ id=G.ρ id/\∃T' cs',lku G'.o id=some (.box T' cs')
 hgrd:∀id T Te fr t xs hole,lku G.o id=some (.grd T Te fr t xs hole)->G'.ρ id=G.ρ id/\∃T' Te' fr' t' xs' hole',lku G'.o id=some (.grd T' Te' fr' t' xs' hole')
 harr:∀id T fr t xs ver,lku G.o id=some (.arr T fr t xs ver)->∃T' fr' t' xs' ver',lku G'.o id=some (.arr T' fr' t' xs' ver')/\ver<=ver'/\(ver=ver'->G'.ρ id=G.ρ id)
theorem GLe.hR{G G':Gh}(h:GLe G G'){fr:Bool}:∀k,rg G fr k->k<G.w.heap.size->rg G' fr k/\G'.w.heap[k]?=G.w.heap[k]?:=fun k ⟨h1,h2⟩ hl=>⟨⟨(h.hK k h1 hl).1,fun e=>by rw[h.hB]; exact h2 e⟩,(h.hK k h1 hl).2⟩
mutual
theorem AVR.mono{G G':Gh}(h:GLe G G'):∀{a:AV} {u:Value},AVR G a u->AVR G' a u
 | .v _,_,k=>k
 | .d _ _ _,_,k=>RT.same h.hR k
 | .agg _,_,⟨us,e,k⟩=>⟨us,e,AVRs.mono h k⟩
 | .tup _,_,⟨us,e,k⟩=>⟨us,e,AVRs.mono h k⟩
 | .ptr id off,u,⟨⟨T,cs,h1⟩,b,h2,h3⟩=>by
   obtain⟨e,hx⟩:=h.hbox id T cs h1;exact⟨hx,b,by rw[e]; exact h2,h3⟩
 | .pel id ver k s off,u,⟨h0,T,fr,t,xs,ver',h1,h2,h3⟩=>by
   obtain⟨T',fr',t',xs',ver'',g1,g2,g3⟩:=h.harr id T fr t xs ver' h1;refine⟨h0,T',fr',t',xs',ver'',g1,by omega,fun e=>?_⟩;obtain⟨b,o,n,c,k1,k2⟩:=h3 (by omega);exact⟨b,o,n,c,by rw[g3 (by omega)]; exact k1,k2⟩
 | .os id ver,u,⟨h0,T,fr,t,xs,ver',h1,h2,h3⟩=>by
   obtain⟨T',fr',t',xs',ver'',g1,g2,g3⟩:=h.harr id T fr t xs ver' h1;exact⟨h0,T',fr',t',xs',ver'',g1,by omega,fun e=>by rw[g3 (by omega)]; exact h3 (by omega)⟩
 | .fn _ _,_,⟨us,e,k⟩=>⟨us,e,AVRs.mono h k⟩
 | .ow ..,_,k=>k
 | .ob ..,_,k=>k
 | .gel id k,u,⟨⟨T,Te,fr,t,xs,hole,h1⟩,b,o,n,c,h2,h3⟩=>by
   obtain⟨e,hx⟩:=h.hgrd id T Te fr t xs hole h1;exact⟨hx,b,o,n,c,by rw[e]; exact h2,h3⟩
 | .og id,u,⟨h0,⟨T,Te,fr,t,xs,hole,h1⟩,h2⟩=>by
   obtain⟨e,hx⟩:=h.hgrd id T Te fr t xs hole h1;exact⟨h0,hx,by rw[e]; exact h2⟩
theorem AVRs.mono{G G':Gh}(h:GLe G G'):∀{as:List AV} {us:List Value},AVRs G as us->AVRs G' as us
 | [],_,k=>k
 | _ :: _,_,⟨u,us',e,k1,k2⟩=>⟨u,us',e,AVR.mono h k1,AVRs.mono h k2⟩
end
theorem GLe.refl(G:Gh):GLe G G:=⟨rfl,fun _ h _=>⟨h,rfl⟩,fun _ _ _ h=>⟨rfl,_,_,h⟩,fun _ _ _ _ _ _ _ h=>⟨rfl,_,_,_,_,_,_,h⟩,fun _ _ _ _ _ _ h=>⟨_,_,_,_,_,h,Nat.le_refl _,fun _=>rfl⟩⟩
theorem GLe.trans{A B C:Gh}(h:GLe A B)(k:GLe B C)(hs:A.w.heap.size<=B.w.heap.size):GLe A C:=by
 refine⟨k.hB.trans h.hB,fun i hi hl=>?_,fun i T cs hi=>?_,fun i T Te fr t xs hole hi=>?_,fun i T fr t xs ver hi=>?_⟩
 ·obtain⟨h1,h2⟩:=h.hK i hi hl;obtain⟨k1,k2⟩:=k.hK i h1 (by omega);exact⟨k1,k2.trans h2⟩
 ·obtain⟨h1,T',cs',h2⟩:=h.hbox i T cs hi;obtain⟨k1,k2⟩:=k.hbox i T' cs' h2;exact⟨k1.trans h1,k2⟩
 ·obtain⟨h1,T',Te',fr',t',xs',hole',h2⟩:=h.hgrd i T Te fr t xs hole hi;obtain⟨k1,k2⟩:=k.hgrd i T' Te' fr' t' xs' hole' h2;exact⟨k1.trans h1,k2⟩
 ·obtain⟨T',fr',t',xs',ver',h1,h2,h3⟩:=h.harr i T fr t xs ver hi;obtain⟨T2,fr2,t2,xs2,ver2,k1,k2,k3⟩:=k.harr i T' fr' t' xs' ver' h1;exact⟨T2,fr2,t2,xs2,ver2,k1,by omega,fun e=>(k3 (by omega)).trans (h3 (by omega))⟩
theorem Rows.up{G G':Gh}{id:Nat}{Te:TypeId}{fr:Bool}{t:Ty}{xs:List (List (den t))}{hole:Option Nat}{vs:List Value}{bs:Nat->Option Nat}(h:Rows G id Te fr t xs hole vs bs)(hle:GLe G G')(hδ:∀b,G'.δ id b↔G.δ id b){go:Option Nat}(hw:WE go G.w G'.w)(hgo:∀b,G.δ id b->go≠some b):Rows G' id Te fr t xs hole vs bs:=by
 refine⟨h.len,fun b=>(hδ b).trans (h.blk b),h.inj,fun k hk hh=>?_,h.one⟩;obtain⟨cs,h1,h2,h3⟩:=h.row k hk hh;exact⟨cs,h1.we hw (fun j hj e=>hgo j ((h.blk j).2 ⟨k,hk,hh,e⟩) hj),h2.mapR (fun c x hr=>RT.same (w:=G.w) hle.hR hr),by rw[hle.hB]; exact h3⟩
theorem f0m{o:Option Ob}(h:H5 o=true):∃T Te fr t xs hole,o=some (.grd T Te fr t xs hole):=by
 unfold H5 at h;split at h
 ·exact⟨_,_,_,_,_,_,rfl⟩
 ·cases h
theorem Sat.dlt{X:Cx}{G:Gh}(S:Sat X G){id b:Nat}(h:G.δ id b)(hg:H5 (lku G.o id)=true):b<G.w.heap.size:=by
 obtain⟨T,Te,fr,t,xs,hole,ho⟩:=f0m hg;obtain⟨vs,bs,_,hr,_⟩:=S.obs id _ ho;obtain⟨k,hk,hh,hb⟩:=(hr.blk b).1 h;obtain⟨cs,h1,_⟩:=hr.row k hk hh;exact h1.lt b hb
theorem Sat.duf{X:Cx}{G:Gh}(S:Sat X G){id b:Nat}(h:G.δ id b)(hg:H5 (lku G.o id)=true):UF G.w b:=by
 obtain⟨T,Te,fr,t,xs,hole,ho⟩:=f0m hg;obtain⟨vs,bs,_,hr,_⟩:=S.obs id _ ho;obtain⟨k,hk,hh,hb⟩:=(hr.blk b).1 h;obtain⟨cs,h1,_⟩:=hr.row k hk hh;rw[hb] at h1;exact g0f h1
theorem Sat.ext{X:Cx}{G:Gh}(S:Sat X G){w':World}(h:Ext G.w w'):Sat X { G with w:=w' }/\GLe G { G with w:=w' }:=by
 have hle:GLe G { G with w:=w' }:=⟨rfl,fun k hk hl=>⟨hk,h.block k hl⟩,fun _ _ _ h=>⟨rfl,_,_,h⟩,fun _ _ _ _ _ _ _ h=>⟨rfl,_,_,_,_,_,_,h⟩,fun _ _ _ _ _ _ h=>⟨_,_,_,_,_,h,Nat.le_refl _,fun _=>rfl⟩⟩;refine⟨⟨S.base,h.os.trans S.os,h.tape.trans S.tape,h.output.trans S.output,Nat.le_trans S.size h.size,fun k hk hi=>(h.block k (Nat.lt_of_lt_of_le hk S.size)).trans (S.block k hk hi),?_,S.inj,S.imm,S.own,fun k hk=>(S.klt k hk).same h.size (hle.hK k hk (S.klt k hk).lt).2,S.kfrom,S.sep,fun i v h=>(S.pin i v h).mono hle⟩,hle⟩;intro id o ho;have:=S.obs id o ho;cases o with
 | box T cs =>
   obtain⟨b,us,h1,h2,h3,h4⟩:=this;exact⟨b,us,h1,h2,h3.ext h,AVRs.mono hle h4⟩
 | arr T fr t xs ver =>
   obtain⟨cs,h1,h2,h3⟩:=this;exact⟨cs,h1.up h,h2.mapR (fun c x hr=>RT.same (w:=G.w) hle.hR hr),h3⟩
 | grd T Te fr t xs hole =>
   obtain⟨vs,bs,h1,h2,h3⟩:=this;exact⟨vs,bs,h1.up h,h2.up hle (fun _=>Iff.rfl) (go:=none) (WE.of_ext h) (fun _ _ e=>by cases e),h3⟩
def Gh.put(G:Gh)(id:Nat)(ob:Ob)(r:Value)(g:Option Nat)(w':World):Gh :=
 ⟨fun i=>if i=id then r else G.ρ i,fun i=>if i=id then g else G.γ i,G.K,w',(id,ob) :: G.o,G.B,fun i b=>i≠id/\G.δ i b⟩
def t0h(G:Gh)(id:Nat)(ob:Ob)(r:Value):Prop :=
 (∀T cs,lku G.o id=some (.box T cs)->r=G.ρ id/\∃T' cs',ob=.box T' cs') /\
 (∀T fr t xs ver,lku G.o id=some (.arr T fr t xs ver)->∃T' fr' t' xs' ver',ob=.arr T' fr' t' xs' ver'/\ver<=ver'/\(ver=ver'->r=G.ρ id))/\H5 (lku G.o id)=false
theorem Sat.put{X:Cx}{G:Gh}(S:Sat X G){id:Nat}{ob:Ob}{r:Value}{g:Option Nat}{w':World}{go:Option Nat}
  (hfo:t0h G id ob r) (hgo:∀b,go=some b->(∃o,lku G.o id=some o)/\G.γ id=some b) (hfr:WE go G.w w') (hg:∀b,g=some b->go=some b∨G.w.heap.size<=b)
  (hob:GLe G (G.put id ob r g w')->ObR (G.put id ob r g w') id ob):Sat X (G.put id ob r g w')/\GLe G (G.put id ob r g w'):=by
 have hlk:∀i,lku (G.put id ob r g w').o i=if id=i then some ob else lku G.o i:=fun i=>lK _ _ _ _
 have hKb:∀k,G.K k->go≠some k:=fun k hk e=>by
  obtain⟨⟨o,ho⟩,hγ⟩:=hgo k e;exact S.imm id o k ho hγ hk
 have hle:GLe G (G.put id ob r g w'):=by
  refine⟨rfl,fun k hk hl=>⟨hk,hfr.block k hl (hKb k hk)⟩,fun i T cs hi=>?_,fun i T Te fr t xs hole hi=>?_,fun i T fr t xs ver hi=>?_⟩
  ·rw[hlk];by_cases e:id=i
   ·subst e;obtain⟨h1,T',cs',h2⟩:=hfo.1 T cs hi;simp[Gh.put,h1,h2]
   ·simp only[Gh.put,if_neg e,if_neg (Ne.symm e)];exact⟨trivial,_,_,hi⟩
  ·rw[hlk];by_cases e:id=i
   ·subst e;have:=hfo.2.2;rw[hi] at this;cases this
   ·simp only[Gh.put,if_neg e,if_neg (Ne.symm e)];exact⟨trivial,_,_,_,_,_,_,hi⟩
  ·rw[hlk];by_cases e:id=i
   ·subst e;obtain⟨T',fr',t',xs',ver',h1,h2,h3⟩:=hfo.2.1 T fr t xs ver hi;simp only[Gh.put,if_true];exact⟨T',fr',t',xs',ver',by rw[h1],h2,h3⟩
   ·simp only[Gh.put,if_neg e,if_neg (Ne.symm e)];exact⟨_,_,_,_,_,hi,Nat.le_refl _,fun _=>trivial⟩
 have hgo2:∀i o b,i≠id->lku G.o i=some o->G.γ i=some b->go≠some b:=fun i o b hi ho hb e=>by
  obtain⟨⟨o',ho'⟩,hγ⟩:=hgo b e;exact hi (S.inj i id o o' b ho ho' hb hγ)
 have hlt:∀i o b,lku G.o i=some o->G.γ i=some b->b<G.w.heap.size:=fun i o b ho hb=>by
  have:=S.obs i o ho;cases o with
  | box T cs=>obtain⟨b',us,h1,h2,h3,h4⟩:=this; rw[hb] at h1; cases h1; exact h3.lt
  | arr T fr t xs ver=>obtain⟨cs,h1,h2,_⟩:=this; exact h1.lt b hb
  | grd T Te fr t xs hole=>obtain⟨vs,bs,h1,_⟩:=this; exact h1.lt b hb
 have hgnew:∀b,g=some b->∀i o,i≠id->lku G.o i=some o->G.γ i≠some b:=fun b hb i o hi ho e=>by
  rcases hg b hb with h | h
  ·exact hgo2 i o b hi ho e h
  ·have:=hlt i o b ho e; omega
 have hg':=hg;refine⟨⟨S.base,hfr.os.trans S.os,hfr.tape.trans S.tape,hfr.output.trans S.output,Nat.le_trans S.size hfr.size,fun k hk hi=>?_,?_,?_,?_,?_,fun k hk=>(S.klt k hk).same hfr.size (hle.hK k hk (S.klt k hk).lt).2,S.kfrom,?_,fun i v h=>(S.pin i v h).mono hle⟩,hle⟩
 ·refine(hfr.block k (Nat.lt_of_lt_of_le hk S.size) (fun e=>?_)).trans (S.block k hk hi);obtain⟨⟨o,ho⟩,hγ⟩:=hgo k e;rcases S.own id o k ho hγ with h | h
  ·omega
  ·exact hi h
 ·intro i o ho;rw[hlk] at ho;by_cases e:id=i
  ·subst e;rw[if_pos rfl] at ho;cases ho;exact hob hle
  ·rw[if_neg e] at ho;have:=S.obs i o ho;cases o with
   | box T cs =>
     obtain⟨b,us,h1,h2,h3,h4⟩:=this;refine⟨b,us,?_,?_,?_,AVRs.mono hle h4⟩
     ·simp only[Gh.put,if_neg (Ne.symm e)]; exact h1
     ·simp only[Gh.put,if_neg (Ne.symm e)]; exact h2
     ·exact h3.we hfr (fun j hj hbj=>by subst hbj; exact hgo2 i _ b (Ne.symm e) ho h1 hj)
   | arr T fr t xs ver =>
     obtain⟨cs,h1,h2,h3⟩:=this;refine⟨cs,?_,?_,by simp only[Gh.put,if_neg (Ne.symm e)]; exact h3⟩
     ·simp only[Gh.put,if_neg (Ne.symm e)];exact h1.we hfr (fun j hj hbj=>hgo2 i _ j (Ne.symm e) ho hbj hj)
     ·exact h2.mapR (fun c x hr=>RT.same (w:=G.w) hle.hR hr)
   | grd T Te fr t xs hole =>
     obtain⟨vs,bs,h1,h2,h3⟩:=this;refine⟨vs,bs,?_,?_,by simp only[Gh.put,if_neg (Ne.symm e)]; exact h3⟩
     ·simp only[Gh.put,if_neg (Ne.symm e)];exact h1.we hfr (fun j hj hbj=>hgo2 i _ j (Ne.symm e) ho hbj hj)
     ·refine h2.up hle (fun b=>⟨fun h=>h.2,fun h=>⟨Ne.symm e,h⟩⟩) hfr (fun b hb hgb=>?_);obtain⟨⟨o',ho'⟩,hγ⟩:=hgo b hgb;exact(S.sep i b hb (by rw[ho]; rfl)).2.2.1 id o' ho' hγ
 ·intro i i' o o' b ho ho' hb hb';rw[hlk] at ho ho';simp only[Gh.put] at hb hb';by_cases e:i=id
  ·by_cases e':i'=id
   ·rw[e,e']
   ·rw[if_pos e] at hb;rw[if_neg e'] at hb';rw[if_neg (Ne.symm e')] at ho';exact(hgnew b hb i' o' e' ho' hb').elim
  ·rw[if_neg e] at hb;rw[if_neg (Ne.symm e)] at ho;by_cases e':i'=id
   ·rw[if_pos e'] at hb';exact(hgnew b hb' i o e ho hb).elim
   ·rw[if_neg e'] at hb';rw[if_neg (Ne.symm e')] at ho';exact S.inj i i' o o' b ho ho' hb hb'
 ·intro i o b ho hb hk;rw[hlk] at ho;simp only[Gh.put] at hb hk;by_cases e:i=id
  ·rw[if_pos e] at hb;rcases hg b hb with h | h
   ·exact hKb b hk h
   ·have:=(S.klt b hk).lt; omega
  ·rw[if_neg e] at hb;rw[if_neg (Ne.symm e)] at ho;exact S.imm i o b ho hb hk
 ·intro i o b ho hb;rw[hlk] at ho;simp only[Gh.put] at hb;by_cases e:i=id
  ·rw[if_pos e] at hb;rcases hg b hb with h | h
   ·obtain⟨⟨o',ho'⟩,hγ⟩:=hgo b h;exact S.own id o' b ho' hγ
   ·exact .inl (Nat.le_trans S.size h)
  ·rw[if_neg e] at hb;rw[if_neg (Ne.symm e)] at ho;exact S.own i o b ho hb
 ·intro i b hb hg;obtain⟨hne,hb⟩:=hb;rw[hlk,if_neg (Ne.symm hne)] at hg;obtain⟨s1,s2,s3,s4⟩:=S.sep i b hb hg;have hbl:=S.dlt hb hg;refine⟨s1,s2,fun j o ho hj=>?_,fun j hj hgj=>?_⟩
  ·rw[hlk] at ho;simp only[Gh.put] at hj;by_cases e:j=id
   ·rw[if_pos e] at hj;rcases hg' b hj with h | h
    ·obtain⟨⟨o',ho'⟩,hγ⟩:=hgo b h;exact s3 id o' ho' hγ
    ·omega
   ·rw[if_neg e] at hj;rw[if_neg (Ne.symm e)] at ho;exact s3 j o ho hj
  ·obtain⟨hne',hj⟩:=hj;rw[hlk,if_neg (Ne.symm hne')] at hgj;exact s4 j hj hgj
def Gh.grd(G:Gh)(id:Nat)(ob:Ob)(D:Nat->Prop)(w':World):Gh :=
 ⟨G.ρ,G.γ,G.K,w',(id,ob) :: G.o,G.B,fun i b=>(i=id/\D b)∨(i≠id/\G.δ i b)⟩
theorem Sat.grd{X:Cx}{G:Gh}(S:Sat X G){id:Nat}{T Te T' Te':TypeId}{fr fr':Bool}{t t':Ty}{xs:List (List (den t))}{xs':List (List (den t'))}{hole hole':Option Nat}{D:Nat->Prop}{w':World}{go:Option Nat}
  (ho:lku G.o id=some (.grd T Te fr t xs hole)) (hgo:∀b,go=some b->G.γ id=some b) (hfr:WE go G.w w')
  (hD:∀b,D b->(X.w0.heap.size<=b∨X.io b)/\¬G.K b/\(∀i o,lku G.o i=some o->G.γ i≠some b)/\∀i,i≠id->G.δ i b->H5 (lku G.o i)=true->False)
  (hob:GLe G (G.grd id (.grd T' Te' fr' t' xs' hole') D w')->ObR (G.grd id (.grd T' Te' fr' t' xs' hole') D w') id (.grd T' Te' fr' t' xs' hole')) :
  Sat X (G.grd id (.grd T' Te' fr' t' xs' hole') D w')/\GLe G (G.grd id (.grd T' Te' fr' t' xs' hole') D w'):=by
 have hlk:∀i,lku (G.grd id (.grd T' Te' fr' t' xs' hole') D w').o i=if id=i then some (.grd T' Te' fr' t' xs' hole') else lku G.o i:=fun i=>lK _ _ _ _
 have hback:∀i o,lku (G.grd id (.grd T' Te' fr' t' xs' hole') D w').o i=some o->∃o',lku G.o i=some o':=fun i o h=>by
  rw[hlk] at h;by_cases e:id=i
  ·subst e; exact⟨_,ho⟩
  ·rw[if_neg e] at h; exact⟨o,h⟩
 have hgb:∀i,H5 (lku (G.grd id (.grd T' Te' fr' t' xs' hole') D w').o i)=H5 (lku G.o i):=fun i=>by
  rw[hlk];by_cases e:id=i
  ·subst e; rw[if_pos rfl,ho]; rfl
  ·rw[if_neg e]
 have hKb:∀k,G.K k->go≠some k:=fun k hk e=>S.imm id _ k ho (hgo k e) hk;have hle:GLe G (G.grd id (.grd T' Te' fr' t' xs' hole') D w'):=by
  refine⟨rfl,fun k hk hl=>⟨hk,hfr.block k hl (hKb k hk)⟩,fun i T0 cs hi=>⟨rfl,?_⟩,fun i T0 Te0 f0 t0 x0 h0 hi=>⟨rfl,?_⟩,fun i T0 f0 t0 x0 ver hi=>?_⟩
  ·rw[hlk];by_cases e:id=i
   ·subst e; rw[ho] at hi; cases hi
   ·rw[if_neg e]; exact⟨_,_,hi⟩
  ·rw[hlk];by_cases e:id=i
   ·subst e; exact⟨_,_,_,_,_,_,by rw[if_pos rfl]⟩
   ·rw[if_neg e]; exact⟨_,_,_,_,_,_,hi⟩
  ·rw[hlk];by_cases e:id=i
   ·subst e; rw[ho] at hi; cases hi
   ·rw[if_neg e]; exact⟨_,_,_,_,_,hi,Nat.le_refl _,fun _=>rfl⟩
 have hgo2:∀i o b,i≠id->lku G.o i=some o->G.γ i=some b->go≠some b:=fun i o b hi h hb e=>hi (S.inj i id o _ b h ho hb (hgo b e));refine⟨⟨S.base,hfr.os.trans S.os,hfr.tape.trans S.tape,hfr.output.trans S.output,Nat.le_trans S.size hfr.size,fun k hk hi=>?_,?_,?_,?_,?_,fun k hk=>(S.klt k hk).same hfr.size (hle.hK k hk (S.klt k hk).lt).2,S.kfrom,?_,fun i v h=>(S.pin i v h).mono hle⟩,hle⟩
 ·refine(hfr.block k (Nat.lt_of_lt_of_le hk S.size) (fun e=>?_)).trans (S.block k hk hi);rcases S.own id _ k ho (hgo k e) with h | h
  ·omega
  ·exact hi h
 ·intro i o hi;rw[hlk] at hi;by_cases e:id=i
  ·subst e;rw[if_pos rfl] at hi;cases hi;exact hob hle
  ·rw[if_neg e] at hi;have:=S.obs i o hi;cases o with
   | box T cs =>
     obtain⟨b,us,h1,h2,h3,h4⟩:=this;exact⟨b,us,h1,h2,h3.we hfr (fun j hj hbj=>by subst hbj; exact hgo2 i _ b (Ne.symm e) hi h1 hj),h4.mono hle⟩
   | arr T fr t xs ver =>
     obtain⟨cs,h1,h2,h3⟩:=this;exact⟨cs,h1.we hfr (fun j hj hbj=>hgo2 i _ j (Ne.symm e) hi hbj hj),h2.mapR (fun c x hr=>RT.same (w:=G.w) hle.hR hr),h3⟩
   | grd T0 Te0 f0 t0 x0 h0 =>
     obtain⟨vs,bs,h1,h2,h3⟩:=this;refine⟨vs,bs,h1.we hfr (fun j hj hbj=>hgo2 i _ j (Ne.symm e) hi hbj hj),h2.up hle (fun b=>⟨fun h=>?_,fun h=>.inr ⟨Ne.symm e,h⟩⟩) hfr (fun b hb hgb=>?_),h3⟩
     ·rcases h with ⟨h,_⟩ | ⟨_,h⟩
      ·exact(e h.symm).elim
      ·exact h
     ·exact(S.sep i b hb (by rw[hi]; rfl)).2.2.1 id _ ho (hgo b hgb)
 ·intro i i' o o' b h h' hb hb';obtain⟨o1,h1⟩:=hback i o h;obtain⟨o2,h2⟩:=hback i' o' h';exact S.inj i i' o1 o2 b h1 h2 hb hb'
 ·intro i o b h hb;obtain⟨o1,h1⟩:=hback i o h;exact S.imm i o1 b h1 hb
 ·intro i o b h hb;obtain⟨o1,h1⟩:=hback i o h;exact S.own i o1 b h1 hb
 ·intro i b hb hg;rw[hgb] at hg;rcases hb with ⟨rfl,hb⟩ | ⟨hne,hb⟩
  ·obtain⟨s1,s2,s3,s4⟩:=hD b hb;refine⟨s1,s2,fun j o h hj=>?_,fun j hj hgj=>?_⟩
   ·obtain⟨o1,h1⟩:=hback j o h;exact s3 j o1 h1 hj
   ·rw[hgb] at hgj;rcases hj with ⟨e,_⟩ | ⟨e,hj⟩
    ·exact e.symm
    ·exact(s4 j e hj hgj).elim
  ·obtain⟨s1,s2,s3,s4⟩:=S.sep i b hb hg;refine⟨s1,s2,fun j o h hj=>?_,fun j hj hgj=>?_⟩
   ·obtain⟨o1,h1⟩:=hback j o h;exact s3 j o1 h1 hj
   ·rw[hgb] at hgj;rcases hj with ⟨rfl,hj⟩ | ⟨e,hj⟩
    ·exact((hD b hj).2.2.2 i hne hb hg).elim
    ·exact s4 j hj hgj
def S8(t t':Ty)(x:den t):Option (den t'):=if h:t=t' then some (h ▸ x) else none
theorem c0k{t t':Ty}{x:den t}{y:den t'}(h:S8 t t' x=some y):∃e:t=t',y=e ▸ x:=by
 unfold S8 at h;split at h
 ·rename_i e; cases h; exact⟨e,rfl⟩
 ·cases h
def Y9(o:List (Nat×Ob))(rec:(t:Ty)->List AV->Option (den t×List Nat×Bool)):(t:Ty)->AV->Option (den t×List Nat×Bool)
 | t,.d fr t' x=>match S8 t' t x with
   | some y=>some (y,[],fr||D8 t)
   | none=>none
 | .sl _,.v (.slice none 0 0)=>some ([],[],true)
 | .sl e,.os id ver=>match lku o id with
   | some (.arr _ fr e' xs ver')=>bif Nat.beq ver ver' then(match S8 (.sl e') (.sl e) xs with
     | some y=>some (y,[id],fr||D8 e)
     | none=>none) else none
   | _=>none
 | .pt e,.ptr id off=>match lku o id with
   | some (.box _ cs)=>match rec e ((cs.drop off).take (sz e)) with
     | some (x,l,_)=>some (x,id :: l,false)
     | none=>none
   | _=>none
 | _,_=>none
def H6(o:List (Nat×Ob)):Nat->(t:Ty)->List AV->Option (den t×List Nat×Bool)
 | 0,_,_=>none
 | n+1,.pr a b,cs=>match H6 o n a (cs.take (sz a)) with
   | some (x,l,f)=>match H6 o n b (cs.drop (sz a)) with
     | some (y,m,g)=>some ((x,y),l++m,f&&g)
     | none=>none
   | none=>none
 | n+1,t,cs=>match cs with
   | [c]=>Y9 o (H6 o n) t c
   | _=>none
def rk(G:Gh)(K':Nat->Prop)(fl:Bool)(k:Nat):Prop:=K' k/\(fl=true->G.B<=k)
theorem p0D{X:Cx}{G:Gh}(S:Sat X G){K':Nat->Prop}(hK:∀k,G.K k->K' k){rec:(t:Ty)->List AV->Option (den t×List Nat×Bool)}
  (hrec:∀{t:Ty} {cs:List AV} {us:List Value} {x:den t} {l:List Nat} {fl:Bool},rec t cs=some (x,l,fl)->(∀id∈l,∀b,G.γ id=some b->K' b)->AVRs G cs us->RT (rk G K' fl) G.w t us x)
  {t:Ty} {c:AV} {u:Value} {x:den t} {l:List Nat} {fl:Bool} (h:Y9 G.o rec t c=some (x,l,fl)) (hl:∀id∈l,∀b,G.γ id=some b->K' b) (hu:AVR G c u):RT (rk G K' fl) G.w t [u] x:=by
 unfold Y9 at h;split at h
 ·rename_i t0 fr t' x0;split at h
  ·rename_i y hy;simp only[oi,pj] at h;obtain⟨rfl,rfl,rfl⟩:=h;obtain⟨e,rfl⟩:=c0k hy;subst e;by_cases hf:D8 t'=true
   ·exact RT.free hf hu
   ·exact RT.up hu (fun k hk=>⟨hK k hk.1,fun e=>hk.2 (by simpa [hf] using e)⟩)
  ·cases h
 ·simp only[oi,pj] at h;obtain⟨rfl,rfl,rfl⟩:=h;have:u=_:=hu;subst this;exact⟨none,0,rfl,Nat.le_refl _,by omega,.inl rfl⟩
 ·rename_i e id ver;split at h
  ·rename_i T fr e' xs ver' ho;rw[ce] at h;split at h
   ·rename_i hv;split at h
    ·rename_i y hy;simp only[oi,pj] at h;obtain⟨rfl,rfl,rfl⟩:=h;obtain⟨e0,rfl⟩:=c0k hy;cases e0;obtain⟨_,T1,fr1,t1,xs1,ver1,h1,h2,h3⟩:=hu;rw[ho] at h1;cases h1;have hu:=h3 (nb hv);subst hu;obtain⟨cs,hO,hA,hB⟩:=S.obs id _ ho;have hA':AllR (RT (rk G K' (fr||D8 e)) G.w e) cs xs:=hA.mapR (fun c x hr=>by
      by_cases hf:D8 e=true
      ·exact RT.free hf hr
      ·exact RT.up hr (fun k hk=>⟨hK k hk.1,fun e'=>hk.2 (by simpa [hf] using e')⟩))
     cases hg:G.γ id with
     | none =>
       rw[hg] at hO;rcases hO with ⟨_,hn,_,p,hp⟩ | ⟨b,_,_,_,hb,_⟩
       ·have:xs=[]:=List.eq_nil_of_length_eq_zero hn;subst this;exact⟨p,0,by rw[hp]; rfl,Nat.le_refl _,by omega,.inl rfl⟩
       ·cases hb
     | some b =>
       rw[hg] at hO;obtain⟨o0,c0,e0,hat⟩:=hO.at;rcases hO with ⟨h,_⟩ | ⟨b',o1,cap,cur,hb,hv2,k1,k2,k3,k4,k5⟩
       ·cases h
       ·cases hb;rw[hv2] at e0; cases e0;exact⟨_,c0,by rw[hv2],k2,(by have:=k3; simp only[maxLen] at this; omega),.inr ⟨b,o0,cs,rfl,⟨hl id (by simp) b hg,fun _=>hB b hg⟩,hat,hA'⟩⟩
    ·cases h
   ·cases h
  ·cases h
 ·rename_i e id off;split at h
  ·rename_i T cs' ho;split at h
   ·rename_i x1 l1 f1 h1;simp only[oi,pj] at h;obtain⟨rfl,rfl,rfl⟩:=h;obtain⟨_,b,hb,rfl⟩:=hu;obtain⟨b',us,g1,g2,g3,g4⟩:=S.obs id _ ho;rw[hb] at g2;cases g2;have hA':=((g4.take off).2.take (sz e)).1;have hR:=hrec h1 (fun i hi=>hl i (by simp[hi])) hA';refine⟨b,off,_,rfl,⟨hl id (by simp) b g1,(fun e=>by cases e)⟩,?_,RT.up hR (fun k hk=>⟨hk.1,(fun e=>by cases e)⟩)⟩;have hat:=g3.at;intro i v hv;have hi:i<sz e:=by
     rcases Nat.lt_or_ge i (sz e) with h' | h'
     ·exact h'
     ·rw[List.getElem?_eq_none (by rw[List.length_take]; omega)] at hv; cases hv
    rw[List.getElem?_take_of_lt hi,List.getElem?_drop] at hv;have:=hat (off+i) v hv;simpa using this
   ·cases h
  ·cases h
 ·cases h
theorem b0O{X:Cx}{G:Gh}(S:Sat X G){K':Nat->Prop}(hK:∀k,G.K k->K' k):∀(n:Nat) {t:Ty} {cs:List AV} {us:List Value} {x:den t} {l:List Nat} {fl:Bool},
  H6 G.o n t cs=some (x,l,fl)->(∀id∈l,∀b,G.γ id=some b->K' b)->AVRs G cs us->RT (rk G K' fl) G.w t us x:=by
 intro n
 induction n with
 | zero=>intro t cs us x l fl h; unfold H6 at h; cases h
 | succ n ih =>
   intro t cs us x l fl h hl hA;have key:∀(t:Ty) (x:den t) (r:Option (den t×List Nat×Bool)),r=some (x,l,fl)->r=(match(generalizing:=false) cs with | [c]=>Y9 G.o (H6 G.o n) t c | _=>none)->RT (rk G K' fl) G.w t us x:=by
    intro t x r hr0 hr1;rw[hr0] at hr1;have h:=hr1.symm;split at h
    ·rename_i c;obtain⟨u,us',rfl,hu,hr⟩:=hA;have:us'=[]:=hr;subst this;exact p0D S hK ih h hl hu
    ·cases h
   cases t with
   | pr a b =>
     unfold H6 at h;split at h
     ·rename_i x1 l1 f1 h1;split at h
      ·rename_i y1 m1 g1 h2;simp only[oi,pj] at h;obtain⟨rfl,rfl,rfl⟩:=h;have hA':=AVRs.take hA (sz a);refine⟨us.take (sz a),us.drop (sz a),(List.take_append_drop _ _).symm,RT.up (ih h1 (fun id hid=>hl id (by simp[hid])) hA'.1) (fun k hk=>⟨hk.1,fun e=>hk.2 ?_⟩),RT.up (ih h2 (fun id hid=>hl id (by simp[hid])) hA'.2) (fun k hk=>⟨hk.1,fun e=>hk.2 ?_⟩)⟩
       ·rw[ba] at e; exact e.1
       ·rw[ba] at e; exact e.2
      ·cases h
     ·cases h
   | _=>exact key _ _ _ h rfl
theorem e0F{X:Cx}{G:Gh}(S:Sat X G){n:Nat}{t:Ty}{cs:List AV}{us:List Value}{x:den t}{fl:Bool}(h:H6 G.o n t cs=some (x,[],fl))(hA:AVRs G cs us):RT (rg G fl) G.w t us x :=
 b0O S (K':=G.K) (fun _ h=>h) n h (fun _ h=>by cases h) hA
def u1(fr:Bool):(t:Ty)->den t->List AV
 | .pr a b,x=>u1 fr a x.1++u1 fr b x.2
 | .int k,x=>[.d fr (.int k) x]
 | .bool,x=>[.d fr .bool x]
 | .str,x=>[.d fr .str x]
 | .sl e,x=>[.d fr (.sl e) x]
 | .pt e,x=>[.d fr (.pt e) x]
theorem a0Z{G:Gh}{fr:Bool}:∀{t:Ty} {us:List Value} {x:den t},RT (rg G fr) G.w t us x->AVRs G (u1 fr t x) us
 | .pr a b,_,x,⟨c,d,e,h1,h2⟩=>by rw[e]; exact AVRs.app (a0Z h2) (a0Z h1)
 | .int _,us,x,h=>⟨_,[],h.1,⟨rfl,h.2⟩,rfl⟩
 | .bool,us,x,h=>⟨_,[],(show us=_ from h),rfl,rfl⟩
 | .str,us,x,h=>⟨_,[],h.1,⟨rfl,h.2⟩,rfl⟩
 | .sl e,us,x,⟨p,cap,h1,h⟩=>⟨_,[],h1,⟨p,cap,rfl,h⟩,rfl⟩
 | .pt e,us,x,⟨b,o,ds,h1,h⟩=>⟨_,[],h1,⟨b,o,ds,rfl,h⟩,rfl⟩
def l0s(fr:Bool):(t:Ty)->den t->Nat->Option AV
 | t,x,0=>some (.d fr (.pt t) x)
 | .pr a b,x,off=>bif Nat.ble (sz a) off then l0s fr b x.2 (off-sz a) else l0s fr a x.1 off
 | _,_,_=>none
theorem m0F{G:Gh}{fr:Bool}{b:Nat}(hb:rg G fr b):∀{t:Ty} {x:den t} {off o:Nat} {ds:List Value} {a:AV},l0s fr t x off=some a->At G.w b o ds->RT (rg G fr) G.w t ds x->AVR G a (.pointer (some ⟨b,o+off,none⟩)):=by
 intro t
 induction t with
 | pr t1 t2 ih1 ih2 =>
   intro x off o ds a h hat hr;cases off with
   | zero=>simp only[l0s,oi] at h; subst h; exact⟨b,o,ds,rfl,hb,hat,hr⟩
   | succ off =>
     simp only[l0s,ce] at h;split at h
     ·rename_i hle;have hle:=Nat.le_of_ble_eq_true hle;obtain⟨c,d,rfl,h1,h2⟩:=hr;have hat2:At G.w b (o+c.length) d:=At.mid (pre:=c) (c:=d) (post:=[]) (by simpa using hat);have:=ih2 h hat2 h2;rw[RT.len h1] at this;have e:o+sz t1+(off+1-sz t1)=o+(off+1):=by omega
      rwa [e] at this
     ·obtain⟨c,d,rfl,h1,h2⟩:=hr;exact ih1 h (At.mid (pre:=[]) (c:=c) (post:=d) (by simpa using hat)) h1
 | _ =>
   intro x off o ds a h hat hr;cases off with
   | zero=>simp only[l0s,oi] at h; subst h; exact⟨b,o,ds,rfl,hb,hat,hr⟩
   | succ off=>simp[l0s] at h
abbrev Pa:=List (Nat×Bool)
structure Sl where
 p:Pa
 a:AV
structure St where
 e:List (Nat×Sl)
 o:List (Nat×Ob)
def D0B(p q:Pa):Bool:=p.all fun x=>q.any fun y=>Nat.beq x.1 y.1&&(x.2==y.2)
def PathP(p:Pa)(a:Act):Prop:=∀x∈p,a.tmps.getD x.1 undef=.bool x.2
theorem PathP.sub{p q:Pa}{a:Act}(h:PathP q a)(hs:D0B p q=true):PathP p a:=by
 intro x hx;simp only[D0B,List.all_eq_true,List.any_eq_true,ba,beq_iff_eq] at hs;obtain⟨y,hy,h1,h2⟩:=hs x hx;have h1:=nb h1;rw[h1,h2]; exact h y hy
structure EnvR(n:Nat)(G:Gh)(e:List (Nat×Sl))(a:Act):Prop where
 defers:a.defers=[]
 size:a.tmps.size=n
 val:∀t s,lku e t=some s->(PathP s.p a->AVR G s.a (a.tmps.getD t undef))/\(¬PathP s.p a->a.tmps.getD t undef=undef)
theorem EnvR.mono{n:Nat}{G G':Gh}{e:List (Nat×Sl)}{a:Act}(h:EnvR n G e a)(hG:GLe G G'):EnvR n G' e a :=
 ⟨h.defers,h.size,fun t s ht=>⟨fun hp=>((h.val t s ht).1 hp).mono hG,(h.val t s ht).2⟩⟩
def C0J:Value->Option AV
 | .int k n=>bif decide (lo k<=n)&&decide (n<=hi k) then some (.d true (.int k) n) else none
 | .bool b=>some (.d true .bool b)
 | .string s=>bif decide (s.size<=9223372036854775807) then some (.d true .str s) else none
 | .agg _=>none
 | .tuple _=>none
 | u=>some (.v u)
def Z0:List Value->Option (List AV)
 | []=>some []
 | u :: r=>match C0J u with
   | some a=>match Z0 r with
     | some l=>some (a :: l)
     | none=>none
   | none=>none
theorem i0V{G:Gh}{u:Value}{a:AV}(h:C0J u=some a):AVR G a u:=by
 unfold C0J at h;split at h
 ·rw[ce] at h;split at h
  ·rename_i hb;simp only[ba,dq] at hb;simp only[oi] at h; subst h; exact⟨rfl,hb⟩
  ·cases h
 ·simp only[oi] at h; subst h; exact rfl
 ·rw[ce] at h;split at h
  ·rename_i hb;simp only[dq] at hb;simp only[oi] at h; subst h; exact⟨rfl,hb⟩
  ·cases h
 ·cases h
 ·cases h
 ·simp only[oi] at h; subst h; exact rfl
theorem b0Q{G:Gh}:∀{us:List Value} {as:List AV},Z0 us=some as->AVRs G as us
 | [],as,h=>by simp[Z0] at h; subst h; exact rfl
 | u :: r,as,h=>by
   unfold Z0 at h;split at h
   ·rename_i a ha;split at h
    ·rename_i l hl;simp at h; subst h; exact⟨u,r,rfl,i0V ha,b0Q hl⟩
    ·cases h
   ·cases h
def D0T:Value->Option AV
 | .agg cs=>match Z0 cs.toList with
   | some l=>some (.agg l)
   | none=>none
 | u=>C0J u
theorem p0I{G:Gh}{u:Value}{a:AV}(h:D0T u=some a):AVR G a u:=by
 unfold D0T at h;split at h
 ·rename_i cs;split at h
  ·rename_i l hl;simp at h; subst h; exact⟨cs.toList,by simp,b0Q hl⟩
  ·cases h
 ·exact i0V h
def rd(st:St)(p:Pa):Operand->Option AV
 | .tmp t=>match lku st.e t with
   | some s=>bif D0B s.p p then some s.a else none
   | none=>none
 | .const v=>D0T v
 | .func f=>some (.fn f [])
 | .global g=>some (.v (.pointer (some ⟨g,0,none⟩)))
theorem B9{n:Nat}{G:Gh}{st:St}{a:Act}{p:Pa}(hE:EnvR n G st.e a)(hp:PathP p a){x:Operand}{v:AV}(h:rd st p x=some v):AVR G v (a.eval x):=by
 unfold rd at h;split at h
 ·rename_i t;split at h
  ·rename_i s hs;rw[ce] at h;split at h
   ·rename_i hsub;simp at h; subst h;exact(hE.val t s hs).1 (hp.sub hsub)
   ·cases h
  ·cases h
 ·exact p0I h
 ·simp at h; subst h; exact⟨[],rfl,rfl⟩
 ·simp at h; subst h; exact rfl
def rds(st:St)(p:Pa):List Operand->Option (List AV)
 | []=>some []
 | x :: r=>match rd st p x with
   | some a=>match rds st p r with
     | some l=>some (a :: l)
     | none=>none
   | none=>none
theorem b0h{n:Nat}{G:Gh}{st:St}{a:Act}{p:Pa}(hE:EnvR n G st.e a)(hp:PathP p a):∀{xs:List Operand} {vs:List AV},rds st p xs=some vs->AVRs G vs (xs.map a.eval)
 | [],vs,h=>by simp[rds] at h; subst h; exact rfl
 | x :: r,vs,h=>by
   unfold rds at h;split at h
   ·rename_i b hb;split at h
    ·rename_i l hl;simp at h; subst h; exact⟨_,_,rfl,B9 hE hp hb,b0h hE hp hl⟩
    ·cases h
   ·cases h
inductive Kd
 | agg (pl:List (Nat×Nat)) (e:Bool) (ag:List Bool) | sl (E:TypeId) | arr (m:Nat) (E:TypeId) | str | bool | int (k:IntKind) | oth | ptr
structure TI where
 size:Nat
 bytes:Nat
 zero:Value
 kd:Kd
 ty:Ty
def j0S(P:Program)(T:TypeId):Nat->List (Nat×Nat)->Prop
 | _,[]=>True
 | k,(off,_) :: r=>o0u P T k=some (off,true)/\j0S P T (k+1) r
def F0T(P:Program)(t:TypeId):Bool:=match P.underlying t with
 | some (.int _)=>true
 | _=>false
def D0P(P:Program):Nat->List Field->Bool
 | _,[]=>true
 | k, f :: r => decide (f.name ≠ "_") && Nat.beq f.offset k && F0T P f.type && D0P P (k + 1) r
def G0C(P:Program)(T:TypeId):Bool:=match P.underlying T with
 | some (.struct fs)=>!P.stoodInHeld T&&!P.eqGuardType P.depth T&&D0P P 0 fs.toList
 | _=>false
def C0T(P:Program)(T:TypeId):Option (List (Bool×Bool)):=match P.underlying T with
 | some (.struct fs)=>some (fs.toList.map fun f=>(t0s P f.type,X6 P f.type))
 | _=>none
def E0S(P:Program)(T:TypeId):Kd->Prop
 | .agg pl e ag=>t0s P T=true/\g0Z P T=some pl/\g0I P T=true/\j0S P T 0 pl/\(e=true->G0C P T=true)/\C0T P T=some (ag.map fun b=>(b,!b))
 | .arr m E=>t0s P T=true/\P.underlying T=some (.array m E)
 | .sl E=>X6 P T=true/\P.underlying T=some (.slice E)
 | .str=>X6 P T=true/\P.underlying T=some .string
 | .bool=>X6 P T=true/\P.underlying T=some .bool
 | .int k=>X6 P T=true/\P.underlying T=some (.int k)
 | .oth=>X6 P T=true
 | .ptr=>X6 P T=true/\P.underlying T=some (.pointer (P.pointee T))
def u0(P:Program)(T:TypeId)(ti:TI):Prop :=
 z0t P T=some (ti.size,ti.bytes,some ti.zero)/\j0K ti.zero.cells.toList ti.size=true/\Nat.blt 0 ti.size=true/\ones ti.zero.cells.toList=true/\E0S P T ti.kd
abbrev m9:=List (Nat×TI)
def x6(P:Program)(Γ:m9):Prop:=∀T ti,lku Γ T=some ti->u0 P T ti
theorem g0h{P:Program}{T:TypeId}:∀{pl:List (Nat×Nat)} {j k:Nat} {x:Nat×Nat},j0S P T j pl->pl[k]?=some x->o0u P T (j+k)=some (x.1,true)
 | (off,s) :: r,j,0,x,h,hx=>by simp at hx; subst hx; exact h.1
 | (off,s) :: r,j,k+1,x,h,hx=>by
   have:=g0h (j:=j+1) (k:=k) h.2 (by simpa using hx);rw[show j+(k+1)=j+1+k by omega]; exact this
def isAgg:Kd->Bool
 | .agg .. | .arr ..=>true
 | _=>false
theorem x0S{P:Program}{T:TypeId}{kd:Kd}(h:E0S P T kd):(isAgg kd=true->t0s P T=true)/\(isAgg kd=false->X6 P T=true):=by
 cases kd with
 | agg pl e ag=>exact⟨fun _=>h.1,(fun e=>by cases e)⟩
 | arr m E=>exact⟨fun _=>h.1,(fun e=>by cases e)⟩
 | oth=>exact⟨(fun e=>by cases e),fun _=>h⟩
 | _=>exact⟨(fun e=>by cases e),fun _=>h.1⟩
def C3(a:Act):List Operand->Env
 | []=>[]
 | .tmp t :: r=>(t,a.tmps.getD t undef) :: C3 a r
 | _ :: r=>C3 a r
theorem h0E{a:Act}{t:Nat}{v:Value}:∀{xs:List Operand},lk (C3 a xs) t=some v->a.tmps.getD t undef=v
 | [],h=>by cases h
 | .tmp s :: r,h=>by
   rw[C3,Y5] at h;by_cases e:s=t
   ·subst e; simpa using h
   ·rw[if_neg e] at h; exact h0E h
 | .const _ :: r,h=>h0E (xs:=r) h
 | .global _ :: r,h=>h0E (xs:=r) h
 | .func _ :: r,h=>h0E (xs:=r) h
theorem f0V{n:Nat}{G:Gh}{e:List (Nat×Sl)}{a:Act}(h:EnvR n G e a)(xs:List Operand):Agree n (C3 a xs) a:=⟨h.defers,h.size,fun _ _ ht=>h0E ht⟩
theorem o0F{a:Act}{t:Nat}:∀{xs:List Operand},.tmp t∈xs->lk (C3 a xs) t=some (a.tmps.getD t undef)
 | y :: r,h=>by
   have hr:Operand.tmp t∈r->lk (C3 a (y :: r)) t=some (a.tmps.getD t undef):=fun h'=>by
    have ih:=o0F (a:=a) h';cases y with
    | tmp s =>
      rw[C3,Y5];by_cases e:s=t
      ·subst e; simp
      ·rw[if_neg e]; exact ih
    | _=>exact ih
   rcases List.mem_cons.1 h with e | h'
   ·subst e;rw[C3,Y5]; simp
   ·exact hr h'
theorem I0{a:Act}{xs:List Operand}{x:Operand}(h:x∈xs):ev (C3 a xs) x=some (a.eval x):=by
 cases x with
 | tmp t=>exact o0F h
 | _=>rfl
def Val(X:Cx)(G:Gh)(a:Act)(op:Op)(ty:TypeId)(av:AV):Prop :=
 ∃v,(∀dst pos after g,(execOp a.eval ⟨dst,op,ty,pos,after,g⟩).run X.P G.w=.ok (.value v) G.w)/\AVR G av v
theorem B0{X:Cx}{G:Gh}{a:Act}{st:St}{op:Op}{ty:TypeId}{av:AV}{v:Value}(hE:EnvR X.n G st.e a)(xs:List Operand)(h:D7 X.P X.n (C3 a xs) op ty G.w v G.w)(hv:AVR G av v):Val X G a op ty av :=
 ⟨v,fun dst pos after g=>h a dst pos after g (f0V hE xs),hv⟩
def e0r:AV->Option (List AV)
 | .agg xs=>bif xs.all D0I then some xs else none
 | a=>bif D0I a then some [a] else none
theorem j0A:∀{us:List Value},(∀u∈us,u.oneCell'=true)->ones us=true
 | [],_=>rfl
 | u :: r,h=>by
   have h1:=h u (by simp);have h2:=j0A (us:=r) (fun v hv=>h v (by simp[hv]));cases u <;> simp_all [ones,Value.oneCell']
theorem AVRs.ones{G:Gh}:∀{as:List AV} {us:List Value},AVRs G as us->as.all D0I=true->∀u∈us,u.oneCell'=true
 | [],us,h,_,u,hu=>by rw[show us=[] from h] at hu; cases hu
 | a :: r,us,⟨u,us',e,h1,h2⟩,ho,x,hx=>by
   simp only[List.all_cons,ba] at ho;rw[e] at hx;rcases List.mem_cons.1 hx with rfl | hx
   ·exact h1.one ho.1
   ·exact AVRs.ones h2 ho.2 x hx
theorem s0M{u:Value}(h:u.oneCell'=true):u.cells.toList=[u]:=by cases u <;> first | rfl | cases h
theorem c0e{G:Gh}{a:AV}{cs:List AV}{u:Value}(h:e0r a=some cs)(hu:AVR G a u):AVRs G cs u.cells.toList/\ones u.cells.toList=true:=by
 unfold e0r at h;split at h
 ·rename_i xs;rw[ce] at h;split at h
  ·rename_i ho;simp at h; subst h;obtain⟨us,rfl,h1⟩:=hu;simp only[Value.cells,List.toList_toArray];exact⟨h1,j0A (h1.ones ho)⟩
  ·cases h
 ·rw[ce] at h;split at h
  ·rename_i ho;simp at h; subst h;have h1:=hu.one ho;rw[s0M h1];exact⟨⟨u,[],rfl,hu,rfl⟩,j0A (fun v hv=>by cases List.mem_singleton.1 hv; exact h1)⟩
  ·cases h
def ldA(ti:TI)(cs:List AV):Option AV :=
 bif isAgg ti.kd then(bif Nat.ble ti.size cs.length then some (.agg (cs.take ti.size)) else none)
 else match cs with
  | c :: _=>some c
  | []=>none
theorem m0N{w:World}{b o:Nat}{us:List Value}(h:At w b o us)(k:Nat):At w b o (us.take k):=by
 intro i u hu;rcases Nat.lt_or_ge i k with hk | hk
 ·rw[List.getElem?_take_of_lt hk] at hu; exact h i u hu
 ·rw[List.getElem?_eq_none (by rw[List.length_take]; omega)] at hu; cases hu
theorem m0O{w:World}{b o:Nat}{us:List Value}(h:At w b o us)(k:Nat):At w b (o+k) (us.drop k):=by
 intro i u hu;rw[List.getElem?_drop] at hu;have:=h (k+i) u hu
 rwa [<- Nat.add_assoc] at this
theorem o0i{X:Cx}{G:Gh}{a:Act}{st:St}{T:TypeId}{ti:TI}{x:Operand}{b o:Nat}{us:List Value}{cs:List AV}{av:AV}{ty:TypeId}(hE:EnvR X.n G st.e a)(hti:u0 X.P T ti)
  (hx:a.eval x=.pointer (some ⟨b,o,none⟩)) (hat:At G.w b o us) (hA:AVRs G cs us) (h:ldA ti cs=some av):Val X G a (.load T x) ty av:=by
 obtain⟨hi,hl,_,_,hk⟩:=hti;have hk:=x0S hk;have hxe:ev (C3 a [x]) x=some (.pointer (some ⟨b,o,none⟩)):=by rw[I0 (by simp),hx]
 unfold ldA at h;rw[ce] at h;split at h
 ·rename_i hg;rw[ce] at h;split at h
  ·rename_i hle;simp at h; subst h;have hle:=Nat.le_of_ble_eq_true hle
   haveI:E0d X.P T:=⟨hk.1 hg⟩
   haveI:Info X.P T ti.size ti.bytes ti.zero:=⟨hi⟩
   have hlen:=hA.len;exact B0 hE [x] (p0m hxe (by rw[List.length_take]; omega) (m0N hat ti.size)) ⟨us.take ti.size,rfl,(hA.take _).1⟩
  ·cases h
 ·rename_i hg;split at h
  ·rename_i c r;simp at h; subst h
   haveI:o0S X.P T:=⟨hk.2 (by simpa using hg)⟩
   obtain⟨u,us',rfl,hu,_⟩:=hA;exact B0 hE [x] (r0q hxe (by simpa using hat 0 u rfl)) hu
  ·cases h
def r0S(a b:Operand)(x y z:Bool):Bool:=match b with
 | .const (.bool false)=>x&&y
 | _=>match a with
   | .const (.bool true)=>x||z
   | _=>bif x then y else z
theorem evB{st:St}{p:Pa}{v:Bool}{f:Bool}{y:Bool}(h:rd st p (.const (.bool v))=some (.d f .bool y)):y=v:=by
 simp only[rd,D0T,C0J,oi,AV.d.injEq,heq_eq_eq,true_and] at h;exact h.2.symm
theorem r0R{st:St}{p q:Pa}{a b:Operand}{f g x y z:Bool}(ha:rd st p a=some (.d f .bool y))(hb:rd st q b=some (.d g .bool z)):r0S a b x y z=bif x then y else z:=by
 unfold r0S;split
 ·have:=evB hb; subst this; cases x <;> rfl
 ·split
  ·have:=evB ha; subst this; cases x <;> simp
  ·rfl
def vcI(k:IntKind)(r:Int):Prop:=lo k<=r/\r<=hi k
def t0p(k k':IntKind)(r:Bool):Option (Prop×AV):=bif decide (k=k') then some (True,.d true .bool r) else none
def eqI(a b:Int):Bool:=a==b
def neI(a b:Int):Bool:=a != b
def ltI(a b:Int):Bool:=decide (a<b)
def leI(a b:Int):Bool:=decide (a<=b)
def G0F(a b:Int):Option (Prop×AV):=some (vcI .i64 (a+b),.d true (.int .i64) (a+b))
def F0m(a b:Int):Option (Prop×AV):=some (vcI .i64 (a-b),.d true (.int .i64) (a-b))
def F0Q(a b:Int):Option (Prop×AV):=some (vcI .i64 (a*b),.d true (.int .i64) (a*b))
def F0B(a b:Int):Option (Prop×AV):=some (0<b,.d true (.int .i64) (a.tdiv b))
def F0o(a b:Int):Option (Prop×AV):=some (0<b,.d true (.int .i64) (a.tmod b))
def F0n(a b:Int):Option (Prop×AV):=some ((0<=b/\b<=62)/\vcI .i64 (a*2 ^ b.toNat),.d true (.int .i64) (a*2 ^ b.toNat))
def D0C(k:IntKind)(a b:Int):Option (Prop×AV):=some ((0<=b/\b<=62)/\vcI k (a.fdiv (2 ^ b.toNat)),.d true (.int k) (a.fdiv (2 ^ b.toNat)))
def eqS(a b:ByteArray):Bool:=decide (a=b)
def G0E(a b:ByteArray):Option (Prop×AV):=some (a.size+b.size<=9223372036854775807,.d true .str (a++b))
def m0S:List AV->List AV->Option Bool
 | [],[]=>some true
 | .d _ (.int k) a :: r,.d _ (.int k') b :: s=>bif decide (k=k') then(match m0S r s with | some e=>some (eqI a b&&e) | none=>none) else none
 | _,_=>none
def v0v(ti:Option TI)(xs ys:List AV):Option Bool:=match ti with
 | some ⟨_,_,_,.agg pl true _,_⟩=>bif Nat.beq pl.length xs.length then m0S xs ys else none
 | _=>none
def D0W(k:IntKind)(a b:Int):Option (Prop×AV):=some (0<=a/\0<=b,.d true (.int k) ((a.toNat &&& b.toNat:Nat):Int))
def C0R(ti:Option TI):BinOp->AV->AV->Option (Prop×AV)
 | .eql,.d _ (.int k) a,.d _ (.int k') b=>t0p k k' (eqI a b)
 | .neq,.d _ (.int k) a,.d _ (.int k') b=>t0p k k' (neI a b)
 | .lss,.d _ (.int k) a,.d _ (.int k') b=>t0p k k' (ltI a b)
 | .leq,.d _ (.int k) a,.d _ (.int k') b=>t0p k k' (leI a b)
 | .gtr,.d _ (.int k) a,.d _ (.int k') b=>t0p k k' (ltI b a)
 | .geq,.d _ (.int k) a,.d _ (.int k') b=>t0p k k' (leI b a)
 | .add,.d _ (.int .i64) a,.d _ (.int .i64) b=>G0F a b
 | .sub,.d _ (.int .i64) a,.d _ (.int .i64) b=>F0m a b
 | .mul,.d _ (.int .i64) a,.d _ (.int .i64) b=>F0Q a b
 | .quo,.d _ (.int .i64) a,.d _ (.int .i64) b=>F0B a b
 | .rem,.d _ (.int .i64) a,.d _ (.int .i64) b=>F0o a b
 | .eql,.d _ .str a,.d _ .str b=>some (True,.d true .bool (eqS a b))
 | .neq,.d _ .str a,.d _ .str b=>some (True,.d true .bool (!eqS a b))
 | .add,.d _ .str a,.d _ .str b=>G0E a b
 | .eql,.d _ .bool a,.d _ .bool b=>match ti with
   | some ⟨_,_,_,.bool,_⟩=>some (True,.d true .bool (a==b))
   | _=>none
 | .neq,.d _ .bool a,.d _ .bool b=>match ti with
   | some ⟨_,_,_,.bool,_⟩=>some (True,.d true .bool (!(a==b)))
   | _=>none
 | .shl,.d _ (.int .i64) a,.d _ (.int _) b=>F0n a b
 | .shr,.d _ (.int .i64) a,.d _ (.int _) b=>D0C .i64 a b
 | .shr,.d _ (.int .u64) a,.d _ (.int _) b=>D0C .u64 a b
 | .eql,.agg xs,.agg ys=>match v0v ti xs ys with
   | some e=>some (True,.d true .bool e)
   | none=>none
 | .neq,.agg xs,.agg ys=>match v0v ti xs ys with
   | some e=>some (True,.d true .bool (!e))
   | none=>none
 | .add,.d _ (.int .u8) a,.d _ (.int .u8) b=>some (vcI .u8 (a+b),.d true (.int .u8) (a+b))
 | .sub,.d _ (.int .u8) a,.d _ (.int .u8) b=>some (vcI .u8 (a-b),.d true (.int .u8) (a-b))
 | .eql,.d _ (.pt _) _,.v (.pointer none)=>match ti with
   | some ⟨_,_,_,.ptr,_⟩=>some (True,.d true .bool false)
   | _=>none
 | .neq,.d _ (.pt _) _,.v (.pointer none)=>match ti with
   | some ⟨_,_,_,.ptr,_⟩=>some (True,.d true .bool true)
   | _=>none
 | .and,.d _ (.int .i64) a,.d _ (.int .i64) b=>D0W .i64 a b
 | .and,.d _ (.int .u64) a,.d _ (.int .u64) b=>D0W .u64 a b
 | .add,.d _ (.int .u64) a,.d _ (.int .u64) b=>some (True,.d true (.int .u64) ((a+b) % 18446744073709551616))
 | .mul,.d _ (.int .u64) a,.d _ (.int .u64) b=>some (True,.d true (.int .u64) ((a*b) % 18446744073709551616))
 | _,_,_=>none
theorem C7{G:Gh}{fr:Bool}{k:IntKind}{x:Int}{u:Value}(h:AVR G (.d fr (.int k) x) u):u=.int k x/\lo k<=x/\x<=hi k:=⟨by have:=h.1; simpa using this,h.2⟩
theorem b0x{G:Gh}{fr:Bool}{x:Bool}{u:Value}(h:AVR G (.d fr .bool x) u):u=.bool x:=by have:[u]=_:=h; simpa using this
theorem j0Z{G:Gh}{fr:Bool}{s:ByteArray}{u:Value}(h:AVR G (.d fr .str s) u):u=.string s/\s.size<=9223372036854775807:=⟨by have:=h.1; simpa using this,h.2⟩
theorem y0Q{i j:Int}(h4:InI j)(hq:0<j):InI (i.tmod j):=by
 have g1:=Int.tmod_lt_of_pos i hq;have g2 : -j<i.tmod j:=by
  have:=Int.tmod_lt_of_pos (-i) hq;rw[Int.neg_tmod] at this; omega
 unfold InI at *
 omega
theorem j0f(k:IntKind){n:Int}(h:lo k<=n/\n<=hi k):k.wrap n=n:=by
 cases k <;> simp only[lo,hi] at h
 ·exact IntWalk.i8_in _ h
 ·exact IntWalk.i16_in _ h
 ·exact IntWalk.i32_in _ h
 ·exact IntWalk.i64_in _ h
 ·exact IntWalk.u8_in _ h
 ·exact IntWalk.u16_in _ h
 ·exact IntWalk.u32_in _ h
 ·exact IntWalk.u64_in _ h
theorem u0d{P:Program}{n:Nat}{e:Env}{w:World}{T T' ty:TypeId}{x y:Operand}{k:IntKind}{a b:Int}(hx:ev e x=some (.int .i64 a))(hy:ev e y=some (.int k b))(hb:0<=b/\b<=62)(hr:lo .i64<=a*2 ^ b.toNat/\a*2 ^ b.toNat<=hi .i64) :
  D7 P n e (.binOp .shl T x y T') ty w (.int .i64 (a*2 ^ b.toNat)) w:=by
 intro ac dst pos after g ha;have h0:¬b<0:=by omega
 have h1:min b.toNat IntKind.i64.bits=b.toNat:=Nat.min_eq_left (by show b.toNat<=64; omega);simp only[execOp,ha.ev hx,ha.ev hy];simp[eqGuard,binOp,j0f .i64 hr]
theorem n0G{P:Program}{n:Nat}{e:Env}{w:World}{T T' ty:TypeId}{x y:Operand}{k k0:IntKind}{a b:Int}(hx:ev e x=some (.int k0 a))(hy:ev e y=some (.int k b))(hb:0<=b/\b<=62)(hk:64<=k0.bits) :
  D7 P n e (.binOp .shr T x y T') ty w (.int k0 (a.fdiv (2 ^ b.toNat))) w:=by
 intro ac dst pos after g ha;have h0:¬b<0:=by omega
 have h1:min b.toNat k0.bits=b.toNat:=Nat.min_eq_left (by omega);simp only[execOp,ha.ev hx,ha.ev hy];simp[eqGuard,binOp,Op.shift,h0,h1]
theorem r0r{P:Program}{n:Nat}{e:Env}{w:World}{T T' ty:TypeId}{x y:Operand}{a b r:Int}{op:BinOp}(hx:ev e x=some (.int .u8 a))(hy:ev e y=some (.int .u8 b))(ho:(op=.add/\r=a+b)∨(op=.sub/\r=a-b))(hr:lo .u8<=r/\r<=hi .u8) :
  D7 P n e (.binOp op T x y T') ty w (.int .u8 r) w:=by
 intro ac dst pos after g ha;simp only[execOp,ha.ev hx,ha.ev hy];have hw:=j0f .u8 hr;rcases ho with ⟨rfl,rfl⟩ | ⟨rfl,rfl⟩
 ·simp[eqGuard,binOp,Op.intArith,hw]
 ·simp[eqGuard,binOp,Op.intArith,hw]
theorem n0H{P:Program}{n:Nat}{e:Env}{w:World}{T T' ty:TypeId}{x y:Operand}{k:IntKind}{a b:Int}(hk:k=.i64∨k=.u64)(hx:ev e x=some (.int k a))(hy:ev e y=some (.int k b))(ha:0<=a/\a<=hi k)(hb:0<=b/\b<=hi k) :
  D7 P n e (.binOp .and T x y T') ty w (.int k ((a.toNat &&& b.toNat:Nat):Int)) w/\0<=((a.toNat &&& b.toNat:Nat):Int)/\((a.toNat &&& b.toNat:Nat):Int)<=hi k:=by
 have hle:((a.toNat &&& b.toNat:Nat):Int)<=a:=by
  have:=Nat.and_le_left (n:=a.toNat) (m:=b.toNat);omega
 have h0:(0:Int)<=((a.toNat &&& b.toNat:Nat):Int):=Int.natCast_nonneg _;have hlt:∀x:Int,x<=hi k->x<18446744073709551616:=fun x h=>by
  rcases hk with rfl | rfl
  ·have:hi .i64=9223372036854775807:=rfl;omega
  ·have:hi .u64=18446744073709551615:=rfl;omega
 have hlo:lo k<=((a.toNat &&& b.toNat:Nat):Int):=by
  rcases hk with rfl | rfl
  ·have:lo .i64 = -9223372036854775808:=rfl;omega
  ·have:lo .u64=0:=rfl;omega
 have hw:=j0f k ⟨hlo,(by omega:((a.toNat &&& b.toNat:Nat):Int)<=hi k)⟩;refine⟨?_,h0,by omega⟩;intro ac dst pos after g hac;simp only[execOp,hac.ev hx,hac.ev hy];have e1:a % 18446744073709551616=a:=Int.emod_eq_of_lt ha.1 (hlt a ha.2);have e2:b % 18446744073709551616=b:=Int.emod_eq_of_lt hb.1 (hlt b hb.2);rcases hk with rfl | rfl
 ·simp[eqGuard,binOp,Op.intBits,show IntKind.bits .i64=64 from rfl,e1,e2,hw]
 ·simp[eqGuard,binOp,Op.intBits,show IntKind.bits .u64=64 from rfl,e1,e2,hw]
theorem n0F{P:Program}{n:Nat}{e:Env}{w:World}{T T' ty:TypeId}{x y:Operand}{a b r:Int}{op:BinOp}(hx:ev e x=some (.int .u64 a))(hy:ev e y=some (.int .u64 b))(ho:(op=.add/\r=a+b)∨(op=.mul/\r=a*b)) :
  D7 P n e (.binOp op T x y T') ty w (.int .u64 (r % 18446744073709551616)) w:=by
 intro ac dst pos after g ha;simp only[execOp,ha.ev hx,ha.ev hy];have hw:IntKind.wrap .u64 r=r % 18446744073709551616:=by
  unfold IntKind.wrap;simp[IntKind.signed,IntKind.bits]
 rcases ho with ⟨rfl,rfl⟩ | ⟨rfl,rfl⟩
 ·simp[eqGuard,binOp,Op.intArith,hw]
 ·simp[eqGuard,binOp,Op.intArith,hw]
theorem s0w{P:Program}{w:World}{G:Gh}{d:Nat}{xs ys:Array Value}:∀{fs:List Field} {k:Nat} {as bs:List AV} {e:Bool},D0P P k fs=true->fs.length=as.length->m0S as bs=some e->AVRs G as (xs.toList.drop k)->AVRs G bs (ys.toList.drop k) ->
  (Op.eqFields (d+1) xs ys fs).run P w=.ok e w
 | [],k,[],bs,e,_,_,h,_,_=>by
   cases bs with
   | nil=>simp only[m0S,oi] at h; subst h; simp[Op.eqFields]
   | cons b r=>simp[m0S] at h
 | f :: r,k,a :: as,bs,e,hf,hl,h,hx,hy=>by
   unfold m0S at h;split at h
   ·rename_i heq; cases heq
   ·rename_i g q x as' g' q' y bs' e1;cases e1;rw[ce] at h;split at h
    ·rename_i hq;have hq:q=q':=by simpa using hq
     subst hq;split at h
     ·rename_i e' he';simp only[oi] at h; subst h;simp only[D0P,ba,dq] at hf;obtain⟨⟨⟨hn,ho⟩,hi⟩,hr⟩:=hf;have ho:=nb ho;obtain⟨u,us,eu,hu,hus⟩:=hx;obtain⟨v,vs,ev,hv,hvs⟩:=hy;obtain⟨rfl,_⟩:=C7 hu;obtain⟨rfl,_⟩:=C7 hv;have gx:xs[f.offset]?=some (.int q x):=by
       have:(xs.toList.drop k)[0]?=some (.int q x):=by rw[eu]; rfl
       rw[List.getElem?_drop] at this;rw[ho]; simpa using this
      have gy:ys[f.offset]?=some (.int q y):=by
       have:(ys.toList.drop k)[0]?=some (.int q y):=by rw[ev]; rfl
       rw[List.getElem?_drop] at this;rw[ho]; simpa using this
      have dx:us=xs.toList.drop (k+1):=by
       have:(xs.toList.drop k).drop 1=us:=by rw[eu]; rfl
       rw[List.drop_drop] at this; exact this.symm
      have dy:vs=ys.toList.drop (k+1):=by
       have:(ys.toList.drop k).drop 1=vs:=by rw[ev]; rfl
       rw[List.drop_drop] at this; exact this.symm
      subst dx; subst dy;have ih:=s0w (w:=w) (d:=d) hr (by simpa using hl) he' hus hvs;unfold F0T at hi;split at hi
      ·rename_i k0 hu0;have p1:(part f.type xs f.offset).run P w=.ok (.int q x) w:=by simp[part,Go.isAgg,run_underlying hu0,gx]
       have p2:(part f.type ys f.offset).run P w=.ok (.int q y) w:=by simp[part,Go.isAgg,run_underlying hu0,gy]
       have p3:=run_equalIn_int w d f.type q k0 x y hu0;simp only[Op.eqFields,hn,ne_eq,not_false_eq_true,if_true,Sem.run_bind,p1,p2,p3,Result.andThen_ok];by_cases hxy:x=y
       ·subst hxy; simp[eqI,ih]
       ·simp[eqI,hxy]
      ·cases hi
     ·cases h
    ·cases h
   ·cases h
theorem u0k{P:Program}{n:Nat}{en:Env}{w:World}{G:Gh}{T T' ty:TypeId}{x y:Operand}{us vs:List Value}{as bs:List AV}{e:Bool}{pl:List (Nat×Nat)}(hx:ev en x=some (.agg us.toArray))(hy:ev en y=some (.agg vs.toArray))
  (ha:AVRs G as us) (hb:AVRs G bs vs) {ag:List Bool} (hk:E0S P T (.agg pl true ag)) (hl:pl.length=as.length) (h:m0S as bs=some e) :
  D7 P n en (.binOp .eql T x y T') ty w (.bool e) w/\D7 P n en (.binOp .neq T x y T') ty w (.bool (!e)) w:=by
 obtain⟨_,h2,_,_,h5,_⟩:=hk;have h5:=h5 rfl;unfold G0C at h5;split at h5
 ·rename_i fs hu;simp only[ba,Bool.not_eq_true'] at h5;obtain⟨⟨g1,g2⟩,g3⟩:=h5;have hfs:P.fieldsOf T=fs:=by unfold Program.fieldsOf; rw[hu]
  have hlen:fs.toList.length=as.length:=by
   unfold g0Z at h2;rw[hu] at h2;simp only[oi] at h2;rw[<- hl,<- h2,List.length_map]
  have key:(Op.equalIn 10000 T (.agg us.toArray) (.agg vs.toArray)).run P w=.ok e w:=by
   rw[run_equalIn_struct w 9999 T _ _ (by rw[hfs]; exact hu) g1,hfs];exact s0w (d:=9998) g3 hlen h ha hb
  constructor
  ·intro ac dst pos after g hag;simp only[execOp,hag.ev hx,hag.ev hy];simp[run_eqGuard_agg w .eql T x y us.toArray vs.toArray g2,run_eql_struct,key]
  ·intro ac dst pos after g hag;simp only[execOp,hag.ev hx,hag.ev hy];simp[run_eqGuard_agg w .neq T x y us.toArray vs.toArray g2,run_neq_struct,key]
 ·cases h5
theorem i0R{X:Cx}{G:Gh}{a:Act}{st:St}{T T' ty:TypeId}{ti:Option TI}{x y:Operand}{as bs:List AV}{e:Bool}(hE:EnvR X.n G st.e a)(hti:∀t,ti=some t->u0 X.P T t)
  (hu:AVR G (.agg as) (a.eval x)) (hv:AVR G (.agg bs) (a.eval y)) (h:v0v ti as bs=some e):Val X G a (.binOp .eql T x y T') ty (.d true .bool e)/\Val X G a (.binOp .neq T x y T') ty (.d true .bool (!e)):=by
 have hxe:ev (C3 a [x,y]) x=some (a.eval x):=I0 (by simp);have hye:ev (C3 a [x,y]) y=some (a.eval y):=I0 (by simp);unfold v0v at h;split at h
 ·rw[ce] at h;split at h
  ·rename_i hl;obtain⟨us,e1,h1⟩:=hu;obtain⟨vs,e2,h2⟩:=hv;rw[e1] at hxe;rw[e2] at hye;obtain⟨r1,r2⟩:=u0k (P:=X.P) (n:=X.n) (w:=G.w) (T':=T') (ty:=ty) hxe hye h1 h2 (hti _ rfl).2.2.2.2 (nb hl) h;exact⟨B0 hE [x,y] r1 rfl,B0 hE [x,y] r2 rfl⟩
  ·cases h
 ·cases h
theorem p0o{P:Program}{n:Nat}{e:Env}{ty:TypeId}{w:World}{T T':TypeId}{x y:Operand}{q:Option Addr}(hU:P.underlying T=some (.pointer (P.pointee T)))(hx:Sv.ev e x=some (.pointer q))(hy:Sv.ev e y=some (.pointer none)) :
  D7 P n e (.binOp .eql T x y T') ty w (.bool q.isNone) w:=by
 intro a dst pos after g ha;have:=run_eql_pointer_nil w T q hU;simp only[execOp,ha.ev hx,ha.ev hy];simp[eqGuard,this,Result.andThen]
theorem p0l{P:Program}{n:Nat}{e:Env}{ty:TypeId}{w:World}{T T':TypeId}{x y:Operand}{q:Option Addr}(hU:P.underlying T=some (.pointer (P.pointee T)))(hx:Sv.ev e x=some (.pointer q))(hy:Sv.ev e y=some (.pointer none)) :
  D7 P n e (.binOp .neq T x y T') ty w (.bool (!q.isNone)) w:=by
 intro a dst pos after g ha;have:=run_neq_pointer_nil w T q hU;simp only[execOp,ha.ev hx,ha.ev hy];simp[eqGuard,this,Result.andThen]
theorem p0J{X:Cx}{G:Gh}{a:Act}{st:St}{op:BinOp}{T T' ty:TypeId}{ti:Option TI}{x y:Operand}{u v r:AV}{q:Prop}(hE:EnvR X.n G st.e a)(hti:∀t,ti=some t->u0 X.P T t)
  (hu:AVR G u (a.eval x)) (hv:AVR G v (a.eval y)) (h:C0R ti op u v=some (q,r)) (hq:q):Val X G a (.binOp op T x y T') ty r:=by
 have hxe:ev (C3 a [x,y]) x=some (a.eval x):=I0 (by simp);have hye:ev (C3 a [x,y]) y=some (a.eval y):=I0 (by simp);have cmp:∀{o:BinOp} {f g:Bool} {k k':IntKind} {i j:Int} {res:Bool} {q':Prop} {r':AV},u=.d f (.int k) i->v=.d g (.int k') j->t0p k k' res=some (q',r')->F0a o i j=some res->op=o->r'=r ->
   Val X G a (.binOp op T x y T') ty r:=by
  intro o f g k k' i j res q' r' e1 e2 hb hc ho hr;subst e1; subst e2;unfold t0p at hb;rw[ce] at hb;split at hb
  ·rename_i hk;have hk:k=k':=by simpa using hk
   subst hk;simp only[oi,pj] at hb;obtain⟨_,rfl⟩:=hb;obtain⟨h1,_⟩:=C7 hu;obtain⟨h2,_⟩:=C7 hv;rw[h1] at hxe;rw[h2] at hye;refine B0 hE [x,y] (v:=.bool res) (b0g ?_) ?_
   ·simp only[X5,hxe,hye,C0P,if_true,ho,hc]
   ·rw[<- hr]; exact rfl
  ·cases hb
 have ar:∀{f g:Bool} {i j:Int},u=.d f (.int .i64) i->v=.d g (.int .i64) j->ev (C3 a [x,y]) x=some (.int .i64 i)/\ev (C3 a [x,y]) y=some (.int .i64 j)/\InI i/\InI j:=by
  intro f g i j e1 e2;subst e1; subst e2;obtain⟨h1,h1'⟩:=C7 hu;obtain⟨h2,h2'⟩:=C7 hv;rw[h1] at hxe;rw[h2] at hye;exact⟨hxe,hye,h1',h2'⟩
 have sr:∀{f g:Bool} {i j:ByteArray},u=.d f .str i->v=.d g .str j->ev (C3 a [x,y]) x=some (.string i)/\ev (C3 a [x,y]) y=some (.string j):=by
  intro f g i j e1 e2;subst e1; subst e2;rw[(j0Z hu).1] at hxe;rw[(j0Z hv).1] at hye;exact⟨hxe,hye⟩
 have br:∀{f g i j:Bool},u=.d f .bool i->v=.d g .bool j->ev (C3 a [x,y]) x=some (.bool i)/\ev (C3 a [x,y]) y=some (.bool j):=by
  intro f g i j e1 e2;subst e1; subst e2;rw[b0x hu] at hxe;rw[b0x hv] at hye;exact⟨hxe,hye⟩
 unfold C0R at h;split at h
 ·exact cmp rfl rfl h rfl rfl rfl
 ·exact cmp rfl rfl h rfl rfl rfl
 ·exact cmp rfl rfl h rfl rfl rfl
 ·exact cmp rfl rfl h rfl rfl rfl
 ·exact cmp rfl rfl h rfl rfl rfl
 ·exact cmp rfl rfl h rfl rfl rfl
 ·simp only[G0F,oi,pj] at h;obtain⟨rfl,rfl⟩:=h;obtain⟨h1,h2,_⟩:=ar rfl rfl;exact B0 hE [x,y] (u0m h1 h2 hq) ⟨rfl,hq⟩
 ·simp only[F0m,oi,pj] at h;obtain⟨rfl,rfl⟩:=h;obtain⟨h1,h2,_⟩:=ar rfl rfl;exact B0 hE [x,y] (u0c h1 h2 hq) ⟨rfl,hq⟩
 ·simp only[F0Q,oi,pj] at h;obtain⟨rfl,rfl⟩:=h;obtain⟨h1,h2,_⟩:=ar rfl rfl;exact B0 hE [x,y] (u0i h1 h2 hq) ⟨rfl,hq⟩
 ·simp only[F0B,oi,pj] at h;obtain⟨rfl,rfl⟩:=h;obtain⟨h1,h2,h3,_⟩:=ar rfl rfl;exact B0 hE [x,y] (u0f h1 h2 h3 hq) ⟨rfl,r0d h3 hq⟩
 ·simp only[F0o,oi,pj] at h;obtain⟨rfl,rfl⟩:=h;obtain⟨h1,h2,h3,h4⟩:=ar rfl rfl;exact B0 hE [x,y] (u0e h1 h2 (by omega)) ⟨rfl,y0Q h4 hq⟩
 ·simp only[oi,pj] at h;obtain⟨rfl,rfl⟩:=h;obtain⟨h1,h2⟩:=sr rfl rfl;exact B0 hE [x,y] (b0g (by simp only[X5,h1,h2,C0P,D0U,eqS])) rfl
 ·simp only[oi,pj] at h;obtain⟨rfl,rfl⟩:=h;obtain⟨h1,h2⟩:=sr rfl rfl;exact B0 hE [x,y] (b0g (by simp only[X5,h1,h2,C0P,D0U,eqS])) rfl
 ·simp only[G0E,oi,pj] at h;obtain⟨rfl,rfl⟩:=h;obtain⟨h1,h2⟩:=sr rfl rfl;exact B0 hE [x,y] (u0l h1 h2 hq) ⟨rfl,by rw[ByteArray.size_append]; exact hq⟩
 ·split at h
  ·simp only[oi,pj] at h;obtain⟨rfl,rfl⟩:=h;obtain⟨h1,h2⟩:=br rfl rfl
   haveI:p0V X.P T:=⟨(hti _ rfl).2.2.2.2.2⟩
   exact B0 hE [x,y] (u0j h1 h2) rfl
  ·cases h
 ·split at h
  ·simp only[oi,pj] at h;obtain⟨rfl,rfl⟩:=h;obtain⟨h1,h2⟩:=br rfl rfl
   haveI:p0V X.P T:=⟨(hti _ rfl).2.2.2.2.2⟩
   exact B0 hE [x,y] (u0h h1 h2) rfl
  ·cases h
 ·simp only[F0n,oi,pj] at h;obtain⟨rfl,rfl⟩:=h;obtain⟨h1,_⟩:=C7 hu;obtain⟨h2,_⟩:=C7 hv;rw[h1] at hxe;rw[h2] at hye;exact B0 hE [x,y] (u0d hxe hye hq.1 hq.2) ⟨rfl,hq.2⟩
 ·simp only[D0C,oi,pj] at h;obtain⟨rfl,rfl⟩:=h;obtain⟨h1,_⟩:=C7 hu;obtain⟨h2,_⟩:=C7 hv;rw[h1] at hxe;rw[h2] at hye;exact B0 hE [x,y] (n0G hxe hye hq.1 (Nat.le_refl 64)) ⟨rfl,hq.2⟩
 ·simp only[D0C,oi,pj] at h;obtain⟨rfl,rfl⟩:=h;obtain⟨h1,_⟩:=C7 hu;obtain⟨h2,_⟩:=C7 hv;rw[h1] at hxe;rw[h2] at hye;exact B0 hE [x,y] (n0G hxe hye hq.1 (Nat.le_refl 64)) ⟨rfl,hq.2⟩
 ·split at h
  ·rename_i he;simp only[oi,pj] at h;obtain⟨rfl,rfl⟩:=h;exact(i0R hE hti hu hv he).1
  ·cases h
 ·split at h
  ·rename_i he;simp only[oi,pj] at h;obtain⟨rfl,rfl⟩:=h;exact(i0R hE hti hu hv he).2
  ·cases h
 ·simp only[oi,pj] at h;obtain⟨rfl,rfl⟩:=h;obtain⟨h1,_⟩:=C7 hu;obtain⟨h2,_⟩:=C7 hv;rw[h1] at hxe;rw[h2] at hye;exact B0 hE [x,y] (r0r hxe hye (.inl ⟨rfl,rfl⟩) hq) ⟨rfl,hq⟩
 ·simp only[oi,pj] at h;obtain⟨rfl,rfl⟩:=h;obtain⟨h1,_⟩:=C7 hu;obtain⟨h2,_⟩:=C7 hv;rw[h1] at hxe;rw[h2] at hye;exact B0 hE [x,y] (r0r hxe hye (.inr ⟨rfl,rfl⟩) hq) ⟨rfl,hq⟩
 ·split at h
  ·simp only[oi,pj] at h;obtain⟨rfl,rfl⟩:=h;obtain⟨b,o,ds,h1,_⟩:=hu;simp only[List.cons.injEq,and_true] at h1;have h2:a.eval y=.pointer none:=hv;rw[h1] at hxe;rw[h2] at hye;exact B0 hE [x,y] (p0o (hti _ rfl).2.2.2.2.2 hxe hye) rfl
  ·cases h
 ·split at h
  ·simp only[oi,pj] at h;obtain⟨rfl,rfl⟩:=h;obtain⟨b,o,ds,h1,_⟩:=hu;simp only[List.cons.injEq,and_true] at h1;have h2:a.eval y=.pointer none:=hv;rw[h1] at hxe;rw[h2] at hye;exact B0 hE [x,y] (p0l (hti _ rfl).2.2.2.2.2 hxe hye) rfl
  ·cases h
 ·simp only[D0W,oi,pj] at h;obtain⟨rfl,rfl⟩:=h;obtain⟨h1,h1'⟩:=C7 hu;obtain⟨h2,h2'⟩:=C7 hv;rw[h1] at hxe;rw[h2] at hye;obtain⟨hr,hr0,hr1⟩:=n0H (P:=X.P) (n:=X.n) (w:=G.w) (T:=T) (T':=T') (ty:=ty) (.inl rfl) hxe hye ⟨hq.1,h1'.2⟩ ⟨hq.2,h2'.2⟩;have h0:lo .i64<=0:=by decide
  exact B0 hE [x,y] hr ⟨rfl,Int.le_trans h0 hr0,hr1⟩
 ·simp only[D0W,oi,pj] at h;obtain⟨rfl,rfl⟩:=h;obtain⟨h1,h1'⟩:=C7 hu;obtain⟨h2,h2'⟩:=C7 hv;rw[h1] at hxe;rw[h2] at hye;obtain⟨hr,hr0,hr1⟩:=n0H (P:=X.P) (n:=X.n) (w:=G.w) (T:=T) (T':=T') (ty:=ty) (.inr rfl) hxe hye ⟨hq.1,h1'.2⟩ ⟨hq.2,h2'.2⟩;have h0:lo .u64<=0:=by decide
  exact B0 hE [x,y] hr ⟨rfl,Int.le_trans h0 hr0,hr1⟩
 ·simp only[oi,pj] at h;obtain⟨rfl,rfl⟩:=h;obtain⟨h1,_⟩:=C7 hu;obtain⟨h2,_⟩:=C7 hv;rw[h1] at hxe;rw[h2] at hye;exact B0 hE [x,y] (n0F hxe hye (.inl ⟨rfl,rfl⟩)) ⟨rfl,Int.emod_nonneg _ (by decide),Int.le_of_lt_add_one (Int.emod_lt_of_pos _ (by decide))⟩
 ·simp only[oi,pj] at h;obtain⟨rfl,rfl⟩:=h;obtain⟨h1,_⟩:=C7 hu;obtain⟨h2,_⟩:=C7 hv;rw[h1] at hxe;rw[h2] at hye;exact B0 hE [x,y] (n0F hxe hye (.inr ⟨rfl,rfl⟩)) ⟨rfl,Int.emod_nonneg _ (by decide),Int.le_of_lt_add_one (Int.emod_lt_of_pos _ (by decide))⟩
 ·cases h
def B5{β:Type}:List β->Nat->Option β
 | [],_=>none
 | x :: _,0=>some x
 | _ :: r,n+1=>B5 r n
theorem S9{β:Type}:∀(l:List β) (n:Nat),B5 l n=l[n]?
 | [],_=>by simp[B5]
 | _ :: _,0=>by simp[B5]
 | _ :: r,n+1=>by simp[B5,S9 r n]
def T8(o:List (Nat×Ob)):AV->Option (List AV×List Nat)
 | .ptr id off=>match lku o id with
   | some (.box _ cs)=>some (cs.drop off,[id])
   | _=>none
 | .pel id ver k s off=>match lku o id with
   | some (.arr _ fr t xs ver')=>bif Nat.beq ver ver'&&Nat.beq s (sz t) then some ((u1 fr t (xs.getD k (d6 t))).drop off,[id]) else none
   | _=>none
 | .d fr (.pt t) x=>some (u1 fr t x,[])
 | _=>none
def d0S(o:List (Nat×Ob)):AV->Prop
 | .pel id _ k _ _=>match lku o id with
   | some (.arr _ _ _ xs _)=>k<xs.length
   | _=>True
 | _=>True
theorem r0z{w:World}{T:TypeId}{s n b b' o n' c':Nat}{v:Value}{cs:List Value}(h:Own w T s (some b) v n cs)(hv:v=.slice (some ⟨b',o,none⟩) n' c'){k:Nat}{c pre post:List Value}(e:cs=pre++c++post)(hp:pre.length=k*s):b=b'/\At w b (o+k*s) c:=by
 obtain⟨o1,c1,e1,hat⟩:=h.at;rw[hv] at e1;cases e1;rw[e] at hat;have:=hat.mid;rw[hp] at this;exact⟨rfl,this⟩
theorem e0C{X:Cx}{G:Gh}(S:Sat X G){p:AV}{u:Value}{cs:List AV}{l:List Nat}(h:T8 G.o p=some (cs,l))(hq:d0S G.o p)(hu:AVR G p u):∃b o us,u=.pointer (some ⟨b,o,none⟩)/\At G.w b o us/\AVRs G cs us:=by
 unfold T8 at h;split at h
 ·rename_i id off;split at h
  ·rename_i T cs' ho;simp only[oi,pj] at h;obtain⟨rfl,rfl⟩:=h;obtain⟨_,b,hb,rfl⟩:=hu;obtain⟨b',us,g1,g2,g3,g4⟩:=S.obs id _ ho;rw[hb] at g2;cases g2;exact⟨b,off,us.drop off,rfl,by simpa using m0O g3.at off,(g4.take off).2⟩
  ·cases h
 ·rename_i id ver k s off;split at h
  ·rename_i T fr t xs ver' ho;rw[ce] at h;split at h
   ·rename_i hv;simp only[ba] at hv;have hv1:=nb hv.1;have hv2:=nb hv.2;subst hv1; subst hv2;simp only[oi,pj] at h;obtain⟨rfl,rfl⟩:=h;have hk:k<xs.length:=by simpa only[d0S,ho] using hq
    obtain⟨_,T1,fr1,t1,xs1,ver1,h1,h2,h3⟩:=hu;rw[ho] at h1;cases h1;obtain⟨b,o,n,c,hr,rfl⟩:=h3 rfl;obtain⟨cs,hO,hA,hBB⟩:=S.obs id _ ho;obtain⟨pre,c',post,e,hp,hR⟩:=hA.get (fun c x h=>RT.len h) hk;cases hg:G.γ id with
    | none =>
      rw[hg] at hO;rcases hO with ⟨_,hn,_⟩ | ⟨b',_,_,_,hb,_⟩
      ·omega
      ·cases hb
    | some b' =>
      rw[hg] at hO;obtain⟨hbb,hat⟩:=r0z hO hr e hp;subst hbb;have hD:=a0Z hR;have hgd:xs.getD k (d6 t)=xs[k]:=by simp[hk]
      rw[hgd];exact⟨b',o+(k*sz t+off),c'.drop off,rfl,by rw[<- Nat.add_assoc]; exact m0O hat off,(hD.take off).2⟩
   ·cases h
  ·cases h
 ·rename_i fr t x;simp only[oi,pj] at h;obtain⟨rfl,rfl⟩:=h;obtain⟨b,o,ds,h1,hb,hat,hR⟩:=hu;simp only[List.cons.injEq,and_true] at h1;exact⟨b,o,ds,h1,hat,a0Z hR⟩
 ·cases h
def u0H:AV->Nat->Option AV
 | .ptr id off,k=>some (.ptr id (off+k))
 | .pel id ver i s off,k=>some (.pel id ver i s (off+k))
 | .d fr (.pt t) x,k=>l0s fr t x k
 | _,_=>none
theorem p0w{X:Cx}{G:Gh}(_S:Sat X G){p r:AV}{u:Value}{k:Nat}{cs:List AV}{l:List Nat}(hd:T8 G.o p=some (cs,l))(h:u0H p k=some r)(hu:AVR G p u):∃b o,u=.pointer (some ⟨b,o,none⟩)/\AVR G r (.pointer (some ⟨b,o+k,none⟩)):=by
 unfold u0H at h;split at h
 ·simp at h; subst h;obtain⟨hx,b,hb,rfl⟩:=hu;exact⟨b,_,rfl,hx,b,hb,rfl⟩
 ·rename_i id ver i s off;simp at h; subst h;obtain⟨h0,T1,fr1,t1,xs1,ver1,h1,h2,h3⟩:=hu;simp only[T8,h1,ce] at hd;split at hd
  ·rename_i hv;simp only[ba] at hv;have hv1:=nb hv.1;obtain⟨b,o,n,c,hr,rfl⟩:=h3 hv1;exact⟨b,_,rfl,rfl,T1,fr1,t1,xs1,ver1,h1,h2,fun _=>⟨b,o,n,c,hr,by simp[Nat.add_assoc]⟩⟩
  ·cases hd
 ·rename_i fr t x;obtain⟨b,o,ds,h1,hb,hat,hR⟩:=hu;simp only[List.cons.injEq,and_true] at h1;exact⟨b,o,h1,m0F hb h hat hR⟩
 ·cases h
def A0a(n:Int)(len:Nat):Prop:=0<=n/\n < (len:Int)
def A0w(Γ:m9)(o:List (Nat×Ob))(T:TypeId)(v:AV)(n:Int):Option (Prop×AV×List Nat):=match v,lku Γ T with
 | .d fr (.sl t) xs,some ⟨_,_,_,.sl E,_⟩=>match lku Γ E with
   | some te=>bif Nat.beq te.size (sz t) then some (A0a n xs.length,.d fr (.pt t) (xs.getD n.toNat (d6 t)),[]) else none
   | none=>none
 | .os id ver,some ⟨_,_,_,.sl E,_⟩=>match lku Γ E,lku o id with
   | some te,some (.arr _ _ t xs ver')=>bif Nat.beq ver ver'&&Nat.beq te.size (sz t) then some (A0a n xs.length,.pel id ver n.toNat (sz t) 0,[id]) else none
   | _,_=>none
 | .ptr id off,some ⟨_,_,_,.arr m E,_⟩=>match lku Γ E with
   | some te=>some (A0a n m,.ptr id (off+n.toNat*te.size),[])
   | none=>none
 | .og id,some ⟨_,_,_,.sl E,_⟩=>match lku Γ E,lku o id with
   | some te,some (.grd _ _ _ _ xs _)=>bif Nat.beq te.size 1 then some (A0a n xs.length,.gel id n.toNat,[id]) else none
   | _,_=>none
 | _,_=>none
theorem m0g{P:Program}{n:Nat}{e:Env}{ty:TypeId}{w:World}{T E s y m k b o:Nat}{z:Value}{x ix:Operand}{kk:IntKind}(h:P.underlying T=some (.array m E))[i:Info P E s y z](hx:ev e x=some (.pointer (some ⟨b,o,none⟩)))(hi:ev e ix=some (.int kk (k:Int)))(hk:k<m) :
  D7 P n e (.indexAddr T x ix) ty w (.pointer (some ⟨b,o+k*s,none⟩)) w:=by
 intro a dst pos after g ha;obtain⟨inf,hinfo,h1,h2,h3⟩:=i.get;have hadd:(Addr.mk b o none).add (k*s)=⟨b,o+k*s,none⟩:=by
  unfold Addr.add;split
  ·rename_i h0; rw[h0]; rfl
  ·rfl
 have hin:0<=(k:Int)/\(k:Int) < (m:Int):=oo;simp only[execOp,ha.ev hx,ha.ev hi];simp only[Instr.indexAt,asIntOf,Sem.run_bind,run_underlying h,Instr.sureAddr,Result.andThen,Sem.run_pure,hin,and_self,if_true,S7 w hinfo,h1,Int.toNat_natCast,hadd]
theorem s0f{X:Cx}{G:Gh}{a:Act}{st:St}{Γ:m9}(hΓ:x6 X.P Γ)(S:Sat X G)(hE:EnvR X.n G st.e a){T ty:TypeId}{x ix:Operand}{v r:AV}{n:Int}{f:Bool}{k:IntKind}{q:Prop}{l:List Nat}
  (hx:AVR G v (a.eval x)) (hn:AVR G (.d f (.int k) n) (a.eval ix)) (h:A0w Γ G.o T v n=some (q,r,l)) (hq:q):Val X G a (.indexAddr T x ix) ty r:=by
 have hxe:ev (C3 a [x,ix]) x=some (a.eval x):=I0 (by simp);have hye:ev (C3 a [x,ix]) ix=some (a.eval ix):=I0 (by simp);rw[(C7 hn).1] at hye;unfold A0w at h;split at h
 ·rename_i fr t xs s0 y0 z0 E ty0 hT;split at h
  ·rename_i te hte;rw[ce] at h;split at h
   ·rename_i hs;have hs:=nb hs;simp only[oi,pj] at h;obtain⟨rfl,rfl,rfl⟩:=h
    haveI:Y6 X.P T E:=⟨(hΓ T _ hT).2.2.2.2.2⟩
    haveI:Info X.P E te.size te.bytes te.zero:=⟨(hΓ E _ hte).1⟩
    obtain⟨i,rfl⟩:=Int.eq_ofNat_of_zero_le hq.1;have hi:i<xs.length:=by have:=hq.2; omega
    obtain⟨p,cap,hv,_⟩:=id hx;simp only[List.cons.injEq,and_true] at hv;have hx':=hx;rw[hv] at hx' hxe;obtain⟨_,b,o,c,rfl,hb,hat,hR⟩:=RT.get hx' hi;refine B0 hE [x,ix] (j0s hxe hye hi) ?_;simp only[Int.toNat_natCast,gq,List.getElem?_eq_getElem hi,Option.getD_some];exact⟨b,o+i*te.size,c,rfl,hb,by rw[hs]; exact hat,hR⟩
   ·cases h
  ·cases h
 ·rename_i id ver s0 y0 z0 E ty0 hT;split at h
  ·rename_i te T' fr t xs ver' hte ho;rw[ce] at h;split at h
   ·rename_i hs;simp only[ba] at hs;have hv1:=nb hs.1;have hsz:=nb hs.2;clear hs;subst hv1;simp only[oi,pj] at h;obtain⟨rfl,rfl,rfl⟩:=h
    haveI:Y6 X.P T E:=⟨(hΓ T _ hT).2.2.2.2.2⟩
    haveI:Info X.P E te.size te.bytes te.zero:=⟨(hΓ E _ hte).1⟩
    obtain⟨i,rfl⟩:=Int.eq_ofNat_of_zero_le hq.1;have hi:i<xs.length:=by have:=hq.2; omega
    obtain⟨_,T1,fr1,t1,xs1,ver1,h1,h2,h3⟩:=hx;rw[ho] at h1;cases h1;have hu:=h3 rfl;obtain⟨cs,hO,hA,hBB⟩:=S.obs id _ ho;rcases hO with ⟨_,hn,_⟩ | ⟨b,o,cap,cur,hb,hv,_⟩
    ·omega
    ·rw[hu,hv] at hxe;refine B0 hE [x,ix] (j0s hxe hye hi) ?_;simp only[Int.toNat_natCast];exact⟨rfl,_,_,_,_,_,ho,Nat.le_refl _,fun _=>⟨b,o,_,_,hv,by rw[hsz]; simp⟩⟩
   ·cases h
  ·cases h
 ·rename_i id off s0 y0 z0 m E ty0 hT;split at h
  ·rename_i te hte;simp only[oi,pj] at h;obtain⟨rfl,rfl,rfl⟩:=h
   haveI:Info X.P E te.size te.bytes te.zero:=⟨(hΓ E _ hte).1⟩
   obtain⟨i,rfl⟩:=Int.eq_ofNat_of_zero_le hq.1;have hi:i<m:=by have:=hq.2; omega
   obtain⟨hb0,b,hb,hv⟩:=hx;rw[hv] at hxe;refine B0 hE [x,ix] (m0g (hΓ T _ hT).2.2.2.2.2 hxe hye hi) ?_;simp only[Int.toNat_natCast];exact⟨hb0,b,hb,rfl⟩
  ·cases h
 ·rename_i id s0 y0 z0 E ty0 hT;split at h
  ·rename_i te T' Te fr t xs hole hte ho;rw[ce] at h;split at h
   ·rename_i hs;have hs:=nb hs;simp only[oi,pj] at h;obtain⟨rfl,rfl,rfl⟩:=h
    haveI:Y6 X.P T E:=⟨(hΓ T _ hT).2.2.2.2.2⟩
    haveI:Info X.P E te.size te.bytes te.zero:=⟨(hΓ E _ hte).1⟩
    obtain⟨i,rfl⟩:=Int.eq_ofNat_of_zero_le hq.1;have hi:i<xs.length:=by have:=hq.2; omega
    obtain⟨_,_,hu⟩:=hx;obtain⟨vs,bs,hO,_,_⟩:=S.obs id _ ho;rcases hO with ⟨_,hn,_⟩ | ⟨b,o,cap,cur,hb,hv,_⟩
    ·omega
    ·rw[hu,hv] at hxe;refine B0 hE [x,ix] (j0s hxe hye hi) ?_;simp only[Int.toNat_natCast,hs,Nat.mul_one];exact⟨⟨_,_,_,_,_,_,ho⟩,b,o,_,_,hv,rfl⟩
   ·cases h
  ·cases h
 ·cases h
def x0F(cs:List AV)(o:Nat)(vs:List AV):List AV:=cs.take o++vs++cs.drop (o+vs.length)
theorem f0E{G:Gh}{cs vs:List AV}{us ws:List Value}{o:Nat}(h:AVRs G cs us)(k:AVRs G vs ws)(_ho:o+vs.length<=cs.length):AVRs G (x0F cs o vs) (spl us o ws):=by
 unfold x0F spl;rw[k.len];exact AVRs.app (h.take _).2 (AVRs.app k (h.take o).1)
def Z1(st:St)(p:Pa)(pl:List (Nat×Nat)):List AV->List (Nat×Operand)->Option (List AV)
 | cs,[]=>some cs
 | cs,(i,x) :: r=>match B5 pl i with
   | some (off,s)=>match rd st p x with
     | some v=>match e0r v with
       | some vs=>bif Nat.beq vs.length s&&Nat.ble (off+vs.length) cs.length then Z1 st p pl (x0F cs off vs) r else none
       | none=>none
     | none=>none
   | none=>none
theorem j0J:∀{us:List Value} {k:Nat},us.length=k->j0K us k=true
 | [],0,_=>rfl
 | _ :: r,k+1,h=>j0J (us:=r) (by simpa using h)
 | [],_+1,h=>by simp at h
 | _ :: _,0,h=>by simp at h
theorem j0T{a:Act}{xs:List Operand}:∀{ps:List (Nat×Operand)},(∀q∈ps,q.2∈xs)->evp (C3 a xs) ps=some (ps.map fun q=>(q.1,a.eval q.2))
 | [],_=>rfl
 | (i,x) :: r,h=>by
   have h1:=I0 (a:=a) (h (i,x) (by simp));have h2:=j0T (a:=a) (ps:=r) (fun q hq=>h q (by simp[hq]));unfold evp;rw[h1,h2];rfl
theorem e0K{n:Nat}{G:Gh}{a:Act}{st:St}{p:Pa}{pl:List (Nat×Nat)}(hE:EnvR n G st.e a)(hp:PathP p a):∀{ps:List (Nat×Operand)} {cs r:List AV} {us:List Value},Z1 st p pl cs ps=some r->AVRs G cs us ->
  ∃ws,h0z pl us (ps.map fun q=>(q.1,a.eval q.2))=some ws/\AVRs G r ws
 | [],cs,r,us,h,hA=>by simp[Z1] at h; subst h; exact⟨us,rfl,hA⟩
 | (i,x) :: q,cs,r,us,h,hA=>by
   unfold Z1 at h;split at h
   ·rename_i off s hi;split at h
    ·rename_i v hv;split at h
     ·rename_i vs hvs;rw[ce] at h;split at h
      ·rename_i hc;simp only[ba] at hc;have hc1:=nb hc.1;have hc2:=Nat.le_of_ble_eq_true hc.2;have hx:=B9 hE hp hv;obtain⟨h1,_⟩:=c0e hvs hx;have hlen:=h1.len;have hlen2:=hA.len;obtain⟨ws,h2,h3⟩:=e0K hE hp h (f0E hA h1 hc2);refine⟨ws,?_,h3⟩;simp only[List.map_cons];unfold h0z;rw[S9] at hi;simp only[hi];have hb:(j0K (a.eval x).cells.toList s&&Nat.ble (off+s) us.length)=true:=by
        rw[ba];exact⟨j0J (by omega),Nat.ble_eq_true_of_le (by omega)⟩
       rw[hb];exact h2
      ·cases h
     ·cases h
    ·cases h
   ·cases h
end Go.Proofs.Xv
end
section
namespace Go.Proofs.Sv
open Go Go.RowKit
section
variable {P:Program} {n:Nat} {e:Env} {w:World} {Q:Exit->Act->World->Prop} {l:List Oper} {fuel:Nat} {listed:Array Bool} {S:World->Prop} {ops:Array Oper} {rest:List Oper}
 {d:Nat} {op:Op} {ty:TypeId} {pos:String} {after:Array Edge}
end
section
variable {P:Program} {ops:Array Oper} {Q:Exit->Act->World->Prop} {S:World->Prop} {st:Nat}
end
section
variable {P:Program} {n:Nat} {e:Env} {w:World} {Q:Exit->Act->World->Prop} {l:List Oper} {fuel:Nat} {listed:Array Bool} {S:World->Prop} {st:Nat}
 {d:Nat} {op:Op} {ty:TypeId} {pos:String} {after:Array Edge}
end
theorem Own.set{w w':World}{E s:Nat}{g g' n n' c k o:Nat}{v:Value}{cs vs:List Value}(h:Own w E s (some g) v n cs)(hvo:v=.slice (some ⟨g',o,none⟩) n' c)(hk:k<n)(hv:vs.length=s)(hB:∀cur:Array Value,w.heap[g]?=some (.cells cur E (0,0))->w'.heap[g]?=some (.cells (spl cur.toList (o+k*s) vs).toArray E (0,0))) :
  Own w' E s (some g) v n (spl cs (k*s) vs):=by
 rcases h with ⟨h,_⟩ | ⟨b,o',cap,cur,hb,hv2,h1,h2,h3,h4,rfl⟩
 ·cases h
 ·cases hb;rw[hvo] at hv2;cases hv2;refine .inr ⟨g,o,c,_,rfl,hvo,hB cur h1,h2,h3,?_,?_⟩
  ·have hle:(k+1)*s<=c*s:=Nat.mul_le_mul_right s (by omega);rw[Nat.add_mul] at hle;simp only[spl,List.size_toArray,List.length_append,List.length_take,List.length_drop,Array.length_toList];omega
  ·have hle:(k+1)*s<=n*s:=Nat.mul_le_mul_right s (by omega);have hle2:n*s<=c*s:=Nat.mul_le_mul_right s h2;rw[Nat.add_mul] at hle;have e0:List.drop o (spl cur.toList (o+k*s) vs)=spl (cur.toList.drop o) (k*s) vs:=by
    unfold spl;rw[List.append_assoc,List.append_assoc,List.drop_append,List.drop_take,List.length_take,List.drop_drop,Array.length_toList];rw[show o+k*s-o=k*s by omega,show o-min (o+k*s) cur.size=0 by omega,List.drop_zero,Nat.add_assoc]
   show(List.drop o (spl cur.toList (o+k*s) vs)).take (n*s)=_;rw[e0];have hl:(cur.toList.drop o).length=c*s:=by rw[List.length_drop,Array.length_toList]; omega
   generalize cur.toList.drop o=C at hl;simp only[spl];have e1:(List.take (k*s) C).length=k*s:=by rw[List.length_take]; omega
   rw[List.append_assoc,List.take_append,List.take_append,e1,hv,List.append_assoc];congr 1
   ·rw[List.take_of_length_le (by rw[e1]; omega),List.take_take]; congr 1; omega
   ·congr 1
    ·rw[List.take_of_length_le (by omega)]
    ·rw[List.drop_take]; congr 1; omega
end Go.Proofs.Sv
end
section
namespace Go.Proofs.Sv
open Go
theorem SlR.ins{lo hi:Nat}{w:World}{v:Value}{xs:List Int}(h:SlR lo hi w v xs):∀x∈xs,InI x:=by
 intro x hx;obtain⟨i,hi',rfl⟩:=List.getElem_of_mem hx;obtain⟨p,cap,rfl⟩:=h.len;obtain⟨_,_,_,_,_,_,_,_,hr⟩:=h.get hi';exact hr.2
section
open Go.RowKit
variable {P:Program} {n:Nat} {e:Env} {w:World} {Q:Exit->Act->World->Prop} {ops:Array Oper} {rest:List Oper}
 {d:Nat} {ty:TypeId} {pos:String} {after:Array Edge}
end
end Go.Proofs.Sv
end
section
namespace Go.Proofs.Sv
open Go Go.RowKit
def OwnI(w:World)(E:TypeId)(g:Option Nat)(v:Value)(xs:List Int):Prop:=Own w E 1 g v xs.length (xs.map (Value.int .i64))/\∀x∈xs,InI x
theorem OwnI.up{w w':World}{E:TypeId}{g:Option Nat}{v:Value}{xs:List Int}(h:OwnI w E g v xs)(k:Ext w w'):OwnI w' E g v xs:=⟨h.1.up k,h.2⟩
theorem OwnI.we{g':Option Nat}{w w':World}{E:TypeId}{g:Option Nat}{v:Value}{xs:List Int}(h:OwnI w E g v xs)(k:WE g' w w')(hg:∀i,g'=some i->g≠some i):OwnI w' E g v xs:=⟨h.1.we k hg,h.2⟩
theorem OwnI.lt{w:World}{E:TypeId}{g:Option Nat}{v:Value}{xs:List Int}(h:OwnI w E g v xs):∀k,g=some k->k<w.heap.size:=h.1.lt
theorem OwnI.len{w:World}{E:TypeId}{g:Option Nat}{v:Value}{xs:List Int}(h:OwnI w E g v xs):∃p c,v=.slice p xs.length c:=h.1.len
theorem All.ints{lo hi:Nat}{w:World}:∀{cs:List Value} {xs:List Int},All lo hi w cs xs->cs=xs.map (Value.int .i64)
 | _,[],h=>h
 | _,x :: r,h=>by
   obtain⟨c,d,rfl,h1,h2⟩:=h;rw[h1.1,All.ints h2]; rfl
theorem SlR.src{lo hi:Nat}{w:World}{v:Value}{xs:List Int}(h:SlR lo hi w v xs):∃p cap b o,v=.slice p xs.length cap/\(xs.length=0∨p=some ⟨b,o,none⟩)/\At w b o (xs.map (Value.int .i64)):=by
 obtain⟨p,cap,rfl,_,_,h4⟩:=h;rcases h4 with rfl | ⟨b,o,cs,rfl,_,_,hat,hall⟩
 ·exact⟨p,cap,0,0,rfl,.inl rfl,fun i u hu=>by simp at hu⟩
 ·rw[hall.ints] at hat;exact⟨_,cap,b,o,rfl,.inr rfl,hat⟩
theorem WE.then{g g':Option Nat}{w a a':World}(h:WE g w a)(k:WE g' a a')(hb:∀i,g'=some i->w.heap.size<=i∨g=some i):WE g w a' :=
 ⟨k.os.trans h.os,k.tape.trans h.tape,k.output.trans h.output,Nat.le_trans h.size k.size,fun i hi hg=>(k.block i (Nat.lt_of_lt_of_le hi h.size) (fun e=>by
   rcases hb i e with h' | h'
   ·omega
   ·exact hg h')).trans (h.block i hi hg)⟩
section
variable {P:Program} {n:Nat} {e:Env} {w:World} {ty:TypeId}
end
theorem At.tail{w:World}{b o:Nat}{c:Value}{cs:List Value}(h:At w b o (c :: cs)):At w b (o+1) cs:=by
 intro i u hu;have:=h (i+1) u (by simpa using hu)
 rwa [show o+1+i=o+(i+1) by omega]
theorem SlR.tail{lo hi:Nat}{w:World}{p:Option Addr}{len cap:Nat}{xs:List Int}(h:SlR lo hi w (.slice p len cap) xs)(h1:1<=len):SlR lo hi w (.slice (if cap=1 then p else p.map (·.add (1*1))) (len-1) (cap-1)) xs.tail:=by
 obtain⟨p',cap',hv,hle,hmax,h4⟩:=h;cases hv;cases xs with
 | nil=>simp at h1
 | cons x r =>
   refine⟨if cap=1 then p else p.map (·.add (1*1)),cap-1,rfl,by simp at hle ⊢; omega,by omega,?_⟩;by_cases hc:cap=1
   ·left;have hr:r.length=0:=by simp only[List.length_cons] at hle; omega
    exact List.eq_nil_of_length_eq_zero hr
   ·right;rcases h4 with h4 | ⟨b,o,cs,rfl,hlo,hhi,hat,hall⟩
    ·cases h4
    ·obtain⟨c,d,rfl,hc1,hd⟩:=hall;have hc2:=hc1.1;subst hc2;refine⟨b,o+1,d,?_,hlo,hhi,hat.tail,hd⟩;simp[hc,Addr.add]
end Go.Proofs.Sv
end
