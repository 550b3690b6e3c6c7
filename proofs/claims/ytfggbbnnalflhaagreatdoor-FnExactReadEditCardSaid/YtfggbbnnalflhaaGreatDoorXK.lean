/- Marks: trees of memory of which the scalars alone change. Over any program. -/
import Derived.Test.YtfggbbnnalflhaaGreatDoorXD
import Derived.Test.YtfggbbnnalflhaaGreatDoorXA
set_option maxHeartbeats 0
section
namespace Go.Proofs.Xv
open Go Go.RowKit Go.Proofs.Sv
def sca(u v:Value):Prop:=(∃k x y,u=.int k x/\v=.int k y/\lo k<=y/\y<=hi k)∨(∃x y,u=.bool x/\v=.bool y)∨∃x y,u=.string x/\v=.string y/\y.size<=9223372036854775807
def alk(u v:Value):Prop:=v=u∨sca u v
theorem alk.sca{u v x:Value}(h:alk u v)(k:Xv.sca u x):Xv.sca v x:=by
 rcases h with rfl | ⟨a,b,c,rfl,rfl,_⟩ | ⟨b,c,rfl,rfl⟩ | ⟨b,c,rfl,rfl,_⟩
 ·exact k
 ·rcases k with ⟨a',b',c',e,rfl,k⟩ | ⟨b',c',e,_⟩ | ⟨b',c',e,_⟩
  ·cases e; exact .inl ⟨_,_,_,rfl,rfl,k⟩
  ·cases e
  grind
 ·rcases k with ⟨a',b',c',e,_⟩ | ⟨b',c',e,rfl⟩ | ⟨b',c',e,_⟩
  ·cases e
  ·exact .inr (.inl ⟨_,_,rfl,rfl⟩)
  grind
 ·rcases k with ⟨a',b',c',e,_⟩ | ⟨b',c',e,_⟩ | ⟨b',c',e,rfl,k⟩
  ·cases e
  ·cases e
  ·exact .inr (.inr ⟨_,_,rfl,rfl,k⟩)
theorem alk.trans{u v x:Value}(h:alk u v)(k:alk v x):alk u x:=by
 rcases k with rfl | k
 ·exact h
 ·rcases h with rfl | h
  ·exact .inr k
  ·refine .inr ?_;rcases h with ⟨a,b,c,rfl,rfl,_⟩ | ⟨b,c,rfl,rfl⟩ | ⟨b,c,rfl,rfl,_⟩
   ·rcases k with ⟨a',b',c',e,rfl,k⟩ | ⟨b',c',e,_⟩ | ⟨b',c',e,_⟩
    ·cases e; exact .inl ⟨_,_,_,rfl,rfl,k⟩
    ·cases e
    grind
   ·rcases k with ⟨a',b',c',e,_⟩ | ⟨b',c',e,rfl⟩ | ⟨b',c',e,_⟩
    ·cases e
    ·exact .inr (.inl ⟨_,_,rfl,rfl⟩)
    grind
   ·rcases k with ⟨a',b',c',e,_⟩ | ⟨b',c',e,_⟩ | ⟨b',c',e,rfl,k⟩
    ·cases e
    ·cases e
    ·exact .inr (.inr ⟨_,_,rfl,rfl,k⟩)
theorem alk_slice{p:Option Addr}{n c:Nat}{v:Value}(h:alk (.slice p n c) v):v=.slice p n c:=by
 rcases h with h | ⟨_,_,_,e,_⟩ | ⟨_,_,e,_⟩ | ⟨_,_,e,_⟩
 ·exact h
 ·cases e
 ·cases e
 grind
def Alks:List Value->List Value->Prop
 | [],[]=>True
 | u :: r,v :: s=>alk u v/\Alks r s
 | _,_=>False
theorem Alks.refl:∀l:List Value,Alks l l
 | []=>trivial
 | _ :: r=>⟨.inl rfl,Alks.refl r⟩
theorem Alks.split{d:List Value}:∀{c l:List Value},Alks (c++d) l->∃c' d',l=c'++d'/\Alks c c'/\Alks d d'
 | [],l,h=>⟨[],l,rfl,trivial,h⟩
 | u :: r,[],h=>h.elim
 | u :: r,v :: s,⟨h1,h2⟩=>by
   obtain⟨c',d',e,h3,h4⟩:=Alks.split h2;exact⟨v :: c',d',by grind,⟨h1,h3⟩,h4⟩
structure WM(F:Nat->Prop)(w w':World):Prop where
 os:w'.os=w.os
 tape:w'.tape=w.tape
 output:w'.output=w.output
 size:w.heap.size<=w'.heap.size
 block:∀k,k<w.heap.size->¬F k->w'.heap[k]?=w.heap[k]?
 cell:∀k i u,F k->w.cell? ⟨k,i,none⟩=some u->∃v,w'.cell? ⟨k,i,none⟩=some v/\alk u v
 uf:∀k,F k->UF w k->UF w' k
theorem WM.refl(F:Nat->Prop)(w:World):WM F w w:=⟨rfl,rfl,rfl,Nat.le_refl _,fun _ _ _=>rfl,fun _ _ u _ h=>⟨u,h,.inl rfl⟩,fun _ _ h=>h⟩
theorem WM.trans{F:Nat->Prop}{a b c:World}(h:WM F a b)(k:WM F b c):WM F a c :=
 ⟨k.os.trans h.os,k.tape.trans h.tape,k.output.trans h.output,Nat.le_trans h.size k.size,fun i hn hi=>(k.block i (Nat.lt_of_lt_of_le hn h.size) hi).trans (h.block i hn hi),fun i j u hi hu=>by
   obtain⟨v,h1,h2⟩:=h.cell i j u hi hu;obtain⟨x,h3,h4⟩:=k.cell i j v hi h1;exact⟨x,h3,h2.trans h4⟩,fun i hi hu=>k.uf i hi (h.uf i hi hu)⟩
theorem cell_lt{w:World}{b i:Nat}{u:Value}(h:w.cell? ⟨b,i,none⟩=some u):b<w.heap.size:=by
 unfold World.cell? at h
 grind
theorem WM.of_ext{F:Nat->Prop}{w w':World}(h:Ext w w'):WM F w w' :=
 ⟨h.os,h.tape,h.output,h.size,fun k hk _=>h.block k hk,fun k _ u _ hu=>⟨u,(World.cell?_of_block (h.block k (cell_lt hu))).trans hu,.inl rfl⟩,fun k _ hu=>hu.same (h.block k hu.lt)⟩
theorem WM.up{F F':Nat->Prop}{w w':World}(h:WM F w w')(k:∀i,F i->F' i)(hw:∀i,F' i->¬F i->i<w.heap.size):WM F' w w' :=
 ⟨h.os,h.tape,h.output,h.size,fun i hi hn=>h.block i hi (fun e=>hn (k i e)),fun i j u hi hu=>by
   by_cases e:F i
   ·exact h.cell i j u e hu
   ·exact⟨u,(World.cell?_of_block (h.block i (hw i hi e) e)).trans hu,.inl rfl⟩,fun i hi hu=>by
   by_cases e:F i
   ·exact h.uf i e hu
   ·exact hu.same (h.block i (hw i hi e) e)⟩
theorem at_alk{F:Nat->Prop}{w w':World}(h:WM F w w'){b:Nat}(hF:F b):∀{ds:List Value} {o:Nat},At w b o ds->∃ds',At w' b o ds'/\Alks ds ds'
 | [],o,_=>⟨[],(fun i u hu=>by grind),trivial⟩
 | u :: r,o,hat=>by
   obtain⟨v,h1,h2⟩:=h.cell b (o+0) u hF (hat 0 u rfl);obtain⟨ds',h3,h4⟩:=at_alk h hF (o:=o+1) (ds:=r) (fun i x hx=>by
    have:=hat (i+1) x hx
    rwa [show o+(i+1)=o+1+i by omega] at this)
   refine⟨v :: ds',fun i x hx=>?_,h2,h4⟩;cases i with
   | zero =>
     grind
   | succ i =>
     have:=h3 i x hx
     rwa [show o+1+i=o+(i+1) by omega] at this
def SH(F:Nat->Prop)(w:World):(t:Ty)->List Value->den t->Prop
 | .int k,cs,_=>∃y,cs=[.int k y]/\lo k<=y/\y<=hi k
 | .bool,cs,_=>∃y,cs=[.bool y]
 | .str,cs,_=>∃y,cs=[.string y]/\y.size<=9223372036854775807
 | .sl e,cs,xs=>∃p cap,cs=[.slice p xs.length cap]/\xs.length<=cap/\cap<=9223372036854775807 /\
    (xs=[]∨∃b o ds,p=some ⟨b,o,none⟩/\F b/\UF w b/\At w b o ds/\AllR (SH F w e) ds xs)
 | .pt _,_,_=>False
 | .pr a b,cs,x=>∃c d,cs=c++d/\SH F w a c x.1/\SH F w b d x.2
def noPt:Ty->Bool
 | .pt _=>false
 | .sl e=>noPt e
 | .pr a b=>noPt a&&noPt b
 | _=>true
theorem SH.of{K F:Nat->Prop}{w:World}(hK:∀k,K k->F k/\UF w k):∀{t:Ty} {cs:List Value} {x:den t},noPt t=true->RT K w t cs x->SH F w t cs x
 | .int _,_,x,_,h=>⟨x,h.1,h.2⟩
 | .bool,_,x,_,h=>⟨x,h⟩
 | .str,_,x,_,h=>⟨x,h.1,h.2⟩
 | .sl e,_,xs,hn,⟨p,cap,h1,h2,h3,h4⟩=>by
   refine⟨p,cap,h1,h2,h3,?_⟩;rcases h4 with h4 | ⟨b,o,ds,hp,hb,hat,hall⟩
   ·grind
   ·exact .inr ⟨b,o,ds,hp,(hK b hb).1,(hK b hb).2,hat,hall.mapR (fun c x h=>SH.of (t:=e) hK hn h)⟩
 | .pr a b,_,x,hn,⟨c,d,h,h1,h2⟩=>by
   simp only[noPt,ba] at hn;exact⟨c,d,h,SH.of hK hn.1 h1,SH.of hK hn.2 h2⟩
theorem SH.len{F:Nat->Prop}{w:World}:∀{t:Ty} {cs:List Value} {x:den t},SH F w t cs x->cs.length=sz t
 | .int _,_,_,⟨_,h,_⟩=>by rw[h]; rfl
 | .bool,_,_,⟨_,h⟩=>by rw[h]; rfl
 | .str,_,_,⟨_,h,_⟩=>by rw[h]; rfl
 | .sl _,_,_,⟨_,_,h,_⟩=>by rw[h]; rfl
 | .pr a b,_,_,⟨c,d,h,h1,h2⟩=>by rw[h,List.length_append,SH.len h1,SH.len h2]; rfl
theorem AllR.alks{α:Type}{R R':List Value->α->Prop}(hR:∀c c' x,R c x->Alks c c'->R' c' x){cs cs':List Value}{xs:List α}(h:AllR R cs xs)(k:Alks cs cs'):AllR R' cs' xs:=by
 induction xs generalizing cs cs' with
 | nil =>
   rw[show cs=[] from h] at k
   match cs',k with
   | [],_=>exact(show([]:List Value)=[] from rfl)
 | cons x r ih =>
   obtain⟨c,d,e,h1,h2⟩:=h;subst e;obtain⟨c',d',e,k1,k2⟩:=k.split;exact⟨c',d',e,hR _ _ _ h1 k1,ih h2 k2⟩
theorem alks_one{u:Value}{cs:List Value}(h:Alks [u] cs):∃v,cs=[v]/\alk u v:=by
 cases cs with
 | nil=>exact h.elim
 | cons v r =>
   cases r with
   | nil=>exact⟨v,rfl,h.1⟩
   | cons _ _=>exact h.2.elim
theorem SH.alks{F:Nat->Prop}{w w':World}(hm:WM F w w'):∀{t:Ty} {cs cs':List Value} {x:den t},SH F w t cs x->Alks cs cs'->SH F w' t cs' x
 | .int k,_,_,_,⟨y,h,h1⟩,ha=>by
   subst h;obtain⟨v,rfl,h⟩:=alks_one ha;rcases h with rfl | ⟨_,_,z,e,rfl,h⟩ | ⟨_,_,e,_⟩ | ⟨_,_,e,_⟩
   ·exact⟨y,rfl,h1⟩
   ·cases e; exact⟨z,rfl,h⟩
   ·cases e
   grind
 | .bool,_,_,_,⟨y,h⟩,ha=>by
   subst h;obtain⟨v,rfl,h⟩:=alks_one ha;rcases h with rfl | ⟨_,_,z,e,_⟩ | ⟨_,z,e,rfl⟩ | ⟨_,_,e,_⟩
   ·exact⟨y,rfl⟩
   ·cases e
   ·exact⟨z,rfl⟩
   grind
 | .str,_,_,_,⟨y,h,h1⟩,ha=>by
   subst h;obtain⟨v,rfl,h⟩:=alks_one ha;rcases h with rfl | ⟨_,_,z,e,_⟩ | ⟨_,z,e,_⟩ | ⟨_,z,e,rfl,h⟩
   ·exact⟨y,rfl,h1⟩
   ·cases e
   ·cases e
   ·exact⟨z,rfl,h⟩
 | .sl e,_,_,xs,⟨p,cap,h1,h2,h3,h4⟩,ha=>by
   subst h1;obtain⟨v,rfl,h⟩:=alks_one ha;have h:=alk_slice h;subst h;refine⟨p,cap,rfl,h2,h3,?_⟩;rcases h4 with h4 | ⟨b,o,ds,hp,hb,hu,hat,hall⟩
   ·grind
   ·obtain⟨ds',a1,a2⟩:=at_alk hm hb hat;exact .inr ⟨b,o,ds',hp,hb,hm.uf b hb hu,a1,AllR.alks (R:=SH F w e) (R':=SH F w' e) (fun c c' x hc hk=>SH.alks (t:=e) hm hc hk) hall a2⟩
 | .pr a b,_,cs',x,⟨c,d,h,h1,h2⟩,ha=>by
   subst h;obtain⟨c',d',e,k1,k2⟩:=ha.split;exact⟨c',d',e,SH.alks hm h1 k1,SH.alks hm h2 k2⟩
theorem SH.wm{F:Nat->Prop}{w w':World}{t:Ty}{cs:List Value}{x:den t}(h:SH F w t cs x)(hm:WM F w w'):SH F w' t cs x:=h.alks hm (Alks.refl cs)
theorem SH.get{F:Nat->Prop}{w:World}{e:Ty}{p:Option Addr}{n cap:Nat}{xs:List (den e)}(h:SH F w (.sl e) [.slice p n cap] xs){i:Nat}(hi:i<xs.length) :
  n=xs.length/\∃b o c,p=some ⟨b,o,none⟩/\F b/\UF w b/\At w b (o+i*sz e) c/\SH F w e c xs[i]:=by
 obtain⟨p',cap',h1,h2,h3,h4⟩:=h;simp only[List.cons.injEq,Value.slice.injEq,and_true] at h1;obtain⟨rfl,rfl,rfl⟩:=h1;refine⟨rfl,?_⟩;rcases h4 with h4 | ⟨b,o,ds,hp,hb,hu,hat,hall⟩
 ·grind
 ·obtain⟨pre,c,post,rfl,h5,h6⟩:=hall.get (fun c x h=>SH.len h) hi;refine⟨b,o,c,hp,hb,hu,?_,h6⟩;rw[<- h5]; exact hat.mid
def cntM:(t:Ty)->den t->Nat
 | .int _,_=>1
 | .bool,_=>1
 | .str,_=>1
 | .sl e,xs=>(xs.map (cntM e)).sum
 | .pt _,_=>0
 | .pr a b,x=>cntM a x.1+cntM b x.2
def cntP(e:Ty)(xs:List (den e))(i:Nat):Nat:=((xs.take i).map (cntM e)).sum
theorem cntP_zero(e:Ty)(xs:List (den e)):cntP e xs 0=0:=by grind[cntP]
theorem cntP_succ{e:Ty}{xs:List (den e)}{i:Nat}(h:i<xs.length):cntP e xs (i+1)=cntP e xs i+cntM e xs[i]:=by
 grind[cntP,List.take_succ_eq_append_getElem,List.sum_append_nat]
theorem cntP_all(e:Ty)(xs:List (den e)):cntP e xs xs.length=cntM (.sl e) xs:=by
 unfold cntP;rw[List.take_length];rfl
theorem cntP_le(e:Ty)(xs:List (den e)):∀i,i<=xs.length->cntP e xs i<=cntM (.sl e) xs:=by
 intro i hi;have key:∀m,i+m<=xs.length->cntP e xs i<=cntP e xs (i+m):=by
  intro m
  induction m with
  | zero=>grind
  | succ m ih =>
    grind[cntP_succ,Nat.add_assoc]
 have:=key (xs.length-i) (by omega);rw[show i+(xs.length-i)=xs.length by omega,cntP_all] at this;omega
section
variable {P:Program} {n:Nat} {e:Env} {w w0:World} {Q:Exit->Act->World->Prop} {ops:Array Oper} {rest:List Oper} {d:Nat} {ty:TypeId} {pos:String} {after:Array Edge} {F:Nat->Prop}
theorem wm_set{b o:Nat}{u u0:Value}{cur:Array Value}{T:TypeId}(hF:F b)(hB:w.heap[b]?=some (.cells cur T (0,0)))(hc:w.cell? ⟨b,o,none⟩=some u0)(ha:alk u0 u):WM F w (w.setRow b (spl cur.toList o [u]).toArray):=by
 have hh:=setRow_heap w b cur (spl cur.toList o [u]).toArray T (0,0) hB;have hoc:cur[o]?=some u0:=by
  unfold World.cell? at hc;rw[show(⟨b,o,none⟩:Addr).block=b from rfl,hB] at hc;simpa using hc
 have hlt:o<cur.size:=by
  rcases Nat.lt_or_ge o cur.size with h | h
  ·exact h
  ·grind
 refine⟨rfl,rfl,rfl,by simp_all,fun k _ hk=>heap_setRow_other w b k _ (fun e=>hk (e ▸ hF)),fun k i v hk hv=>?_,fun k hk ⟨c,T',h⟩=>?_⟩
 ·by_cases e:k=b
  ·subst e;unfold World.cell? at hv ⊢;rw[show(⟨k,i,none⟩:Addr).block=k from rfl,hB] at hv;rw[show(⟨k,i,none⟩:Addr).block=k from rfl,hh];have hv:cur[i]?=some v:=by simpa using hv
   have hil:i<cur.size:=by
    rcases Nat.lt_or_ge i cur.size with h | h
    ·exact h
    ·grind
   by_cases ei:i=o
   ·grind[spl,Nat.min_eq_left,Nat.le_of_lt]
   ·refine⟨v,?_,.inl rfl⟩
    grind[spl]
  ·refine⟨v,?_,.inl rfl⟩
   grind[World.cell?_of_block,heap_setRow_other]
 ·by_cases e:k=b
  ·subst e; exact⟨_,_,hh⟩
  ·exact⟨c,T',(heap_setRow_other w b k _ (fun h=>e h)).trans h⟩
theorem vo_storeM{T y:Nat}{z u u0:Value}{x v:Operand}{b o:Nat}[Info P T 1 y z](hx:Sv.ev e x=some (.pointer (some ⟨b,o,none⟩)))(hv:Sv.ev e v=some u)(hu:u.cells.toList=[u])(h1:ones [u]=true)(hm:WM F w0 w)(hF:F b)(hU:UF w0 b)(hc:w0.cell? ⟨b,o,none⟩=some u0)(hs:sca u0 u)
  (k:∀w',WM F w0 w'->VO P n ops rest e w' Q):VO P n ops (⟨none,.store T x v,ty,pos,after,none⟩ :: rest) e w Q:=by
 obtain⟨cur,T',hB⟩:=hm.uf b hF hU;obtain⟨u1,hc1,ha1⟩:=hm.cell b o u0 hF hc;have hlt:o<cur.size:=by
  unfold World.cell? at hc1;rw[show(⟨b,o,none⟩:Addr).block=b from rfl,hB] at hc1;have hc1:cur[o]?=some u1:=by simpa using hc1
  rcases Nat.lt_or_ge o cur.size with h | h
  ·exact h
  ·grind
 have hB':Blk w b cur.toList T':=by unfold Blk; simpa using hB
 refine vo_unit (w':=w.setRow b (spl cur.toList o [u]).toArray) ?_ (k _ (hm.trans (wm_set hF hB hc1 (.inr (ha1.sca hs)))));intro a dst pos after g ha;simp only[execOp,ha.ev hx,ha.ev hv];simp[Instr.storeAt,Instr.sureAddr,run_storeVar (P:=P) (T:=T) hu rfl h1 hB' (by rw[List.length_singleton,Array.length_toList]; exact hlt),Result.andThen]
theorem vo_loadM{T:TypeId}{x:Operand}{b o:Nat}{p:Option Addr}{m c:Nat}[NotAgg P T](hx:Sv.ev e x=some (.pointer (some ⟨b,o,none⟩)))(hm:WM F w0 w)(hF:F b)(hc:w0.cell? ⟨b,o,none⟩=some (.slice p m c))(hd:Nat.blt d n=true)
  (h:VO P n ops rest ((d,.slice p m c) :: e) w Q):VO P n ops (⟨some d,.load T x,ty,pos,after,none⟩ :: rest) e w Q:=by
 obtain⟨v,h1,h2⟩:=hm.cell b o _ hF hc
 grind[alk_slice,vo_load]
theorem vo_idxM{T E s y:Nat}{z:Value}{x ix:Operand}{b o len cap k:Nat}[SliceOf P T E][Info P E s y z](hx:Sv.ev e x=some (.slice (some ⟨b,o,none⟩) len cap))(hi:Sv.ev e ix=some (.int .i64 (k:Int)))(hk:k<len)(hd:Nat.blt d n=true)
  (h:VO P n ops rest ((d,.pointer (some ⟨b,o+k*s,none⟩)) :: e) w Q):VO P n ops (⟨some d,.indexAddr T x ix,ty,pos,after,none⟩ :: rest) e w Q :=
 vo_val _ (runs_idx hx hi hk) hd h
end
theorem blk_wm{F:Nat->Prop}{w w':World}{b:Nat}{cs:List Value}{T:TypeId}(h:Blk w b cs T)(k:WM F w w')(hF:¬F b):Blk w' b cs T:=by
 unfold Blk at h ⊢;rcases Nat.lt_or_ge b w.heap.size with h' | h'
 ·exact(k.block b h' hF).trans h
 grind
def MkS(P:Program)(f:Nat)(t:Ty):Prop:=∀(F:Nat->Prop) (w:World) (u:Value) (x:den t) (k:Int),(∀i,F i->i<w.heap.size)->SH F w t [u] x->0<=k->k+(cntM t x:Int)<=9223372036854775807 ->
 Calls P f #[u,.int .i64 k] w fun en w'=>en=.returned (.int .i64 (k+(cntM t x:Int)))/\WM F w w'
def MkA(P:Program)(f:Nat)(t:Ty):Prop:=∀(F:Nat->Prop) (w:World) (cs:List Value) (x:den t) (k:Int),(∀i,F i->i<w.heap.size)->SH F w t cs x->0<=k->k+(cntM t x:Int)<=9223372036854775807 ->
 Calls P f #[.agg cs.toArray,.int .i64 k] w fun en w'=>en=.returned (.int .i64 (k+(cntM t x:Int)))/\WM F w w'
end Go.Proofs.Xv
end
section
namespace Go.Proofs.Xv
open Go Go.RowKit Go.Proofs.Sv Go.Proofs.Xl
structure WO(F:Nat->Prop)(w w':World):Prop where
 os:w'.os=w.os
 tape:w'.tape=w.tape
 output:w'.output=w.output
 size:w.heap.size<=w'.heap.size
 block:∀k,k<w.heap.size->¬F k->w'.heap[k]?=w.heap[k]?
theorem WM.wo{F:Nat->Prop}{w w':World}(h:WM F w w'):WO F w w':=⟨h.os,h.tape,h.output,h.size,h.block⟩
theorem WO.refl(F:Nat->Prop)(w:World):WO F w w:=⟨rfl,rfl,rfl,Nat.le_refl _,fun _ _ _=>rfl⟩
theorem WO.trans{F:Nat->Prop}{a b c:World}(h:WO F a b)(k:WO F b c):WO F a c :=
 ⟨k.os.trans h.os,k.tape.trans h.tape,k.output.trans h.output,Nat.le_trans h.size k.size,fun i hn hi=>(k.block i (Nat.lt_of_lt_of_le hn h.size) hi).trans (h.block i hn hi)⟩
theorem WO.up{F F':Nat->Prop}{w w':World}(h:WO F w w')(k:∀i,F i->F' i):WO F' w w' :=
 ⟨h.os,h.tape,h.output,h.size,fun i hi hn=>h.block i hi (fun e=>hn (k i e))⟩
theorem WO.ext{F:Nat->Prop}{w0 w w':World}(h:WO F w w')(k:Ext w0 w)(hF:∀i,F i->w0.heap.size<=i):Ext w0 w' :=
 ⟨h.os.trans k.os,h.tape.trans k.tape,h.output.trans k.output,Nat.le_trans k.size h.size,fun i hi=>(h.block i (Nat.lt_of_lt_of_le hi k.size) (fun e=>by grind)).trans (k.block i hi)⟩
def Fa(p:Prop)(n m:Nat)(w:World)(t:Ty)(cs:List Value)(x:den t):Prop:=RT (fun k=>n<=k/\k<m/\(p->UF w k)) w t cs x
section
variable {p:Prop} {n m:Nat} {w w':World} {t:Ty} {cs:List Value} {x:den t} {F:Nat->Prop}
theorem Fa.ext(h:Fa p n m w t cs x)(k:Ext w w'):Fa p n m w' t cs x :=
 RT.same (fun i hi hl=>⟨⟨hi.1,hi.2.1,fun hp=>(hi.2.2 hp).same (k.block i hl)⟩,k.block i hl⟩) h
theorem Fa.wo(h:Fa p n m w t cs x)(k:WO F w w')(hF:∀i,n<=i->i<m->¬F i):Fa p n m w' t cs x :=
 RT.same (fun i hi hl=>⟨⟨hi.1,hi.2.1,fun hp=>(hi.2.2 hp).same (k.block i hl (hF i hi.1 hi.2.1))⟩,k.block i hl (hF i hi.1 hi.2.1)⟩) h
theorem Fa.arg(h:Fa p n m w t cs x):RT (fun k=>k<w.heap.size) w t cs x:=RT.same (fun _ _ hi=>⟨hi,rfl⟩) h
theorem Fa.sh(h:Fa True n m w t cs x)(hn:noPt t=true):SH (fun k=>n<=k/\k<m) w t cs x:=SH.of (fun _ hk=>⟨⟨hk.1,hk.2.1⟩,hk.2.2 trivial⟩) hn h
theorem Fa.of{K:Nat->Prop}(h:RT K w t cs x):Fa False 0 w.heap.size w t cs x:=RT.same (fun _ _ hi=>⟨⟨Nat.zero_le _,hi,False.elim⟩,rfl⟩) h
theorem blk_wo{b:Nat}{T:TypeId}(h:Blk w b cs T)(k:WO F w w')(hF:¬F b):Blk w' b cs T:=by
 unfold Blk at h ⊢;rcases Nat.lt_or_ge b w.heap.size with h' | h'
 ·exact(k.block b h' hF).trans h
 grind
end
class FacT(P:Program):Prop where
 h:∀w,Fac P w
theorem ok_call{P:Program}{f:FuncId}{ps:List Par}{ρ:Type}[Inhabited ρ]{F:denPs ps->Option ρ}{R:ρ->AV}{Z:ρ->IOT ps}(h:Ok P (lct f ps F R Z))(hno:∀r,noOA (R r)=true)(_:giv ps=false){x:denPs ps}{r:ρ}{w:World}{vs:List Value}
  (hF:F x=some r) (ha:ArgsR (fun k=>k<w.heap.size) w none ps x vs) (hW:Fac P w:=by exact FacT.h _) :
  Calls P f vs.toArray w fun en w'=>∃v,en=.returned v/\Ext w w'/\ResR (fun fr k=>fr=true->w.heap.size<=k/\k<w'.heap.size/\(True->UF w' k)) w' (frz (R r)) v []:=by
 have hq:((lct f ps F R Z).res x).q:=by show(F x).isSome=true; rw[hF]; rfl
 refine Calls.mono (h.2 x hq w vs none (fun k=>k<w.heap.size) ⟨fun _ hk=>hk,w,hW,Ext.refl w,fun _ e=>by cases e⟩ ha) ?_;rintro en w' ⟨v,gs,e,hw,hN,hg,hR,hI⟩;have hR:ResR (fun fr=>KRes fr (fun k=>k<w.heap.size) w w' gs) w' (R (vl (F x))) v gs:=hR;have hlt:=ResR.lt hR;rw[hF] at hR;refine⟨v,e,hw.ext,ResR.frz (fun fr k hk hf=>?_) (hno _) (fun b hb fr hf=>?_) hR⟩
 ·subst hf;have h1:w.heap.size<=k:=by
   rcases hk.1 with h1 | h1
   ·grind
   ·exact h1
  exact⟨h1,hk.2.1.1,fun _=>hk.2.1.2 h1⟩
 ·have h1:=(hg b hb).resolve_right (fun h=>by grind);exact⟨h1,(hlt b hb).lt,fun _=>hlt b hb⟩
section
variable {K:Bool->Nat->Prop} {w:World} {v:Value}
theorem rr_int{k:IntKind}{fr:Bool}{x:Int}(h:ResR K w (.d fr (.int k) x) v []):v=.int k x:=by
 have h:=h.1.1;simpa using h
theorem rr_bool{fr:Bool}{x:Bool}(h:ResR K w (.d fr .bool x) v []):v=.bool x:=by
 have h:[v]=[.bool x]:=h.1;simpa using h
theorem rrs_cons{a:AV}{l:List AV}{us:List Value}(h:ResRs K w (a :: l) us []):∃u us',us=u :: us'/\ResR K w a u []/\ResRs K w l us' []:=by
 obtain⟨u,us',g1,g2,rfl,e,h1,h2⟩:=h;cases g1 with
 | nil=>grind
 | cons a b=>grind
end
def mks:Int->Nat->List Value
 | _,0=>[]
 | k,m+1=>.int .i64 k :: mks (k+1) m
theorem mks_snoc:∀(m:Nat) (k:Int),mks k (m+1)=mks k m++[.int .i64 (k+(m:Int))]
 | 0,k=>by simp[mks]
 | m+1,k=>by
   rw[mks,mks_snoc m (k+1),mks,List.cons_append,show k+1+(m:Int)=k+((m+1:Nat):Int) by omega]
theorem mks_len:∀(m:Nat) (k:Int),(mks k m).length=m
 | 0,_=>rfl
 | m+1,k=>by rw[mks,List.length_cons,mks_len m]
def mkI:Int->Nat->List Int
 | _,0=>[]
 | k,m+1=>k :: mkI (k+1) m
theorem mkI_len:∀(m:Nat) (k:Int),(mkI k m).length=m
 | 0,_=>rfl
 | m+1,k=>by rw[mkI,List.length_cons,mkI_len m]
theorem mkI_all{K:Nat->Prop}{w:World}:∀(m:Nat) (k:Int),0<=k->k+(m:Int)<=9223372036854775808->AllR (RT K w (.int .i64)) (mks k m) (mkI k m)
 | 0,_,_,_=>rfl
 | m+1,k,h0,h1=>⟨[.int .i64 k],mks (k+1) m,rfl,⟨rfl,by show -9223372036854775808<=k; omega,by show k<=(9223372036854775807:Int); omega⟩,mkI_all m (k+1) (by omega) (by omega)⟩
theorem spl_get{l:List Value}{p:Nat}{u:Value}(hp:p<l.length)(i:Nat):(spl l p [u])[i]?=if i=p then some u else l[i]?:=by
 grind[spl]
theorem mid_get{u v:Value}{l1 l2:List Value}{i:Nat}(h:i≠l1.length):(l1++v :: l2)[i]?=(l1++u :: l2)[i]?:=by
 grind
theorem at_set{w:World}{b o:Nat}{v u:Value}{l1 l2:List Value}{cur:Array Value}{T:TypeId}(hB:w.heap[b]?=some (.cells cur T (0,0)))(h:At w b o (l1++v :: l2)) :
  o+l1.length<cur.size/\At (w.setRow b (spl cur.toList (o+l1.length) [u]).toArray) b o (l1++u :: l2):=by
 have hc:∀i x,w.cell? ⟨b,i,none⟩=some x->cur.toList[i]?=some x:=by
  intro i x hx;unfold World.cell? at hx;rw[show(⟨b,i,none⟩:Addr).block=b from rfl,hB] at hx;simpa using hx
 have hlt:o+l1.length<cur.size:=by
  have h1:=hc _ _ (h l1.length v (by grind));rcases Nat.lt_or_ge (o+l1.length) cur.size with h' | h'
  ·exact h'
  ·rw[List.getElem?_eq_none (by simpa using h')] at h1; cases h1
 refine⟨hlt,fun i x hx=>?_⟩;have hh:=setRow_heap w b cur (spl cur.toList (o+l1.length) [u]).toArray T (0,0) hB;have key:(spl cur.toList (o+l1.length) [u])[o+i]?=some x:=by
  rw[spl_get (by omega)];by_cases e:i=l1.length
  ·grind
  ·rw[if_neg (by omega)];rw[<- mid_get (v:=v) e] at hx;exact hc _ _ (h i x hx)
 unfold World.cell?
 grind
section
variable {P:Program} {n:Nat} {e:Env} {w:World} {Q:Exit->Act->World->Prop} {ops:Array Oper} {rest:List Oper} {d:Nat} {ty:TypeId} {pos:String} {after:Array Edge}
theorem vo_storeK{T y:Nat}{z0:Value}{x v:Operand}{b o a j:Nat}{z k:Int}{ds:List Value}[Info P T 1 y z0](hx:Sv.ev e x=some (.pointer (some ⟨b,a,none⟩)))(hv:Sv.ev e v=some (.int .i64 z))(ha:a=o+j)(hz:z=k+(j:Int))(hj:j<ds.length)(hat:At w b o (mks k j++ds.drop j))(hU:UF w b)
  (kk:∀w',WO (fun i=>i=b) w w'->(∀i,UF w i->UF w' i)->At w' b o (mks k (j+1)++ds.drop (j+1))->VO P n ops rest e w' Q):VO P n ops (⟨none,.store T x v,ty,pos,after,none⟩ :: rest) e w Q:=by
 obtain⟨cur,T',hB⟩:=hU;rw[List.drop_eq_getElem_cons hj] at hat;obtain⟨h1,h2⟩:=at_set (u:=.int .i64 z) hB hat;rw[mks_len] at h1 h2;have hB':Blk w b cur.toList T':=by unfold Blk; simpa using hB
 have hh:=setRow_heap w b cur (spl cur.toList (o+j) [.int .i64 z]).toArray T' (0,0) hB;refine vo_unit (w':=w.setRow b (spl cur.toList (o+j) [.int .i64 z]).toArray) ?_ (kk _ ⟨rfl,rfl,rfl,by simp_all,fun i _ hi=>heap_setRow_other w b i _ hi⟩ (fun i hi=>?_) ?_)
 ·intro a' dst pos after g hE;simp only[execOp,hE.ev hx,hE.ev hv];subst ha;simp[Instr.storeAt,Instr.sureAddr,run_storeVar (P:=P) (T:=T) (show(Value.int .i64 z).cells.toList=[.int .i64 z] from rfl) rfl (show ones [Value.int .i64 z]=true from rfl) hB' (by rw[List.length_singleton,Array.length_toList]; exact h1),Result.andThen]
 ·by_cases e:i=b
  ·subst e; exact⟨_,_,hh⟩
  ·exact hi.same (heap_setRow_other w b i _ e)
 grind[mks_snoc,List.append_assoc,List.singleton_append]
theorem vo_idxN{T E s y:Nat}{z:Value}{x ix:Operand}{b o len cap k:Nat}[SliceOf P T E][Info P E s y z](hx:Sv.ev e x=some (.slice (some ⟨b,o,none⟩) len cap))(hi:Sv.ev e ix=some (.int .i64 (k:Int)))(hk:k<len)(hd:Nat.blt d n=true)
  (h:VO P n ops rest ((d,.pointer (some ⟨b,o+k*s,none⟩)) :: e) w Q):VO P n ops (⟨some d,.indexAddr T x ix,ty,pos,after,none⟩ :: rest) e w Q :=
 vo_val _ (runs_idx hx hi hk) hd h
end
theorem RT.row{K:Nat->Prop}{w:World}{e:Ty}{u:Value}{xs:List (den e)}(h:RT K w (.sl e) [u] xs) :
  ∃p cap,u=.slice p xs.length cap/\∃b o ds,(0<xs.length->p=some ⟨b,o,none⟩/\K b)/\At w b o ds/\ds.length=xs.length*sz e /\
   ∀w' xs',xs'.length=xs.length->∀ds',At w' b o ds'->AllR (RT K w' e) ds' xs'->RT K w' (.sl e) [u] xs':=by
 obtain⟨p,cap,h1,h2,h3,h4⟩:=h;simp only[List.cons.injEq,and_true] at h1;subst h1;refine⟨p,cap,rfl,?_⟩;rcases h4 with h4 | ⟨b,o,ds,hp,hb,hat,hall⟩
 ·subst h4;refine⟨0,0,[],fun h=>by grind,fun i u hu=>by grind,by simp,fun w' xs' hl ds' _ _=>?_⟩;have:xs'=[]:=List.eq_nil_of_length_eq_zero hl;subst this;exact⟨p,cap,rfl,h2,h3,.inl rfl⟩
 ·exact⟨b,o,ds,fun _=>⟨hp,hb⟩,hat,hall.len (fun c x h=>RT.len h),fun w' xs' hl ds' h1 h2'=>⟨p,cap,by rw[hl],by omega,h3,.inr ⟨b,o,ds',hp,hb,h1,h2'⟩⟩⟩
def MkE(P:Program)(f:Nat)(t:Ty)(n:Nat)(mk:Int->Nat->List (den t)):Prop:=∀(K:Nat->Prop) (w:World) (u:Value) (xs:List (den t)) (k:Int),(∀i,K i->UF w i)->RT K w (.sl t) [u] xs->0<=k->k+((n*xs.length:Nat):Int)<=9223372036854775807 ->
 Calls P f #[u,.int .i64 k] w fun en w'=>en=.returned (.int .i64 (k+((n*xs.length:Nat):Int)))/\WO K w w'/\(∀i,UF w i->UF w' i)/\RT K w' (.sl t) [u] (mk k xs.length)
theorem wr_wo{b:Nat}{w w':World}(h:Wr b w w'):WO (fun i=>i=b) w w':=⟨h.os,h.tape,h.output,by rw[h.size]; exact Nat.le_refl _,fun k _ hk=>h.block k hk⟩
theorem list5{l:List Value}(h:l.length=5):∃a b c d e,l=[a,b,c,d,e]:=by
 match l,h with
 | [a,b,c,d,e],_=>exact⟨a,b,c,d,e,rfl⟩
section
variable {P:Program} {n:Nat} {e:Env} {w:World} {Q:Exit->Act->World->Prop} {ops:Array Oper}
theorem vo_isF{l:List Oper}{d:Nat}{b:Bool}(hb:b=false)(h:VO P n ops l ((d,.bool false) :: e) w Q):VO P n ops l ((d,.bool b) :: e) w Q:=by grind
end
section
variable {P:Program} {n:Nat} {e:Env} {w w0:World} {Q:Exit->Act->World->Prop} {ops:Array Oper} {rest:List Oper} {d:Nat} {ty:TypeId} {pos:String} {after:Array Edge} {F:Nat->Prop}
theorem pu{op:Op}{v:Value}(k:VO P n ops rest ((d,v) :: e) w Q)(h:pureV e op=some v:=by rfl)(hd:Nat.blt d n=true:=by rfl):VO P n ops (⟨some d,op,ty,pos,after,none⟩ :: rest) e w Q:=vo_pure h hd k
theorem ad{T T':TypeId}{x y:Operand}{a b:Int}(k:VO P n ops rest ((d,.int .i64 (a+b)) :: e) w Q)(hx:Sv.ev e x=some (.int .i64 a):=by rfl)(hy:Sv.ev e y=some (.int .i64 b):=by rfl)(hd:Nat.blt d n=true:=by rfl)(hr : -9223372036854775808<=a+b/\a+b<=9223372036854775807:=by omega) :
 VO P n ops (⟨some d,.binOp .add T x y T',ty,pos,after,none⟩ :: rest) e w Q:=vo_val _ (runs_add hx hy hr) hd k
theorem fm{T:TypeId}{x:Operand}{b o f off:Nat}[FieldAt P T f off](k:VO P n ops rest ((d,.pointer (some ⟨b,o+off,none⟩)) :: e) w Q)(hx:Sv.ev e x=some (.pointer (some ⟨b,o,none⟩)):=by rfl)(hd:Nat.blt d n=true:=by rfl) :
 VO P n ops (⟨some d,.fieldAddr T x f,ty,pos,after,none⟩ :: rest) e w Q:=vo_fieldAddr hx hd k
theorem im{T E s y:Nat}{z:Value}{x ix:Operand}{b o len cap k:Nat}[SliceOf P T E][Info P E s y z](hk:k<len)(h:VO P n ops rest ((d,.pointer (some ⟨b,o+k*s,none⟩)) :: e) w Q)
 (hx:Sv.ev e x=some (.slice (some ⟨b,o,none⟩) len cap):=by rfl) (hi:Sv.ev e ix=some (.int .i64 (k:Int)):=by rfl) (hd:Nat.blt d n=true:=by rfl):VO P n ops (⟨some d,.indexAddr T x ix,ty,pos,after,none⟩ :: rest) e w Q:=vo_idxM hx hi hk hd h
theorem si{T y:Nat}{z:Value}{x v:Operand}{b o:Nat}{u u0:Int}[Info P T 1 y z](hm:WM F w0 w)(hF:F b)(hU:UF w0 b)(hc:w0.cell? ⟨b,o,none⟩=some (.int .i64 u0))
  (k:∀w',WM F w0 w'->VO P n ops rest e w' Q) (hx:Sv.ev e x=some (.pointer (some ⟨b,o,none⟩)):=by rfl) (hv:Sv.ev e v=some (.int .i64 u):=by rfl) (h0 : -9223372036854775808<=u:=by omega) (h1:u<=9223372036854775807:=by omega):VO P n ops (⟨none,.store T x v,ty,pos,after,none⟩ :: rest) e w Q :=
 vo_storeM hx hv rfl rfl hm hF hU hc (.inl ⟨_,_,_,rfl,rfl,h0,h1⟩) k
theorem ss{T y:Nat}{z:Value}{x v:Operand}{b o:Nat}{u u0:ByteArray}[Info P T 1 y z](hm:WM F w0 w)(hF:F b)(hU:UF w0 b)(hc:w0.cell? ⟨b,o,none⟩=some (.string u0))(h0:u.size<=9223372036854775807)
  (k:∀w',WM F w0 w'->VO P n ops rest e w' Q) (hx:Sv.ev e x=some (.pointer (some ⟨b,o,none⟩)):=by rfl) (hv:Sv.ev e v=some (.string u):=by rfl):VO P n ops (⟨none,.store T x v,ty,pos,after,none⟩ :: rest) e w Q :=
 vo_storeM hx hv rfl rfl hm hF hU hc (.inr (.inr ⟨_,_,rfl,rfl,h0⟩)) k
theorem sb{T y:Nat}{z:Value}{x v:Operand}{b o:Nat}{u u0:Bool}[Info P T 1 y z](hm:WM F w0 w)(hF:F b)(hU:UF w0 b)(hc:w0.cell? ⟨b,o,none⟩=some (.bool u0))
  (k:∀w',WM F w0 w'->VO P n ops rest e w' Q) (hx:Sv.ev e x=some (.pointer (some ⟨b,o,none⟩)):=by rfl) (hv:Sv.ev e v=some (.bool u):=by rfl):VO P n ops (⟨none,.store T x v,ty,pos,after,none⟩ :: rest) e w Q :=
 vo_storeM hx hv rfl rfl hm hF hU hc (.inr (.inl ⟨_,_,rfl,rfl⟩)) k
theorem lm{T:TypeId}{x:Operand}{b o:Nat}{p:Option Addr}{m c:Nat}[NotAgg P T](hm:WM F w0 w)(hF:F b)(hc:w0.cell? ⟨b,o,none⟩=some (.slice p m c))(h:VO P n ops rest ((d,.slice p m c) :: e) w Q)
 (hx:Sv.ev e x=some (.pointer (some ⟨b,o,none⟩)):=by rfl) (hd:Nat.blt d n=true:=by rfl):VO P n ops (⟨some d,.load T x,ty,pos,after,none⟩ :: rest) e w Q:=vo_loadM hx hm hF hc hd h
theorem mc{f:Nat}{t:Ty}{xs:List Operand}{tys:Array TypeId}{u:Value}{x:den t}{k:Int}[HasBody P f](M:MkS P f t)(hF:∀i,F i->i<w0.heap.size)(hm:WM F w0 w)(hq:SH F w0 t [u] x)
  (h:∀w',WM F w0 w'->WM F w w'->VO P n ops rest ((d,.int .i64 (k+(cntM t x:Int))) :: e) w' Q) (hx:evl e xs=some [u,.int .i64 k]:=by rfl) (hd:Nat.blt d n=true:=by rfl) (h0:0<=k:=by omega) (h1:k+(cntM t x:Int)<=9223372036854775807:=by omega):VO P n ops (⟨some d,.call ⟨.value (.func f),xs.toArray,tys⟩,ty,pos,after,none⟩ :: rest) e w Q:=by
 refine vo_call hx hd (Calls.mono (M F w u x k (fun i hi=>Nat.lt_of_lt_of_le (hF i hi) hm.size) (hq.wm hm) h0 h1) ?_);rintro _ w' ⟨rfl,hm2⟩;exact⟨_,rfl,h w' (hm.trans hm2) hm2⟩
theorem ma{f:Nat}{t:Ty}{xs:List Operand}{tys:Array TypeId}{cs:List Value}{x:den t}{k:Int}[HasBody P f](M:MkA P f t)(hF:∀i,F i->i<w0.heap.size)(hm:WM F w0 w)(hq:SH F w0 t cs x)
  (h:∀w',WM F w0 w'->WM F w w'->VO P n ops rest ((d,.int .i64 (k+(cntM t x:Int))) :: e) w' Q) (hx:evl e xs=some [.agg cs.toArray,.int .i64 k]:=by rfl) (hd:Nat.blt d n=true:=by rfl) (h0:0<=k:=by omega) (h1:k+(cntM t x:Int)<=9223372036854775807:=by omega):VO P n ops (⟨some d,.call ⟨.value (.func f),xs.toArray,tys⟩,ty,pos,after,none⟩ :: rest) e w Q:=by
 refine vo_call hx hd (Calls.mono (M F w cs x k (fun i hi=>Nat.lt_of_lt_of_le (hF i hi) hm.size) (hq.wm hm) h0 h1) ?_);rintro _ w' ⟨rfl,hm2⟩;exact⟨_,rfl,h w' (hm.trans hm2) hm2⟩
def TxC(P:Program)(f:Nat):Prop:=∀(k:Int) (w:World),InI k->Calls P f #[.int .i64 k] w fun en w'=>∃s,en=.returned (.string s)/\s.size<=9223372036854775807/\Ext w w'
theorem tc'{f:Nat}{xs:List Operand}{tys:Array TypeId}{k:Int}[HasBody P f](M:TxC P f)(hm:WM F w0 w)(h:∀w' s,s.size<=9223372036854775807->WM F w0 w'->VO P n ops rest ((d,.string s) :: e) w' Q)
  (hx:evl e xs=some [.int .i64 k]:=by rfl) (hd:Nat.blt d n=true:=by rfl) (hk : -9223372036854775808<=k/\k<=9223372036854775807:=by omega):VO P n ops (⟨some d,.call ⟨.value (.func f),xs.toArray,tys⟩,ty,pos,after,none⟩ :: rest) e w Q:=by
 refine vo_call hx hd (Calls.mono (M k w hk) ?_);rintro _ w' ⟨s,rfl,hs,hE⟩;exact⟨_,rfl,h w' s hs (hm.trans (WM.of_ext hE))⟩
theorem ra{id:Nat}{l:List Oper}{c:Code}(h:VO P n l.toArray l e w (seqQ P c Q)):VS P n (.seq (.region id l.toArray false) c) e w Q:=vs_seq (vs_region h)
theorem rb{id:Nat}{l:List Oper}{c:Code}(h:VO P n l.toArray l e w (seqQ P c Q)):VO P n ops [] e w (seqQ P (.seq (.region id l.toArray false) c) Q):=oN (nQ (vs_seq (vs_region h)))
theorem rc{id:Nat}{l:List Oper}(h:VO P n l.toArray l e w Q):VO P n ops [] e w (seqQ P (.region id l.toArray false) Q):=oN (nQ (vs_region h))
theorem rd'{id k:Nat}{l:List Oper}(h:VO P n l.toArray l e w Q):VO P n ops [] e w (blkQ k (seqQ P (.region id l.toArray false) Q)):=oN (fin_blk (nQ (vs_region h)))
theorem ci{f:FuncId}{ps:List Par}{ρ:Type}[Inhabited ρ]{F:denPs ps->Option ρ}{R:ρ->AV}{Z:ρ->IOT ps}{xs:List Operand}{tys:Array TypeId}[HasBody P f](h:Ok P (lct f ps F R Z)){x:denPs ps}{r:ρ}{vs:List Value}{z:Int}{ik:IntKind}{fr:Bool}(hF:F x=some r)(ha:ArgsR (fun k=>k<w.heap.size) w none ps x vs)
  (k:∀w',Ext w w'->VO P n ops rest ((d,.int ik z) :: e) w' Q) (hx:evl e xs=some vs:=by rfl) (hd:Nat.blt d n=true:=by rfl) (hv:giv ps=false:=by rfl) (hno:∀r,noOA (R r)=true:=by intro _; rfl) (hz:frz (R r)=.d fr (.int ik) z:=by rfl) (hW:Fac P w:=by exact FacT.h _):VO P n ops (⟨some d,.call ⟨.value (.func f),xs.toArray,tys⟩,ty,pos,after,none⟩ :: rest) e w Q:=by
 grind[vo_call,Calls.mono,ok_call,rr_int]
theorem cb{f:FuncId}{ps:List Par}{ρ:Type}[Inhabited ρ]{F:denPs ps->Option ρ}{R:ρ->AV}{Z:ρ->IOT ps}{xs:List Operand}{tys:Array TypeId}[HasBody P f](h:Ok P (lct f ps F R Z)){x:denPs ps}{r:ρ}{vs:List Value}{z:Bool}{fr:Bool}(hF:F x=some r)(ha:ArgsR (fun k=>k<w.heap.size) w none ps x vs)
  (k:∀w',Ext w w'->VO P n ops rest ((d,.bool z) :: e) w' Q) (hx:evl e xs=some vs:=by rfl) (hd:Nat.blt d n=true:=by rfl) (hv:giv ps=false:=by rfl) (hno:∀r,noOA (R r)=true:=by intro _; rfl) (hz:frz (R r)=.d fr .bool z:=by rfl) (hW:Fac P w:=by exact FacT.h _):VO P n ops (⟨some d,.call ⟨.value (.func f),xs.toArray,tys⟩,ty,pos,after,none⟩ :: rest) e w Q:=by
 grind[vo_call,Calls.mono,ok_call,rr_bool]
end
section
variable {P:Program} {n:Nat} {e:Env} {w:World} {Q:Exit->Act->World->Prop} {ops:Array Oper} {rest:List Oper} {d:Nat} {ty:TypeId} {pos:String} {after:Array Edge}
end
section
variable {P:Program} {n:Nat} {e:Env} {w w0:World} {Q:Exit->Act->World->Prop} {l:List Oper} {fuel:Nat} {listed:Array Bool} {d:Nat} {ty:TypeId} {pos:String} {after:Array Edge}
end
theorem ok_callA{P:Program}{f:FuncId}{ps:List Par}{ρ:Type}[Inhabited ρ]{F:denPs ps->Option ρ}{R:ρ->AV}{Z:ρ->IOT ps}(h:Ok P (lct f ps F R Z))(hkf:∀r,kfR (R r)=true)(hg:giv ps=false){x:denPs ps}{r:ρ}{w:World}{vs:List Value}
  (hF:F x=some r) (ha:ArgsR (fun k=>k<w.heap.size) w none ps x vs) (hW:Fac P w:=by exact FacT.h _) :
  Calls P f vs.toArray w fun en w'=>∃v gs,en=.returned v/\Ext w w'/\NoDup gs/\(∀b,some b∈gs->w.heap.size<=b/\UF w' b)/\ResR (fun _ _=>False) w' (R r) v gs:=by
 have hq:((lct f ps F R Z).res x).q:=by show(F x).isSome=true; rw[hF]; rfl
 refine Calls.mono (h.2 x hq w vs none (fun k=>k<w.heap.size) ⟨fun _ hk=>hk,w,hW,Ext.refl w,fun _ e=>by cases e⟩ ha) ?_;rintro en w' ⟨v,gs,e,hw,hN,hgs,hR,hI⟩;have hR:ResR (fun fr=>KRes fr (fun k=>k<w.heap.size) w w' gs) w' (R (vl (F x))) v gs:=hR;have hlt:=ResR.lt hR;rw[hF] at hR;exact⟨v,gs,e,hw.ext,hN,fun b hb=>⟨(hgs b hb).resolve_right (fun h=>by have h1:giv ps=true:=h.1; rw[hg] at h1; cases h1),hlt b hb⟩,ResR.kf (hkf _) hR⟩
def Ap3(n m:Nat)(w:World)(t1 t2 t3:Ty)(cs:List Value)(x:List (den t1)×List (den t2)×List (den t3)):Prop :=
 ∃u1 u2 u3,cs=[u1,u2,u3]/\∃g1 g2 g3:Option Nat,(∀k,(g1=some k∨g2=some k∨g3=some k)->n<=k/\k<m/\UF w k)/\(∀k,g1=some k->g2≠some k/\g3≠some k)/\(∀k,g2=some k->g3≠some k) /\
  RT (fun k=>g1=some k) w (.sl t1) [u1] x.1/\RT (fun k=>g2=some k) w (.sl t2) [u2] x.2.1/\RT (fun k=>g3=some k) w (.sl t3) [u3] x.2.2
section
variable {n m:Nat} {w w':World} {t1 t2 t3:Ty} {cs:List Value} {x:List (den t1)×List (den t2)×List (den t3)} {F:Nat->Prop}
theorem Ap3.fa(h:Ap3 n m w t1 t2 t3 cs x):Fa True n m w (.pr (.sl t1) (.pr (.sl t2) (.sl t3))) cs x:=by
 obtain⟨u1,u2,u3,rfl,g1,g2,g3,hk,_,_,r1,r2,r3⟩:=h;have up:∀k,(g1=some k∨g2=some k∨g3=some k)->n<=k/\k<m/\(True->UF w k):=fun k hg=>⟨(hk k hg).1,(hk k hg).2.1,fun _=>(hk k hg).2.2⟩;exact⟨[u1],[u2,u3],rfl,RT.up r1 fun k e=>up k (.inl e),[u2],[u3],rfl,RT.up r2 fun k e=>up k (.inr (.inl e)),RT.up r3 fun k e=>up k (.inr (.inr e))⟩
theorem Ap3.wo(h:Ap3 n m w t1 t2 t3 cs x)(k:WO F w w')(hF:∀i,n<=i->i<m->¬F i):Ap3 n m w' t1 t2 t3 cs x:=by
 obtain⟨u1,u2,u3,rfl,g1,g2,g3,hk,d1,d2,r1,r2,r3⟩:=h;have hb:∀i,(g1=some i∨g2=some i∨g3=some i)->i<w.heap.size->w'.heap[i]?=w.heap[i]?:=fun i hg hl=>k.block i hl (hF i (hk i hg).1 (hk i hg).2.1);exact⟨u1,u2,u3,rfl,g1,g2,g3,fun i hg=>⟨(hk i hg).1,(hk i hg).2.1,(hk i hg).2.2.same (hb i hg (hk i hg).2.2.lt)⟩,d1,d2,RT.same (fun i e hl=>⟨e,hb i (.inl e) hl⟩) r1,RT.same (fun i e hl=>⟨e,hb i (.inr (.inl e)) hl⟩) r2,RT.same (fun i e hl=>⟨e,hb i (.inr (.inr e)) hl⟩) r3⟩
theorem Ap3.ext(h:Ap3 n m w t1 t2 t3 cs x)(k:Ext w w'):Ap3 n m w' t1 t2 t3 cs x :=
 h.wo (F:=fun _=>False) ⟨k.os,k.tape,k.output,k.size,fun i hi _=>k.block i hi⟩ (fun _ _ _ h=>h)
theorem Ap3.arg(h:Ap3 n m w t1 t2 t3 cs x):RT (fun k=>k<w.heap.size) w (.pr (.sl t1) (.pr (.sl t2) (.sl t3))) cs x:=h.fa.arg
end
abbrev WiD:Type:=List Int×List Int×List Int×List Int
abbrev EdD:Type:=Int×Int×Int×Int×Int×ByteArray×WiD
abbrev wiT:Ty:=.pr (.sl (.int .i64)) (.pr (.sl (.int .i64)) (.pr (.sl (.int .i64)) (.sl (.int .i64))))
abbrev edT:Ty:=.pr (.int .i64) (.pr (.int .i64) (.pr (.int .i64) (.pr (.int .i64) (.pr (.int .i64) (.pr .str wiT)))))
def Ap4(n m:Nat)(w:World)(u1 u2 u3 u4:Value)(x:WiD):Prop :=
 ∃g1 g2 g3 g4:Option Nat,(∀k,(g1=some k∨g2=some k∨g3=some k∨g4=some k)->n<=k/\k<m/\UF w k)/\(∀k,g1=some k->g2≠some k/\g3≠some k/\g4≠some k)/\(∀k,g2=some k->g3≠some k/\g4≠some k)/\(∀k,g3=some k->g4≠some k) /\
  RT (fun k=>g1=some k) w (.sl (.int .i64)) [u1] x.1/\RT (fun k=>g2=some k) w (.sl (.int .i64)) [u2] x.2.1/\RT (fun k=>g3=some k) w (.sl (.int .i64)) [u3] x.2.2.1/\RT (fun k=>g4=some k) w (.sl (.int .i64)) [u4] x.2.2.2
section
variable {n m:Nat} {w w':World} {u1 u2 u3 u4:Value} {x:WiD} {F:Nat->Prop}
theorem Ap4.fa(h:Ap4 n m w u1 u2 u3 u4 x):Fa True n m w wiT [u1,u2,u3,u4] x:=by
 obtain⟨g1,g2,g3,g4,hk,_,_,_,r1,r2,r3,r4⟩:=h;have up:∀k,(g1=some k∨g2=some k∨g3=some k∨g4=some k)->n<=k/\k<m/\(True->UF w k):=fun k hg=>⟨(hk k hg).1,(hk k hg).2.1,fun _=>(hk k hg).2.2⟩;exact⟨[u1],[u2,u3,u4],rfl,RT.up r1 fun k e=>up k (.inl e),[u2],[u3,u4],rfl,RT.up r2 fun k e=>up k (.inr (.inl e)),[u3],[u4],rfl,RT.up r3 fun k e=>up k (.inr (.inr (.inl e))),RT.up r4 fun k e=>up k (.inr (.inr (.inr e)))⟩
theorem Ap4.wo(h:Ap4 n m w u1 u2 u3 u4 x)(k:WO F w w')(hF:∀i,n<=i->i<m->¬F i):Ap4 n m w' u1 u2 u3 u4 x:=by
 obtain⟨g1,g2,g3,g4,hk,d1,d2,d3,r1,r2,r3,r4⟩:=h;have hb:∀i,(g1=some i∨g2=some i∨g3=some i∨g4=some i)->i<w.heap.size->w'.heap[i]?=w.heap[i]?:=fun i hg hl=>k.block i hl (hF i (hk i hg).1 (hk i hg).2.1);exact⟨g1,g2,g3,g4,fun i hg=>⟨(hk i hg).1,(hk i hg).2.1,(hk i hg).2.2.same (hb i hg (hk i hg).2.2.lt)⟩,d1,d2,d3,RT.same (fun i e hl=>⟨e,hb i (.inl e) hl⟩) r1,RT.same (fun i e hl=>⟨e,hb i (.inr (.inl e)) hl⟩) r2,RT.same (fun i e hl=>⟨e,hb i (.inr (.inr (.inl e))) hl⟩) r3,RT.same (fun i e hl=>⟨e,hb i (.inr (.inr (.inr e))) hl⟩) r4⟩
end
def ApE(n m:Nat)(w:World)(cs:List Value)(x:EdD):Prop:=∃u1 u2 u3 u4,cs=[.int .i64 x.1,.int .i64 x.2.1,.int .i64 x.2.2.1,.int .i64 x.2.2.2.1,.int .i64 x.2.2.2.2.1,.string x.2.2.2.2.2.1,u1,u2,u3,u4] /\
 (InI x.1/\InI x.2.1/\InI x.2.2.1/\InI x.2.2.2.1/\InI x.2.2.2.2.1/\x.2.2.2.2.2.1.size<=9223372036854775807)/\Ap4 n m w u1 u2 u3 u4 x.2.2.2.2.2.2
section
variable {n m:Nat} {w w':World} {cs:List Value} {x:EdD} {F:Nat->Prop}
theorem ApE.fa(h:ApE n m w cs x):Fa True n m w edT cs x:=by
 obtain⟨u1,u2,u3,u4,rfl,⟨h1,h2,h3,h4,h5,h6⟩,hA⟩:=h;exact⟨[_],[_,_,_,_,_,_,_,_,_],rfl,⟨rfl,h1⟩,[_],[_,_,_,_,_,_,_,_],rfl,⟨rfl,h2⟩,[_],[_,_,_,_,_,_,_],rfl,⟨rfl,h3⟩,[_],[_,_,_,_,_,_],rfl,⟨rfl,h4⟩,[_],[_,_,_,_,_],rfl,⟨rfl,h5⟩,[_],[_,_,_,_],rfl,⟨rfl,h6⟩,hA.fa⟩
theorem ApE.wo(h:ApE n m w cs x)(k:WO F w w')(hF:∀i,n<=i->i<m->¬F i):ApE n m w' cs x:=by
 obtain⟨u1,u2,u3,u4,e,hI,hA⟩:=h;exact⟨u1,u2,u3,u4,e,hI,hA.wo k hF⟩
theorem ApE.ext(h:ApE n m w cs x)(k:Ext w w'):ApE n m w' cs x :=
 h.wo (F:=fun _=>False) ⟨k.os,k.tape,k.output,k.size,fun i hi _=>k.block i hi⟩ (fun _ _ _ h=>h)
theorem ApE.arg(h:ApE n m w cs x):RT (fun k=>k<w.heap.size) w edT cs x:=h.fa.arg
end
theorem apE_of{w:World}{n:Nat}{T1 T2 T3 T4:TypeId}{f1 f2 f3 f4 k1 k2 k3 k4 k5 k6 k7:Bool}{l:EdD}{c:Int}{v:Value}{gs:List (Option Nat)}
  (h:ResR (fun _ _=>False) w (.tup [.agg [.d k1 (.int .i64) l.1,.d k2 (.int .i64) l.2.1,.d k3 (.int .i64) l.2.2.1,.d k4 (.int .i64) l.2.2.2.1,.d k5 (.int .i64) l.2.2.2.2.1,.d k6 .str l.2.2.2.2.2.1,.ow T1 f1 (.int .i64) l.2.2.2.2.2.2.1,.ow T2 f2 (.int .i64) l.2.2.2.2.2.2.2.1,.ow T3 f3 (.int .i64) l.2.2.2.2.2.2.2.2.1,.ow T4 f4 (.int .i64) l.2.2.2.2.2.2.2.2.2],.d k7 (.int .i64) c]) v gs)
  (hN:NoDup gs) (hg:∀b,some b∈gs->n<=b/\UF w b):∃u1 u2 u3 u4,v=.tuple #[.agg #[.int .i64 l.1,.int .i64 l.2.1,.int .i64 l.2.2.1,.int .i64 l.2.2.2.1,.int .i64 l.2.2.2.2.1,.string l.2.2.2.2.2.1,u1,u2,u3,u4],.int .i64 c]/\ApE n w.heap.size w [.int .i64 l.1,.int .i64 l.2.1,.int .i64 l.2.2.1,.int .i64 l.2.2.2.1,.int .i64 l.2.2.2.2.1,.string l.2.2.2.2.2.1,u1,u2,u3,u4] l:=by
 obtain⟨us,rfl,u,us1,ga,gb,rfl,rfl,⟨ws,rfl,h1⟩,u2,us2,gc,gd',rfl,rfl,h2,rfl,rfl⟩:=h;obtain⟨a1,as1,p1,q1,rfl,rfl,⟨s1,rfl⟩,h1⟩:=h1;obtain⟨a2,as2,p2,q2,rfl,rfl,⟨s2,rfl⟩,h1⟩:=h1;obtain⟨a3,as3,p3,q3,rfl,rfl,⟨s3,rfl⟩,h1⟩:=h1;obtain⟨a4,as4,p4,q4,rfl,rfl,⟨s4,rfl⟩,h1⟩:=h1;obtain⟨a5,as5,p5,q5,rfl,rfl,⟨s5,rfl⟩,h1⟩:=h1;obtain⟨a6,as6,p6,q6,rfl,rfl,⟨s6,rfl⟩,h1⟩:=h1;obtain⟨b1,bs1,e1,t1,rfl,rfl,⟨g1,c1,rfl,o1,z1,y1⟩,b2,bs2,e2,t2,rfl,rfl,⟨g2,c2,rfl,o2,z2,y2⟩,b3,bs3,e3,t3,rfl,rfl,⟨g3,c3,rfl,o3,z3,y3⟩,b4,bs4,e4,t4,rfl,rfl,⟨g4,c4,rfl,o4,z4,y4⟩,rfl,rfl⟩:=h1;obtain⟨⟨ec,_⟩,rfl⟩:=h2;obtain⟨s1,i1⟩:=s1; obtain⟨s2,i2⟩:=s2; obtain⟨s3,i3⟩:=s3; obtain⟨s4,i4⟩:=s4; obtain⟨s5,i5⟩:=s5; obtain⟨s6,i6⟩:=s6;simp only[List.cons.injEq,and_true] at ec s1 s2 s3 s4 s5 s6;subst ec s1 s2 s3 s4 s5 s6;have hm:∀k,(g1=some k∨g2=some k∨g3=some k∨g4=some k)->some k∈[]++([]++([]++([]++([]++([]++([g1]++([g2]++([g3]++([g4]++[])))))))))++([]++[]):=fun k hk=>by
  rcases hk with rfl | rfl | rfl | rfl <;> simp
 have hN:NoDup [g1,g2,g3,g4]:=hN;refine⟨b1,b2,b3,b4,rfl,b1,b2,b3,b4,rfl,⟨i1,i2,i3,i4,i5,i6⟩,g1,g2,g3,g4,fun k hk=>⟨(hg k (hm k hk)).1,(hg k (hm k hk)).2.lt,(hg k (hm k hk)).2⟩,fun k hk=>?_,fun k hk=>?_,fun k hk=>?_,?_,?_,?_,?_⟩
 ·have:some k ∉ [g2,g3,g4]:=hN.1 k hk;exact⟨fun e=>this (by rw[e]; simp),fun e=>this (by rw[e]; simp),fun e=>this (by rw[e]; simp)⟩
 ·have:some k ∉ [g3,g4]:=hN.2.1 k hk;exact⟨fun e=>this (by rw[e]; simp),fun e=>this (by rw[e]; simp)⟩
 ·have:some k ∉ [g4]:=hN.2.2.1 k hk;exact fun e=>this (by rw[e]; simp)
 ·exact own_dat z1 (y1.mapR fun c x h=>RT.up h fun _ e=>e.elim) fun b e=>e
 ·exact own_dat z2 (y2.mapR fun c x h=>RT.up h fun _ e=>e.elim) fun b e=>e
 ·exact own_dat z3 (y3.mapR fun c x h=>RT.up h fun _ e=>e.elim) fun b e=>e
 ·exact own_dat z4 (y4.mapR fun c x h=>RT.up h fun _ e=>e.elim) fun b e=>e
def wiN(x:WiD):Nat:=x.1.length+x.2.1.length+x.2.2.1.length+x.2.2.2.length
def wiM(k:Int)(x:WiD):WiD:=(mkI k x.1.length,mkI (k+(x.1.length:Int)) x.2.1.length,mkI (k+((x.1.length+x.2.1.length:Nat):Int)) x.2.2.1.length,mkI (k+((x.1.length+x.2.1.length+x.2.2.1.length:Nat):Int)) x.2.2.2.length)
def edM(k:Int)(x:EdD):EdD:=(x.1,x.2.1,x.2.2.1,x.2.2.2.1,x.2.2.2.2.1,x.2.2.2.2.2.1,wiM k x.2.2.2.2.2.2)
def MkW(P:Program)(f:Nat):Prop:=∀(n m:Nat) (w:World) (u1 u2 u3 u4:Value) (x:WiD) (k:Int),Ap4 n m w u1 u2 u3 u4 x->0<=k->k+(wiN x:Int)<=9223372036854775807 ->
 Calls P f #[.agg #[u1,u2,u3,u4],.int .i64 k] w fun en w'=>en=.returned (.int .i64 (k+(wiN x:Int)))/\WO (fun i=>n<=i/\i<m) w w'/\Ap4 n m w' u1 u2 u3 u4 (wiM k x)
def MkEd(P:Program)(f:Nat):Prop:=∀(n m:Nat) (w:World) (cs:List Value) (x:EdD) (k:Int),ApE n m w cs x->0<=k->k+(wiN x.2.2.2.2.2.2:Int)<=9223372036854775807 ->
 Calls P f #[.agg cs.toArray,.int .i64 k] w fun en w'=>en=.returned (.int .i64 (k+(wiN x.2.2.2.2.2.2:Int)))/\WO (fun i=>n<=i/\i<m) w w'/\ApE n m w' cs (edM k x)
section
variable {P:Program} {n:Nat} {e:Env} {w:World} {Q:Exit->Act->World->Prop} {ops:Array Oper} {rest:List Oper} {d:Nat} {ty:TypeId} {pos:String} {after:Array Edge}
theorem ciW{f:FuncId}{ps:List Par}{ρ:Type}[Inhabited ρ]{F:denPs ps->Option ρ}{R:ρ->AV}{Z:ρ->IOT ps}{xs:List Operand}{tys:Array TypeId}[HasBody P f](hW:Fac P w)(h:Ok P (lct f ps F R Z)){x:denPs ps}{r:ρ}{vs:List Value}{z:Int}{ik:IntKind}{fr:Bool}(hF:F x=some r)(ha:ArgsR (fun k=>k<w.heap.size) w none ps x vs)
  (k:∀w',Ext w w'->VO P n ops rest ((d,.int ik z) :: e) w' Q) (hx:evl e xs=some vs:=by rfl) (hd:Nat.blt d n=true:=by rfl) (hv:giv ps=false:=by rfl) (hno:∀r,noOA (R r)=true:=by intro _; rfl) (hz:frz (R r)=.d fr (.int ik) z:=by rfl):VO P n ops (⟨some d,.call ⟨.value (.func f),xs.toArray,tys⟩,ty,pos,after,none⟩ :: rest) e w Q :=
 ci h hF ha k hx hd hv hno hz hW
theorem cbW{f:FuncId}{ps:List Par}{ρ:Type}[Inhabited ρ]{F:denPs ps->Option ρ}{R:ρ->AV}{Z:ρ->IOT ps}{xs:List Operand}{tys:Array TypeId}[HasBody P f](hW:Fac P w)(h:Ok P (lct f ps F R Z)){x:denPs ps}{r:ρ}{vs:List Value}{z:Bool}{fr:Bool}(hF:F x=some r)(ha:ArgsR (fun k=>k<w.heap.size) w none ps x vs)
  (k:∀w',Ext w w'->VO P n ops rest ((d,.bool z) :: e) w' Q) (hx:evl e xs=some vs:=by rfl) (hd:Nat.blt d n=true:=by rfl) (hv:giv ps=false:=by rfl) (hno:∀r,noOA (R r)=true:=by intro _; rfl) (hz:frz (R r)=.d fr .bool z:=by rfl):VO P n ops (⟨some d,.call ⟨.value (.func f),xs.toArray,tys⟩,ty,pos,after,none⟩ :: rest) e w Q :=
 cb h hF ha k hx hd hv hno hz hW
end
end Go.Proofs.Xv
end
