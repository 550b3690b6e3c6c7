/- Marks: trees of memory of which the scalars alone change. Over any program. -/
import Derived.Test.YtlfeppknkfknhaaGreatDoorXD
import Derived.Test.YtlfeppknkfknhaaGreatDoorXA
import Derived.Test.YtlfeppknkfknhaaGreatDoorXF
set_option maxHeartbeats 0
section
namespace Go.Proofs.Xv
open Go Go.RowKit Go.Proofs.Sv
def sca(u v:Value):Prop:=(∃k x y,u=.int k x/\v=.int k y/\lo k<=y/\y<=hi k)∨(∃x y,u=.bool x/\v=.bool y)∨∃x y,u=.string x/\v=.string y/\y.size<=9223372036854775807
def alk(u v:Value):Prop:=v=u∨sca u v
theorem alk.sca{u v x:Value}(h:alk u v)(k:Xv.sca u x):Xv.sca v x:=by
 rcases h with rfl | ⟨a,b,c,rfl,rfl,_⟩ | ⟨b,c,rfl,rfl⟩ | ⟨b,c,rfl,rfl,_⟩
 ·exact k
 ·rcases k with ⟨a',b',c',e,rfl,k⟩ | ⟨b',c',e,_⟩ | ⟨b',c',e,_⟩
  ·cases e; exact .inl ⟨_,_,_,rfl,rfl,k⟩
  ·cases e
  grind
 ·rcases k with ⟨a',b',c',e,_⟩ | ⟨b',c',e,rfl⟩ | ⟨b',c',e,_⟩
  ·cases e
  ·exact .inr (.inl ⟨_,_,rfl,rfl⟩)
  grind
 ·rcases k with ⟨a',b',c',e,_⟩ | ⟨b',c',e,_⟩ | ⟨b',c',e,rfl,k⟩
  ·cases e
  ·cases e
  ·exact .inr (.inr ⟨_,_,rfl,rfl,k⟩)
theorem alk.trans{u v x:Value}(h:alk u v)(k:alk v x):alk u x:=by
 rcases k with rfl | k
 ·exact h
 ·rcases h with rfl | h
  ·exact .inr k
  ·refine .inr ?_;rcases h with ⟨a,b,c,rfl,rfl,_⟩ | ⟨b,c,rfl,rfl⟩ | ⟨b,c,rfl,rfl,_⟩
   ·rcases k with ⟨a',b',c',e,rfl,k⟩ | ⟨b',c',e,_⟩ | ⟨b',c',e,_⟩
    ·cases e; exact .inl ⟨_,_,_,rfl,rfl,k⟩
    ·cases e
    grind
   ·rcases k with ⟨a',b',c',e,_⟩ | ⟨b',c',e,rfl⟩ | ⟨b',c',e,_⟩
    ·cases e
    ·exact .inr (.inl ⟨_,_,rfl,rfl⟩)
    grind
   ·rcases k with ⟨a',b',c',e,_⟩ | ⟨b',c',e,_⟩ | ⟨b',c',e,rfl,k⟩
    ·cases e
    ·cases e
    ·exact .inr (.inr ⟨_,_,rfl,rfl,k⟩)
theorem alk_slice{p:Option Addr}{n c:Nat}{v:Value}(h:alk (.slice p n c) v):v=.slice p n c:=by
 rcases h with h | ⟨_,_,_,e,_⟩ | ⟨_,_,e,_⟩ | ⟨_,_,e,_⟩
 ·exact h
 ·cases e
 ·cases e
 grind
def Alks:List Value->List Value->Prop
 | [],[]=>True
 | u :: r,v :: s=>alk u v/\Alks r s
 | _,_=>False
theorem Alks.refl:∀l:List Value,Alks l l
 | []=>trivial
 | _ :: r=>⟨.inl rfl,Alks.refl r⟩
theorem Alks.split{d:List Value}:∀{c l:List Value},Alks (c++d) l->∃c' d',l=c'++d'/\Alks c c'/\Alks d d'
 | [],l,h=>⟨[],l,rfl,trivial,h⟩
 | u :: r,[],h=>h.elim
 | u :: r,v :: s,⟨h1,h2⟩=>by
   obtain⟨c',d',e,h3,h4⟩:=Alks.split h2;exact⟨v :: c',d',by grind,⟨h1,h3⟩,h4⟩
structure WM(F:Nat->Prop)(w w':World):Prop where
 os:w'.os=w.os
 tape:w'.tape=w.tape
 output:w'.output=w.output
 size:w.heap.size<=w'.heap.size
 block:∀k,k<w.heap.size->¬F k->w'.heap[k]?=w.heap[k]?
 cell:∀k i u,F k->w.cell? ⟨k,i,none⟩=some u->∃v,w'.cell? ⟨k,i,none⟩=some v/\alk u v
 uf:∀k,F k->UF w k->UF w' k
theorem WM.refl(F:Nat->Prop)(w:World):WM F w w:=⟨rfl,rfl,rfl,Nat.le_refl _,fun _ _ _=>rfl,fun _ _ u _ h=>⟨u,h,.inl rfl⟩,fun _ _ h=>h⟩
theorem WM.trans{F:Nat->Prop}{a b c:World}(h:WM F a b)(k:WM F b c):WM F a c :=
 ⟨k.os.trans h.os,k.tape.trans h.tape,k.output.trans h.output,Nat.le_trans h.size k.size,fun i hn hi=>(k.block i (Nat.lt_of_lt_of_le hn h.size) hi).trans (h.block i hn hi),fun i j u hi hu=>by
   obtain⟨v,h1,h2⟩:=h.cell i j u hi hu;obtain⟨x,h3,h4⟩:=k.cell i j v hi h1;exact⟨x,h3,h2.trans h4⟩,fun i hi hu=>k.uf i hi (h.uf i hi hu)⟩
theorem cell_lt{w:World}{b i:Nat}{u:Value}(h:w.cell? ⟨b,i,none⟩=some u):b<w.heap.size:=by
 unfold World.cell? at h
 grind
theorem WM.of_ext{F:Nat->Prop}{w w':World}(h:Ext w w'):WM F w w' :=
 ⟨h.os,h.tape,h.output,h.size,fun k hk _=>h.block k hk,fun k _ u _ hu=>⟨u,(World.cell?_of_block (h.block k (cell_lt hu))).trans hu,.inl rfl⟩,fun k _ hu=>hu.same (h.block k hu.lt)⟩
theorem WM.up{F F':Nat->Prop}{w w':World}(h:WM F w w')(k:∀i,F i->F' i)(hw:∀i,F' i->¬F i->i<w.heap.size):WM F' w w' :=
 ⟨h.os,h.tape,h.output,h.size,fun i hi hn=>h.block i hi (fun e=>hn (k i e)),fun i j u hi hu=>by
   by_cases e:F i
   ·exact h.cell i j u e hu
   ·exact⟨u,(World.cell?_of_block (h.block i (hw i hi e) e)).trans hu,.inl rfl⟩,fun i hi hu=>by
   by_cases e:F i
   ·exact h.uf i e hu
   ·exact hu.same (h.block i (hw i hi e) e)⟩
theorem at_alk{F:Nat->Prop}{w w':World}(h:WM F w w'){b:Nat}(hF:F b):∀{ds:List Value} {o:Nat},At w b o ds->∃ds',At w' b o ds'/\Alks ds ds'
 | [],o,_=>⟨[],(fun i u hu=>by grind),trivial⟩
 | u :: r,o,hat=>by
   obtain⟨v,h1,h2⟩:=h.cell b (o+0) u hF (hat 0 u rfl);obtain⟨ds',h3,h4⟩:=at_alk h hF (o:=o+1) (ds:=r) (fun i x hx=>by
    have:=hat (i+1) x hx
    rwa [show o+(i+1)=o+1+i by omega] at this)
   refine⟨v :: ds',fun i x hx=>?_,h2,h4⟩;cases i with
   | zero =>
     grind
   | succ i =>
     have:=h3 i x hx
     rwa [show o+1+i=o+(i+1) by omega] at this
def SH(F:Nat->Prop)(w:World):(t:Ty)->List Value->den t->Prop
 | .int k,cs,_=>∃y,cs=[.int k y]/\lo k<=y/\y<=hi k
 | .bool,cs,_=>∃y,cs=[.bool y]
 | .str,cs,_=>∃y,cs=[.string y]/\y.size<=9223372036854775807
 | .sl e,cs,xs=>∃p cap,cs=[.slice p xs.length cap]/\xs.length<=cap/\cap<=9223372036854775807 /\
    (xs=[]∨∃b o ds,p=some ⟨b,o,none⟩/\F b/\UF w b/\At w b o ds/\AllR (SH F w e) ds xs)
 | .pt _,_,_=>False
 | .pr a b,cs,x=>∃c d,cs=c++d/\SH F w a c x.1/\SH F w b d x.2
def noPt:Ty->Bool
 | .pt _=>false
 | .sl e=>noPt e
 | .pr a b=>noPt a&&noPt b
 | _=>true
theorem SH.of{K F:Nat->Prop}{w:World}(hK:∀k,K k->F k/\UF w k):∀{t:Ty} {cs:List Value} {x:den t},noPt t=true->RT K w t cs x->SH F w t cs x
 | .int _,_,x,_,h=>⟨x,h.1,h.2⟩
 | .bool,_,x,_,h=>⟨x,h⟩
 | .str,_,x,_,h=>⟨x,h.1,h.2⟩
 | .sl e,_,xs,hn,⟨p,cap,h1,h2,h3,h4⟩=>by
   refine⟨p,cap,h1,h2,h3,?_⟩;rcases h4 with h4 | ⟨b,o,ds,hp,hb,hat,hall⟩
   ·grind
   ·exact .inr ⟨b,o,ds,hp,(hK b hb).1,(hK b hb).2,hat,hall.mapR (fun c x h=>SH.of (t:=e) hK hn h)⟩
 | .pr a b,_,x,hn,⟨c,d,h,h1,h2⟩=>by
   simp only[noPt,ba] at hn;exact⟨c,d,h,SH.of hK hn.1 h1,SH.of hK hn.2 h2⟩
theorem SH.len{F:Nat->Prop}{w:World}:∀{t:Ty} {cs:List Value} {x:den t},SH F w t cs x->cs.length=sz t
 | .int _,_,_,⟨_,h,_⟩=>by rw[h]; rfl
 | .bool,_,_,⟨_,h⟩=>by rw[h]; rfl
 | .str,_,_,⟨_,h,_⟩=>by rw[h]; rfl
 | .sl _,_,_,⟨_,_,h,_⟩=>by rw[h]; rfl
 | .pr a b,_,_,⟨c,d,h,h1,h2⟩=>by rw[h,List.length_append,SH.len h1,SH.len h2]; rfl
theorem AllR.alks{α:Type}{R R':List Value->α->Prop}(hR:∀c c' x,R c x->Alks c c'->R' c' x){cs cs':List Value}{xs:List α}(h:AllR R cs xs)(k:Alks cs cs'):AllR R' cs' xs:=by
 induction xs generalizing cs cs' with
 | nil =>
   rw[show cs=[] from h] at k
   match cs',k with
   | [],_=>exact(show([]:List Value)=[] from rfl)
 | cons x r ih =>
   obtain⟨c,d,e,h1,h2⟩:=h;subst e;obtain⟨c',d',e,k1,k2⟩:=k.split;exact⟨c',d',e,hR _ _ _ h1 k1,ih h2 k2⟩
theorem alks_one{u:Value}{cs:List Value}(h:Alks [u] cs):∃v,cs=[v]/\alk u v:=by
 cases cs with
 | nil=>exact h.elim
 | cons v r =>
   cases r with
   | nil=>exact⟨v,rfl,h.1⟩
   | cons _ _=>exact h.2.elim
theorem SH.alks{F:Nat->Prop}{w w':World}(hm:WM F w w'):∀{t:Ty} {cs cs':List Value} {x:den t},SH F w t cs x->Alks cs cs'->SH F w' t cs' x
 | .int k,_,_,_,⟨y,h,h1⟩,ha=>by
   subst h;obtain⟨v,rfl,h⟩:=alks_one ha;rcases h with rfl | ⟨_,_,z,e,rfl,h⟩ | ⟨_,_,e,_⟩ | ⟨_,_,e,_⟩
   ·exact⟨y,rfl,h1⟩
   ·cases e; exact⟨z,rfl,h⟩
   ·cases e
   grind
 | .bool,_,_,_,⟨y,h⟩,ha=>by
   subst h;obtain⟨v,rfl,h⟩:=alks_one ha;rcases h with rfl | ⟨_,_,z,e,_⟩ | ⟨_,z,e,rfl⟩ | ⟨_,_,e,_⟩
   ·exact⟨y,rfl⟩
   ·cases e
   ·exact⟨z,rfl⟩
   grind
 | .str,_,_,_,⟨y,h,h1⟩,ha=>by
   subst h;obtain⟨v,rfl,h⟩:=alks_one ha;rcases h with rfl | ⟨_,_,z,e,_⟩ | ⟨_,z,e,_⟩ | ⟨_,z,e,rfl,h⟩
   ·exact⟨y,rfl,h1⟩
   ·cases e
   ·cases e
   ·exact⟨z,rfl,h⟩
 | .sl e,_,_,xs,⟨p,cap,h1,h2,h3,h4⟩,ha=>by
   subst h1;obtain⟨v,rfl,h⟩:=alks_one ha;have h:=alk_slice h;subst h;refine⟨p,cap,rfl,h2,h3,?_⟩;rcases h4 with h4 | ⟨b,o,ds,hp,hb,hu,hat,hall⟩
   ·grind
   ·obtain⟨ds',a1,a2⟩:=at_alk hm hb hat;exact .inr ⟨b,o,ds',hp,hb,hm.uf b hb hu,a1,AllR.alks (R:=SH F w e) (R':=SH F w' e) (fun c c' x hc hk=>SH.alks (t:=e) hm hc hk) hall a2⟩
 | .pr a b,_,cs',x,⟨c,d,h,h1,h2⟩,ha=>by
   subst h;obtain⟨c',d',e,k1,k2⟩:=ha.split;exact⟨c',d',e,SH.alks hm h1 k1,SH.alks hm h2 k2⟩
theorem SH.wm{F:Nat->Prop}{w w':World}{t:Ty}{cs:List Value}{x:den t}(h:SH F w t cs x)(hm:WM F w w'):SH F w' t cs x:=h.alks hm (Alks.refl cs)
theorem SH.get{F:Nat->Prop}{w:World}{e:Ty}{p:Option Addr}{n cap:Nat}{xs:List (den e)}(h:SH F w (.sl e) [.slice p n cap] xs){i:Nat}(hi:i<xs.length) :
  n=xs.length/\∃b o c,p=some ⟨b,o,none⟩/\F b/\UF w b/\At w b (o+i*sz e) c/\SH F w e c xs[i]:=by
 obtain⟨p',cap',h1,h2,h3,h4⟩:=h;simp only[List.cons.injEq,Value.slice.injEq,and_true] at h1;obtain⟨rfl,rfl,rfl⟩:=h1;refine⟨rfl,?_⟩;rcases h4 with h4 | ⟨b,o,ds,hp,hb,hu,hat,hall⟩
 ·grind
 ·obtain⟨pre,c,post,rfl,h5,h6⟩:=hall.get (fun c x h=>SH.len h) hi;refine⟨b,o,c,hp,hb,hu,?_,h6⟩;rw[<- h5]; exact hat.mid
def cntM:(t:Ty)->den t->Nat
 | .int _,_=>1
 | .bool,_=>1
 | .str,_=>1
 | .sl e,xs=>(xs.map (cntM e)).sum
 | .pt _,_=>0
 | .pr a b,x=>cntM a x.1+cntM b x.2
def cntP(e:Ty)(xs:List (den e))(i:Nat):Nat:=((xs.take i).map (cntM e)).sum
theorem cntP_zero(e:Ty)(xs:List (den e)):cntP e xs 0=0:=by grind[cntP]
theorem cntP_succ{e:Ty}{xs:List (den e)}{i:Nat}(h:i<xs.length):cntP e xs (i+1)=cntP e xs i+cntM e xs[i]:=by
 grind[cntP,List.take_succ_eq_append_getElem,List.sum_append_nat]
theorem cntP_all(e:Ty)(xs:List (den e)):cntP e xs xs.length=cntM (.sl e) xs:=by
 unfold cntP;rw[List.take_length];rfl
theorem cntP_le(e:Ty)(xs:List (den e)):∀i,i<=xs.length->cntP e xs i<=cntM (.sl e) xs:=by
 intro i hi;have key:∀m,i+m<=xs.length->cntP e xs i<=cntP e xs (i+m):=by
  intro m
  induction m with
  | zero=>grind
  | succ m ih =>
    grind[cntP_succ,Nat.add_assoc]
 have:=key (xs.length-i) (by omega);rw[show i+(xs.length-i)=xs.length by omega,cntP_all] at this;omega
section
variable {P:Program} {n:Nat} {e:Env} {w w0:World} {Q:Exit->Act->World->Prop} {ops:Array Oper} {rest:List Oper} {d:Nat} {ty:TypeId} {pos:String} {after:Array Edge} {F:Nat->Prop}
theorem wm_set{b o:Nat}{u u0:Value}{cur:Array Value}{T:TypeId}(hF:F b)(hB:w.heap[b]?=some (.cells cur T (0,0)))(hc:w.cell? ⟨b,o,none⟩=some u0)(ha:alk u0 u):WM F w (w.setRow b (spl cur.toList o [u]).toArray):=by
 have hh:=setRow_heap w b cur (spl cur.toList o [u]).toArray T (0,0) hB;have hoc:cur[o]?=some u0:=by
  unfold World.cell? at hc;rw[show(⟨b,o,none⟩:Addr).block=b from rfl,hB] at hc;simpa using hc
 have hlt:o<cur.size:=by
  rcases Nat.lt_or_ge o cur.size with h | h
  ·exact h
  ·grind
 refine⟨rfl,rfl,rfl,by simp_all,fun k _ hk=>heap_setRow_other w b k _ (fun e=>hk (e ▸ hF)),fun k i v hk hv=>?_,fun k hk ⟨c,T',h⟩=>?_⟩
 ·by_cases e:k=b
  ·subst e;unfold World.cell? at hv ⊢;rw[show(⟨k,i,none⟩:Addr).block=k from rfl,hB] at hv;rw[show(⟨k,i,none⟩:Addr).block=k from rfl,hh];have hv:cur[i]?=some v:=by simpa using hv
   have hil:i<cur.size:=by
    rcases Nat.lt_or_ge i cur.size with h | h
    ·exact h
    ·grind
   by_cases ei:i=o
   ·grind[spl,Nat.min_eq_left,Nat.le_of_lt]
   ·refine⟨v,?_,.inl rfl⟩
    grind[spl]
  ·refine⟨v,?_,.inl rfl⟩
   grind[World.cell?_of_block,heap_setRow_other]
 ·by_cases e:k=b
  ·subst e; exact⟨_,_,hh⟩
  ·exact⟨c,T',(heap_setRow_other w b k _ (fun h=>e h)).trans h⟩
theorem vo_storeM{T y:Nat}{z u u0:Value}{x v:Operand}{b o:Nat}[Info P T 1 y z](hx:Sv.ev e x=some (.pointer (some ⟨b,o,none⟩)))(hv:Sv.ev e v=some u)(hu:u.cells.toList=[u])(h1:ones [u]=true)(hm:WM F w0 w)(hF:F b)(hU:UF w0 b)(hc:w0.cell? ⟨b,o,none⟩=some u0)(hs:sca u0 u)
  (k:∀w',WM F w0 w'->VO P n ops rest e w' Q):VO P n ops (⟨none,.store T x v,ty,pos,after,none⟩ :: rest) e w Q:=by
 obtain⟨cur,T',hB⟩:=hm.uf b hF hU;obtain⟨u1,hc1,ha1⟩:=hm.cell b o u0 hF hc;have hlt:o<cur.size:=by
  unfold World.cell? at hc1;rw[show(⟨b,o,none⟩:Addr).block=b from rfl,hB] at hc1;have hc1:cur[o]?=some u1:=by simpa using hc1
  rcases Nat.lt_or_ge o cur.size with h | h
  ·exact h
  ·grind
 have hB':Blk w b cur.toList T':=by unfold Blk; simpa using hB
 refine vo_unit (w':=w.setRow b (spl cur.toList o [u]).toArray) ?_ (k _ (hm.trans (wm_set hF hB hc1 (.inr (ha1.sca hs)))));intro a dst pos after g ha;simp only[execOp,ha.ev hx,ha.ev hv];simp[Instr.storeAt,Instr.sureAddr,run_storeVar (P:=P) (T:=T) hu rfl h1 hB' (by rw[List.length_singleton,Array.length_toList]; exact hlt),Result.andThen]
theorem vo_loadM{T:TypeId}{x:Operand}{b o:Nat}{p:Option Addr}{m c:Nat}[NotAgg P T](hx:Sv.ev e x=some (.pointer (some ⟨b,o,none⟩)))(hm:WM F w0 w)(hF:F b)(hc:w0.cell? ⟨b,o,none⟩=some (.slice p m c))(hd:Nat.blt d n=true)
  (h:VO P n ops rest ((d,.slice p m c) :: e) w Q):VO P n ops (⟨some d,.load T x,ty,pos,after,none⟩ :: rest) e w Q:=by
 obtain⟨v,h1,h2⟩:=hm.cell b o _ hF hc
 grind[alk_slice,vo_load]
theorem vo_idxM{T E s y:Nat}{z:Value}{x ix:Operand}{b o len cap k:Nat}[SliceOf P T E][Info P E s y z](hx:Sv.ev e x=some (.slice (some ⟨b,o,none⟩) len cap))(hi:Sv.ev e ix=some (.int .i64 (k:Int)))(hk:k<len)(hd:Nat.blt d n=true)
  (h:VO P n ops rest ((d,.pointer (some ⟨b,o+k*s,none⟩)) :: e) w Q):VO P n ops (⟨some d,.indexAddr T x ix,ty,pos,after,none⟩ :: rest) e w Q :=
 vo_val _ (runs_idx hx hi hk) hd h
end
theorem blk_wm{F:Nat->Prop}{w w':World}{b:Nat}{cs:List Value}{T:TypeId}(h:Blk w b cs T)(k:WM F w w')(hF:¬F b):Blk w' b cs T:=by
 unfold Blk at h ⊢;rcases Nat.lt_or_ge b w.heap.size with h' | h'
 ·exact(k.block b h' hF).trans h
 grind
def MkS(P:Program)(f:Nat)(t:Ty):Prop:=∀(F:Nat->Prop) (w:World) (u:Value) (x:den t) (k:Int),(∀i,F i->i<w.heap.size)->SH F w t [u] x->0<=k->k+(cntM t x:Int)<=9223372036854775807 ->
 Calls P f #[u,.int .i64 k] w fun en w'=>en=.returned (.int .i64 (k+(cntM t x:Int)))/\WM F w w'
def MkA(P:Program)(f:Nat)(t:Ty):Prop:=∀(F:Nat->Prop) (w:World) (cs:List Value) (x:den t) (k:Int),(∀i,F i->i<w.heap.size)->SH F w t cs x->0<=k->k+(cntM t x:Int)<=9223372036854775807 ->
 Calls P f #[.agg cs.toArray,.int .i64 k] w fun en w'=>en=.returned (.int .i64 (k+(cntM t x:Int)))/\WM F w w'
end Go.Proofs.Xv
end
section
namespace Go.Proofs.Xv
open Go Go.RowKit Go.Proofs.Sv Go.Proofs.Xl
structure WO(F:Nat->Prop)(w w':World):Prop where
 os:w'.os=w.os
 tape:w'.tape=w.tape
 output:w'.output=w.output
 size:w.heap.size<=w'.heap.size
 block:∀k,k<w.heap.size->¬F k->w'.heap[k]?=w.heap[k]?
theorem WM.wo{F:Nat->Prop}{w w':World}(h:WM F w w'):WO F w w':=⟨h.os,h.tape,h.output,h.size,h.block⟩
theorem WO.refl(F:Nat->Prop)(w:World):WO F w w:=⟨rfl,rfl,rfl,Nat.le_refl _,fun _ _ _=>rfl⟩
theorem WO.trans{F:Nat->Prop}{a b c:World}(h:WO F a b)(k:WO F b c):WO F a c :=
 ⟨k.os.trans h.os,k.tape.trans h.tape,k.output.trans h.output,Nat.le_trans h.size k.size,fun i hn hi=>(k.block i (Nat.lt_of_lt_of_le hn h.size) hi).trans (h.block i hn hi)⟩
theorem WO.up{F F':Nat->Prop}{w w':World}(h:WO F w w')(k:∀i,F i->F' i):WO F' w w' :=
 ⟨h.os,h.tape,h.output,h.size,fun i hi hn=>h.block i hi (fun e=>hn (k i e))⟩
theorem WO.ext{F:Nat->Prop}{w0 w w':World}(h:WO F w w')(k:Ext w0 w)(hF:∀i,F i->w0.heap.size<=i):Ext w0 w' :=
 ⟨h.os.trans k.os,h.tape.trans k.tape,h.output.trans k.output,Nat.le_trans k.size h.size,fun i hi=>(h.block i (Nat.lt_of_lt_of_le hi k.size) (fun e=>by grind)).trans (k.block i hi)⟩
def Fa(p:Prop)(n m:Nat)(w:World)(t:Ty)(cs:List Value)(x:den t):Prop:=RT (fun k=>n<=k/\k<m/\(p->UF w k)) w t cs x
section
variable {p:Prop} {n m:Nat} {w w':World} {t:Ty} {cs:List Value} {x:den t} {F:Nat->Prop}
theorem Fa.ext(h:Fa p n m w t cs x)(k:Ext w w'):Fa p n m w' t cs x :=
 RT.same (fun i hi hl=>⟨⟨hi.1,hi.2.1,fun hp=>(hi.2.2 hp).same (k.block i hl)⟩,k.block i hl⟩) h
theorem Fa.wo(h:Fa p n m w t cs x)(k:WO F w w')(hF:∀i,n<=i->i<m->¬F i):Fa p n m w' t cs x :=
 RT.same (fun i hi hl=>⟨⟨hi.1,hi.2.1,fun hp=>(hi.2.2 hp).same (k.block i hl (hF i hi.1 hi.2.1))⟩,k.block i hl (hF i hi.1 hi.2.1)⟩) h
theorem Fa.arg(h:Fa p n m w t cs x):RT (fun k=>k<w.heap.size) w t cs x:=RT.same (fun _ _ hi=>⟨hi,rfl⟩) h
theorem Fa.sh(h:Fa True n m w t cs x)(hn:noPt t=true):SH (fun k=>n<=k/\k<m) w t cs x:=SH.of (fun _ hk=>⟨⟨hk.1,hk.2.1⟩,hk.2.2 trivial⟩) hn h
theorem Fa.of{K:Nat->Prop}(h:RT K w t cs x):Fa False 0 w.heap.size w t cs x:=RT.same (fun _ _ hi=>⟨⟨Nat.zero_le _,hi,False.elim⟩,rfl⟩) h
theorem blk_wo{b:Nat}{T:TypeId}(h:Blk w b cs T)(k:WO F w w')(hF:¬F b):Blk w' b cs T:=by
 unfold Blk at h ⊢;rcases Nat.lt_or_ge b w.heap.size with h' | h'
 ·exact(k.block b h' hF).trans h
 grind
end
class FacT(P:Program):Prop where
 h:∀w,Fac P w
theorem ok_call{P:Program}{f:FuncId}{ps:List Par}{ρ:Type}[Inhabited ρ]{F:denPs ps->Option ρ}{R:ρ->AV}{Z:ρ->IOT ps}(h:Ok P (lct f ps F R Z))(hno:∀r,noOA (R r)=true)(_:giv ps=false){x:denPs ps}{r:ρ}{w:World}{vs:List Value}
  (hF:F x=some r) (ha:ArgsR (fun k=>k<w.heap.size) w none ps x vs) (hW:Fac P w:=by exact FacT.h _) :
  Calls P f vs.toArray w fun en w'=>∃v,en=.returned v/\Ext w w'/\ResR (fun fr k=>fr=true->w.heap.size<=k/\k<w'.heap.size/\(True->UF w' k)) w' (frz (R r)) v []:=by
 have hq:((lct f ps F R Z).res x).q:=by show(F x).isSome=true; rw[hF]; rfl
 refine Calls.mono (h.2 x hq w vs none (fun k=>k<w.heap.size) ⟨fun _ hk=>hk,w,hW,Ext.refl w,fun _ e=>by cases e⟩ ha) ?_;rintro en w' ⟨v,gs,e,hw,hN,hg,hR,hI⟩;have hR:ResR (fun fr=>KRes fr (fun k=>k<w.heap.size) w w' gs) w' (R (vl (F x))) v gs:=hR;have hlt:=ResR.lt hR;rw[hF] at hR;refine⟨v,e,hw.ext,ResR.frz (fun fr k hk hf=>?_) (hno _) (fun b hb fr hf=>?_) hR⟩
 ·subst hf;have h1:w.heap.size<=k:=by
   rcases hk.1 with h1 | h1
   ·grind
   ·exact h1
  exact⟨h1,hk.2.1.1,fun _=>hk.2.1.2 h1⟩
 ·have h1:=(hg b hb).resolve_right (fun h=>by grind);exact⟨h1,(hlt b hb).lt,fun _=>hlt b hb⟩
section
variable {K:Bool->Nat->Prop} {w:World} {v:Value}
theorem rr_int{k:IntKind}{fr:Bool}{x:Int}(h:ResR K w (.d fr (.int k) x) v []):v=.int k x:=by
 have h:=h.1.1;simpa using h
theorem rr_bool{fr:Bool}{x:Bool}(h:ResR K w (.d fr .bool x) v []):v=.bool x:=by
 have h:[v]=[.bool x]:=h.1;simpa using h
theorem rr_dat{t:Ty}{fr:Bool}{x:den t}(h:ResR K w (.d fr t x) v []):RT (K fr) w t [v] x:=h.1
theorem rr_two{a b:AV}(h:ResR K w (.tup [a,b]) v []):∃u1 u2,v=.tuple #[u1,u2]/\ResR K w a u1 []/\ResR K w b u2 []:=by
 obtain⟨us,rfl,u1,us1,g1,g2,rfl,e,h1,u2,us2,g3,g4,rfl,e2,h2,rfl,e3⟩:=h;subst e3;cases g1 with
 | nil =>
   grind
 | cons a b=>grind
theorem rrs_cons{a:AV}{l:List AV}{us:List Value}(h:ResRs K w (a :: l) us []):∃u us',us=u :: us'/\ResR K w a u []/\ResRs K w l us' []:=by
 obtain⟨u,us',g1,g2,rfl,e,h1,h2⟩:=h;cases g1 with
 | nil=>grind
 | cons a b=>grind
end
def mks:Int->Nat->List Value
 | _,0=>[]
 | k,m+1=>.int .i64 k :: mks (k+1) m
theorem mks_snoc:∀(m:Nat) (k:Int),mks k (m+1)=mks k m++[.int .i64 (k+(m:Int))]
 | 0,k=>by simp[mks]
 | m+1,k=>by
   rw[mks,mks_snoc m (k+1),mks,List.cons_append,show k+1+(m:Int)=k+((m+1:Nat):Int) by omega]
theorem mks_len:∀(m:Nat) (k:Int),(mks k m).length=m
 | 0,_=>rfl
 | m+1,k=>by rw[mks,List.length_cons,mks_len m]
def mkI:Int->Nat->List Int
 | _,0=>[]
 | k,m+1=>k :: mkI (k+1) m
theorem mkI_len:∀(m:Nat) (k:Int),(mkI k m).length=m
 | 0,_=>rfl
 | m+1,k=>by rw[mkI,List.length_cons,mkI_len m]
theorem mkI_all{K:Nat->Prop}{w:World}:∀(m:Nat) (k:Int),0<=k->k+(m:Int)<=9223372036854775808->AllR (RT K w (.int .i64)) (mks k m) (mkI k m)
 | 0,_,_,_=>rfl
 | m+1,k,h0,h1=>⟨[.int .i64 k],mks (k+1) m,rfl,⟨rfl,by show -9223372036854775808<=k; omega,by show k<=(9223372036854775807:Int); omega⟩,mkI_all m (k+1) (by omega) (by omega)⟩
theorem spl_get{l:List Value}{p:Nat}{u:Value}(hp:p<l.length)(i:Nat):(spl l p [u])[i]?=if i=p then some u else l[i]?:=by
 grind[spl]
theorem mid_get{u v:Value}{l1 l2:List Value}{i:Nat}(h:i≠l1.length):(l1++v :: l2)[i]?=(l1++u :: l2)[i]?:=by
 grind
theorem at_set{w:World}{b o:Nat}{v u:Value}{l1 l2:List Value}{cur:Array Value}{T:TypeId}(hB:w.heap[b]?=some (.cells cur T (0,0)))(h:At w b o (l1++v :: l2)) :
  o+l1.length<cur.size/\At (w.setRow b (spl cur.toList (o+l1.length) [u]).toArray) b o (l1++u :: l2):=by
 have hc:∀i x,w.cell? ⟨b,i,none⟩=some x->cur.toList[i]?=some x:=by
  intro i x hx;unfold World.cell? at hx;rw[show(⟨b,i,none⟩:Addr).block=b from rfl,hB] at hx;simpa using hx
 have hlt:o+l1.length<cur.size:=by
  have h1:=hc _ _ (h l1.length v (by grind));rcases Nat.lt_or_ge (o+l1.length) cur.size with h' | h'
  ·exact h'
  ·rw[List.getElem?_eq_none (by simpa using h')] at h1; cases h1
 refine⟨hlt,fun i x hx=>?_⟩;have hh:=setRow_heap w b cur (spl cur.toList (o+l1.length) [u]).toArray T (0,0) hB;have key:(spl cur.toList (o+l1.length) [u])[o+i]?=some x:=by
  rw[spl_get (by omega)];by_cases e:i=l1.length
  ·grind
  ·rw[if_neg (by omega)];rw[<- mid_get (v:=v) e] at hx;exact hc _ _ (h i x hx)
 unfold World.cell?
 grind
section
variable {P:Program} {n:Nat} {e:Env} {w:World} {Q:Exit->Act->World->Prop} {ops:Array Oper} {rest:List Oper} {d:Nat} {ty:TypeId} {pos:String} {after:Array Edge}
theorem vo_storeK{T y:Nat}{z0:Value}{x v:Operand}{b o a j:Nat}{z k:Int}{ds:List Value}[Info P T 1 y z0](hx:Sv.ev e x=some (.pointer (some ⟨b,a,none⟩)))(hv:Sv.ev e v=some (.int .i64 z))(ha:a=o+j)(hz:z=k+(j:Int))(hj:j<ds.length)(hat:At w b o (mks k j++ds.drop j))(hU:UF w b)
  (kk:∀w',WO (fun i=>i=b) w w'->(∀i,UF w i->UF w' i)->At w' b o (mks k (j+1)++ds.drop (j+1))->VO P n ops rest e w' Q):VO P n ops (⟨none,.store T x v,ty,pos,after,none⟩ :: rest) e w Q:=by
 obtain⟨cur,T',hB⟩:=hU;rw[List.drop_eq_getElem_cons hj] at hat;obtain⟨h1,h2⟩:=at_set (u:=.int .i64 z) hB hat;rw[mks_len] at h1 h2;have hB':Blk w b cur.toList T':=by unfold Blk; simpa using hB
 have hh:=setRow_heap w b cur (spl cur.toList (o+j) [.int .i64 z]).toArray T' (0,0) hB;refine vo_unit (w':=w.setRow b (spl cur.toList (o+j) [.int .i64 z]).toArray) ?_ (kk _ ⟨rfl,rfl,rfl,by simp_all,fun i _ hi=>heap_setRow_other w b i _ hi⟩ (fun i hi=>?_) ?_)
 ·intro a' dst pos after g hE;simp only[execOp,hE.ev hx,hE.ev hv];subst ha;simp[Instr.storeAt,Instr.sureAddr,run_storeVar (P:=P) (T:=T) (show(Value.int .i64 z).cells.toList=[.int .i64 z] from rfl) rfl (show ones [Value.int .i64 z]=true from rfl) hB' (by rw[List.length_singleton,Array.length_toList]; exact h1),Result.andThen]
 ·by_cases e:i=b
  ·subst e; exact⟨_,_,hh⟩
  ·exact hi.same (heap_setRow_other w b i _ e)
 grind[mks_snoc,List.append_assoc,List.singleton_append]
theorem vo_idxN{T E s y:Nat}{z:Value}{x ix:Operand}{b o len cap k:Nat}[SliceOf P T E][Info P E s y z](hx:Sv.ev e x=some (.slice (some ⟨b,o,none⟩) len cap))(hi:Sv.ev e ix=some (.int .i64 (k:Int)))(hk:k<len)(hd:Nat.blt d n=true)
  (h:VO P n ops rest ((d,.pointer (some ⟨b,o+k*s,none⟩)) :: e) w Q):VO P n ops (⟨some d,.indexAddr T x ix,ty,pos,after,none⟩ :: rest) e w Q :=
 vo_val _ (runs_idx hx hi hk) hd h
end
theorem RT.row{K:Nat->Prop}{w:World}{e:Ty}{u:Value}{xs:List (den e)}(h:RT K w (.sl e) [u] xs) :
  ∃p cap,u=.slice p xs.length cap/\∃b o ds,(0<xs.length->p=some ⟨b,o,none⟩/\K b)/\At w b o ds/\ds.length=xs.length*sz e /\
   ∀w' xs',xs'.length=xs.length->∀ds',At w' b o ds'->AllR (RT K w' e) ds' xs'->RT K w' (.sl e) [u] xs':=by
 obtain⟨p,cap,h1,h2,h3,h4⟩:=h;simp only[List.cons.injEq,and_true] at h1;subst h1;refine⟨p,cap,rfl,?_⟩;rcases h4 with h4 | ⟨b,o,ds,hp,hb,hat,hall⟩
 ·subst h4;refine⟨0,0,[],fun h=>by grind,fun i u hu=>by grind,by simp,fun w' xs' hl ds' _ _=>?_⟩;have:xs'=[]:=List.eq_nil_of_length_eq_zero hl;subst this;exact⟨p,cap,rfl,h2,h3,.inl rfl⟩
 ·exact⟨b,o,ds,fun _=>⟨hp,hb⟩,hat,hall.len (fun c x h=>RT.len h),fun w' xs' hl ds' h1 h2'=>⟨p,cap,by rw[hl],by omega,h3,.inr ⟨b,o,ds',hp,hb,h1,h2'⟩⟩⟩
def MkE(P:Program)(f:Nat)(t:Ty)(n:Nat)(mk:Int->Nat->List (den t)):Prop:=∀(K:Nat->Prop) (w:World) (u:Value) (xs:List (den t)) (k:Int),(∀i,K i->UF w i)->RT K w (.sl t) [u] xs->0<=k->k+((n*xs.length:Nat):Int)<=9223372036854775807 ->
 Calls P f #[u,.int .i64 k] w fun en w'=>en=.returned (.int .i64 (k+((n*xs.length:Nat):Int)))/\WO K w w'/\(∀i,UF w i->UF w' i)/\RT K w' (.sl t) [u] (mk k xs.length)
theorem wr_wo{b:Nat}{w w':World}(h:Wr b w w'):WO (fun i=>i=b) w w':=⟨h.os,h.tape,h.output,by rw[h.size]; exact Nat.le_refl _,fun k _ hk=>h.block k hk⟩
theorem list5{l:List Value}(h:l.length=5):∃a b c d e,l=[a,b,c,d,e]:=by
 match l,h with
 | [a,b,c,d,e],_=>exact⟨a,b,c,d,e,rfl⟩
section
variable {P:Program} {n:Nat} {e:Env} {w:World} {Q:Exit->Act->World->Prop} {ops:Array Oper}
theorem vo_isF{l:List Oper}{d:Nat}{b:Bool}(hb:b=false)(h:VO P n ops l ((d,.bool false) :: e) w Q):VO P n ops l ((d,.bool b) :: e) w Q:=by grind
end
section
variable {P:Program} {n:Nat} {e:Env} {w w0:World} {Q:Exit->Act->World->Prop} {ops:Array Oper} {rest:List Oper} {d:Nat} {ty:TypeId} {pos:String} {after:Array Edge} {F:Nat->Prop}
theorem pu{op:Op}{v:Value}(k:VO P n ops rest ((d,v) :: e) w Q)(h:pureV e op=some v:=by rfl)(hd:Nat.blt d n=true:=by rfl):VO P n ops (⟨some d,op,ty,pos,after,none⟩ :: rest) e w Q:=vo_pure h hd k
theorem ad{T T':TypeId}{x y:Operand}{a b:Int}(k:VO P n ops rest ((d,.int .i64 (a+b)) :: e) w Q)(hx:Sv.ev e x=some (.int .i64 a):=by rfl)(hy:Sv.ev e y=some (.int .i64 b):=by rfl)(hd:Nat.blt d n=true:=by rfl)(hr : -9223372036854775808<=a+b/\a+b<=9223372036854775807:=by omega) :
 VO P n ops (⟨some d,.binOp .add T x y T',ty,pos,after,none⟩ :: rest) e w Q:=vo_val _ (runs_add hx hy hr) hd k
theorem fm{T:TypeId}{x:Operand}{b o f off:Nat}[FieldAt P T f off](k:VO P n ops rest ((d,.pointer (some ⟨b,o+off,none⟩)) :: e) w Q)(hx:Sv.ev e x=some (.pointer (some ⟨b,o,none⟩)):=by rfl)(hd:Nat.blt d n=true:=by rfl) :
 VO P n ops (⟨some d,.fieldAddr T x f,ty,pos,after,none⟩ :: rest) e w Q:=vo_fieldAddr hx hd k
theorem im{T E s y:Nat}{z:Value}{x ix:Operand}{b o len cap k:Nat}[SliceOf P T E][Info P E s y z](hk:k<len)(h:VO P n ops rest ((d,.pointer (some ⟨b,o+k*s,none⟩)) :: e) w Q)
 (hx:Sv.ev e x=some (.slice (some ⟨b,o,none⟩) len cap):=by rfl) (hi:Sv.ev e ix=some (.int .i64 (k:Int)):=by rfl) (hd:Nat.blt d n=true:=by rfl):VO P n ops (⟨some d,.indexAddr T x ix,ty,pos,after,none⟩ :: rest) e w Q:=vo_idxM hx hi hk hd h
theorem si{T y:Nat}{z:Value}{x v:Operand}{b o:Nat}{u u0:Int}[Info P T 1 y z](hm:WM F w0 w)(hF:F b)(hU:UF w0 b)(hc:w0.cell? ⟨b,o,none⟩=some (.int .i64 u0))
  (k:∀w',WM F w0 w'->VO P n ops rest e w' Q) (hx:Sv.ev e x=some (.pointer (some ⟨b,o,none⟩)):=by rfl) (hv:Sv.ev e v=some (.int .i64 u):=by rfl) (h0 : -9223372036854775808<=u:=by omega) (h1:u<=9223372036854775807:=by omega):VO P n ops (⟨none,.store T x v,ty,pos,after,none⟩ :: rest) e w Q :=
 vo_storeM hx hv rfl rfl hm hF hU hc (.inl ⟨_,_,_,rfl,rfl,h0,h1⟩) k
theorem ss{T y:Nat}{z:Value}{x v:Operand}{b o:Nat}{u u0:ByteArray}[Info P T 1 y z](hm:WM F w0 w)(hF:F b)(hU:UF w0 b)(hc:w0.cell? ⟨b,o,none⟩=some (.string u0))(h0:u.size<=9223372036854775807)
  (k:∀w',WM F w0 w'->VO P n ops rest e w' Q) (hx:Sv.ev e x=some (.pointer (some ⟨b,o,none⟩)):=by rfl) (hv:Sv.ev e v=some (.string u):=by rfl):VO P n ops (⟨none,.store T x v,ty,pos,after,none⟩ :: rest) e w Q :=
 vo_storeM hx hv rfl rfl hm hF hU hc (.inr (.inr ⟨_,_,rfl,rfl,h0⟩)) k
theorem sb{T y:Nat}{z:Value}{x v:Operand}{b o:Nat}{u u0:Bool}[Info P T 1 y z](hm:WM F w0 w)(hF:F b)(hU:UF w0 b)(hc:w0.cell? ⟨b,o,none⟩=some (.bool u0))
  (k:∀w',WM F w0 w'->VO P n ops rest e w' Q) (hx:Sv.ev e x=some (.pointer (some ⟨b,o,none⟩)):=by rfl) (hv:Sv.ev e v=some (.bool u):=by rfl):VO P n ops (⟨none,.store T x v,ty,pos,after,none⟩ :: rest) e w Q :=
 vo_storeM hx hv rfl rfl hm hF hU hc (.inr (.inl ⟨_,_,rfl,rfl⟩)) k
theorem lm{T:TypeId}{x:Operand}{b o:Nat}{p:Option Addr}{m c:Nat}[NotAgg P T](hm:WM F w0 w)(hF:F b)(hc:w0.cell? ⟨b,o,none⟩=some (.slice p m c))(h:VO P n ops rest ((d,.slice p m c) :: e) w Q)
 (hx:Sv.ev e x=some (.pointer (some ⟨b,o,none⟩)):=by rfl) (hd:Nat.blt d n=true:=by rfl):VO P n ops (⟨some d,.load T x,ty,pos,after,none⟩ :: rest) e w Q:=vo_loadM hx hm hF hc hd h
theorem mc{f:Nat}{t:Ty}{xs:List Operand}{tys:Array TypeId}{u:Value}{x:den t}{k:Int}[HasBody P f](M:MkS P f t)(hF:∀i,F i->i<w0.heap.size)(hm:WM F w0 w)(hq:SH F w0 t [u] x)
  (h:∀w',WM F w0 w'->WM F w w'->VO P n ops rest ((d,.int .i64 (k+(cntM t x:Int))) :: e) w' Q) (hx:evl e xs=some [u,.int .i64 k]:=by rfl) (hd:Nat.blt d n=true:=by rfl) (h0:0<=k:=by omega) (h1:k+(cntM t x:Int)<=9223372036854775807:=by omega):VO P n ops (⟨some d,.call ⟨.value (.func f),xs.toArray,tys⟩,ty,pos,after,none⟩ :: rest) e w Q:=by
 refine vo_call hx hd (Calls.mono (M F w u x k (fun i hi=>Nat.lt_of_lt_of_le (hF i hi) hm.size) (hq.wm hm) h0 h1) ?_);rintro _ w' ⟨rfl,hm2⟩;exact⟨_,rfl,h w' (hm.trans hm2) hm2⟩
theorem ma{f:Nat}{t:Ty}{xs:List Operand}{tys:Array TypeId}{cs:List Value}{x:den t}{k:Int}[HasBody P f](M:MkA P f t)(hF:∀i,F i->i<w0.heap.size)(hm:WM F w0 w)(hq:SH F w0 t cs x)
  (h:∀w',WM F w0 w'->WM F w w'->VO P n ops rest ((d,.int .i64 (k+(cntM t x:Int))) :: e) w' Q) (hx:evl e xs=some [.agg cs.toArray,.int .i64 k]:=by rfl) (hd:Nat.blt d n=true:=by rfl) (h0:0<=k:=by omega) (h1:k+(cntM t x:Int)<=9223372036854775807:=by omega):VO P n ops (⟨some d,.call ⟨.value (.func f),xs.toArray,tys⟩,ty,pos,after,none⟩ :: rest) e w Q:=by
 refine vo_call hx hd (Calls.mono (M F w cs x k (fun i hi=>Nat.lt_of_lt_of_le (hF i hi) hm.size) (hq.wm hm) h0 h1) ?_);rintro _ w' ⟨rfl,hm2⟩;exact⟨_,rfl,h w' (hm.trans hm2) hm2⟩
def TxC(P:Program)(f:Nat):Prop:=∀(k:Int) (w:World),InI k->Calls P f #[.int .i64 k] w fun en w'=>∃s,en=.returned (.string s)/\s.size<=9223372036854775807/\Ext w w'
theorem tc'{f:Nat}{xs:List Operand}{tys:Array TypeId}{k:Int}[HasBody P f](M:TxC P f)(hm:WM F w0 w)(h:∀w' s,s.size<=9223372036854775807->WM F w0 w'->VO P n ops rest ((d,.string s) :: e) w' Q)
  (hx:evl e xs=some [.int .i64 k]:=by rfl) (hd:Nat.blt d n=true:=by rfl) (hk : -9223372036854775808<=k/\k<=9223372036854775807:=by omega):VO P n ops (⟨some d,.call ⟨.value (.func f),xs.toArray,tys⟩,ty,pos,after,none⟩ :: rest) e w Q:=by
 refine vo_call hx hd (Calls.mono (M k w hk) ?_);rintro _ w' ⟨s,rfl,hs,hE⟩;exact⟨_,rfl,h w' s hs (hm.trans (WM.of_ext hE))⟩
theorem ra{id:Nat}{l:List Oper}{c:Code}(h:VO P n l.toArray l e w (seqQ P c Q)):VS P n (.seq (.region id l.toArray false) c) e w Q:=vs_seq (vs_region h)
theorem rb{id:Nat}{l:List Oper}{c:Code}(h:VO P n l.toArray l e w (seqQ P c Q)):VO P n ops [] e w (seqQ P (.seq (.region id l.toArray false) c) Q):=oN (nQ (vs_seq (vs_region h)))
theorem rc{id:Nat}{l:List Oper}(h:VO P n l.toArray l e w Q):VO P n ops [] e w (seqQ P (.region id l.toArray false) Q):=oN (nQ (vs_region h))
theorem rd'{id k:Nat}{l:List Oper}(h:VO P n l.toArray l e w Q):VO P n ops [] e w (blkQ k (seqQ P (.region id l.toArray false) Q)):=oN (fin_blk (nQ (vs_region h)))
theorem ci{f:FuncId}{ps:List Par}{ρ:Type}[Inhabited ρ]{F:denPs ps->Option ρ}{R:ρ->AV}{Z:ρ->IOT ps}{xs:List Operand}{tys:Array TypeId}[HasBody P f](h:Ok P (lct f ps F R Z)){x:denPs ps}{r:ρ}{vs:List Value}{z:Int}{ik:IntKind}{fr:Bool}(hF:F x=some r)(ha:ArgsR (fun k=>k<w.heap.size) w none ps x vs)
  (k:∀w',Ext w w'->VO P n ops rest ((d,.int ik z) :: e) w' Q) (hx:evl e xs=some vs:=by rfl) (hd:Nat.blt d n=true:=by rfl) (hv:giv ps=false:=by rfl) (hno:∀r,noOA (R r)=true:=by intro _; rfl) (hz:frz (R r)=.d fr (.int ik) z:=by rfl) (hW:Fac P w:=by exact FacT.h _):VO P n ops (⟨some d,.call ⟨.value (.func f),xs.toArray,tys⟩,ty,pos,after,none⟩ :: rest) e w Q:=by
 grind[vo_call,Calls.mono,ok_call,rr_int]
theorem cb{f:FuncId}{ps:List Par}{ρ:Type}[Inhabited ρ]{F:denPs ps->Option ρ}{R:ρ->AV}{Z:ρ->IOT ps}{xs:List Operand}{tys:Array TypeId}[HasBody P f](h:Ok P (lct f ps F R Z)){x:denPs ps}{r:ρ}{vs:List Value}{z:Bool}{fr:Bool}(hF:F x=some r)(ha:ArgsR (fun k=>k<w.heap.size) w none ps x vs)
  (k:∀w',Ext w w'->VO P n ops rest ((d,.bool z) :: e) w' Q) (hx:evl e xs=some vs:=by rfl) (hd:Nat.blt d n=true:=by rfl) (hv:giv ps=false:=by rfl) (hno:∀r,noOA (R r)=true:=by intro _; rfl) (hz:frz (R r)=.d fr .bool z:=by rfl) (hW:Fac P w:=by exact FacT.h _):VO P n ops (⟨some d,.call ⟨.value (.func f),xs.toArray,tys⟩,ty,pos,after,none⟩ :: rest) e w Q:=by
 grind[vo_call,Calls.mono,ok_call,rr_bool]
end
section
variable {P:Program} {n:Nat} {e:Env} {w:World} {Q:Exit->Act->World->Prop} {ops:Array Oper} {rest:List Oper} {d:Nat} {ty:TypeId} {pos:String} {after:Array Edge}
end
section
variable {P:Program} {n:Nat} {e:Env} {w w0:World} {Q:Exit->Act->World->Prop} {l:List Oper} {fuel:Nat} {listed:Array Bool} {d:Nat} {ty:TypeId} {pos:String} {after:Array Edge}
end
def Ap3(n m:Nat)(w:World)(t1 t2 t3:Ty)(cs:List Value)(x:List (den t1)×List (den t2)×List (den t3)):Prop :=
 ∃u1 u2 u3,cs=[u1,u2,u3]/\∃g1 g2 g3:Option Nat,(∀k,(g1=some k∨g2=some k∨g3=some k)->n<=k/\k<m/\UF w k)/\(∀k,g1=some k->g2≠some k/\g3≠some k)/\(∀k,g2=some k->g3≠some k) /\
  RT (fun k=>g1=some k) w (.sl t1) [u1] x.1/\RT (fun k=>g2=some k) w (.sl t2) [u2] x.2.1/\RT (fun k=>g3=some k) w (.sl t3) [u3] x.2.2
section
variable {n m:Nat} {w w':World} {t1 t2 t3:Ty} {cs:List Value} {x:List (den t1)×List (den t2)×List (den t3)} {F:Nat->Prop}
theorem Ap3.fa(h:Ap3 n m w t1 t2 t3 cs x):Fa True n m w (.pr (.sl t1) (.pr (.sl t2) (.sl t3))) cs x:=by
 obtain⟨u1,u2,u3,rfl,g1,g2,g3,hk,_,_,r1,r2,r3⟩:=h;have up:∀k,(g1=some k∨g2=some k∨g3=some k)->n<=k/\k<m/\(True->UF w k):=fun k hg=>⟨(hk k hg).1,(hk k hg).2.1,fun _=>(hk k hg).2.2⟩;exact⟨[u1],[u2,u3],rfl,RT.up r1 fun k e=>up k (.inl e),[u2],[u3],rfl,RT.up r2 fun k e=>up k (.inr (.inl e)),RT.up r3 fun k e=>up k (.inr (.inr e))⟩
theorem Ap3.wo(h:Ap3 n m w t1 t2 t3 cs x)(k:WO F w w')(hF:∀i,n<=i->i<m->¬F i):Ap3 n m w' t1 t2 t3 cs x:=by
 obtain⟨u1,u2,u3,rfl,g1,g2,g3,hk,d1,d2,r1,r2,r3⟩:=h;have hb:∀i,(g1=some i∨g2=some i∨g3=some i)->i<w.heap.size->w'.heap[i]?=w.heap[i]?:=fun i hg hl=>k.block i hl (hF i (hk i hg).1 (hk i hg).2.1);exact⟨u1,u2,u3,rfl,g1,g2,g3,fun i hg=>⟨(hk i hg).1,(hk i hg).2.1,(hk i hg).2.2.same (hb i hg (hk i hg).2.2.lt)⟩,d1,d2,RT.same (fun i e hl=>⟨e,hb i (.inl e) hl⟩) r1,RT.same (fun i e hl=>⟨e,hb i (.inr (.inl e)) hl⟩) r2,RT.same (fun i e hl=>⟨e,hb i (.inr (.inr e)) hl⟩) r3⟩
theorem Ap3.ext(h:Ap3 n m w t1 t2 t3 cs x)(k:Ext w w'):Ap3 n m w' t1 t2 t3 cs x :=
 h.wo (F:=fun _=>False) ⟨k.os,k.tape,k.output,k.size,fun i hi _=>k.block i hi⟩ (fun _ _ _ h=>h)
theorem Ap3.arg(h:Ap3 n m w t1 t2 t3 cs x):RT (fun k=>k<w.heap.size) w (.pr (.sl t1) (.pr (.sl t2) (.sl t3))) cs x:=h.fa.arg
end
def RwR(n m:Nat)(w:World):List Value->List (Option Nat)->List (List Int)->Prop
 | [],gs,xs=>gs=[]/\xs=[]
 | v :: vs,gs,xs=>∃g gs' x xs',gs=g :: gs'/\xs=x :: xs'/\RT (fun k=>g=some k) w (.sl (.int .i64)) [v] x/\(∀b,g=some b->n<=b/\b<m/\UF w b)/\RwR n m w vs gs' xs'
section
variable {n m:Nat} {w w':World} {F:Nat->Prop}
theorem RwR.len:∀{vs:List Value} {gs:List (Option Nat)} {xs:List (List Int)},RwR n m w vs gs xs->vs.length=xs.length/\gs.length=xs.length
 | [],_,_,⟨e1,e2⟩=>by rw[e1,e2]; exact⟨rfl,rfl⟩
 | _ :: _,_,_,⟨g,gs',x,xs',e1,e2,_,_,h⟩=>by
   have:=h.len;rw[e1,e2];simp only[List.length_cons];omega
theorem RwR.wo:∀{vs:List Value} {gs:List (Option Nat)} {xs:List (List Int)},RwR n m w vs gs xs->WO F w w'->(∀b,some b∈gs->¬F b)->RwR n m w' vs gs xs
 | [],_,_,h,_,_=>h
 | v :: vs,_,_,⟨g,gs',x,xs',e1,e2,hR,hb,h⟩,k,hF=>by
   subst e1;have hf:∀b,g=some b->¬F b:=fun b e=>hF b (by rw[e]; exact List.mem_cons_self);have hs:∀b,g=some b->w'.heap[b]?=w.heap[b]?:=fun b e=>k.block b (hb b e).2.2.lt (hf b e);exact⟨g,gs',x,xs',rfl,e2,RT.same (fun b e hl=>⟨e,hs b e⟩) hR,fun b e=>⟨(hb b e).1,(hb b e).2.1,(hb b e).2.2.same (hs b e)⟩,h.wo k fun b hm=>hF b (List.mem_cons_of_mem _ hm)⟩
theorem RwR.mem:∀{vs:List Value} {gs:List (Option Nat)} {xs:List (List Int)},RwR n m w vs gs xs->∀b,some b∈gs->n<=b/\b<m/\UF w b
 | [],_,_,⟨e1,_⟩,b,hb=>by rw[e1] at hb; cases hb
 | _ :: _,_,_,⟨g,gs',x,xs',e1,e2,_,hg,h⟩,b,hb=>by
   rw[e1] at hb;rcases List.mem_cons.1 hb with e | hb
   ·exact hg b e.symm
   ·exact h.mem b hb
theorem RwR.wide{n' m':Nat}(hn:n'<=n)(hm:m<=m'):∀{vs:List Value} {gs:List (Option Nat)} {xs:List (List Int)},RwR n m w vs gs xs->RwR n' m' w vs gs xs
 | [],_,_,h=>h
 | _ :: _,_,_,⟨g,gs',x,xs',e1,e2,hR,hg,h⟩=>⟨g,gs',x,xs',e1,e2,hR,fun b e=>⟨Nat.le_trans hn (hg b e).1,Nat.lt_of_lt_of_le (hg b e).2.1 hm,(hg b e).2.2⟩,h.wide hn hm⟩
theorem RwR.all{K:Nat->Prop}:∀{vs:List Value} {gs:List (Option Nat)} {xs:List (List Int)},RwR n m w vs gs xs->(∀b,some b∈gs->K b)->AllR (RT K w (.sl (.int .i64))) vs xs
 | [],_,_,⟨_,e2⟩,_=>by subst e2; rfl
 | v :: vs,_,_,⟨g,gs',x,xs',e1,e2,hR,_,h⟩,hK=>by
   subst e1 e2;exact⟨[v],vs,rfl,RT.up hR fun b e=>hK b (by rw[e]; exact List.mem_cons_self),h.all fun b hb=>hK b (List.mem_cons_of_mem _ hb)⟩
theorem RwR.snoc{v:Value}{g:Option Nat}{x:List Int}(hR:RT (fun k=>g=some k) w (.sl (.int .i64)) [v] x)(hb:∀b,g=some b->n<=b/\b<m/\UF w b):∀{vs:List Value} {gs:List (Option Nat)} {xs:List (List Int)},RwR n m w vs gs xs->RwR n m w (vs++[v]) (gs++[g]) (xs++[x])
 | [],_,_,⟨e1,e2⟩=>⟨g,[],x,[],by rw[e1]; rfl,by rw[e2]; rfl,hR,hb,rfl,rfl⟩
 | _ :: _,_,_,⟨g',gs',x',xs',e1,e2,hR',hb',h⟩=>⟨g',gs'++[g],x',xs'++[x],by rw[e1]; rfl,by rw[e2]; rfl,hR',hb',h.snoc hR hb⟩
theorem RwR.at:∀{vs:List Value} {gs:List (Option Nat)} {xs:List (List Int)},RwR n m w vs gs xs->NoDup gs->∀i,i<xs.length->∃v g,vs[i]?=some v/\gs[i]?=some g/\RT (fun k=>g=some k) w (.sl (.int .i64)) [v] (xs.getD i [])/\(∀b,g=some b->n<=b/\b<m/\UF w b) /\
  ∀w' y,WO (fun k=>g=some k) w w'->(∀j,UF w j->UF w' j)->RT (fun k=>g=some k) w' (.sl (.int .i64)) [v] y->RwR n m w' vs gs (xs.set i y)
 | [],_,_,⟨_,e2⟩,_,i,hi=>by rw[e2] at hi; exact absurd hi (Nat.not_lt_zero _)
 | v :: vs,_,_,⟨g,gs',x,xs',e1,e2,hR,hb,h⟩,hN,0,_=>by
   subst e1 e2;refine⟨v,g,rfl,rfl,hR,hb,fun w' y k hu hR'=>⟨g,gs',y,xs',rfl,rfl,hR',fun b e=>⟨(hb b e).1,(hb b e).2.1,hu b (hb b e).2.2⟩,h.wo k fun b hm e=>hN.1 b e hm⟩⟩
 | v :: vs,_,_,⟨g,gs',x,xs',e1,e2,hR,hb,h⟩,hN,i+1,hi=>by
   subst e1 e2;obtain⟨v',g',hv,hg,hR',hb',hk⟩:=RwR.at h hN.2 i (by simpa using hi);have hne:∀b,g=some b->¬g'=some b:=fun b e e'=>hN.1 b e (by rw[<- e']; exact List.mem_of_getElem? hg);refine⟨v',g',hv,hg,hR',hb',fun w' y k hu hR2=>⟨g,gs',x,xs'.set i y,rfl,rfl,RT.same (fun b e hl=>⟨e,k.block b hl (hne b e)⟩) hR,fun b e=>⟨(hb b e).1,(hb b e).2.1,hu b (hb b e).2.2⟩,hk w' y k hu hR2⟩⟩
end
theorem NoDup.sn{g:Option Nat}:∀{gs:List (Option Nat)},NoDup gs->(∀b,g=some b->some b ∉ gs)->NoDup (gs++[g])
 | [],_,_=>⟨fun _ _ h=>(by cases h),trivial⟩
 | a :: r,⟨h1,h2⟩,h=>⟨fun b e hm=>by
     rcases List.mem_append.1 hm with hm | hm
     ·exact h1 b e hm
     ·have hg:g=some b:=(List.mem_singleton.1 hm).symm;exact h b hg (by rw[<- e]; exact List.mem_cons_self),h2.sn fun b e hm=>h b e (List.mem_cons_of_mem _ hm)⟩
def ApR(n m:Nat)(w:World)(u:Value)(xs:List (List Int)):Prop:=∃p cap vs gs,u=.slice p xs.length cap/\xs.length<=cap/\cap<=9223372036854775807/\RwR n m w vs gs xs/\NoDup gs /\
 (xs=[]∨∃b o,p=some ⟨b,o,none⟩/\n<=b/\b<m/\UF w b/\At w b o vs/\some b ∉ gs)
section
variable {n m:Nat} {w w':World} {u:Value} {xs:List (List Int)} {F:Nat->Prop}
theorem at_same{b o:Nat}{vs:List Value}(h:At w b o vs)(e:w'.heap[b]?=w.heap[b]?):At w' b o vs:=fun i x hx=>by
 have:=h i x hx;unfold World.cell? at this ⊢;rw[show(⟨b,o+i,none⟩:Addr).block=b from rfl] at this ⊢;rw[e];exact this
theorem ApR.wo(h:ApR n m w u xs)(k:WO F w w')(hF:∀i,n<=i->i<m->¬F i):ApR n m w' u xs:=by
 obtain⟨p,cap,vs,gs,e1,h1,h2,hR,hN,h3⟩:=h;refine⟨p,cap,vs,gs,e1,h1,h2,hR.wo k fun b hb=>hF b (hR.mem b hb).1 (hR.mem b hb).2.1,hN,h3.imp_right ?_⟩;rintro⟨b,o,e,k1,k2,k3,k4,k5⟩;have hs:=k.block b k3.lt (hF b k1 k2);exact⟨b,o,e,k1,k2,k3.same hs,at_same k4 hs,k5⟩
theorem ApR.ext(h:ApR n m w u xs)(k:Ext w w'):ApR n m w' u xs :=
 h.wo (F:=fun _=>False) ⟨k.os,k.tape,k.output,k.size,fun i hi _=>k.block i hi⟩ (fun _ _ _ h=>h)
theorem ApR.fa(h:ApR n m w u xs):Fa True n m w (.sl (.sl (.int .i64))) [u] xs:=by
 obtain⟨p,cap,vs,gs,e1,h1,h2,hR,hN,h3⟩:=h;refine⟨p,cap,by rw[e1],h1,h2,h3.imp_right ?_⟩;rintro⟨b,o,e,k1,k2,k3,k4,k5⟩;exact⟨b,o,vs,e,⟨k1,k2,fun _=>k3⟩,k4,hR.all fun b hb=>⟨(hR.mem b hb).1,(hR.mem b hb).2.1,fun _=>(hR.mem b hb).2.2⟩⟩
theorem ApR.arg(h:ApR n m w u xs):RT (fun k=>k<w.heap.size) w (.sl (.sl (.int .i64))) [u] xs:=h.fa.arg
theorem ApR.at(h:ApR n m w u xs){i:Nat}(hi:i<xs.length):∃b o cap v g,u=.slice (some ⟨b,o,none⟩) xs.length cap/\w.cell? ⟨b,o+i,none⟩=some v/\RT (fun k=>g=some k) w (.sl (.int .i64)) [v] (xs.getD i [])/\(∀k,g=some k->n<=k/\k<m/\UF w k) /\
  ∀w' y,WO (fun k=>g=some k) w w'->(∀j,UF w j->UF w' j)->RT (fun k=>g=some k) w' (.sl (.int .i64)) [v] y->ApR n m w' u (xs.set i y):=by
 obtain⟨p,cap,vs,gs,e1,h1,h2,hR,hN,h3⟩:=h;have h3:=h3.resolve_left (fun e=>by rw[e] at hi; exact Nat.not_lt_zero _ hi);obtain⟨b,o,e,k1,k2,k3,k4,k5⟩:=h3;obtain⟨v,g,hv,hg,hR',hb,hk⟩:=hR.at hN i hi;subst e;refine⟨b,o,cap,v,g,e1,k4 i v hv,hR',hb,fun w' y k hu hy=>?_⟩;have hgb:¬g=some b:=fun e=>k5 (by rw[<- e]; exact List.mem_of_getElem? hg);have hs:=k.block b k3.lt hgb;exact⟨_,cap,vs,gs,by rw[e1,List.length_set],by rw[List.length_set]; exact h1,h2,hk w' y k hu hy,hN,.inr ⟨b,o,rfl,k1,k2,k3.same hs,at_same k4 hs,k5⟩⟩
end
def totL(xs:List (List Int)):Nat:=(xs.map List.length).sum
def mkL:Int->List (List Int)->List (List Int)
 | _,[]=>[]
 | k,x :: r=>mkI k x.length :: mkL (k+(x.length:Int)) r
theorem mkL_len:∀(xs:List (List Int)) (k:Int),(mkL k xs).length=xs.length
 | [],_=>rfl
 | x :: r,k=>by rw[mkL,List.length_cons,List.length_cons,mkL_len r]
theorem totL_take:∀(xs:List (List Int)) (i:Nat),i<xs.length->totL (xs.take (i+1))=totL (xs.take i)+(xs.getD i []).length
 | [],i,h=>absurd h (Nat.not_lt_zero _)
 | x :: r,0,_=>by simp[totL]
 | x :: r,i+1,h=>by
   have:=totL_take r i (by simpa using h);unfold totL at this ⊢;rw[List.take_succ_cons,List.take_succ_cons,List.map_cons,List.map_cons,List.sum_cons,List.sum_cons,this,List.getD_cons_succ];omega
theorem totL_le:∀(xs:List (List Int)) (i:Nat),totL (xs.take i)<=totL xs
 | [],i=>by rw[List.take_nil]; exact Nat.le_refl _
 | x :: r,0=>Nat.zero_le _
 | x :: r,i+1=>by
   have:=totL_le r i;unfold totL at this ⊢;rw[List.take_succ_cons,List.map_cons,List.map_cons,List.sum_cons,List.sum_cons];omega
def halfL(k:Int)(xs:List (List Int))(i:Nat):List (List Int):=mkL k (xs.take i)++xs.drop i
theorem mkL_snoc:∀(xs:List (List Int)) (x:List Int) (k:Int),mkL k (xs++[x])=mkL k xs++[mkI (k+(totL xs:Int)) x.length]
 | [],x,k=>by simp[mkL,totL]
 | y :: r,x,k=>by
   rw[List.cons_append,mkL,mkL_snoc r x,mkL,List.cons_append];have:k+(y.length:Int)+(totL r:Int)=k+(totL (y :: r):Int):=by
    unfold totL;rw[List.map_cons,List.sum_cons];omega
   rw[this]
theorem halfL_len(k:Int)(xs:List (List Int))(i:Nat)(h:i<=xs.length):(halfL k xs i).length=xs.length:=by
 unfold halfL;rw[List.length_append,mkL_len,List.length_take,List.length_drop];omega
theorem halfL_get(k:Int)(xs:List (List Int))(i:Nat)(h:i<xs.length):(halfL k xs i).getD i []=xs.getD i []:=by
 have hl:(mkL k (xs.take i)).length=i:=by rw[mkL_len,List.length_take]; omega
 unfold halfL;rw[gq,List.getElem?_append_right (by omega),hl,Nat.sub_self,List.getElem?_drop,Nat.add_zero,gq]
theorem halfL_set(k:Int)(xs:List (List Int))(i:Nat)(h:i<xs.length):(halfL k xs i).set i (mkI (k+(totL (xs.take i):Int)) (xs.getD i []).length)=halfL k xs (i+1):=by
 have hl:(mkL k (xs.take i)).length=i:=by rw[mkL_len,List.length_take]; omega
 unfold halfL;rw[List.set_append_right _ _ (by omega),hl,Nat.sub_self,List.drop_eq_getElem_cons h,List.set_cons_zero,List.take_succ_eq_append_getElem h,mkL_snoc,List.append_assoc];have:xs.getD i []=xs[i]:=by rw[gq,List.getElem?_eq_getElem h]; rfl
 rw[this];rfl
theorem halfL_all(k:Int)(xs:List (List Int)):halfL k xs xs.length=mkL k xs:=by
 unfold halfL;rw[List.take_length,List.drop_length,List.append_nil]
def MkSS(P:Program)(f:Nat):Prop:=∀(n m:Nat) (w:World) (u:Value) (xs:List (List Int)) (k:Int),ApR n m w u xs->0<=k->k+(totL xs:Int)<=9223372036854775807 ->
 Calls P f #[u,.int .i64 k] w fun en w'=>en=.returned (.int .i64 (k+(totL xs:Int)))/\WO (fun i=>n<=i/\i<m) w w'/\ApR n m w' u (mkL k xs)
section
variable {X:Cx} {st:St} {Q:Exit->Act->World->Prop}
theorem vx_vs{c:Code}(h:∀G a,Sat X G->G.o=st.o->EnvR X.n G st.e a->∃e,Agree X.n e a/\VS X.P X.n c e G.w Q):VX X st c Q:=fun G a S ho hE=>by
 obtain⟨e,h1,h2⟩:=h G a S ho hE;exact h2 a h1
theorem fx_fs{x:Exit}(h:∀G a,Sat X G->G.o=st.o->EnvR X.n G st.e a->∃e,Agree X.n e a/\FinS X.n x e G.w Q):FX X st x Q:=fun G a S ho hE=>by
 obtain⟨e,h1,h2⟩:=h G a S ho hE;exact h2 a h1
end
theorem agr_nil{n:Nat}{G:Gh}{es:List (Nat×Sl)}{a:Act}(h:EnvR n G es a):Agree n [] a:=⟨h.defers,h.size,fun _ _ e=>by cases e⟩
theorem agr_cons{n t:Nat}{v:Value}{e:Env}{a:Act}(h:Agree n e a)(hv:a.tmps.getD t undef=v):Agree n ((t,v) :: e) a:=⟨h.1,h.2.1,fun t' v' ht=>by
 rw[lk_cons] at ht;split at ht
 ·rename_i e'; cases ht; rw[<- e']; exact hv
 ·exact h.2.2 t' v' ht⟩
theorem EnvR.at{n t:Nat}{A:AV}{G:Gh}{es:List (Nat×Sl)}{a:Act}(h:EnvR n G es a)(ht:lku es t=some ⟨[],A⟩):AVR G A (a.tmps.getD t undef):=(h.val t _ ht).1 (fun _ h=>by cases h)
def EsR(e:Env)(G:Gh)(es:List (Nat×Sl)):Prop:=∀t s,lku es t=some s->s.p=[]/\∃v,lk e t=some v/\AVR G s.a v
theorem es_nil{e:Env}{G:Gh}:EsR e G []:=fun _ _ h=>by cases h
theorem es_cons{e:Env}{G:Gh}{es:List (Nat×Sl)}{t:Nat}{A:AV}{v:Value}(hv:lk e t=some v)(hA:AVR G A v)(hr:EsR e G es):EsR e G ((t,⟨[],A⟩) :: es):=fun t' s h=>by
 rw[lK] at h;split at h
 ·rename_i e'; cases h; rw[<- e']; exact⟨rfl,v,hv,hA⟩
 ·exact hr t' s h
theorem vs_vx{P:Program}{n:Nat}{e:Env}{w:World}{c:Code}{Q:Exit->Act->World->Prop}{K:Nat->Prop}(hk:KW P w none K)(es:List (Nat×Sl))(hes:EsR e (GhS K w none undef w.heap.size []) es)(h:VX (cx P n ⟨w,fun k=>none=some k,K,pinP none,w.heap.size⟩) ⟨es,[]⟩ c Q):VS P n c e w Q:=by
 intro a ha;have S:=start_sat (n:=n) (ps:=[]) (x:=()) (vs:=[]) hk ⟨rfl,rfl⟩;refine h (GhS K w none undef w.heap.size []) a S rfl ⟨ha.1,ha.2.1,fun t s ht=>?_⟩;obtain⟨h2,v,h3,h4⟩:=hes t s ht;rw[h2];exact⟨fun _=>by rw[ha.2.2 t v h3]; exact h4,fun hn=>(hn (fun _ h=>by cases h)).elim⟩
theorem sat_os{X:Cx}{G:Gh}(S:Sat X G){id ver:Nat}{E:TypeId}{fr:Bool}{t:Ty}{xs:List (den t)}{u:Value}(hl:lku G.o id=some (.arr E fr t xs ver))(hu:AVR G (.os id ver) u):u.oneCell'=true/\∃cs,Own G.w E (sz t) (G.γ id) u xs.length cs/\AllR (RT (rg G fr) G.w t) cs xs:=by
 obtain⟨h0,T1,fr1,t1,xs1,ver1,k1,k2,k3⟩:=hu;rw[hl] at k1;cases k1;have hu:=k3 rfl;subst hu;obtain⟨cs,g1,g2,_⟩:=S.obs id _ hl;exact⟨h0,cs,g1,g2⟩
theorem avr_i64{G:Gh}{fr:Bool}{n:Int}{v:Value}(h:AVR G (.d fr (.int .i64) n) v):v=.int .i64 n/\lo .i64<=n/\n<=hi .i64:=⟨(List.cons.inj h.1).1,h.2⟩
theorem allR_bools{K:Nat->Prop}{w:World}:∀{cs:List Value} {xs:List Bool},AllR (RT K w .bool) cs xs->cs=xs.map Value.bool
 | _,[],h=>h
 | _,x :: r,⟨c,d,e,h1,h2⟩=>by
   have h1:c=[.bool x]:=h1;rw[e,h1,allR_bools h2]; rfl
theorem bools_allR{K:Nat->Prop}{w:World}:∀(xs:List Bool),AllR (RT K w .bool) (xs.map Value.bool) xs
 | []=>rfl
 | x :: r=>⟨[.bool x],r.map Value.bool,rfl,rfl,bools_allR r⟩
theorem row_int{K:Nat->Prop}{w:World}{u:Value}{x:List Int}(h:RT K w (.sl (.int .i64)) [u] x){i:Nat}(hlt:i<x.length):∃b o cap,u=.slice (some ⟨b,o,none⟩) x.length cap/\w.cell? ⟨b,o+i,none⟩=some (.int .i64 (x.getD i 0))/\lo .i64<=x.getD i 0/\x.getD i 0<=hi .i64:=by
 obtain⟨p,cap,h1,h2,h3,h4⟩:=h;simp only[List.cons.injEq,and_true] at h1;rcases h4 with rfl | ⟨b,o,ds,rfl,hb,hat,hall⟩
 ·exact absurd hlt (Nat.not_lt_zero _)
 obtain⟨rfl,hI⟩:=allR_cells hall;have hx:x.getD i 0=x[i]:=by rw[gq,List.getElem?_eq_getElem hlt]; rfl
 refine⟨b,o,cap,h1,hat i _ (by rw[hx]; simp[hlt]),?_⟩;rw[hx];exact hI _ (List.getElem_mem hlt)
theorem row_bool{K:Nat->Prop}{w:World}{u:Value}{x:List Bool}(h:RT K w (.sl .bool) [u] x){i:Nat}(hi:i<x.length):∃b o cap,u=.slice (some ⟨b,o,none⟩) x.length cap/\w.cell? ⟨b,o+i,none⟩=some (.bool (x.getD i false))/\K b/\At w b o (x.map Value.bool)/\x.length<=cap/\cap<=9223372036854775807:=by
 obtain⟨p,cap,h1,h2,h3,h4⟩:=h;simp only[List.cons.injEq,and_true] at h1;rcases h4 with rfl | ⟨b,o,ds,rfl,hb,hat,hall⟩
 ·exact absurd hi (Nat.not_lt_zero _)
 obtain rfl:=allR_bools hall;have hx:x.getD i false=x[i]:=by rw[gq,List.getElem?_eq_getElem hi]; rfl
 exact⟨b,o,cap,h1,hat i _ (by rw[hx]; simp[hi]),hb,hat,h2,h3⟩
section
variable {P:Program} {n:Nat} {e:Env} {w:World} {Q:Exit->Act->World->Prop} {ops:Array Oper} {rest:List Oper} {d:Nat} {ty:TypeId} {pos:String} {after:Array Edge}
theorem vo_storeF{T y:Nat}{z0:Value}{x v:Operand}{b o cap j:Nat}{z:Bool}{K:Nat->Prop}{S:List Bool}[Info P T 1 y z0](hx:Sv.ev e x=some (.pointer (some ⟨b,o+j,none⟩)))(hv:Sv.ev e v=some (.bool z))(hR:RT K w (.sl .bool) [.slice (some ⟨b,o,none⟩) S.length cap] S)(hj:j<S.length)(hU:UF w b)
  (kk:∀w',WO (fun i=>i=b) w w'->(∀i,UF w i->UF w' i)->RT K w' (.sl .bool) [.slice (some ⟨b,o,none⟩) S.length cap] (S.set j z)->VO P n ops rest e w' Q):VO P n ops (⟨none,.store T x v,ty,pos,after,none⟩ :: rest) e w Q:=by
 obtain⟨cur,T',hB⟩:=hU;obtain⟨b',o',cap',e1,_,hK,hat,hc1,hc2⟩:=row_bool hR hj;cases e1;have hat0:At w b o ((S.map Value.bool).take j++(S.map Value.bool)[j]'(by simpa using hj) :: (S.map Value.bool).drop (j+1)):=by
  rw[<- List.drop_eq_getElem_cons (by simpa using hj),List.take_append_drop]; exact hat
 obtain⟨h1,h2⟩:=at_set (u:=.bool z) hB hat0;have hl:((S.map Value.bool).take j).length=j:=by rw[List.length_take,List.length_map]; omega
 rw[hl] at h1 h2;have hB':Blk w b cur.toList T':=by unfold Blk; simpa using hB
 have hh:=setRow_heap w b cur (spl cur.toList (o+j) [.bool z]).toArray T' (0,0) hB;refine vo_unit (w':=w.setRow b (spl cur.toList (o+j) [.bool z]).toArray) ?_ (kk _ ⟨rfl,rfl,rfl,by simp_all,fun i _ hi=>heap_setRow_other w b i _ hi⟩ (fun i hi=>?_) ?_)
 ·intro a' dst pos after g hE;simp only[execOp,hE.ev hx,hE.ev hv];simp[Instr.storeAt,Instr.sureAddr,run_storeVar (P:=P) (T:=T) (show(Value.bool z).cells.toList=[.bool z] from rfl) rfl (show ones [Value.bool z]=true from rfl) hB' (by rw[List.length_singleton,Array.length_toList]; exact h1),Result.andThen]
 ·by_cases e:i=b
  ·subst e; exact⟨_,_,hh⟩
  ·exact hi.same (heap_setRow_other w b i _ e)
 refine⟨_,cap,by rw[List.length_set],by rw[List.length_set]; exact hc1,hc2,.inr ⟨b,o,_,rfl,hK,h2,?_⟩⟩;have:(S.map Value.bool).take j++Value.bool z :: (S.map Value.bool).drop (j+1)=(S.set j z).map Value.bool:=by
  rw[List.set_eq_take_append_cons_drop,if_pos hj,List.map_append,List.map_cons,List.map_take,List.map_drop]
 rw[this];exact bools_allR _
end
structure LpJ(P:Program)(w0:World)(K:Nat->Prop)(EL:TypeId)(gI gl:Option Nat)(vs:List Value)(gs:List (Option Nat))(w:World)(uI:Value)(S:List Bool)(ul:Value)(L:List (List Int)):Prop where
 ext0:Ext w0 w
 wk:WK P w (fun k=>w0.heap.size<=k)
 klt:∀k,K k->k<w.heap.size
 flg:RT (fun k=>gI=some k) w (.sl .bool) [uI] S
 fg:∀b,gI=some b->w0.heap.size<=b/\UF w b/\¬K b/\some b ∉ gs
 lst:Own w EL 1 gl ul L.length vs
 rws:RwR w0.heap.size w.heap.size w vs gs L
 nd:NoDup gs
 lg:∀b,gl=some b->w0.heap.size<=b/\¬K b/\gI≠some b/\some b ∉ gs
def NwR(w0:World)(_:Nat->Prop)(gI gl:Option Nat)(gs:List (Option Nat))(w:World)(gx:Option Nat)(ux:Value)(x:List Int):Prop :=
 RT (fun k=>gx=some k) w (.sl (.int .i64)) [ux] x/\∀b,gx=some b->w0.heap.size<=b/\UF w b/\gl≠some b/\gI≠some b/\some b ∉ gs
section
variable {P:Program} {w0 w w':World} {K K':Nat->Prop} {EL:TypeId} {gI gl gl' gx:Option Nat} {vs:List Value} {gs:List (Option Nat)} {uI ul ul' ux:Value} {S S':List Bool} {L:List (List Int)} {x:List Int}
theorem RwR.gs_lt{n m:Nat}{xs:List (List Int)}(h:RwR n m w vs gs xs):∀b,some b∈gs->b<w.heap.size:=fun b hb=>(h.mem b hb).2.2.lt
theorem LpJ.kw(h:LpJ P w0 K EL gI gl vs gs w uI S ul L):KW P w none K:=⟨h.klt,h.wk.sub fun k e=>by cases e⟩
theorem LpJ.apr(h:LpJ P w0 K EL gI gl vs gs w uI S ul L):ApR w0.heap.size w.heap.size w ul L:=by
 have hO:=h.lst;rcases hO with ⟨hg,hn,hc,p,hp⟩ | ⟨b,o,cap,cur,hg,hv,h1,h2,h3,h4,h5⟩
 ·refine⟨p,0,vs,gs,by rw[hp,hn],by omega,by omega,h.rws,h.nd,.inl (List.eq_nil_of_length_eq_zero hn)⟩
 ·have hO:Own w EL 1 (some b) ul L.length vs:=.inr ⟨b,o,cap,cur,rfl,hv,h1,h2,h3,h4,h5⟩;obtain⟨o',c',e',hat⟩:=hO.at;rw[hv] at e';cases e';have hb:=h.lg b hg;refine⟨_,cap,vs,gs,hv,h2,(by unfold maxLen at h3; omega),h.rws,h.nd,.inr ⟨b,o,rfl,hb.1,hO.lt b rfl,own_uf hO,hat,hb.2.2.2⟩⟩
theorem wk_we{g:Option Nat}(h:WK P w (fun k=>w0.heap.size<=k))(k:WE g w w')(hg:∀b,g=some b->w0.heap.size<=b):WK P w' (fun k=>w0.heap.size<=k):=by
 obtain⟨W0,f1,f2,f3⟩:=h;exact⟨W0,f1,Below.trans f2 ⟨k.os,k.tape,k.output,k.size,fun i hi=>k.block i (by have:=f2.size; omega) (fun e=>by have:=f3 i (hg i e); omega)⟩,f3⟩
theorem LpJ.ext(h:LpJ P w0 K EL gI gl vs gs w uI S ul L)(k:Ext w w')(hK:∀i,K' i->(K i∨w.heap.size<=i)/\i<w'.heap.size):LpJ P w0 K' EL gI gl vs gs w' uI S ul L:=by
 have z0:=h.ext0.size;have no:∀b,b<w.heap.size->¬K b->¬K' b:=fun b hb hn hk=>by
  rcases(hK b hk).1 with e | e
  ·exact hn e
  ·omega
 exact⟨Below.trans h.ext0 (k.mono z0),wk_we h.wk (WE.of_ext (g:=none) k) (fun _ e=>by cases e),fun i hi=>(hK i hi).2,RT.same (fun i hi hl=>⟨hi,k.block i hl⟩) h.flg,fun b e=>⟨(h.fg b e).1,(h.fg b e).2.1.same (k.block b (h.fg b e).2.1.lt),no b (h.fg b e).2.1.lt (h.fg b e).2.2.1,(h.fg b e).2.2.2⟩,h.lst.up k,
  (h.rws.wo (F:=fun _=>False) ⟨k.os,k.tape,k.output,k.size,fun i hi _=>k.block i hi⟩ fun _ _ e=>e).wide (Nat.le_refl _) k.size,h.nd,fun b e=>⟨(h.lg b e).1,no b (h.lst.lt b e) (h.lg b e).2.1,(h.lg b e).2.2⟩⟩
theorem sat_ext{n B:Nat}{G:Gh}{pin:Nat->Value->Prop}(St:Sat (cx P n ⟨w,fun k=>none=some k,K,pin,B⟩) G):Ext w G.w:=⟨St.os,St.tape,St.output,St.size,fun i hi=>St.block i hi (fun e=>by cases e)⟩
theorem LpJ.out{n:Nat}{G:Gh}{pin:Nat->Value->Prop}(h:LpJ P w0 K EL gI gl vs gs w uI S ul L)(St:Sat (cx P n ⟨w,fun k=>none=some k,K,pin,w.heap.size⟩) G):LpJ P w0 G.K EL gI gl vs gs G.w uI S ul L :=
 h.ext (sat_ext St) fun i hi=>⟨St.kfrom i hi,(St.klt i hi).lt⟩
theorem LpJ.new{n:Nat}{G:Gh}{pin:Nat->Value->Prop}{idx verx:Nat}{frx:Bool}{E:TypeId}(h:LpJ P w0 K EL gI gl vs gs w uI S ul L)(St:Sat (cx P n ⟨w,fun k=>none=some k,K,pin,w.heap.size⟩) G)(hlx:lku G.o idx=some (.arr E frx (.int .i64) x verx))(hux:AVR G (.os idx verx) ux):NwR w0 G.K gI gl gs G.w (G.γ idx) ux x:=by
 obtain⟨_,cs,hO,hA⟩:=sat_os St hlx hux;refine⟨own_dat hO (hA.mapR fun c x hx=>RT.free rfl hx) fun b e=>e,fun b e=>?_⟩;have hg:w.heap.size<=b:=by
  rcases St.own idx _ b hlx e with hg | hg
  ·exact hg
  ·cases hg
 have z0:=h.ext0.size;rw[e] at hO;exact⟨by omega,own_uf hO,fun e'=>by have:=h.lst.lt b e'; omega,fun e'=>by have:=(h.fg b e').2.1.lt; omega,fun hm=>by have:=h.rws.gs_lt b hm; omega⟩
theorem LpJ.wr(h:LpJ P w0 K EL gI gl vs gs w uI S ul L){b:Nat}(hb:gI=some b)(k:WO (fun i=>i=b) w w')(hu:∀i,UF w i->UF w' i)(hR:RT (fun k=>gI=some k) w' (.sl .bool) [uI] S'):LpJ P w0 K EL gI gl vs gs w' uI S' ul L:=by
 have kE:WE (some b) w w':=⟨k.os,k.tape,k.output,k.size,fun i hi hg=>k.block i hi (fun e=>hg (by rw[e]))⟩;have hf:=h.fg b hb;have z0:=h.ext0.size;refine⟨Below.trans h.ext0 (kE.below (fun i e=>by cases e; exact hf.1) z0),wk_we h.wk kE (fun i e=>by cases e; exact hf.1),fun i hi=>Nat.lt_of_lt_of_le (h.klt i hi) k.size,hR,fun i e=>⟨(h.fg i e).1,hu i (h.fg i e).2.1,(h.fg i e).2.2⟩,h.lst.we kE (fun i e e'=>by cases e; exact(h.lg b e').2.2.1 hb),(h.rws.wo k (fun i hi e=>hf.2.2.2 (by rw[<- e]; exact hi))).wide (Nat.le_refl _) k.size,h.nd,h.lg⟩
theorem LpJ.rtw(h:LpJ P w0 K EL gI gl vs gs w uI S ul L){b:Nat}(hb:gI=some b)(k:WO (fun i=>i=b) w w'){t:Ty}{us:List Value}{y:den t}(hR:RT K w t us y):RT K w' t us y :=
 RT.same (fun i hi hl=>⟨hi,k.block i hl (fun e=>(h.fg b hb).2.2.1 (by rw[<- e]; exact hi))⟩) hR
theorem LpJ.nww(_:LpJ P w0 K EL gI gl vs gs w uI S ul L){b:Nat}(hb:gI=some b)(k:WO (fun i=>i=b) w w')(hu:∀i,UF w i->UF w' i)(hx:NwR w0 K gI gl gs w gx ux x):NwR w0 K gI gl gs w' gx ux x :=
 ⟨RT.same (fun i hi hl=>⟨hi,k.block i hl (fun e=>(hx.2 i hi).2.2.2.1 (by rw[e]; exact hb))⟩) hx.1,fun i e=>⟨(hx.2 i e).1,hu i (hx.2 i e).2.1,(hx.2 i e).2.2⟩⟩
theorem LpJ.row(h:LpJ P w0 K EL gI gl vs gs w uI S ul L){w1:World}(hE:Ext w w1)(hx:NwR w0 K gI gl gs w gx ux x)(k:WE gl w1 w')(hO':Own w' EL 1 gl' ul' (L.length+1) (vs++[ux]))(hgl:gl'=gl∨gl'=some w1.heap.size) :
  LpJ P w0 K EL gI gl' (vs++[ux]) (gs++[gx]) w' uI S ul' (L++[x])/\∀{t:Ty} {us:List Value} {y:den t},RT K w t us y->RT K w' t us y:=by
 obtain⟨hx,hg⟩:=hx;obtain⟨ext0,wk,klt,hO,hb,hOl,hR,hN,hl⟩:=h;have z0:=ext0.size;have z1:=hE.size;have z2:=k.size;have hw0:∀b,gl=some b->w0.heap.size<=b:=fun b e=>(hl b e).1;have kE:WE gl w w':=(WE.of_ext hE).trans k;have kO:WO (fun b=>gl=some b) w w':=⟨kE.os,kE.tape,kE.output,kE.size,fun i hi hn=>kE.block i hi hn⟩;have hbe:Below w0.heap.size w w':=kE.below hw0 ext0.size;have hgn:∀b,gl'=some b->gl=some b∨w.heap.size<=b:=fun b e=>by
  rcases hgl with e' | e'
  ·exact .inl (e'.symm.trans e)
  ·rw[e'] at e; cases e; exact .inr z1
 have sx:∀b,gx=some b->w'.heap[b]?=w.heap[b]?:=fun b e=>kE.block b (hg b e).2.1.lt (hg b e).2.2.1;have si:∀b,gI=some b->w'.heap[b]?=w.heap[b]?:=fun b e=>kE.block b (hb b e).2.1.lt (fun e'=>(hl b e').2.2.1 e);refine⟨⟨Below.trans ext0 hbe,wk_we wk kE hw0,fun i hi=>Nat.lt_of_lt_of_le (klt i hi) kE.size,RT.same (fun b e _=>⟨e,si b e⟩) hO,fun b e=>⟨(hb b e).1,(hb b e).2.1.same (si b e),(hb b e).2.2.1,fun hm=>?_⟩,by rw[List.length_append]; exact hO',?_,hN.sn fun b e=>(hg b e).2.2.2.2,fun b e=>⟨?_,fun hk=>?_,fun e'=>?_,fun hm=>?_⟩⟩,fun hr=>RT.same (fun b hk hlt=>⟨hk,kE.block b hlt (fun e=>(hl b e).2.1 hk)⟩) hr⟩
 ·rcases List.mem_append.1 hm with hm | hm
  ·exact(hb b e).2.2.2 hm
  ·have e':some b=gx:=List.mem_singleton.1 hm;exact(hg b e'.symm).2.2.2.1 e
 ·exact((hR.wo kO (fun b hm e=>(hl b e).2.2.2 hm)).wide (Nat.le_refl _) kE.size).snoc (RT.same (fun b e hlt=>⟨e,sx b e⟩) hx) fun b e=>⟨(hg b e).1,by have:=(hg b e).2.1.lt; omega,(hg b e).2.1.same (sx b e)⟩
 ·rcases hgn b e with e | e
  ·exact(hl b e).1
  ·omega
 ·rcases hgn b e with e | e
  ·exact(hl b e).2.1 hk
  ·have:=klt b hk; omega
 ·rcases hgn b e with e | e
  ·exact(hl b e).2.2.1 e'
  ·have:=(hb b e').2.1.lt; omega
 ·rcases List.mem_append.1 hm with hm | hm
  ·rcases hgn b e with e | e
   ·exact(hl b e).2.2.2 hm
   ·have:=hR.gs_lt b hm; omega
  ·have e':some b=gx:=List.mem_singleton.1 hm;have:=hg b e'.symm;rcases hgn b e with e | e
   ·exact this.2.2.1 e
   ·have:=this.2.1.lt; omega
theorem LpJ.init{n:Nat}{G:Gh}{K0:Nat->Prop}{pin:Nat->Value->Prop}{B id ver idr verr:Nat}{EB:TypeId}{fr frr:Bool}{Er:TypeId}{tr:Ty}{xr:List (den tr)}{ur:Value}(EL:TypeId)(St:Sat (cx P n ⟨w0,fun k=>none=some k,K0,pin,B⟩) G)(hl:lku G.o id=some (.arr EB fr .bool S ver))(hu:AVR G (.os id ver) uI)(hr:lku G.o idr=some (.arr Er frr tr xr verr))(hur:AVR G (.os idr verr) ur)(hn:idr≠id) :
  LpJ P w0 (fun k=>G.K k∨G.γ idr=some k) EL (G.γ id) none [] [] G.w uI S (.slice none 0 0) []/\RT (fun k=>G.K k∨G.γ idr=some k) G.w (.sl tr) [ur] xr:=by
 obtain⟨_,cs,hO,hA⟩:=sat_os St hl hu;obtain⟨_,cr,hOr,hAr⟩:=sat_os St hr hur;refine⟨⟨sat_ext St,St.wk.sub fun k hk=>.inl hk,fun k hk=>?_,own_dat hO (hA.mapR fun c x hx=>RT.free rfl hx) fun b e=>e,fun b e=>⟨?_,by rw[e] at hO; exact own_uf hO,?_,fun hm=>by cases hm⟩,Own.nil,⟨rfl,rfl⟩,trivial,fun b e=>by cases e⟩,own_dat hOr (hAr.mapR fun c x hx=>RT.up hx fun k hk=>.inl hk.1) fun b e=>.inr e⟩
 ·rcases hk with hk | hk
  ·exact(St.klt k hk).lt
  ·exact hOr.lt k hk
 ·rcases St.own id _ b hl e with h | h
  ·exact h
  ·cases h
 ·rintro(h | h)
  ·exact St.imm id _ b hl e h
  ·exact hn (St.inj idr id _ _ b hr hl h e)
end
theorem calls_vx{P:Program}{f:FuncId}{ps:List Par}{x:denPs ps}{fn:Func}{code:Code}{n:Nat}{w:World}{vs:List Value}{go:Option Nat}{K:Nat->Prop}{R:Ending->World->Prop}(hf:P.funcs[f]?=some fn)(hn:fn.ntmps=n)(hb:fn.body=some code)(hle:(Nat.ble ps.length n&&oneOb ps)=true)(hK:KW P w go K)(ha:ArgsR K w go ps x vs)
  (h:VX (cx P n ⟨w,fun k=>go=some k,K,pinP (pinOf 0 ps go),baseOf ps w⟩) ⟨start 0 ps x,startO 0 ps x⟩ code (bodyPost P fn R)):Calls P f vs.toArray w R:=by
 rw[ba] at hle;obtain⟨hle,hob⟩:=hle;have hle:=Nat.le_of_ble_eq_true hle;have hlen:=ha.len;refine calls_of_wp hf hb ?_;refine h (GhS K w go (rho0 ps vs) (baseOf ps w) (startO 0 ps x)) { tmps:=vs.toArray++Array.replicate (fn.ntmps-vs.toArray.size) undef,defers:=[] } (start_sat hK ha) rfl ⟨rfl,by grind,fun t s ht=>?_⟩;obtain⟨_,a2,u,a3,a4⟩:=start_env (i:=0) (o:=startO 0 ps x) (r0:=rho0 ps vs) (B:=baseOf ps w) (g0:=go) hob ha (fun _=>rfl) (fun z hz=>by
  rcases start_obs (i:=0) ha with ⟨h0,_⟩ | ⟨j,b,T,t,z',cs,h0,_⟩ | ⟨j,E,t,xs,cs,h0,_⟩
  ·grind
  ·rw[h0] at hz ⊢;cases List.mem_singleton.1 hz;rw[lK,if_pos rfl]
  ·rw[h0] at hz ⊢;cases List.mem_singleton.1 hz;rw[lK,if_pos rfl]) t s ht
 rw[a2];refine⟨fun _=>?_,fun hn=>(hn (fun _ h=>by cases h)).elim⟩;have hlt:t<vs.length:=by
  rcases Nat.lt_or_ge t vs.length with h' | h'
  ·exact h'
  ·grind
 rw[Array.getD_eq_getD_getElem?,Array.getElem?_append_left (by omega)]
 grind
end Go.Proofs.Xv
end
