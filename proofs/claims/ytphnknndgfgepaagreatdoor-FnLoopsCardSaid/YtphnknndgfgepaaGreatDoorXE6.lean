/- A region's walk as one computation: the conditions that are left, the state behind it. Over any program. -/
import Derived.Test.YtphnknndgfgepaaGreatDoorXD6
import Derived.KernelRfl
section
namespace Go.Proofs.Xv
open Go Go.RowKit Go.Proofs.Sv
def i0M:Option AV->Bool
 | some (.pel ..)=>false
 | some (.gel ..)=>false
 | _=>true
theorem j0D{o:List (Nat×Ob)}{v:AV}(h:i0M (some v)=true):d0S o v:=by
 cases v <;> first | trivial | cases h
def X8(st:St)(p:Pa):Op->Bool
 | .move _ | .assign _ | .pick .. | .unOp .not .. | .fieldAddr .. | .field .. | .extract .. | .makeFunc .. | .build .. | .alloc _ | .box .. | .buildSlice ..=>true
 | .call ⟨.builtin .len,_,_⟩ | .call ⟨.builtin .min,_,_⟩ | .call ⟨.builtin .max,_,_⟩=>true
 | .load _ x | .nilCheck x | .store _ x _=>i0M (rd st p x)
 | .binOp .eql .. | .binOp .neq .. | .binOp .lss .. | .binOp .leq .. | .binOp .gtr .. | .binOp .geq ..=>true
 | _=>false
theorem C0L{k k':IntKind}{b:Bool}{q:Prop}{r:AV}(h:t0p k k' b=some (q,r)):q:=by
 unfold t0p at h;rw[ce] at h;split at h
 ·simp only[oi,pj] at h; rw[<- h.1]; trivial
 ·cases h
theorem C0Q{ti:Option TI}{op:BinOp}{u v r:AV}{q:Prop}(ho:(match op with | .eql | .neq | .lss | .leq | .gtr | .geq=>true | _=>false)=true)(h:C0R ti op u v=some (q,r)):q:=by
 unfold C0R at h;split at h
 all_goals first
  | exact C0L h
  | (simp only[oi,pj] at h; rw[<- h.1]; trivial)
  | (split at h
     ·simp only[oi,pj] at h; rw[<- h.1]; trivial
     ·cases h)
  | exact absurd ho (by decide)
  | cases h
theorem C0V{Γ:m9}{st:St}{p:Pa}{op:Op}{q:Prop}{r:AV}{l:List Nat}(ht:X8 st p op=true)(h:H7 Γ st p op=some (q,r,l)):q:=by
 unfold H7 at h;split at h
 case h_5 op' T x y n =>
  split at h
  ·split at h
   ·rename_i hb;simp only[oi,pj] at h;obtain⟨rfl,_⟩:=h;refine C0Q ?_ hb;cases op' <;> first | rfl | exact ht
   ·cases h
  ·cases h
 case h_3 x =>
  split at h
  ·rename_i v hv;split at h
   ·simp only[oi,pj] at h;obtain⟨rfl,_⟩:=h;exact j0D (by rw[<- hv]; exact ht)
   ·cases h
  ·cases h
 all_goals try (simp[X8] at ht; done)
 case h_10 T x =>
  split at h
  ·rename_i v ti hv hti;split at h
   ·split at h
    ·simp only[oi,pj] at h;obtain⟨rfl,_⟩:=h;exact j0D (by rw[<- hv]; exact ht)
    ·cases h
   ·cases h
  ·cases h
 all_goals (repeat' (split at h))
 all_goals first
  | cases h; done
  | (simp only[oi,pj] at h; rw[<- h.1]; trivial)
  | (rw[ce] at h
     split at h
     ·simp only[oi,pj] at h; rw[<- h.1]; trivial
     ·cases h)
theorem C0X{Γ:m9}{st:St}{p:Pa}{d:Nat}{op:Op}{q:Prop}{r:AV}{w:Nat×Ob}{l:List Nat}(ht:X8 st p op=true)(h:Z3 Γ st p d op=some (q,r,w,l)):q:=by
 unfold Z3 at h;split at h
 all_goals try (simp[X8] at ht; done)
 all_goals (repeat' (split at h))
 all_goals first
  | cases h; done
  | (rw[ce] at h
     split at h
     ·simp only[oi,pj] at h; rw[<- h.1]; trivial
     ·cases h)
theorem C0U{Γ:m9}{st:St}{p:Pa}{op:Op}{q:Prop}{w:Nat×Ob}{l:List Nat}(ht:X8 st p op=true)(h:t0d Γ st p op=some (q,w,l)):q:=by
 unfold t0d at h;split at h
 ·split at h
  ·split at h
   ·rw[ce] at h;split at h
    ·simp only[oi,pj] at h; rw[<- h.1]; trivial
    ·cases h
   ·cases h
  ·rename_i hx _ _;simp only[X8,hx,i0M] at ht;cases ht
  ·cases h
 ·cases h
theorem C0Y{Γ:m9}{st:St}{p:Pa}{d:Nat}{op:Op}{r:Prop×AV×List (Nat×Ob)×List Nat}(ht:X8 st p op=true)(h:q0d Γ st p d op=some r):False:=by
 unfold q0d at h;split at h
 ·split at h
  ·rename_i hx _;simp only[X8,hx,i0M] at ht;cases ht
  ·cases h
 ·simp[X8] at ht
 ·cases h
theorem z0U{Γ:m9}{st:St}{p:Pa}{op:Op}{r:Prop×List (Nat×Ob)×List Nat}(ht:X8 st p op=true)(h:h0O Γ st p op=some r):False:=by
 unfold h0O at h;split at h
 ·split at h
  ·rename_i hx _ _;simp only[X8,hx,i0M] at ht;cases ht
  ·cases h
 ·cases h
theorem C0W{Γ:m9}{T:List Ct}{st:St}{p:Pa}{o:Oper}{q:Prop}{av:Option AV}{obs:List (Nat×Ob)}{l:List Nat}(ht:X8 st p o.op=true)(h:T9 Γ T st p o=some (q,av,obs,l)):q:=by
 have hc:∀d q r obs l,t0t T st p d o.op≠some (q,r,obs,l):=fun d q r obs l hc=>by
  unfold t0t at hc;split at hc
  ·simp_all [X8]
  ·cases hc
 unfold T9 at h;split at h
 ·rw[ce] at h;split at h
  ·split at h
   ·rename_i h1;simp only[oi,pj] at h;obtain⟨rfl,_⟩:=h;exact C0V ht h1
   ·split at h
    ·rename_i h1;simp only[oi,pj] at h;obtain⟨rfl,_⟩:=h;exact(C0Y ht h1).elim
    ·cases h
  ·rw[ce] at h;split at h
   ·split at h
    ·rename_i h1;simp only[oi,pj] at h;obtain⟨rfl,_⟩:=h;exact C0X ht h1
    ·cases h
   ·split at h
    ·rename_i h1;exact(hc _ _ _ _ _ h1).elim
    ·cases h
 ·rw[ce] at h;split at h
  ·split at h
   ·rename_i h1;simp only[oi,pj] at h;obtain⟨rfl,_⟩:=h;exact C0U ht h1
   ·split at h
    ·rename_i h1;simp only[oi,pj] at h;obtain⟨rfl,_⟩:=h;exact(z0U ht h1).elim
    ·cases h
  ·split at h
   ·rename_i h1;exact(hc _ _ _ _ _ h1).elim
   ·cases h
def goV(Γ:m9)(T:List Ct)(all:List Oper):List Oper->St->List Rec->Option (Prop×St×List Rec)
 | [],st,rs=>some (True,st,rs)
 | o :: r,st,rs=>match d0x all st.e o with
   | some p=>match T9 Γ T st p o with
     | some (q,av,obs,fp)=>bif h0n p||h0n obs then(match goV Γ T all r ⟨t0c o.dst p av st.e,obs++st.o⟩ (⟨o,p,av,obs,fp⟩ :: rs) with
       | some (V,st',rs')=>some (bif X8 st p o.op then V else(vcW st.e p q/\V),st',rs')
       | none=>none) else none
     | none=>none
   | none=>none
theorem A0L{e:List (Nat×Sl)}{p:Pa}{q:Prop}(h:q):vcW e p q:=by
 unfold vcW;split
 ·exact h
 ·exact fun _=>h
theorem V2{Γ:m9}{T:List Ct}{all:List Oper}{K:St->List Rec->Prop}:∀{ops:List Oper} {st:St} {rs:List Rec} {V:Prop} {st':St} {rs':List Rec},goV Γ T all ops st rs=some (V,st',rs')->V->K st' rs'->m0w Γ T all ops st rs K
 | [],st,rs,V,st',rs',h,hV,hK=>by
   simp only[goV,oi,pj] at h;obtain⟨_,rfl,rfl⟩:=h;exact hK
 | o :: r,st,rs,V,st',rs',h,hV,hK=>by
   unfold goV at h;unfold m0w;split at h
   ·rename_i p hp;rw[hp];simp only;split at h
    ·rename_i q av obs fp ho;rw[ho];simp only;rw[ce] at h ⊢;split at h
     ·rename_i hb;rw[if_pos hb];split at h
      ·rename_i V1 st1 rs1 h1;simp only[oi,pj] at h;obtain⟨hv,rfl,rfl⟩:=h;rw[ce] at hv;split at hv
       ·rename_i ht;subst hv;exact⟨A0L (C0W ht ho),V2 h1 hV hK⟩
       ·subst hv;exact⟨hV.1,V2 h1 hV.2 hK⟩
      ·cases h
     ·cases h
    ·cases h
   ·cases h
def B0U(n:Nat)(Γ:m9)(T:List Ct)(l:List Oper)(keep:List Nat)(st:St):Option (Prop×St) :=
 bif I3 n 0 [] l&&I9 st.e then(match goV Γ T l l st [] with
  | some (V,st',_)=>some (V,cut keep st')
  | none=>none) else none
def D0Q(n:Nat)(Γ:m9)(T:List Ct)(l:List Oper)(keep:List Nat)(st:St):Option (Prop×St) :=
 bif I3 n 0 [] l&&Z6 0 l&&I9 st.e then(match goV Γ T l l st [] with
  | some (V,st',rs)=>bif z0M (I5 [] l) rs.reverse then some (V,cut keep st') else none
  | none=>none) else none
section
variable {P:Program} {n:Nat} {y:World×(Nat->Prop)×(Nat->Prop)×Option (Nat×Value)×Nat} {st:St} {Q:Exit->Act->World->Prop} {Γ:m9} {T:List Ct}
theorem rs(hΓ:x6 P Γ)(hT:∀c∈T,Ok P c)(keep:List Nat)(st':St)(V:Prop){id:Nat}{l:List Oper}{c:Code}(h:B0U n Γ T l keep st=some (V,st'))(hV:V)(hc:VX (cx P n y) st' c Q):VX (cx P n y) st (.seq (.region id l.toArray false) c) Q:=by
 unfold B0U at h;rw[ce] at h;split at h
 ·rename_i hb;rw[ba] at hb;split at h
  ·rename_i V1 st1 rs1 h1;simp only[oi,pj] at h;obtain⟨rfl,rfl⟩:=h;exact vQ (v0L (X:=cx P n y) hΓ hT keep hb.1 hb.2 (V2 h1 hV (fQ hc)))
  ·cases h
 ·cases h
theorem re(hΓ:x6 P Γ)(hT:∀c∈T,Ok P c)(keep:List Nat)(st':St)(V:Prop){id:Nat}{l:List Oper}(h:B0U n Γ T l keep st=some (V,st'))(hV:V)(hc:FX (cx P n y) st' .normal Q):VX (cx P n y) st (.region id l.toArray false) Q:=by
 unfold B0U at h;rw[ce] at h;split at h
 ·rename_i hb;rw[ba] at hb;split at h
  ·rename_i V1 st1 rs1 h1;simp only[oi,pj] at h;obtain⟨rfl,rfl⟩:=h;exact v0L (X:=cx P n y) hΓ hT keep hb.1 hb.2 (V2 h1 hV hc)
  ·cases h
 ·cases h
theorem de(hΓ:x6 P Γ)(hT:∀c∈T,Ok P c)[hm:K1 P](keep:List Nat)(st':St)(V:Prop){id:Nat}{l:List Oper}(h:D0Q n Γ T l keep st=some (V,st'))(hV:V)(hc:FX (cx P n y) st' .normal Q):VX (cx P n y) st (.region id l.toArray true) Q:=by
 unfold D0Q at h;rw[ce] at h;split at h
 ·rename_i hb;rw[ba] at hb;split at h
  ·rename_i V1 st1 rs1 h1;rw[ce] at h;split at h
   ·rename_i hk;simp only[oi,pj] at h;obtain⟨rfl,rfl⟩:=h;exact y0j (X:=cx P n y) hΓ hT keep hb.1 hb.2 (V2 h1 hV ⟨hk,hc⟩)
   ·cases h
  ·cases h
 ·cases h
theorem ds(hΓ:x6 P Γ)(hT:∀c∈T,Ok P c)[hm:K1 P](keep:List Nat)(st':St)(V:Prop){id:Nat}{l:List Oper}{c:Code}(h:D0Q n Γ T l keep st=some (V,st'))(hV:V)(hc:VX (cx P n y) st' c Q):VX (cx P n y) st (.seq (.region id l.toArray true) c) Q :=
 vQ (de hΓ hT keep st' V h hV (fQ hc))
end
theorem y0J{P:Program}:x6 P []:=fun _ _ h=>by cases h
theorem tK{P:Program}{T:TypeId}{ti:TI}{Γ:m9}(h:u0 P T ti)(hr:x6 P Γ):x6 P ((T,ti) :: Γ):=fun T' ti' hl=>by
 rw[lK] at hl;split at hl
 ·rename_i e; subst e; cases hl; exact h
 ·exact hr T' ti' hl
abbrev i64:Ty:=.int .i64
abbrev p(t:Nat)(a:AV):Nat×Sl:=(t,⟨[],a⟩)
abbrev I(x:Int):AV:=.d true (.int .i64) x
abbrev J(x:Int):AV:=.d false (.int .i64) x
abbrev B(x:Bool):AV:=.d true .bool x
abbrev C(x:Bool):AV:=.d false .bool x
abbrev S(x:ByteArray):AV:=.d true .str x
abbrev U(x:ByteArray):AV:=.d false .str x
abbrev D(t:Ty)(x:den t):AV:=.d false t x
abbrev N(t:Ty)(x:den t):AV:=.d true t x
abbrev L(t:Ty)(x:List (den t)):AV:=.d false (.sl t) x
abbrev M(t:Ty)(x:List (den t)):AV:=.d true (.sl t) x
abbrev nil:AV:=.v (.slice none 0 0)
theorem ev{Γ:m9}{st:St}{rs:List ResultVar}{r:AV}{ps:List Par}{z:IOT ps}(V:Prop)(h:x0W Γ st rs r ps z=V)(hV:V):x0W Γ st rs r ps z:=h ▸ hV
theorem tn{P:Program}:∀c∈([]:List Ct),Ok P c:=fun _ h=>by cases h
theorem tc{P:Program}{c:Ct}{T:List Ct}(h:Ok P c)(hr:∀c∈T,Ok P c):∀c'∈c :: T,Ok P c':=fun c' h'=>by
 rcases List.mem_cons.1 h' with rfl | h'
 ·exact h
 ·exact hr c' h'
end Go.Proofs.Xv
end
section
namespace Go.Proofs.Xd
open Go Go.Proofs.Xv
theorem d0N{α:Type}{a b:List α}(d:α)(hl:a.length=b.length)(h:∀i,i<a.length->a.getD i d=b.getD i d):a=b:=by
 apply List.ext_getElem?;intro i;by_cases hi:i<a.length
 ·have:=h i hi;rw[gq,gq,List.getElem?_eq_getElem hi,List.getElem?_eq_getElem (by omega)] at this;rw[List.getElem?_eq_getElem hi,List.getElem?_eq_getElem (by omega)];simpa using this
 ·rw[List.getElem?_eq_none (by omega),List.getElem?_eq_none (by omega)]
def cnt:(t:Ty)->den t->Nat
 | .int _,_=>0
 | .bool,_=>0
 | .str,s=>s.size
 | .sl e,xs=>xs.length+(xs.map (cnt e)).sum
 | .pt e,x=>cnt e x
 | .pr a b,x=>cnt a x.1+cnt b x.2
theorem x0X{t:Ty}{a:List (den t)}{i:Nat}{d:den t}(h:i<a.length):cnt t (a.getD i d)<=(a.map (cnt t)).sum:=by
 rw[gq,List.getElem?_eq_getElem h];have hm:∀(l:List (den t)) (x:den t),x∈l->cnt t x<=(l.map (cnt t)).sum:=by
  intro l
  induction l with
  | nil=>intro x hx; cases hx
  | cons y r ih =>
    intro x hx;rw[List.map_cons,List.sum_cons];rcases List.mem_cons.1 hx with rfl | hx
    ·omega
    ·have:=ih x hx; omega
 exact hm a _ (List.getElem_mem h)
theorem D4{a b:Ty}{x:den (.pr a b)}:cnt (.pr a b) x=cnt a x.1+cnt b x.2:=by simp only[cnt]
theorem d0t{k:IntKind}{x:Int}:cnt (.int k) x=0:=by simp only[cnt]
theorem j0V{x:Bool}:cnt .bool x=0:=by simp only[cnt]
theorem d0T{x:ByteArray}:cnt .str x=x.size:=by simp only[cnt]
theorem Y0{e:Ty}{x:List (den e)}:cnt (.sl e) x=x.length+(x.map (cnt e)).sum:=by simp only[cnt]
theorem b0W{k:IntKind}{x:List Int}:cnt (.sl (.int k)) x=x.length:=by
 have:∀l:List Int,(l.map (cnt (.int k))).sum=0:=by
  intro l
  induction l with
  | nil=>rfl
  | cons a r ih=>rw[List.map_cons,List.sum_cons,ih]; simp only[cnt]
 rw[Y0,this]; rfl
end Go.Proofs.Xd
end
section
namespace Go.Proofs.Xl
def gd{ρ:Type}(V:Prop)[Decidable V](e:Option ρ):Option ρ:=if V then e else none
def lt{α β:Type}(x:α)(f:α->β):β:=f x
def vl{α:Type}[Inhabited α](o:Option α):α:=o.getD default
def l3(x:Int):Prop := -9223372036854775808<=x/\x<=9223372036854775807
instance (x:Int):Decidable (l3 x):=inferInstanceAs (Decidable (_/\_))
def ix(i:Int)(n:Nat):Prop:=0<=i/\i < (n:Int)
instance (i:Int)(n:Nat):Decidable (ix i n):=inferInstanceAs (Decidable (_/\_))
def big:Nat:=36893488147419103232
def itF{σ ρ:Type}(F:(σ->Option ρ)->σ->Option ρ):Nat->σ->Option ρ
 | 0,_=>none
 | n+1,s=>F (itF F n) s
def lp{σ ρ:Type}(F:(σ->Option ρ)->σ->Option ρ)(s:σ):Option ρ:=itF F big s
theorem J5{ρ:Type}{V:Prop}[Decidable V]{e:Option ρ}{r:ρ}(h:gd V e=some r):V/\e=some r:=by
 unfold gd at h;split at h
 ·exact⟨by assumption,h⟩
 ·cases h
theorem gP{ρ:Type}{V:Prop}[Decidable V]{e:Option ρ}(h:V):gd V e=e:=if_pos h
theorem e0f{σ ρ:Type}(F:(σ->Option ρ)->σ->Option ρ)(n:Nat)(s:σ):itF F (n+1) s=F (itF F n) s:=rfl
theorem vS{α:Type}[Inhabited α](x:α):vl (some x)=x:=rfl
theorem r0l{α:Type}[Inhabited α]{o:Option α}(h:o.isSome=true):o=some (vl o):=by cases o with
 | none=>cases h
 | some x=>rfl
end Go.Proofs.Xl
namespace Go.Proofs.Xv
open Go Go.RowKit Go.Proofs.Sv Go.Proofs.Xl
def O3{α β:Type}(f:α->β):Option α->Option β
 | some x=>some (f x)
 | none=>none
theorem O9{α β:Type}{f:α->β}{o:Option α}{y:β}(h:O3 f o=some y):∃x,o=some x/\f x=y:=by
 cases o with
 | none=>cases h
 | some x=>exact⟨x,rfl,by cases h; rfl⟩
def wkN(o o':List (Nat×Ob))(x:Value)(id ver:Nat):Option AV:=match x with
 | .slice none 0 0=>match lku o id with
   | none=>match lku o' id with
     | some (.arr _ _ _ _ v)=>bif Nat.beq v ver then some (.os id ver) else none
     | _=>none
   | _=>none
 | _=>none
def wkD(x:Value)(fr:Bool)(e:Ty):Option AV:=match x with
 | .slice none 0 0=>some (.d fr (.sl e) [])
 | _=>none
def wkS(o o':List (Nat×Ob))(id ver id' ver':Nat):Option AV:=bif Nat.beq id id' then(match lku o id with
    | some (.arr _ _ _ _ v)=>match lku o' id with
      | some (.arr _ _ _ _ v')=>bif Nat.beq v ver&&Nat.beq v' ver' then some (.os id' ver') else none
      | _=>none
    | _=>none) else none
def wkP(o':List (Nat×Ob))(id off:Nat):Option AV:=match lku o' id with
 | some (.box _ _)=>some (.ptr id off)
 | _=>none
def wkG(o':List (Nat×Ob))(id:Nat):Option AV:=match lku o' id with
 | some (.grd ..)=>some (.og id)
 | _=>none
mutual
def wkA(o o':List (Nat×Ob)):AV->AV->Option AV
 | .d fr t x,b=>match b with
   | .d fr' t' _=>bif !fr'||fr then O3 (.d fr' t') (S8 t t' x) else none
   | _=>none
 | .v x,b=>match b with
   | .v _=>some (.v x)
   | .os id ver=>wkN o o' x id ver
   | .d fr (.sl e) _=>wkD x fr e
   | _=>none
 | .os id ver,b=>match b with
   | .os id' ver'=>wkS o o' id ver id' ver'
   | _=>none
 | .ptr id off,b=>match b with
   | .ptr _ _=>wkP o' id off
   | _=>none
 | .agg xs,b=>match b with
   | .agg ys=>O3 .agg (v0I o o' xs ys)
   | _=>none
 | .tup xs,b=>match b with
   | .tup ys=>O3 .tup (v0I o o' xs ys)
   | _=>none
 | .fn f xs,b=>match b with
   | .fn _ ys=>O3 (.fn f) (v0I o o' xs ys)
   | _=>none
 | .og id,b=>match b with
   | .og _=>wkG o' id
   | _=>none
 | _,_=>none
def v0I(o o':List (Nat×Ob)):List AV->List AV->Option (List AV)
 | [],ys=>match ys with
   | []=>some []
   | _=>none
 | a :: r,ys=>match ys with
   | b :: s=>match wkA o o' a b with
     | some x=>O3 (x :: ·) (v0I o o' r s)
     | none=>none
   | _=>none
end
def wkO(o o':List (Nat×Ob)):Option Ob->Ob->Option Ob
 | some (.box T cs),.box _ cs'=>O3 (.box T) (v0I o o' cs cs')
 | some (.arr T fr t xs _),.arr _ fr' t' _ v'=>bif !fr'||fr then O3 (fun z=>.arr T fr' t' z v') (S8 (.sl t) (.sl t') xs) else none
 | none,.arr T fr t _ v=>some (.arr T fr t [] v)
 | some (.grd T Te fr t xs none),.grd _ _ fr' t' _ none=>bif !fr'||fr then O3 (fun z=>.grd T Te fr' t' z none) (S8 (.sl (.sl t)) (.sl (.sl t')) xs) else none
 | _,_=>none
def D0k(o o':List (Nat×Ob))(e:List (Nat×Sl)):List (Nat×Sl)->Option (List (Nat×Sl))
 | []=>some []
 | (t,s) :: r=>match s.p,lku e t with
   | [],some ⟨[],a⟩=>match wkA o o' a s.a with
     | some x=>O3 ((t,⟨[],x⟩) :: ·) (D0k o o' e r)
     | none=>none
   | _,_=>none
def D0j(o o':List (Nat×Ob)):List (Nat×Ob)->Option (List (Nat×Ob))
 | []=>some []
 | (i,b) :: r=>match wkO o o' (lku o i) b with
   | some x=>O3 ((i,x) :: ·) (D0j o o' r)
   | none=>none
def p0t(o':List (Nat×Ob)):List (Nat×Ob)->Bool
 | []=>true
 | (i,.box _ _) :: r=>(bif Nat.ble 500000 i then(match lku o' i with | some (.box _ _)=>true | _=>false) else true)&&p0t o' r
 | (_,.arr ..) :: r=>p0t o' r
 | (_,.grd ..) :: r=>p0t o' r
def v0K(a b:St):Option St:=match D0k a.o b.o a.e b.e with
 | some e=>match D0j a.o b.o b.o with
   | some o=>bif p0t b.o a.o then some ⟨e,o⟩ else none
   | none=>none
 | none=>none
theorem A0I{o o':List (Nat×Ob)}{x:Value}{id ver:Nat}(h:wkN o o' x id ver=some (.os id ver)):h0m x/\o0k (lku o id)/\l0e (lku o' id) ver:=by
 unfold wkN at h;split at h
 ·split at h
  ·rename_i h1;split at h
   ·rename_i h2;rw[ce] at h;split at h
    ·rename_i hv;have:=nb hv;subst this;rw[h1,h2];exact⟨trivial,trivial,rfl⟩
    ·cases h
   ·cases h
  ·cases h
 ·cases h
theorem A0G{o o':List (Nat×Ob)}{id ver id' ver':Nat}(h:wkS o o' id ver id' ver'=some (.os id' ver')):id=id'/\l0e (lku o id) ver/\l0e (lku o' id) ver':=by
 unfold wkS at h;rw[ce] at h;split at h
 ·rename_i hid;split at h
  ·rename_i h1;split at h
   ·rename_i h2;rw[ce] at h;split at h
    ·rename_i hv;rw[ba] at hv;have e1:=nb hv.1;have e2:=nb hv.2;subst e1; subst e2;rw[h1,h2];exact⟨nb hid,rfl,rfl⟩
    ·cases h
   ·cases h
  ·cases h
 ·cases h
theorem A0J{x:Value}{fr:Bool}{e:Ty}{y:den (.sl e)}(h:wkD x fr e=some (.d fr (.sl e) y)):h0m x/\E0L (.sl e) y:=by
 unfold wkD at h;split at h
 ·simp only[oi,AV.d.injEq,heq_eq_eq,true_and] at h;exact⟨trivial,h.symm⟩
 ·cases h
theorem s0q{a b:Bool}(h:(!a||b)=true):a=true->b=true:=by
 intro e; subst e; simpa using h
mutual
theorem v0J{o o':List (Nat×Ob)}:∀{a b:AV},wkA o o' a b=some b->cvA o o' a b
 | .d fr t x,b,h=>by
   unfold wkA at h;unfold cvA;split at h
   ·rename_i fr' t' y;rw[ce] at h;split at h
    ·rename_i hf;obtain⟨z,h1,h2⟩:=O9 h;simp only[AV.d.injEq,heq_eq_eq,true_and] at h2;subst h2;exact⟨s0q hf,h1⟩
    ·cases h
   ·cases h
 | .v x,b,h=>by
   unfold wkA at h;unfold cvA;split at h
   ·cases h; rfl
   ·exact A0I h
   ·exact A0J h
   ·cases h
 | .os id ver,b,h=>by
   unfold wkA at h;unfold cvA;split at h
   ·exact A0G h
   ·cases h
 | .ptr id off,b,h=>by
   unfold wkA at h;unfold cvA;split at h
   ·unfold wkP at h;split at h
    ·rename_i h1;simp only[oi,AV.ptr.injEq] at h;obtain⟨rfl,rfl⟩:=h;exact⟨rfl,rfl,by rw[h1]; trivial⟩
    ·cases h
   ·cases h
 | .agg xs,b,h=>by
   unfold wkA at h;unfold cvA;split at h
   ·obtain⟨z,h1,h2⟩:=O9 h;simp only[AV.agg.injEq] at h2;subst h2;exact g0K h1
   ·cases h
 | .tup xs,b,h=>by
   unfold wkA at h;unfold cvA;split at h
   ·obtain⟨z,h1,h2⟩:=O9 h;simp only[AV.tup.injEq] at h2;subst h2;exact g0K h1
   ·cases h
 | .fn f xs,b,h=>by
   unfold wkA at h;unfold cvA;split at h
   ·obtain⟨z,h1,h2⟩:=O9 h;simp only[AV.fn.injEq] at h2;obtain⟨rfl,rfl⟩:=h2;exact⟨rfl,g0K h1⟩
   ·cases h
 | .pel ..,b,h=>by unfold wkA at h; cases h
 | .gel ..,b,h=>by unfold wkA at h; cases h
 | .og id,b,h=>by
   unfold wkA at h;unfold cvA;split at h
   ·unfold wkG at h;split at h
    ·rename_i h1;simp only[oi,AV.og.injEq] at h;subst h;exact⟨rfl,by rw[h1]; trivial⟩
    ·cases h
   ·cases h
 | .ow ..,b,h=>by unfold wkA at h; cases h
 | .ob ..,b,h=>by unfold wkA at h; cases h
theorem g0K{o o':List (Nat×Ob)}:∀{as' bs:List AV},v0I o o' as' bs=some bs->s0F o o' as' bs
 | [],bs,h=>by
   unfold v0I at h;unfold s0F;split at h
   ·trivial
   ·cases h
 | a :: r,bs,h=>by
   unfold v0I at h;unfold s0F;split at h
   ·split at h
    ·rename_i x hx;obtain⟨z,h1,h2⟩:=O9 h;simp only[List.cons.injEq] at h2;obtain⟨rfl,rfl⟩:=h2;exact⟨v0J hx,g0K h1⟩
    ·cases h
   ·cases h
end
theorem A0H{o o':List (Nat×Ob)}{a:Option Ob}{b:Ob}(h:wkO o o' a b=some b):cvO o o' a b:=by
 unfold wkO at h;split at h
 ·obtain⟨z,h1,h2⟩:=O9 h;simp only[Ob.box.injEq] at h2;obtain⟨rfl,rfl⟩:=h2;exact⟨rfl,g0K h1⟩
 ·rw[ce] at h;split at h
  ·rename_i hf;obtain⟨z,h1,h2⟩:=O9 h;simp only[Ob.arr.injEq,heq_eq_eq,true_and,and_true] at h2;obtain⟨rfl,rfl⟩:=h2;exact⟨rfl,s0q hf,h1⟩
  ·cases h
 ·simp only[oi,Ob.arr.injEq,heq_eq_eq,true_and,and_true] at h;exact h.symm
 ·rw[ce] at h;split at h
  ·rename_i hf;obtain⟨z,h1,h2⟩:=O9 h;simp only[Ob.grd.injEq,heq_eq_eq,true_and,and_true] at h2;obtain⟨rfl,rfl,rfl⟩:=h2;exact⟨rfl,rfl,trivial,trivial,s0q hf,h1⟩
  ·cases h
 ·cases h
theorem q0h{o o':List (Nat×Ob)}{e:List (Nat×Sl)}:∀{l:List (Nat×Sl)},D0k o o' e l=some l->D0S o o' e l
 | [],_=>trivial
 | (t,s) :: r,h=>by
   unfold D0k at h;split at h
   ·rename_i hp hl;split at h
    ·rename_i x hx;obtain⟨z,h1,h2⟩:=O9 h;simp only[List.cons.injEq,pj,true_and] at h2;obtain⟨h3,rfl⟩:=h2;subst h3;exact⟨trivial,by rw[hl]; exact v0J hx,q0h h1⟩
    ·cases h
   ·cases h
theorem q0g{o o':List (Nat×Ob)}:∀{l:List (Nat×Ob)},D0j o o' l=some l->C0H o o' l
 | [],_=>trivial
 | (t,s) :: r,h=>by
   unfold D0j at h;split at h
   ·rename_i x hx;obtain⟨z,h1,h2⟩:=O9 h;simp only[List.cons.injEq,pj,true_and] at h2;obtain⟨rfl,rfl⟩:=h2;exact⟨A0H hx,q0g h1⟩
   ·cases h
theorem g0C{o':List (Nat×Ob)}:∀{l:List (Nat×Ob)},p0t o' l=true->pins o' l
 | [],_=>trivial
 | (_,.arr ..) :: r,h=>g0C (l:=r) h
 | (_,.grd ..) :: r,h=>g0C (l:=r) h
 | (i,.box _ _) :: r,h=>by
   simp only[p0t,ba] at h;refine⟨?_,g0C h.2⟩;have h1:=h.1;rw[ce] at h1 ⊢;split
   ·rename_i hi;rw[if_pos hi] at h1;split at h1
    ·rename_i hl; rw[hl]; trivial
    ·cases h1
   ·trivial
theorem l0T{a b:St}(h:v0K a b=some b):D0g a b:=by
 unfold v0K at h;split at h
 ·rename_i e he;split at h
  ·rename_i o ho;rw[ce] at h;split at h
   ·rename_i hp;cases h;exact⟨q0h he,q0g ho,g0C hp⟩
   ·cases h
  ·cases h
 ·cases h
mutual
def owA(o:List (Nat×Ob)):AV->AV->Option (AV×List (Option Nat)×List Nat)
 | a,.ow T fr t _=>match a with
   | .os id ver=>match lku o id with
     | some (.arr T' fr' t' ys ver')=>bif Nat.beq ver ver'&&Nat.beq T' T&&(!fr||fr') then O3 (fun z=>(.ow T fr t z,[some id],[])) (S8 (.sl t') (.sl t) ys) else none
     | _=>none
   | .v x=>match x with
     | .slice none 0 0=>some (.ow T fr t [],[none],[])
     | _=>none
   | _=>none
 | a,.d fr t _=>match H6 o 24 t [a] with
   | some (y,l,fl)=>bif !fr||fl then some (.d fr t y,[],l) else none
   | none=>none
 | a,.ob T rs=>match a with
   | .ptr id 0=>match lku o id with
     | some (.box T' cs)=>bif Nat.beq T' T then(match y0V o cs rs with
       | some (x,l,m)=>some (.ob T x,some id :: l,m)
       | none=>none) else none
     | _=>none
   | _=>none
 | a,.v _=>match a with
   | .v y=>some (.v y,[],[])
   | _=>none
 | a,.agg rs=>match a with
   | .agg as'=>match y0V o as' rs with
     | some (x,l,m)=>some (.agg x,l,m)
     | none=>none
   | _=>none
 | a,.tup rs=>match a with
   | .tup as'=>match y0V o as' rs with
     | some (x,l,m)=>some (.tup x,l,m)
     | none=>none
   | _=>none
 | _,_=>none
def y0V(o:List (Nat×Ob)):List AV->List AV->Option (List AV×List (Option Nat)×List Nat)
 | as',[]=>match as' with
   | []=>some ([],[],[])
   | _=>none
 | as',r :: rs=>match as' with
   | a :: t=>match owA o a r with
     | some (x,m,f)=>match y0V o t rs with
       | some (xs,m',f')=>some (x :: xs,m++m',f++f')
       | none=>none
     | none=>none
   | []=>none
end
def owI(o:List (Nat×Ob)):Nat->(ps:List Par)->IOT ps->Option (IOT ps×List Nat×Option Nat)
 | _,[],z=>some (z,[],none)
 | i,.io T t :: _,_=>match lku o (500000+i) with
   | some (.box T' cs)=>bif Nat.beq T' T then(match H6 o 24 t cs with
     | some (y,l,_)=>some (y,l,some (500000+i))
     | none=>none) else none
   | _=>none
 | i,.dat _ :: r,z=>owI o (i+1) r z
 | i,.agg _ :: r,z=>owI o (i+1) r z
 | i,.fn _ _ :: r,z=>owI o (i+1) r z
 | i,.nof _ :: r,z=>owI o (i+1) r z
 | i,.os _ _ :: r,z=>owI o (i+1) r z
def r0G(Γ:m9)(st:St):ResultVar->Option AV
 | .tmp t=>match lku st.e t with
   | some ⟨[],a⟩=>some a
   | _=>none
 | .cell t ty=>match lku st.e t with
   | some ⟨[],p⟩=>bif i0M (some p) then(match T8 st.o p with
     | some (cs,_)=>match lku Γ ty with
       | some ti=>ldA ti cs
       | none=>none
     | none=>none) else none
   | _=>none
def B0X(Γ:m9)(st:St):List ResultVar->Option (List AV)
 | []=>some []
 | r :: rs=>match r0G Γ st r with
   | some a=>O3 (a :: ·) (B0X Γ st rs)
   | none=>none
def C0C(Γ:m9)(st:St)(rs:List ResultVar)(ps:List Par)(r:AV)(z:IOT ps):Option (AV×IOT ps) :=
 match B0X Γ st rs with
 | some as'=>match owA st.o (y0W as') r with
   | some (r',mv,fz)=>match owI st.o 0 ps z with
     | some (z',fz',pin)=>bif onceN mv&&t0a mv (fz++fz')&&o0c (fun i=>k0U i (fz++fz')) pin&&(!giv ps||kfR r')&&o0c (fun i=>onceN.notInS i mv) pin then some (r',z') else none
     | none=>none
   | none=>none
 | none=>none
mutual
theorem x0K{o:List (Nat×Ob)}:∀{a r:AV} {mv:List (Option Nat)} {fz:List Nat},owA o a r=some (r,mv,fz)->∃q:Prop,q/\K8 o a r=some (q,mv,fz)
 | a,.ow T fr t xs,mv,fz,h=>by
   unfold owA at h;unfold K8;split at h
   ·split at h
    ·rename_i T' fr' t' ys ver' ho;rw[ce] at h;split at h
     ·rename_i hb;simp only[ba] at hb;obtain⟨z,h1,h2⟩:=O9 h;simp only[pj,AV.ow.injEq,heq_eq_eq,true_and] at h2;obtain⟨rfl,rfl,rfl⟩:=h2;refine⟨(fr=true->fr'=true)/\S8 (.sl t') (.sl t) ys=some z,⟨s0q hb.2,h1⟩,?_⟩;simp only[ho,hb.1,Bool.and_self,cond_true]
     ·cases h
    ·cases h
   ·split at h
    ·simp only[oi,pj,AV.ow.injEq,heq_eq_eq,true_and] at h;obtain⟨rfl,rfl,rfl⟩:=h;exact⟨_,⟨trivial,rfl⟩,rfl⟩
    ·cases h
   ·cases h
 | a,.d fr t x,mv,fz,h=>by
   unfold owA at h;unfold K8;split at h
   ·rename_i y l fl hd;rw[ce] at h;split at h
    ·rename_i hf;simp only[oi,pj,AV.d.injEq,heq_eq_eq,true_and] at h;obtain⟨rfl,rfl,rfl⟩:=h;rw[hd];exact⟨_,⟨s0q hf,rfl⟩,rfl⟩
    ·cases h
   ·cases h
 | a,.ob T rs,mv,fz,h=>by
   unfold owA at h;unfold K8;split at h
   ·split at h
    ·rename_i T' cs ho;rw[ce] at h;split at h
     ·rename_i hT;split at h
      ·rename_i x l m hx;simp only[oi,pj,AV.ob.injEq,true_and] at h;obtain⟨rfl,rfl,rfl⟩:=h;obtain⟨q,hq,e⟩:=j0z hx;refine⟨q,hq,?_⟩;simp only[ho,hT,e,cond_true]
      ·cases h
     ·cases h
    ·cases h
   ·cases h
 | a,.v x,mv,fz,h=>by
   unfold owA at h;unfold K8;split at h
   ·simp only[oi,pj,AV.v.injEq] at h;obtain⟨rfl,rfl,rfl⟩:=h;exact⟨_,rfl,rfl⟩
   ·cases h
 | a,.agg rs,mv,fz,h=>by
   unfold owA at h;unfold K8;split at h
   ·split at h
    ·rename_i x l m hx;simp only[oi,pj,AV.agg.injEq] at h;obtain⟨rfl,rfl,rfl⟩:=h;exact j0z hx
    ·cases h
   ·cases h
 | a,.tup rs,mv,fz,h=>by
   unfold owA at h;unfold K8;split at h
   ·split at h
    ·rename_i x l m hx;simp only[oi,pj,AV.tup.injEq] at h;obtain⟨rfl,rfl,rfl⟩:=h;exact j0z hx
    ·cases h
   ·cases h
 | a,.ptr _ _,mv,fz,h=>by unfold owA at h; cases h
 | a,.pel ..,mv,fz,h=>by unfold owA at h; cases h
 | a,.os _ _,mv,fz,h=>by unfold owA at h; cases h
 | a,.fn _ _,mv,fz,h=>by unfold owA at h; cases h
 | a,.gel _ _,mv,fz,h=>by unfold owA at h; cases h
 | a,.og _,mv,fz,h=>by unfold owA at h; cases h
theorem j0z{o:List (Nat×Ob)}:∀{as' rs:List AV} {mv:List (Option Nat)} {fz:List Nat},y0V o as' rs=some (rs,mv,fz)->∃q:Prop,q/\h0X o as' rs=some (q,mv,fz)
 | as',[],mv,fz,h=>by
   unfold y0V at h;unfold h0X;split at h
   ·simp only[oi,pj,true_and] at h;obtain⟨rfl,rfl⟩:=h;exact⟨_,trivial,rfl⟩
   ·cases h
 | as',r :: rs,mv,fz,h=>by
   unfold y0V at h;unfold h0X;split at h
   ·split at h
    ·rename_i x m f hx;split at h
     ·rename_i xs m' f' hxs;simp only[oi,pj,List.cons.injEq] at h;obtain⟨⟨rfl,rfl⟩,rfl,rfl⟩:=h;obtain⟨q,hq,h1⟩:=x0K hx;obtain⟨q',hq',h2⟩:=j0z hxs;refine⟨q/\q',⟨hq,hq'⟩,?_⟩;simp only[h1,h2]
     ·cases h
    ·cases h
   ·cases h
end
theorem i0L{o:List (Nat×Ob)}:∀{ps:List Par} {i:Nat} {z:IOT ps} {fz:List Nat} {pin:Option Nat},owI o i ps z=some (z,fz,pin)->∃q:Prop,q/\ioA o i ps z=some (q,fz,pin)
 | [],i,z,fz,pin,h=>by
   simp only[owI,oi,pj,true_and] at h;obtain⟨rfl,rfl⟩:=h;exact⟨_,trivial,rfl⟩
 | .io T t :: r,i,z',fz,pin,h=>by
   unfold owI at h;unfold ioA;split at h
   ·rename_i T' cs ho;rw[ce] at h;split at h
    ·rename_i hb;split at h
     ·rename_i y l fl hd;simp only[oi,pj] at h;obtain⟨rfl,rfl,rfl⟩:=h;refine⟨y=y,rfl,?_⟩;rw[ho];simp only[hb,cond_true,hd]
     ·cases h
    ·cases h
   ·cases h
 | .dat _ :: r,i,z,fz,pin,h=>i0L (ps:=r) (i:=i+1) h
 | .agg _ :: r,i,z,fz,pin,h=>i0L (ps:=r) (i:=i+1) h
 | .fn _ _ :: r,i,z,fz,pin,h=>i0L (ps:=r) (i:=i+1) h
 | .nof _ :: r,i,z,fz,pin,h=>i0L (ps:=r) (i:=i+1) h
 | .os _ _ :: r,i,z,fz,pin,h=>i0L (ps:=r) (i:=i+1) h
theorem r0u{Γ:m9}{st:St}:∀{rs:List ResultVar} {as':List AV},B0X Γ st rs=some as'->∃q:Prop,q/\m0i Γ st rs=some (q,as')
 | [],as',h=>by
   simp only[B0X,oi] at h;subst h;exact⟨_,trivial,rfl⟩
 | r :: rs,as',h=>by
   unfold B0X at h;unfold m0i;split at h
   ·rename_i a ha;obtain⟨l,h1,h2⟩:=O9 h;subst h2;obtain⟨q,hq,h3⟩:=r0u h1;have:∃q0:Prop,q0/\B0Y Γ st r=some (q0,a):=by
     unfold r0G at ha;unfold B0Y;split at ha
     ·split at ha
      ·rename_i hl;cases ha;refine⟨True,trivial,?_⟩;simp only[hl]
      ·cases ha
     ·split at ha
      ·rename_i hl;rw[ce] at ha;split at ha
       ·rename_i hp;split at ha
        ·rename_i hd;split at ha
         ·rename_i hT;refine⟨d0S st.o _,j0D hp,?_⟩;simp only[hl,hd,hT,ha]
         ·cases ha
        ·cases ha
       ·cases ha
      ·cases ha
    obtain⟨q0,hq0,h4⟩:=this;rw[h4,h3];exact⟨_,⟨hq0,hq⟩,rfl⟩
   ·cases h
theorem j0U{Γ:m9}{st:St}{rs:List ResultVar}{ps:List Par}{r:AV}{z:IOT ps}(h:C0C Γ st rs ps r z=some (r,z)):x0W Γ st rs r ps z:=by
 unfold C0C at h;split at h
 ·rename_i as' h1;split at h
  ·rename_i r' mv fz h2;split at h
   ·rename_i z' fz' pin h3;rw[ce] at h;split at h
    ·rename_i hb;simp only[oi,pj] at h;obtain⟨rfl,rfl⟩:=h;obtain⟨q0,k0,e0⟩:=r0u h1;obtain⟨q1,k1,e1⟩:=x0K h2;obtain⟨q2,k2,e2⟩:=i0L h3;unfold x0W;rw[e0];simp only[e1,e2,hb,cond_true];exact⟨k0,k1,k2⟩
    ·cases h
   ·cases h
  ·cases h
 ·cases h
end Go.Proofs.Xv
end
section
namespace Go.Proofs.Xv
open Go Go.RowKit Go.Proofs.Sv Go.Proofs.Xl
def U1(b:Bool)(n:Nat)(Γ:m9)(T:List Ct)(l:List Oper)(keep:List Nat)(st:St):Option (Prop×St):=bif b then D0Q n Γ T l keep st else B0U n Γ T l keep st
def rdB(st:St)(c:Operand):Option Bool:=match rd st [] c with
 | some (.d _ .bool b)=>some b
 | _=>none
theorem r0w{st:St}{c:Operand}{b:Bool}(h:rdB st c=some b):∃f,rd st [] c=some (.d f .bool b):=by
 unfold rdB at h;split at h
 ·rename_i f b' h1;cases h;exact⟨f,h1⟩
 ·cases h
theorem ct{X:Cx}{st:St}{Q:Exit->Act->World->Prop}{c:Operand}{a d:Code}(hc:rdB st c=some true)(h:VX X st a Q):VX X st (.cond c a d) Q:=(r0w hc).elim fun _ hc=>q0i hc h
theorem cf{X:Cx}{st:St}{Q:Exit->Act->World->Prop}{c:Operand}{a d:Code}(hc:rdB st c=some false)(h:VX X st d Q):VX X st (.cond c a d) Q:=(r0w hc).elim fun _ hc=>q0j hc h
section
variable {P:Program} {n:Nat} {y:World×(Nat->Prop)×(Nat->Prop)×Option (Nat×Value)×Nat} {st:St} {Q:Exit->Act->World->Prop} {Γ:m9} {T:List Ct} {ρ α:Type} {r:ρ}
theorem D0i(hΓ:x6 P Γ)(hT:∀c∈T,Ok P c)[hm:K1 P]{keep:List Nat}{st':St}{V:Prop}{id:Nat}{l:List Oper}{b:Bool}(h:U1 b n Γ T l keep st=some (V,st'))(hV:V)(hc:FX (cx P n y) st' .normal Q):VX (cx P n y) st (.region id l.toArray b) Q:=by
 cases b with
 | true=>exact de hΓ hT keep st' V h hV hc
 | false=>exact re hΓ hT keep st' V h hV hc
theorem za(hΓ:x6 P Γ)(hT:∀c∈T,Ok P c)[hm:K1 P](keep:List Nat)(st':St){id:Nat}{l:List Oper}{b:Bool}(h:U1 b n Γ T l keep st=some (True,st'))(hc:FX (cx P n y) st' .normal Q):VX (cx P n y) st (.region id l.toArray b) Q :=
 D0i hΓ hT h trivial hc
theorem zb(hΓ:x6 P Γ)(hT:∀c∈T,Ok P c)[hm:K1 P](keep:List Nat)(st':St){V:Prop}[Decidable V]{e:Option ρ}{id:Nat}{l:List Oper}{b:Bool}(H:gd V e=some r)(h:U1 b n Γ T l keep st=some (V,st'))(hc:e=some r->FX (cx P n y) st' .normal Q):VX (cx P n y) st (.region id l.toArray b) Q :=
 D0i hΓ hT h (J5 H).1 (hc (J5 H).2)
theorem zc(hΓ:x6 P Γ)(hT:∀c∈T,Ok P c)[hm:K1 P](keep:List Nat)(S:α->St){x:α}{f:α->Option ρ}{id:Nat}{l:List Oper}{b:Bool}(H:lt x f=some r)(h:U1 b n Γ T l keep st=some (True,S x))(hc:∀v,f v=some r->FX (cx P n y) (S v) .normal Q):VX (cx P n y) st (.region id l.toArray b) Q :=
 D0i hΓ hT h trivial (hc x H)
theorem zd(hΓ:x6 P Γ)(hT:∀c∈T,Ok P c)[hm:K1 P](keep:List Nat)(S:α->St){V:Prop}[Decidable V]{x:α}{f:α->Option ρ}{id:Nat}{l:List Oper}{b:Bool}(H:gd V (lt x f)=some r)(h:U1 b n Γ T l keep st=some (V,S x))(hc:∀v,f v=some r->FX (cx P n y) (S v) .normal Q):VX (cx P n y) st (.region id l.toArray b) Q :=
 D0i hΓ hT h (J5 H).1 (hc x (J5 H).2)
theorem qa(hΓ:x6 P Γ)(hT:∀c∈T,Ok P c)[hm:K1 P](keep:List Nat)(st':St){id:Nat}{l:List Oper}{b:Bool}{c:Code}(h:U1 b n Γ T l keep st=some (True,st'))(hc:VX (cx P n y) st' c Q):VX (cx P n y) st (.seq (.region id l.toArray b) c) Q :=
 vQ (za hΓ hT keep st' h (fQ hc))
theorem qb(hΓ:x6 P Γ)(hT:∀c∈T,Ok P c)[hm:K1 P](keep:List Nat)(st':St){V:Prop}[Decidable V]{e:Option ρ}{id:Nat}{l:List Oper}{b:Bool}{c:Code}(H:gd V e=some r)(h:U1 b n Γ T l keep st=some (V,st'))(hc:e=some r->VX (cx P n y) st' c Q):VX (cx P n y) st (.seq (.region id l.toArray b) c) Q :=
 vQ (zb hΓ hT keep st' H h fun H=>fQ (hc H))
theorem qc(hΓ:x6 P Γ)(hT:∀c∈T,Ok P c)[hm:K1 P](keep:List Nat)(S:α->St){x:α}{f:α->Option ρ}{id:Nat}{l:List Oper}{b:Bool}{c:Code}(H:lt x f=some r)(h:U1 b n Γ T l keep st=some (True,S x))(hc:∀v,f v=some r->VX (cx P n y) (S v) c Q):VX (cx P n y) st (.seq (.region id l.toArray b) c) Q :=
 vQ (zc hΓ hT keep S H h fun v H=>fQ (hc v H))
theorem qd(hΓ:x6 P Γ)(hT:∀c∈T,Ok P c)[hm:K1 P](keep:List Nat)(S:α->St){V:Prop}[Decidable V]{x:α}{f:α->Option ρ}{id:Nat}{l:List Oper}{b:Bool}{c:Code}(H:gd V (lt x f)=some r)(h:U1 b n Γ T l keep st=some (V,S x))(hc:∀v,f v=some r->VX (cx P n y) (S v) c Q):VX (cx P n y) st (.seq (.region id l.toArray b) c) Q :=
 vQ (zd hΓ hT keep S H h fun v H=>fQ (hc v H))
theorem cd{X:Cx}{c:Operand}{a d:Code}{b:Bool}{e1 e2:Option ρ}(H:(if b=true then e1 else e2)=some r)(hc':rdB st c=some b)(ht:e1=some r->VX X st a Q)(hf:e2=some r->VX X st d Q):VX X st (.cond c a d) Q :=
 (r0w hc').elim fun _ hc=>l0V hc (fun h=>ht (by rwa [if_pos h] at H)) (fun h=>hf (by rwa [if_neg (by simp[h])] at H))
theorem jn{X:Cx}{σ:Type}(r:ρ)(E:σ->St)(J:σ->Option ρ){a d:Code}(h:∀s,J s=some r->VX X (E s) d Q)(k:∀Q',(∀{s st'},J s=some r->v0K st' (E s)=some (E s)->FX X st' .normal Q')->(∀{st' id},FX X st' (.exit id) Q->FX X st' (.exit id) Q')->(∀{st'},FX X st' .ret Q->FX X st' .ret Q')->VX X st a Q'):VX X st (.seq a d) Q :=
 vQ (k _ (fun H hw=>fQ (y0i _ (l0T hw) (h _ H))) fE fR)
theorem lx{X:Cx}{σ:Type}(E:σ->St)(s0:σ){F:(σ->Option ρ)->σ->Option ρ}{body:Code}(H:lp F s0=some r)(h0:v0K st (E s0)=some (E s0))
  (round:∀Q' (g:σ->Option ρ),(∀{s st'},g s=some r->v0K st' (E s)=some (E s)->FX X st' .normal Q')->(∀{st' id},FX X st' (.exit id) Q->FX X st' (.exit id) Q')->(∀{st'},FX X st' .ret Q->FX X st' .ret Q')->∀s,F g s=some r->VX X (E s) body Q'):VX X st (.loop body) Q:=by
 refine y0h (fun z:Nat×σ=>E z.2) (fun z=>itF F z.1 z.2=some r) (fun z=>z.1) (big,s0) H (l0T h0) ?_;rintro⟨m,s⟩ hz;cases m with
 | zero=>cases hz
 | succ m=>exact round _ (itF F m) (fun {s' st'} H' hw=>z0y (m,s') H' (Nat.lt_succ_self m) (l0T hw)) l0n m0z s hz
end
def lct(f:FuncId)(ps:List Par){ρ:Type}[Inhabited ρ](F:w9 ps->Option ρ)(R:ρ->AV)(Z:ρ->IOT ps):Ct:=⟨f,ps,fun x=>⟨(F x).isSome=true,R (vl (F x)),Z (vl (F x))⟩⟩
def G0H(X:Cx)(Γ:m9)(rs:List ResultVar)(ps:List Par){ρ:Type}(R:ρ->AV)(Z:ρ->IOT ps)(r:ρ)(x:Exit)(Q:Exit->Act->World->Prop):Prop :=
 ∀{st:St} {e:ρ},some e=some r->C0C Γ st rs ps (R e) (Z e)=some (R e,Z e)->FX X st x Q
theorem okl{P:Program}{Γ:m9}(hΓ:x6 P Γ){f:FuncId}{ps:List Par}{ρ:Type}[Inhabited ρ]{F:w9 ps->Option ρ}{R:ρ->AV}{Z:ρ->IOT ps}{fn:Func}{code:Code}{n:Nat}(rs:List ResultVar)
  (hf:P.funcs[f]?=some fn) (hn:fn.ntmps=n) (hb:fn.body=some code) (hr:fn.results=rs.toArray) (he:d0Q P f=true) (hle:(Nat.ble ps.length n&&Z8 ps)=true)
  (h:∀y x r,F x=some r->∀Q,G0H (cx P n y) Γ rs ps R Z r .normal Q->G0H (cx P n y) Γ rs ps R Z r .ret Q->VX (cx P n y) ⟨O8 0 ps x,I1 0 ps x⟩ code Q):Ok P (lct f ps F R Z):=by
 refine E0u (c:=lct f ps F R Z) hΓ rs hf hn hb hr he hle (fun y x hq hw Q hQ=>?_);have hs:=r0l hq;refine h y x _ hs Q ?_ ?_
 ·intro st e he hw;cases he;exact(hQ st (j0U hw)).1
 ·intro st e he hw;cases he;exact(hQ st (j0U hw)).2
mutual
def frz:AV->AV
 | .ow _ fr t xs=>.d (fr||D8 t) (.sl t) xs
 | .agg xs=>.agg (frzs xs)
 | .tup xs=>.tup (frzs xs)
 | a=>a
def frzs:List AV->List AV
 | []=>[]
 | a :: r=>frz a :: frzs r
end
mutual
def A0u:AV->Bool
 | .ob ..=>false
 | .agg xs=>r0I xs
 | .tup xs=>r0I xs
 | _=>true
def r0I:List AV->Bool
 | []=>true
 | a :: r=>A0u a&&r0I r
end
theorem j0y{w:World}{T:TypeId}{t:Ty}{g:Option Nat}{u:Value}{xs:List (den t)}{cs:List Value}{K:Nat->Prop}(hO:Own w T (sz t) g u xs.length cs)(hA:AllR (RT K w t) cs xs)(hg:∀b,g=some b->K b):RT K w (.sl t) [u] xs:=by
 cases g with
 | none =>
   rcases hO with ⟨_,hn,_,p,hp⟩ | ⟨b,_,_,_,hb,_⟩
   ·have:xs=[]:=List.eq_nil_of_length_eq_zero hn;subst this;exact⟨p,0,by rw[hp]; rfl,Nat.le_refl _,by omega,.inl rfl⟩
   ·cases hb
 | some b =>
   obtain⟨o0,c0,e0,hat⟩:=hO.at;rcases hO with ⟨h,_⟩ | ⟨b',o1,cap,cur,hb,hv2,k1,k2,k3,k4,k5⟩
   ·cases h
   ·cases hb;rw[hv2] at e0; cases e0;exact⟨_,c0,by rw[hv2],k2,(by have:=k3; simp only[maxLen] at this; omega),.inr ⟨b,o0,cs,rfl,hg b rfl,hat,hA⟩⟩
mutual
theorem ResR.frz{K K':Bool->Nat->Prop}{w:World}(hK:∀fr k,K fr k->K' fr k):∀{a:AV} {u:Value} {gs:List (Option Nat)},A0u a=true->(∀b,some b∈gs->∀fr,K' fr b)->ResR K w a u gs->ResR K' w (Xv.frz a) u []
 | .v _,_,_,_,_,h=>⟨h.1,rfl⟩
 | .d fr t x,u,gs,_,_,⟨h,_⟩=>⟨RT.up h (hK fr),rfl⟩
 | .agg xs,u,gs,hn,hg,⟨us,e,h⟩=>⟨us,e,ResRs.frz hK (by simpa only[A0u] using hn) hg h⟩
 | .ob _ _,_,_,hn,_,_=>by simp[A0u] at hn
 | .tup xs,u,gs,hn,hg,⟨us,e,h⟩=>⟨us,e,ResRs.frz hK (by simpa only[A0u] using hn) hg h⟩
 | .ow T fr t xs,u,gs,_,hg,⟨g,cs,e,_,hO,hA⟩=>by
   refine⟨j0y hO (hA.mapR (fun c x hr=>?_)) (fun b hb=>hg b (by rw[e,hb]; simp) _),rfl⟩;by_cases hf:D8 t=true
   ·exact RT.free hf hr
   ·have:(fr||D8 t)=fr:=by simp[hf]
    rw[this];exact RT.up hr (hK fr)
theorem ResRs.frz{K K':Bool->Nat->Prop}{w:World}(hK:∀fr k,K fr k->K' fr k):∀{as':List AV} {us:List Value} {gs:List (Option Nat)},r0I as'=true->(∀b,some b∈gs->∀fr,K' fr b)->ResRs K w as' us gs->ResRs K' w (Xv.frzs as') us []
 | [],us,gs,_,_,h=>⟨h.1,rfl⟩
 | a :: r,us,gs,hn,hg,⟨u,us',g1,g2,e1,e2,h1,h2⟩=>by
   simp only[r0I,ba] at hn;exact⟨u,us',[],[],e1,rfl,ResR.frz hK hn.1 (fun b hb=>hg b (by rw[e2]; simp[hb])) h1,ResRs.frz hK hn.2 (fun b hb=>hg b (by rw[e2]; simp[hb])) h2⟩
end
theorem IOR.up{K K':Nat->Prop}{w:World}{go:Option Nat}(hK:∀k,K k->K' k):∀{ps:List Par} {z:IOT ps},IOR K w go ps z->IOR K' w go ps z
 | [],_,_=>trivial
 | .io _ _ :: _,_,⟨b,cs,h1,h2,h3⟩=>⟨b,cs,h1,h2,RT.up h3 hK⟩
 | .dat _ :: r,_z,h=>IOR.up (ps:=r) hK h
 | .agg _ :: r,_z,h=>IOR.up (ps:=r) hK h
 | .fn _ _ :: r,_z,h=>IOR.up (ps:=r) hK h
 | .nof _ :: r,_z,h=>IOR.up (ps:=r) hK h
 | .os _ _ :: r,_z,h=>IOR.up (ps:=r) hK h
theorem ResR.lt{K:Bool->Nat->Prop}{w:World}:∀{a:AV} {u:Value} {gs:List (Option Nat)},ResR K w a u gs->∀b,some b∈gs->UF w b:=by
 suffices H:(∀(a:AV) {u:Value} {gs:List (Option Nat)},ResR K w a u gs->∀b,some b∈gs->UF w b) from fun {a}=>H a
 intro a;refine AV.rec (motive_1:=fun a=>∀{u:Value} {gs:List (Option Nat)},ResR K w a u gs->∀b,some b∈gs->UF w b) (motive_2:=fun l=>∀{us:List Value} {gs:List (Option Nat)},ResRs K w l us gs->∀b,some b∈gs->UF w b) ?_ ?_ ?_ ?_ ?_ ?_ ?_ ?_ ?_ ?_ ?_ ?_ ?_ ?_ a
 ·intro x u gs h b hb; rw[h.2] at hb; cases hb
 ·intro fr t x u gs h b hb; rw[h.2] at hb; cases hb
 ·intro xs ih u gs h b hb; obtain⟨us,_,h⟩:=h; exact ih h b hb
 ·intro xs ih u gs h b hb; obtain⟨us,_,h⟩:=h; exact ih h b hb
 ·intro _ _ u gs h; exact h.elim
 ·intro _ _ _ _ _ u gs h; exact h.elim
 ·intro _ _ u gs h; exact h.elim
 ·intro _ _ _ u gs h; exact h.elim
 ·intro T fr t xs u gs h b hb;obtain⟨g,cs,e,_,hO,_⟩:=h;rw[e] at hb;cases List.mem_singleton.1 hb;exact g0f hO
 ·intro _ _ u gs h; exact h.elim
 ·intro _ u gs h; exact h.elim
 ·intro T xs ih u gs h b hb;obtain⟨b0,us,gs',e,_,hB,h⟩:=h;rw[e] at hb;rcases List.mem_cons.1 hb with e | hb
  ·cases e; exact s0U hB
  ·exact ih h b hb
 ·intro us gs h b hb; rw[h.2] at hb; cases hb
 ·intro a r iha ihr us gs h b hb;obtain⟨u,us',g1,g2,_,e2,h1,h2⟩:=h;rw[e2] at hb;rcases List.mem_append.1 hb with hb | hb
  ·exact iha h1 b hb
  ·exact ihr h2 b hb
theorem k0S{P:Program}{f:FuncId}{ps:List Par}{ρ:Type}[Inhabited ρ]{F:w9 ps->Option ρ}{R:ρ->AV}{Z:ρ->IOT ps}(h:Ok P (lct f ps F R Z))(hv:giv ps=false:=by rfl)(hno:∀r,A0u (R r)=true:=by intro _; rfl):Ok P (lct f ps F (fun r=>frz (R r)) Z):=by
 refine⟨h.1,fun x hq w vs go K hK ha=>?_⟩;refine Calls.mono (h.2 x hq w vs go K hK ha) ?_;rintro en w' ⟨v,gs,e,hw,hN,hg,hR,hI⟩;have hlt:=ResR.lt hR;have hg:∀b,some b∈gs->w.heap.size<=b:=fun b hb=>(hg b hb).resolve_right (fun h=>by have h1:giv ps=true:=h.1; rw[hv] at h1; cases h1);refine⟨v,[],e,hw,trivial,(fun b hb=>nomatch hb),ResR.frz (fun fr k hk=>⟨hk.1,hk.2.1,by simp⟩) (hno _) (fun b hb fr=>⟨.inr (hg b hb),(hlt b hb).g,by simp⟩) hR,IOR.up (fun k hk=>⟨hk.1,hk.2.1,by simp,hk.2.2.2⟩) hI⟩
mutual
def fzA(id ver:Nat)(fr:Bool)(t:Ty)(xs:List (den t)):AV->Option AV
 | .os i v=>bif Nat.beq i id then(bif Nat.beq v ver then some (.d fr (.sl t) xs) else none) else some (.os i v)
 | .pel i v k s off=>bif Nat.beq i id then none else some (.pel i v k s off)
 | .agg l=>O3 .agg (v0q id ver fr t xs l)
 | .tup l=>O3 .tup (v0q id ver fr t xs l)
 | .fn f l=>O3 (.fn f) (v0q id ver fr t xs l)
 | .ptr i off=>bif Nat.beq i id then none else some (.ptr i off)
 | .v x=>some (.v x)
 | .d fr t x=>some (.d fr t x)
 | .ow T fr t x=>some (.ow T fr t x)
 | .ob T l=>some (.ob T l)
 | .og i=>bif Nat.beq i id then some (.d fr (.sl t) xs) else some (.og i)
 | .gel i k=>bif Nat.beq i id then none else some (.gel i k)
def v0q(id ver:Nat)(fr:Bool)(t:Ty)(xs:List (den t)):List AV->Option (List AV)
 | []=>some []
 | a :: r=>match fzA id ver fr t xs a with
   | some b=>O3 (b :: ·) (v0q id ver fr t xs r)
   | none=>none
end
def fzE(id ver:Nat)(fr:Bool)(t:Ty)(xs:List (den t)):List (Nat×Sl)->List (Nat×Sl)
 | []=>[]
 | (k,s) :: r=>match fzA id ver fr t xs s.a with
   | some b=>(k,⟨s.p,b⟩) :: fzE id ver fr t xs r
   | none=>fzE id ver fr t xs r
def fzO(id ver:Nat)(fr:Bool)(t:Ty)(xs:List (den t)):List (Nat×Ob)->Option (List (Nat×Ob))
 | []=>some []
 | (k,o) :: r=>bif Nat.beq k id then fzO id ver fr t xs r else(match o with
   | .box T cs=>match v0q id ver fr t xs cs with
     | some cs'=>O3 ((k,.box T cs') :: ·) (fzO id ver fr t xs r)
     | none=>none
   | o=>O3 ((k,o) :: ·) (fzO id ver fr t xs r))
def k0V:List (Nat×Sl)->Bool
 | []=>true
 | (k,_) :: r=>(r.all fun x=>!Nat.beq x.1 k)&&k0V r
def fzS(id:Nat)(st:St):Option St:=match lku st.o id with
 | some (.arr _ fr t xs ver)=>bif k0V st.e then(match fzO id ver (fr||D8 t) t xs st.o with
   | some o=>some ⟨fzE id ver (fr||D8 t) t xs st.e,o⟩
   | none=>none) else none
 | some (.grd _ _ fr t xs none)=>bif k0V st.e then(match fzO id 0 (fr||D8 t) (.sl t) xs st.o with
   | some o=>some ⟨fzE id 0 (fr||D8 t) (.sl t) xs st.e,o⟩
   | none=>none) else none
 | _=>none
section
variable {X:Cx} {G:Gh} {id ver:Nat} {fr:Bool} {t:Ty} {xs:List (den t)}
def fzG(G:Gh)(id:Nat)(o:List (Nat×Ob)):Gh:=⟨G.ρ,G.γ,fun k=>G.K k∨G.γ id=some k∨(H5 (lku G.o id)=true/\G.δ id k),G.w,o,G.B,G.δ⟩
theorem f0r{o:List (Nat×Ob)}:∀{l r:List (Nat×Ob)},fzO id ver fr t xs l=some r->∀i,(i=id->lku r i=none)/\(i≠id->match lku l i with
  | some (.box T cs)=>∃cs',v0q id ver fr t xs cs=some cs'/\lku r i=some (.box T cs')
  | some o=>lku r i=some o
  | none=>lku r i=none)
 | [],r,h,i=>by
   simp only[fzO,oi] at h;subst h;exact⟨fun _=>rfl,fun _=>rfl⟩
 | (k,ob) :: l,r,h,i=>by
   unfold fzO at h;rw[ce] at h;split at h
   ·rename_i hk;have hk:=nb hk;obtain⟨h1,h2⟩:=f0r (o:=o) h i;refine⟨h1,fun hi=>?_⟩;rw[lK,if_neg (by rw[hk]; exact fun e=>hi e.symm)];exact h2 hi
   ·rename_i hk;have hk:k≠id:=fun e=>hk (by rw[e]; exact Nat.beq_refl id);split at h
    ·rename_i T cs;split at h
     ·rename_i cs' hcs;obtain⟨z,hz,rfl⟩:=O9 h;obtain⟨h1,h2⟩:=f0r (o:=o) hz i;refine⟨fun hi=>?_,fun hi=>?_⟩
      ·rw[lK,if_neg (by rw[hi]; exact hk)]; exact h1 hi
      ·rw[lK,lK];by_cases e:k=i
       ·rw[if_pos e,if_pos e]; exact⟨cs',hcs,rfl⟩
       ·rw[if_neg e,if_neg e]; exact h2 hi
     ·cases h
    ·rename_i hnb;obtain⟨z,hz,rfl⟩:=O9 h;obtain⟨h1,h2⟩:=f0r (o:=o) hz i;refine⟨fun hi=>?_,fun hi=>?_⟩
     ·rw[lK,if_neg (by rw[hi]; exact hk)]; exact h1 hi
     ·rw[lK,lK];by_cases e:k=i
      ·rw[if_pos e,if_pos e];cases ob with
       | box T cs=>exact(hnb T cs rfl).elim
       | arr T f t' x v=>rfl
       | grd T Te f t' x h=>rfl
      ·rw[if_neg e,if_neg e]; exact h2 hi
def D0a(G:Gh)(id ver:Nat)(fr:Bool)(t:Ty)(xs:List (den t))(o':List (Nat×Ob)):Prop:=∀u,AVR G (.os id ver) u∨AVR G (.og id) u->AVR (fzG G id o') (.d fr (.sl t) xs) u
mutual
theorem s0o{o':List (Nat×Ob)}(hrow:D0a G id ver fr t xs o')(hz:fzO id ver fr t xs G.o=some o'):∀{a b:AV} {u:Value},fzA id ver fr t xs a=some b->AVR G a u->AVR (fzG G id o') b u
 | .os i v,b,u,h,hu=>by
   unfold fzA at h;rw[ce] at h;have hu':=hu;obtain⟨h0,T1,fr1,t1,xs1,ver1,h1,h2,h3⟩:=hu;split at h
   ·rename_i hi;have hi:=nb hi;subst hi;rw[ce] at h;split at h
    ·rename_i hv;have hv:=nb hv;subst hv;cases h;exact hrow u (.inl hu')
    ·cases h
   ·rename_i hi;cases h;have hi:i≠id:=fun e=>hi (by rw[e]; exact Nat.beq_refl id);have:=(f0r (o:=G.o) hz i).2 hi;rw[h1] at this;exact⟨h0,T1,fr1,t1,xs1,ver1,this,h2,h3⟩
 | .og i,b,u,h,hu=>by
   unfold fzA at h;rw[ce] at h;have hu':=hu;obtain⟨h0,⟨T1,Te1,fr1,t1,xs1,ho1,h1⟩,h2⟩:=hu;split at h
   ·rename_i hi;have hi:=nb hi;subst hi;cases h;exact hrow u (.inr hu')
   ·rename_i hi;cases h;have hi:i≠id:=fun e=>hi (by rw[e]; exact Nat.beq_refl id);have:=(f0r (o:=G.o) hz i).2 hi;rw[h1] at this;exact⟨h0,⟨T1,Te1,fr1,t1,xs1,ho1,this⟩,h2⟩
 | .gel i k,b,u,h,hu=>by
   unfold fzA at h;rw[ce] at h;obtain⟨⟨T1,Te1,fr1,t1,xs1,ho1,h1⟩,h2⟩:=hu;split at h
   ·cases h
   ·rename_i hi;cases h;have hi:i≠id:=fun e=>hi (by rw[e]; exact Nat.beq_refl id);have:=(f0r (o:=G.o) hz i).2 hi;rw[h1] at this;exact⟨⟨T1,Te1,fr1,t1,xs1,ho1,this⟩,h2⟩
 | .pel i v k s off,b,u,h,hu=>by
   unfold fzA at h;rw[ce] at h;obtain⟨h0,T1,fr1,t1,xs1,ver1,h1,h2,h3⟩:=hu;split at h
   ·cases h
   ·rename_i hi;cases h;have hi:i≠id:=fun e=>hi (by rw[e]; exact Nat.beq_refl id);have:=(f0r (o:=G.o) hz i).2 hi;rw[h1] at this;exact⟨h0,T1,fr1,t1,xs1,ver1,this,h2,h3⟩
 | .ptr i off,b,u,h,hu=>by
   unfold fzA at h;rw[ce] at h;obtain⟨⟨T1,cs1,h1⟩,h2⟩:=hu;split at h
   ·cases h
   ·rename_i hi;cases h;have hi:i≠id:=fun e=>hi (by rw[e]; exact Nat.beq_refl id);have:=(f0r (o:=G.o) hz i).2 hi;rw[h1] at this;obtain⟨cs',_,h3⟩:=this;exact⟨⟨T1,cs',h3⟩,h2⟩
 | .agg l,b,u,h,hu=>by
   unfold fzA at h;obtain⟨z,h1,rfl⟩:=O9 h;obtain⟨us,e,hu⟩:=hu;exact⟨us,e,h0v hrow hz h1 hu⟩
 | .tup l,b,u,h,hu=>by
   unfold fzA at h;obtain⟨z,h1,rfl⟩:=O9 h;obtain⟨us,e,hu⟩:=hu;exact⟨us,e,h0v hrow hz h1 hu⟩
 | .fn f l,b,u,h,hu=>by
   unfold fzA at h;obtain⟨z,h1,rfl⟩:=O9 h;obtain⟨us,e,hu⟩:=hu;exact⟨us,e,h0v hrow hz h1 hu⟩
 | .v x,b,u,h,hu=>by unfold fzA at h; cases h; exact hu
 | .d f t' x,b,u,h,hu=>by
   unfold fzA at h; cases h;exact RT.up hu (fun k hk=>⟨.inl hk.1,hk.2⟩)
 | .ow ..,b,u,h,hu=>hu.elim
 | .ob ..,b,u,h,hu=>hu.elim
theorem h0v{o':List (Nat×Ob)}(hrow:D0a G id ver fr t xs o')(hz:fzO id ver fr t xs G.o=some o'):∀{as' bs:List AV} {us:List Value},v0q id ver fr t xs as'=some bs->AVRs G as' us->AVRs (fzG G id o') bs us
 | [],bs,us,h,hu=>by
   simp only[v0q,oi] at h;subst h; exact hu
 | a :: r,bs,us,h,⟨u,us',e,h1,h2⟩=>by
   unfold v0q at h;split at h
   ·rename_i b hb;obtain⟨z,hz',rfl⟩:=O9 h;exact⟨u,us',e,s0o hrow hz hb h1,h0v hrow hz hz' h2⟩
   ·cases h
end
theorem u0o{T:TypeId}{f0:Bool}(S:Sat X G)(ho:lku G.o id=some (.arr T f0 t xs ver))(hf:fr=(f0||D8 t))(o':List (Nat×Ob)):D0a G id ver fr t xs o':=fun u hu=>by
 rcases hu with ⟨h0,T1,fr1,t1,xs1,ver1,h1,h2,h3⟩ | ⟨_,⟨_,_,_,_,_,_,h1⟩,_⟩
 ·rw[ho] at h1;cases h1;rw[h3 rfl];obtain⟨cs,hO,hA,hB⟩:=S.obs id _ ho;refine j0y hO (hA.mapR (fun c x hr=>?_)) (fun b hb=>⟨.inr (.inl hb),fun _=>hB b hb⟩);subst hf;by_cases hk:D8 t=true
  ·exact RT.free hk hr
  ·exact RT.up hr (fun k hk'=>⟨.inl hk'.1,fun e=>hk'.2 (by simpa [hk] using e)⟩)
 ·rw[ho] at h1; cases h1
theorem t0b{α:Type}{R:List Value->α->Prop}:∀{vs:List Value} {xs:List α},vs.length=xs.length->(∀(k:Nat) v x,vs[k]?=some v->xs[k]?=some x->R [v] x)->AllR R vs xs
 | [],[],_,_=>rfl
 | v :: vs,x :: xs,hl,h=>⟨[v],vs,rfl,h 0 v x rfl rfl,t0b (by simpa using hl) (fun k v' x' h1 h2=>h (k+1) v' x' h1 h2)⟩
 | [],_ :: _,hl,_=>by simp at hl
 | _ :: _,[],hl,_=>by simp at hl
theorem u0n{T Te:TypeId}{f0:Bool}{xs:List (List (den t))}(S:Sat X G)(ho:lku G.o id=some (.grd T Te f0 t xs none))(hf:fr=(f0||D8 t))(o':List (Nat×Ob)):D0a G id ver fr (.sl t) xs o':=fun u hu=>by
 rcases hu with ⟨h0,T1,fr1,t1,xs1,ver1,h1,h2,h3⟩ | ⟨_,_,h3⟩
 ·rw[ho] at h1; cases h1
 ·rw[h3];obtain⟨vs,bs,hO,hR,hB⟩:=S.obs id _ ho;refine j0y (t:=.sl t) hO (t0b hR.len (fun k v x hv hx=>?_)) (fun b hb=>⟨.inr (.inl hb),fun _=>hB b hb⟩);have hk:k<xs.length:=by
   rcases Nat.lt_or_ge k xs.length with h | h
   ·exact h
   ·rw[List.getElem?_eq_none h] at hx; cases hx
  obtain⟨cs,r1,r2,r3⟩:=hR.row k hk (fun h=>by cases h);have ev:vs.getD k (.bool false)=v:=by rw[gq,hv]; rfl
  have ex:xs.getD k []=x:=by rw[gq,hx]; rfl
  rw[ev,ex] at r1;rw[ex] at r2;refine j0y r1 (r2.mapR (fun c x hr=>?_)) (fun b hb=>⟨.inr (.inr ⟨by rw[ho]; rfl,(hR.blk b).2 ⟨k,hk,(fun h=>by cases h),hb⟩⟩),fun _=>r3 b hb⟩);subst hf;by_cases hk:D8 t=true
  ·exact RT.free hk hr
  ·exact RT.up hr (fun k hk'=>⟨.inl hk'.1,fun e=>hk'.2 (by simpa [hk] using e)⟩)
theorem x0U{ob0:Ob}{o':List (Nat×Ob)}(S:Sat X G)(ho:lku G.o id=some ob0)(hγ:∀k,G.γ id=some k->UF G.w k/\G.B<=k)(hrow:D0a G id ver fr t xs o')(hz:fzO id ver fr t xs G.o=some o')(hid:Nat.blt id 500000=true):Sat X (fzG G id o'):=by
 have hlk:=f0r (o:=G.o) hz;have hold:∀i ob,lku o' i=some ob->i≠id/\∃ob',lku G.o i=some ob':=fun i ob h=>by
  have hi:i≠id:=fun e=>by rw[(hlk i).1 e] at h; cases h
  refine⟨hi,?_⟩;have:=(hlk i).2 hi;cases hl:lku G.o i with
  | none=>rw[hl] at this; simp only at this; rw[this] at h; cases h
  | some ob'=>exact⟨ob',rfl⟩
 have hgb:∀i,H5 (lku o' i)=true->i≠id/\H5 (lku G.o i)=true:=fun i hg=>by
  obtain⟨T,Te,f,t,xs,hole,e⟩:=f0m hg;obtain⟨hi,ob',h1⟩:=hold i _ e;refine⟨hi,?_⟩;have:=(hlk i).2 hi;rw[h1] at this ⊢;cases ob' with
  | box T cs=>obtain⟨cs',_,e2⟩:=this; rw[e] at e2; cases e2
  | arr T f t x v=>simp only at this; rw[e] at this; cases this
  | grd T Te f t x h=>rfl
 refine⟨S.base,S.os,S.tape,S.output,S.size,S.block,?_,?_,?_,?_,?_,?_,?_,?_⟩
 ·intro i ob h;obtain⟨hi,ob',h1⟩:=hold i ob h;have:=(hlk i).2 hi;rw[h1] at this;have hob:=S.obs i ob' h1;cases ob' with
  | box T1 cs1 =>
    obtain⟨cs',e1,e2⟩:=this;have h:lku o' i=some ob:=h;rw[e2] at h;cases h;obtain⟨b,us,g1,g2,g3,g4⟩:=hob;exact⟨b,us,g1,g2,g3,h0v hrow hz e1 g4⟩
  | arr T1 fr1 t1 xs1 ver1 =>
    simp only at this;have h:lku o' i=some ob:=h;rw[this] at h;cases h;obtain⟨cs,g1,g2,g3⟩:=hob;exact⟨cs,g1,g2.mapR (fun c x hr=>RT.up hr (fun k hk=>⟨.inl hk.1,hk.2⟩)),g3⟩
  | grd T1 Te1 fr1 t1 xs1 hole1 =>
    simp only at this;have h:lku o' i=some ob:=h;rw[this] at h;cases h;obtain⟨vs,bs,g1,g2,g3⟩:=hob;refine⟨vs,bs,g1,⟨g2.len,g2.blk,g2.inj,fun k hk hh=>?_,g2.one⟩,g3⟩;obtain⟨cs,r1,r2,r3⟩:=g2.row k hk hh;exact⟨cs,r1,r2.mapR (fun c x hr=>RT.up hr (fun k hk=>⟨.inl hk.1,hk.2⟩)),r3⟩
 ·intro i i' ob ob' b h h' hb hb';obtain⟨_,o1,h1⟩:=hold i ob h;obtain⟨_,o2,h2⟩:=hold i' ob' h';exact S.inj i i' o1 o2 b h1 h2 hb hb'
 ·intro i ob b h hb hk;obtain⟨hi,o1,h1⟩:=hold i ob h;rcases hk with hk | hk | ⟨hg,hk⟩
  ·exact S.imm i o1 b h1 hb hk
  ·exact hi (S.inj i id o1 _ b h1 ho hb hk)
  ·exact(S.sep id b hk hg).2.2.1 i o1 h1 hb
 ·intro i ob b h hb;obtain⟨_,o1,h1⟩:=hold i ob h;exact S.own i o1 b h1 hb
 ·intro k hk;rcases hk with hk | hk | ⟨hg,hk⟩
  ·exact S.klt k hk
  ·exact(hγ k hk).1.g
  ·exact(S.duf hk hg).g
 ·intro k hk;rcases hk with hk | hk | ⟨hg,hk⟩
  ·exact S.kfrom k hk
  ·exact .inr (by rw[<- S.base.1]; exact(hγ k hk).2)
  ·obtain⟨T,Te,f,t,xs,hole,e⟩:=f0m hg;obtain⟨vs,bs,_,hR,_⟩:=S.obs id _ e;obtain⟨j,hj,hh,hb⟩:=(hR.blk k).1 hk;obtain⟨_,_,_,h3⟩:=hR.row j hj hh;exact .inr (by rw[<- S.base.1]; exact h3 k hb)
 ·intro i b hb hg;obtain⟨hi,hg⟩:=hgb i hg;obtain⟨s1,s2,s3,s4⟩:=S.sep i b hb hg;refine⟨s1,?_,fun j o hj hjb=>?_,fun j hj hgj=>s4 j hj (hgb j hgj).2⟩
  ·rintro(hk | hk | ⟨hg',hk⟩)
   ·exact s2 hk
   ·exact s3 id ob0 ho hk
   ·exact hi (s4 id hk hg')
  ·obtain⟨_,o1,h1⟩:=hold j o hj;exact s3 j o1 h1 hjb
 ·intro i v hv;obtain⟨⟨T1,cs1,h1⟩,h2⟩:=S.pin i v hv;have hi:500000+i≠id:=fun e=>by
   have:id<500000:=by simpa using hid
   omega
  have:=(hlk (500000+i)).2 hi;rw[h1] at this;obtain⟨cs',_,e⟩:=this;exact⟨⟨T1,cs',e⟩,h2⟩
theorem o0q:∀{e:List (Nat×Sl)},k0V e=true->∀{k:Nat} {s:Sl},lku (fzE id ver fr t xs e) k=some s->∃a,lku e k=some ⟨s.p,a⟩/\fzA id ver fr t xs a=some s.a
 | [],_,k,s,h=>by cases h
 | (j,s0) :: r,hn,k,s,h=>by
   simp only[k0V,ba,List.all_eq_true,Bool.not_eq_true'] at hn;unfold fzE at h;split at h
   ·rename_i b hb;rw[lK] at h ⊢;split at h
    ·rename_i e;cases h;exact⟨s0.a,by rw[if_pos e],hb⟩
    ·rename_i e;rw[if_neg e];exact o0q hn.2 h
   ·obtain⟨a,h1,h2⟩:=o0q hn.2 h;refine⟨a,?_,h2⟩;rw[lK];split
    ·rename_i e;exfalso;have:∀{e:List (Nat×Sl)},(∀x∈e,Nat.beq x.1 j=false)->lku e j=none:=by
      intro e
      induction e with
      | nil=>intro _; rfl
      | cons y r ih =>
        intro hy;obtain⟨d,v⟩:=y;rw[lK,if_neg]
        ·exact ih (fun x hx=>hy x (List.mem_cons_of_mem _ hx))
        ·intro e';have:=hy (d,v) List.mem_cons_self;rw[e'] at this;simp at this
     rw[<- e,this hn.1] at h1;cases h1
    ·exact h1
end
theorem z0x{X:Cx}{st st':St}{id:Nat}(h:fzS id st=some st')(hid:Nat.blt id 500000=true){G:Gh}{a:Act}(S:Sat X G)(ho:G.o=st.o)(hE:EnvR X.n G st.e a):∃G',Sat X G'/\G'.o=st'.o/\G'.w=G.w/\EnvR X.n G' st'.e a:=by
 unfold fzS at h;split at h
 ·rename_i T f0 t xs ver hl;rw[ce] at h;split at h
  ·rename_i hn;split at h
   ·rename_i o' hz;cases h;rw[<- ho] at hl hz;have hrow:=u0o S hl rfl o';obtain⟨cs0,hO0,hA0,hB0⟩:=S.obs id _ hl;refine⟨fzG G id o',x0U S hl (fun k hk=>⟨by rw[hk] at hO0; exact g0f hO0,hB0 k hk⟩) hrow hz hid,rfl,rfl,hE.defers,hE.size,fun k s hk=>?_⟩;obtain⟨b,h1,h2⟩:=o0q hn hk;obtain⟨h3,h4⟩:=hE.val k _ h1;exact⟨fun hp=>s0o hrow hz h2 (h3 hp),h4⟩
   ·cases h
  ·cases h
 ·rename_i T Te f0 t xs hl;rw[ce] at h;split at h
  ·rename_i hn;split at h
   ·rename_i o' hz;cases h;rw[<- ho] at hl hz;have hrow:=u0n (ver:=0) S hl rfl o';obtain⟨vs0,bs0,hO0,hR0,hB0⟩:=S.obs id _ hl;refine⟨fzG G id o',x0U S hl (fun k hk=>⟨by rw[hk] at hO0; exact g0f hO0,hB0 k hk⟩) hrow hz hid,rfl,rfl,hE.defers,hE.size,fun k s hk=>?_⟩;obtain⟨b,h1,h2⟩:=o0q hn hk;obtain⟨h3,h4⟩:=hE.val k _ h1;exact⟨fun hp=>s0o hrow hz h2 (h3 hp),h4⟩
   ·cases h
  ·cases h
 ·cases h
theorem fz{X:Cx}{st:St}{c:Code}{Q:Exit->Act->World->Prop}(id:Nat)(st':St)(h:fzS id st=some st')(hid:Nat.blt id 500000=true)(k:VX X st' c Q):VX X st c Q:=fun G a S ho hE=>by
 obtain⟨G',S',ho',hw',hE'⟩:=z0x h hid S ho hE;have:=k G' a S' ho' hE'
 rwa [hw'] at this
theorem D0R{X:Cx}{st:St}{c:Code}{Q:Exit->Act->World->Prop}{ρ:Type}{r:ρ}(H:none=some r):VX X st c Q:=by cases H
def A0s:List Par->Bool
 | []=>true
 | .dat (.int _) :: r=>A0s r
 | .dat .bool :: r=>A0s r
 | .dat .str :: r=>A0s r
 | _=>false
def sc:(ps:List Par)->w9 ps->List Value
 | [],_=>[]
 | .dat (.int k) :: r,x=>.int k x.1 :: sc r x.2
 | .dat .bool :: r,x=>.bool x.1 :: sc r x.2
 | .dat .str :: r,x=>.string x.1 :: sc r x.2
 | _ :: r,x=>sc r x.2
theorem u0b{K:Nat->Prop}{w:World}:∀{ps:List Par} {x:w9 ps} {vs:List Value} {go:Option Nat},A0s ps=true->ArgsR K w go ps x vs->vs=sc ps x/\go=none
 | [],x,vs,go,_,h=>h
 | .dat (.int k) :: r,x,vs,go,hs,⟨v,us,e,h1,h⟩=>by
   obtain⟨h2,h3⟩:=u0b (ps:=r) hs h;refine⟨?_,h3⟩;rw[e,h2];have h1:=h1.1;simp only[List.cons.injEq,and_true] at h1;rw[h1]; rfl
 | .dat .bool :: r,x,vs,go,hs,⟨v,us,e,h1,h⟩=>by
   obtain⟨h2,h3⟩:=u0b (ps:=r) hs h;refine⟨?_,h3⟩;rw[e,h2];have h1:[v]=_:=h1;simp only[List.cons.injEq,and_true] at h1;rw[h1]; rfl
 | .dat .str :: r,x,vs,go,hs,⟨v,us,e,h1,h⟩=>by
   obtain⟨h2,h3⟩:=u0b (ps:=r) hs h;refine⟨?_,h3⟩;rw[e,h2];have h1:=h1.1;simp only[List.cons.injEq,and_true] at h1;rw[h1]; rfl
theorem g0G{K:Nat->Prop}{w:World}{go:Option Nat}:∀{ps:List Par} (z:IOT ps),A0s ps=true->IOR K w go ps z
 | [],_,_=>trivial
 | .dat (.int _) :: r,z,h=>g0G (ps:=r) z h
 | .dat .bool :: r,z,h=>g0G (ps:=r) z h
 | .dat .str :: r,z,h=>g0G (ps:=r) z h
theorem x0M{P:Program}{f:FuncId}{ps:List Par}{ρ:Type}[Inhabited ρ]{F:w9 ps->Option ρ}{t:Ty}{D:ρ->den t}{Z:ρ->IOT ps}(hs:A0s ps=true)(he:d0Q P f=true)
  (h:∀x r w,F x=some r->wfs ps x->Calls P f (sc ps x).toArray w fun en w'=>∃v,en=.returned v/\Ext w w'/\RT (fun _=>False) w' t [v] (D r)):Ok P (lct f ps F (fun r=>.d true t (D r)) Z):=by
 refine⟨he,fun x hq w vs go K hK ha=>?_⟩;obtain⟨rfl,rfl⟩:=u0b hs ha;refine Calls.mono (h x _ w (r0l hq) ha.wfs) ?_;rintro en w' ⟨v,e,hE,hR⟩;exact⟨v,[],e,WE.of_ext hE,trivial,(fun b hb=>nomatch hb),⟨RT.up hR (fun k hk=>hk.elim),rfl⟩,g0G _ hs⟩
theorem B0W{K:Nat->Prop}{w:World}{k:IntKind}{x:Int}(h:lo k<=x/\x<=hi k):RT K w (.int k) [.int k x] x:=⟨rfl,h⟩
theorem B0V{K:Nat->Prop}{w:World}{s:ByteArray}(h:s.size<=9223372036854775807):RT K w .str [.string s] s:=⟨rfl,h⟩
end Go.Proofs.Xv
end
section
namespace Go.Proofs.Xl
instance F0U{α β:Type}[Inhabited α]:Inhabited (α ⊕ β):=⟨.inl default⟩
def isL{α β:Type}:Option (α ⊕ β)->Bool
 | some (.inl _)=>true
 | _=>false
def isR{α β:Type}:Option (α ⊕ β)->Bool
 | some (.inr _)=>true
 | _=>false
def vL{α β:Type}[Inhabited α]:Option (α ⊕ β)->α
 | some (.inl a)=>a
 | _=>default
def vR{α β:Type}[Inhabited β]:Option (α ⊕ β)->β
 | some (.inr b)=>b
 | _=>default
def two{α β γ:Type}(f:α->γ)(g:β->γ):α ⊕ β->γ
 | .inl a=>f a
 | .inr b=>g b
end Go.Proofs.Xl
namespace Go.Proofs.Xv
open Go Go.RowKit Go.Proofs.Sv Go.Proofs.Xl
def C0w(f:FuncId)(ps:List Par){α β:Type}[Inhabited α](F:w9 ps->Option (α ⊕ β))(R:α->AV)(z:IOT ps):Ct:=⟨f,ps,fun x=>⟨isL (F x)=true,R (vL (F x)),z⟩⟩
def C0v(f:FuncId)(ps:List Par){α β:Type}[Inhabited β](F:w9 ps->Option (α ⊕ β))(R:β->AV)(z:IOT ps):Ct:=⟨f,ps,fun x=>⟨isR (F x)=true,R (vR (F x)),z⟩⟩
theorem E0v{P:Program}{f:FuncId}{ps:List Par}{α β:Type}[Inhabited (α ⊕ β)][Inhabited α]{F:w9 ps->Option (α ⊕ β)}{RA:α->AV}{RB:β->AV}{z:IOT ps}(h:Ok P (lct f ps F (two RA RB) (fun _=>z))):Ok P (C0w f ps F RA z):=by
 refine⟨h.1,fun x hq w vs go K hK ha=>?_⟩;have hq:isL (F x)=true:=hq;cases hF:F x with
 | none=>rw[hF] at hq; cases hq
 | some s =>
   cases s with
   | inr b=>rw[hF] at hq; cases hq
   | inl a =>
     have:=h.2 x (show(F x).isSome=true by rw[hF]; rfl) w vs go K hK ha;simp only[lct,C0w] at this ⊢;rw[hF] at this ⊢;exact this
theorem E0t{P:Program}{f:FuncId}{ps:List Par}{α β:Type}[Inhabited (α ⊕ β)][Inhabited β]{F:w9 ps->Option (α ⊕ β)}{RA:α->AV}{RB:β->AV}{z:IOT ps}(h:Ok P (lct f ps F (two RA RB) (fun _=>z))):Ok P (C0v f ps F RB z):=by
 refine⟨h.1,fun x hq w vs go K hK ha=>?_⟩;have hq:isR (F x)=true:=hq;cases hF:F x with
 | none=>rw[hF] at hq; cases hq
 | some s =>
   cases s with
   | inl b=>rw[hF] at hq; cases hq
   | inr a =>
     have:=h.2 x (show(F x).isSome=true by rw[hF]; rfl) w vs go K hK ha;simp only[lct,C0v] at this ⊢;rw[hF] at this ⊢;exact this
theorem sp{X:Cx}{st:St}{c:Code}{Q:Exit->Act->World->Prop}{ρ:Type}{r:ρ}{b:Bool}{e1 e2:Option ρ}(H:(if b=true then e1 else e2)=some r)(ht:e1=some r->VX X st c Q)(hf:e2=some r->VX X st c Q):VX X st c Q:=by
 cases b with
 | true=>exact ht H
 | false=>exact hf H
end Go.Proofs.Xv
end
section
namespace Go.Proofs.Xv
open Go Go.RowKit Go.Proofs.Sv Go.Proofs.Xl
theorem B0S{X:Cx}{st:St}{c:Code}{Q:Exit->Act->World->Prop}{tp tc tb:Nat}{z:Int}(hp:lku st.e tp=some ⟨[],.v (.pointer none)⟩)(hc:lku st.e tc=some ⟨[],.d true (.int .i64) z⟩)(hn:(Nat.beq tp tc||Nat.beq tb tp||Nat.beq tb tc)=false)
  (h:∀w Q',E0c X.n .normal ((tb,.bool false) :: (tp,.pointer none) :: (tc,.int .i64 z) :: []) w Q'->VS X.P X.n c ((tp,.pointer none) :: (tc,.int .i64 z) :: []) w Q')
  (k:FX X ⟨[(tp,⟨[],.v (.pointer none)⟩),(tc,⟨[],.d true (.int .i64) z⟩),(tb,⟨[],.d true .bool false⟩)],st.o⟩ .normal Q):VX X st c Q:=by
 intro G a S ho hE;have h1:a.tmps.getD tp undef=.pointer none:=(hE.val tp _ hp).1 (fun _ h=>nomatch h);have h2:RT (rg G true) G.w (.int .i64) [a.tmps.getD tc undef] z:=(hE.val tc _ hc).1 (fun _ h=>nomatch h);have h3:a.tmps.getD tc undef=.int .i64 z:=by simpa using h2.1
 have ne1:tp≠tc:=fun e=>by subst e; simp at hn
 have ne2:tb≠tp:=fun e=>by subst e; simp at hn
 have ne3:tb≠tc:=fun e=>by subst e; simp at hn
 refine h G.w Q (fun a' ha'=>k G a' S ho ?_) a ⟨hE.defers,hE.size,fun t v ht=>?_⟩
 ·refine⟨ha'.1,ha'.2.1,fun t s ht=>⟨fun _=>?_,fun hn=>absurd (fun x hx=>?_) hn⟩⟩
  ·rw[lK] at ht;split at ht
   ·rename_i e; cases ht; subst e;exact ha'.2.2 _ _ (by rw[Y5,if_neg ne2,Y5,if_pos rfl])
   ·rw[lK] at ht;split at ht
    ·rename_i e; cases ht; subst e;show RT (rg G true) G.w (.int .i64) [a'.tmps.getD tc undef] z;rw[ha'.2.2 tc (.int .i64 z) (by rw[Y5,if_neg ne3,Y5,if_neg ne1,Y5,if_pos rfl])];exact⟨rfl,h2.2⟩
    ·rw[lK] at ht;split at ht
     ·rename_i e; cases ht; subst e;show RT (rg G true) G.w .bool [a'.tmps.getD tb undef] false;rw[ha'.2.2 tb (.bool false) (by rw[Y5,if_pos rfl])];exact rfl
     ·cases ht
  ·rw[lK] at ht;split at ht
   ·cases ht; exact nomatch hx
   ·rw[lK] at ht;split at ht
    ·cases ht; exact nomatch hx
    ·rw[lK] at ht;split at ht
     ·cases ht; exact nomatch hx
     ·cases ht
 ·rw[Y5] at ht;split at ht
  ·rename_i e; cases ht; subst e; exact h1
  ·rw[Y5] at ht;split at ht
   ·rename_i e; cases ht; subst e; exact h3
   ·cases ht
theorem y0k{P:Program}{n:Nat}{e:Env}{w:World}{Q:Exit->Act->World->Prop}{ops:Array Oper}{l:List Oper}{d:Nat}{b:Bool}(hb:b=false)(h:VO P n ops l ((d,.bool false) :: e) w Q):VO P n ops l ((d,.bool b) :: e) w Q:=by subst hb; exact h
abbrev Z(e:List (Nat×Sl))(o:List (Nat×Ob)):St:=⟨e,o⟩
abbrev R(i:Nat):AV:=.ptr i 0
abbrev O(i:Nat):AV:=.os i 0
abbrev A(T:TypeId)(t:Ty)(xs:List (den t))(v:Nat):Ob:=.arr T true t xs v
abbrev K(T:TypeId)(t:Ty)(x:den t):Ob:=.box T (u1 false t x)
class HG(P:Program)(Γ:outParam m9):Prop where
 h:x6 P Γ
class HT(P:Program)(T:outParam (List Ct)):Prop where
 h:∀c∈T,Ok P c
def m0r(st:St):List Nat:=st.e.map Prod.fst
section
variable {P:Program} {n:Nat} {y:World×(Nat->Prop)×(Nat->Prop)×Option (Nat×Value)×Nat} {st:St} {Q:Exit->Act->World->Prop} {Γ:m9} {T:List Ct} {ρ α:Type} {r:ρ}
theorem zA[hΓ:HG P Γ][hT:HT P T][hm:K1 P](st':St){id:Nat}{l:List Oper}{b:Bool}(hc:FX (cx P n y) st' .normal Q)(h:U1 b n Γ T l (m0r st') st=some (True,st'):=by kernel_rfl):VX (cx P n y) st (.region id l.toArray b) Q:=za hΓ.h hT.h _ st' h hc
theorem zB[hΓ:HG P Γ][hT:HT P T][hm:K1 P](st':St){V:Prop}[Decidable V]{e:Option ρ}{id:Nat}{l:List Oper}{b:Bool}(H:gd V e=some r)(hc:e=some r->FX (cx P n y) st' .normal Q)(h:U1 b n Γ T l (m0r st') st=some (V,st'):=by kernel_rfl):VX (cx P n y) st (.region id l.toArray b) Q:=zb hΓ.h hT.h _ st' H h hc
theorem zD[hΓ:HG P Γ][hT:HT P T][hm:K1 P](S:α->St){V:Prop}[Decidable V]{x:α}{f:α->Option ρ}{id:Nat}{l:List Oper}{b:Bool}(H:gd V (lt x f)=some r)(hc:∀v,f v=some r->FX (cx P n y) (S v) .normal Q)(h:U1 b n Γ T l (m0r (S x)) st=some (V,S x):=by kernel_rfl):VX (cx P n y) st (.region id l.toArray b) Q:=zd hΓ.h hT.h _ S H h hc
theorem qA[hΓ:HG P Γ][hT:HT P T][hm:K1 P](st':St){id:Nat}{l:List Oper}{b:Bool}{c:Code}(hc:VX (cx P n y) st' c Q)(h:U1 b n Γ T l (m0r st') st=some (True,st'):=by kernel_rfl):VX (cx P n y) st (.seq (.region id l.toArray b) c) Q:=qa hΓ.h hT.h _ st' h hc
theorem qB[hΓ:HG P Γ][hT:HT P T][hm:K1 P](st':St){V:Prop}[Decidable V]{e:Option ρ}{id:Nat}{l:List Oper}{b:Bool}{c:Code}(H:gd V e=some r)(hc:e=some r->VX (cx P n y) st' c Q)(h:U1 b n Γ T l (m0r st') st=some (V,st'):=by kernel_rfl):VX (cx P n y) st (.seq (.region id l.toArray b) c) Q:=qb hΓ.h hT.h _ st' H h hc
theorem qC[hΓ:HG P Γ][hT:HT P T][hm:K1 P](S:α->St){x:α}{f:α->Option ρ}{id:Nat}{l:List Oper}{b:Bool}{c:Code}(H:lt x f=some r)(hc:∀v,f v=some r->VX (cx P n y) (S v) c Q)(h:U1 b n Γ T l (m0r (S x)) st=some (True,S x):=by kernel_rfl):VX (cx P n y) st (.seq (.region id l.toArray b) c) Q:=qc hΓ.h hT.h _ S H h hc
theorem qD[hΓ:HG P Γ][hT:HT P T][hm:K1 P](S:α->St){V:Prop}[Decidable V]{x:α}{f:α->Option ρ}{id:Nat}{l:List Oper}{b:Bool}{c:Code}(H:gd V (lt x f)=some r)(hc:∀v,f v=some r->VX (cx P n y) (S v) c Q)(h:U1 b n Γ T l (m0r (S x)) st=some (V,S x):=by kernel_rfl):VX (cx P n y) st (.seq (.region id l.toArray b) c) Q:=qd hΓ.h hT.h _ S H h hc
theorem cD{X:Cx}{c:Operand}{a d:Code}{b:Bool}{e1 e2:Option ρ}(H:(if b=true then e1 else e2)=some r)(ht:e1=some r->VX X st a Q)(hf:e2=some r->VX X st d Q)(h:rdB st c=some b:=by kernel_rfl):VX X st (.cond c a d) Q:=cd H h ht hf
theorem jN{X:Cx}{σ:Type}(r:ρ)(E:σ->St)(J:σ->Option ρ){a d:Code}(h:∀s,J s=some r->VX X (E s) d Q)(k:∀Q',(∀{s st'},J s=some r->(h:v0K st' (E s)=some (E s):=by kernel_rfl)->FX X st' .normal Q')->(∀{st' id},FX X st' (.exit id) Q->FX X st' (.exit id) Q')->(∀{st'},FX X st' .ret Q->FX X st' .ret Q')->VX X st a Q'):VX X st (.seq a d) Q:=jn r E J h (fun Q' n e t=>k Q' (fun H h=>n H h) e t)
theorem lX{X:Cx}{σ:Type}(E:σ->St)(s0:σ){F:(σ->Option ρ)->σ->Option ρ}{body:Code}(H:lp F s0=some r)
 (round:∀Q' (g:σ->Option ρ),(∀{s st'},g s=some r->(h:v0K st' (E s)=some (E s):=by kernel_rfl)->FX X st' .normal Q')->(∀{st' id},FX X st' (.exit id) Q->FX X st' (.exit id) Q')->(∀{st'},FX X st' .ret Q->FX X st' .ret Q')->∀s,F g s=some r->VX X (E s) body Q') (h0:v0K st (E s0)=some (E s0):=by kernel_rfl):VX X st (.loop body) Q:=lx E s0 H h0 (fun Q' g n e t s H=>round Q' g (fun H h=>n H h) e t s H)
def fzM:List Nat->St->Option St
 | [],st=>some st
 | i :: r,st=>bif Nat.blt i 500000 then(fzS i st).bind (fzM r) else none
theorem G0v{X:Cx}{c:Code}{Q:Exit->Act->World->Prop}:∀(ids:List Nat) {st st':St},fzM ids st=some st'->VX X st' c Q->VX X st c Q
 | [],st,st',h,k=>by cases h; exact k
 | i :: r,st,st',h,k=>by
   unfold fzM at h;cases hid:Nat.blt i 500000 with
   | false=>rw[hid] at h; cases h
   | true =>
     rw[hid] at h;cases hz:fzS i st with
     | none=>rw[hz] at h; cases h
     | some s =>
       rw[hz] at h;exact fz i s hz hid (G0v r h k)
theorem fZs{X:Cx}{c:Code}(ids:List Nat)(st':St)(k:VX X st' c Q)(h:fzM ids st=some st':=by kernel_rfl):VX X st c Q:=G0v ids h k
theorem fZ{X:Cx}{c:Code}(id:Nat)(st':St)(k:VX X st' c Q)(h:fzS id st=some st':=by kernel_rfl)(hid:Nat.blt id 500000=true:=by kernel_rfl):VX X st c Q:=fz id st' h hid k
end
def G0G(X:Cx)(Γ:m9)(rs:List ResultVar)(ps:List Par){ρ:Type}(R:ρ->AV)(Z:ρ->IOT ps)(r:ρ)(x:Exit)(Q:Exit->Act->World->Prop):Prop :=
 ∀{st:St} {e:ρ},some e=some r->(h:C0C Γ st rs ps (R e) (Z e)=some (R e,Z e):=by kernel_rfl)->FX X st x Q
theorem okL{P:Program}{Γ:m9}[hΓ:HG P Γ]{f:FuncId}{ps:List Par}{ρ:Type}[Inhabited ρ]{F:w9 ps->Option ρ}{R:ρ->AV}{Z:ρ->IOT ps}{fn:Func}{code:Code}{n:Nat}(rs:List ResultVar)
  (hf:P.funcs[f]?=some fn) (hn:fn.ntmps=n) (hr:fn.results=rs.toArray)
  (h:∀y x r,F x=some r->∀Q,G0G (cx P n y) Γ rs ps R Z r .normal Q->G0G (cx P n y) Γ rs ps R Z r .ret Q->VX (cx P n y) ⟨O8 0 ps x,I1 0 ps x⟩ code Q)
  (hb:fn.body=some code:=by rfl) (he:d0Q P f=true:=by kernel_rfl) (hle:(Nat.ble ps.length n&&Z8 ps)=true:=by rfl):Ok P (lct f ps F R Z) :=
 okl hΓ.h rs hf hn hb hr he hle (fun y x r H Q a b=>h y x r H Q (fun H h=>a H h) (fun H h=>b H h))
end Go.Proofs.Xv
end
