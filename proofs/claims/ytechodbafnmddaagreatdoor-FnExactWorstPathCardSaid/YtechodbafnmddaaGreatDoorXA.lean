/- A logic of symbolic frames: each step of a function's code is taken by one lemma, the frame is a short list of the slots that are known. Over any program. -/
import Derived.WalkKit
import Derived.Deep.LoopGhost
import Derived.IntWalk
import Derived.Deep.Quiet
import Derived.Laws.CopyRow
import Derived.ProofKit
import Derived.ChangeArms
import Derived.Carry
import Derived.Deep.RegionHeld3
import Derived.Laws.MakeOwn
import Derived.Laws.BytesArg
import Derived.Maps.AppendAt
import Derived.Deep.Upon
import Derived.Lib.LaidTab
import Derived.Lib.ItoaNum
import Derived.Laws.StructEq
import Derived.Laws.Pointers
import Derived.Lib.Join
import Derived.Lib.ItoaLen
import Derived.Laws.Slices
set_option maxHeartbeats 0
namespace Go.Proofs
theorem oi {c:Type _} (a b:c):(some a=some b)=(a=b):=Option.some.injEq a b
theorem pj {e f:Type _} (a:e) (b:f) (c:e) (d:f):((a,b)=(c,d))=(a=c∧b=d):=Prod.mk.injEq a b c d
theorem ba (a b:Bool):((a&&b)=true)=(a=true∧b=true):=Bool.and_eq_true a b
theorem nb {n m:Nat} (h:n.beq m=true):n=m:=Nat.eq_of_beq_eq_true h
theorem ce {a:Sort _} (b:Bool) (t e:a):(bif b then t else e)=if b=true then t else e:=cond_eq_ite b t e
theorem gq {b:Type _} {l:List b} {i:Nat} {a:b}:l.getD i a=l[i]?.getD a:=List.getD_eq_getElem?_getD
theorem dq {p:Prop} [Decidable p]:(decide p=true)=p:=decide_eq_true_eq
theorem oo {a b:Prop} (h:a:=by omega) (k:b:=by omega):a∧b:=⟨h,k⟩
end Go.Proofs
section
namespace Go.Proofs.Sv
open Go Go.RowKit
abbrev A9:=List (Nat×Value)
def lk:A9->Nat->Option Value
 | [],_=>none
 | (d,v) :: e,t=>cond (Nat.beq d t) (some v) (lk e t)
def ev(e:A9):Operand->Option Value
 | .tmp t=>lk e t
 | .const v=>some v
 | .global g=>some (.pointer (some ⟨g,0,none⟩))
 | .func f=>some (.func (.func f) #[] #[])
def evl(e:A9):List Operand->Option (List Value)
 | []=>some []
 | x :: r=>match ev e x,evl e r with | some v,some vs=>some (v :: vs) | _,_=>none
def Agree(n:Nat)(e:A9)(a:Act):Prop:=a.defers=[]/\a.tmps.size=n/\∀t v,lk e t=some v->a.tmps.getD t undef=v
theorem Ju(d:Nat)(v:Value)(e:A9)(t:Nat):lk ((d,v) :: e) t=if d=t then some v else lk e t:=by
 show cond (Nat.beq d t) (some v) (lk e t)=_
 simp_all
theorem Agree.ev{n:Nat}{e:A9}{a:Act}(h:Agree n e a){x:Operand}{v:Value}(b:ev e x=some v):a.eval x=v:=by
 cases x with
 | tmp t=>exact h.2.2 t v b
 | const u=>grind[Sv.ev,Act.eval]
 | global g=>grind[Sv.ev,Act.eval]
 | func f=>grind[Sv.ev,Act.eval]
theorem Agree.evl{n:Nat}{e:A9}{a:Act}(h:Agree n e a):∀{xs:List Operand} {vs:List Value},evl e xs=some vs->xs.map a.eval=vs
 | [],vs,hx=>by grind[Sv.evl]
 | x :: r,vs,hx=>by
   unfold Sv.evl at hx;split at hx
   ·rename_i v d c b;simp at hx; subst hx;simp[h.ev c,h.evl b]
   grind
theorem Agree.put{n:Nat}{e:A9}{a:Act}(h:Agree n e a)(d:Nat)(g:Nat.blt d n=true)(v:Value):Agree n ((d,v) :: e) (a.put (some d) v):=by
 have f:d<a.tmps.size:=by rw[h.2.1]; simpa using g
 refine⟨h.1,?_,fun t u c=>?_⟩
 ·simp[Act.put,h.2.1]
 ·rw[Ju] at c;by_cases b:d=t
  ·subst b;simp only[if_true,oi] at c;subst c;simp[Act.put,f]
  ·simp only[b,if_false] at c;have:=h.2.2 t u c;simp only[Act.put]
   simp_all
def Jv(e' e:A9):Prop:=∀t v,lk e' t=some v->lk e t=some v
theorem Agree.sub{n:Nat}{e e':A9}{a:Act}(h:Agree n e a)(b:Jv e' e):Agree n e' a:=⟨h.1,h.2.1,fun t v c=>h.2.2 t v (b t v c)⟩
def VS(P:Program)(n:Nat)(c:Code)(e:A9)(w:World)(Q:Exit->Act->World->Prop):Prop:=∀a,Agree n e a->c.wp P Q a w
def VO(P:Program)(n:Nat)(ops:Array Oper)(l:List Oper)(e:A9)(w:World)(Q:Exit->Act->World->Prop):Prop:=∀a,Agree n e a->wpList P ops Q l a w
def M3(n:Nat)(x:Exit)(e:A9)(w:World)(Q:Exit->Act->World->Prop):Prop:=∀a,Agree n e a->Q x a w
def Y0(P:Program)(y:Code)(Q:Exit->Act->World->Prop):Exit->Act->World->Prop:=Exit.then (y.wp P Q) Q
def CL(id:Nat)(Q:Exit->Act->World->Prop):Exit->Act->World->Prop:=Exit.inBlock id Q
section
variable {P:Program} {n:Nat} {e:A9} {w:World} {Q:Exit->Act->World->Prop}
theorem l9{x y:Code}(h:VS P n x e w (Y0 P y Q)):VS P n (.seq x y) e w Q:=fun a b=>wp_seq (h a b)
theorem F4{id:Nat}{c:Code}(h:VS P n c e w (CL id Q)):VS P n (.block id c) e w Q:=fun a b=>wp_block (h a b)
theorem D7(h:M3 n .normal e w Q):VS P n .skip e w Q:=fun a b=>wp_skip (h a b)
theorem G7(h:M3 n .ret e w Q):VS P n .ret e w Q:=fun a b=>wp_ret (h a b)
theorem N0{id:Nat}(h:M3 n (.exit id) e w Q):VS P n (.exit id) e w Q:=fun a b=>wp_exit (h a b)
theorem Cc{c:Operand}{x y:Code}(d:ev e c=some (.bool false))(h:VS P n y e w Q):VS P n (.cond c x y) e w Q :=
 fun a b=>wp_cond_false (b.ev d) (h a b)
theorem P5{c:Operand}{x y:Code}{b:Bool}(g:ev e c=some (.bool b))(f:b=true->VS P n x e w Q)(i:b=false->VS P n y e w Q):VS P n (.cond c x y) e w Q :=
 fun a d=>wp_cond_split (d.ev g) (fun h=>f h a d) (fun h=>i h a d)
theorem I9{id:Nat}{l:List Oper}(h:VO P n l.toArray l e w Q):VS P n (.region id l.toArray false) e w Q:=fun a b=>wp_region_lit (h a b)
theorem nQ{y:Code}(h:VS P n y e w Q):M3 n .normal e w (Y0 P y Q):=fun a b=>h a b
theorem N1{y:Code}{id:Nat}(h:M3 n (.exit id) e w Q):M3 n (.exit id) e w (Y0 P y Q):=fun a b=>h a b
theorem V6{y:Code}(h:M3 n .ret e w Q):M3 n .ret e w (Y0 P y Q):=fun a b=>h a b
theorem Bp{id:Nat}(h:M3 n .normal e w Q):M3 n .normal e w (CL id Q):=fun a b=>h a b
theorem N3{id b:Nat}(c:Nat.beq b id=true)(h:M3 n .normal e w Q):M3 n (.exit b) e w (CL id Q):=by
 intro a d;have:b=id:=by simpa using c
 show(if b=id then Q .normal a w else Q (.exit b) a w);rw[if_pos this]; exact h a d
def MM(n:Nat){σ:Type}(E:σ->A9)(J:σ->World->Prop)(μ:σ->Nat)(s:σ)(Q:Exit->Act->World->Prop):Exit->Act->World->Prop
 | .normal,a,w=>∃s',J s' w/\μ s'<μ s/\Agree n (E s') a
 | x,a,w=>Q x a w
theorem Ad{b:Code}{d:Type}(E:d->A9)(J:d->World->Prop)(g:d->Nat)(f:d)(l:J f w)(h:Jv (E f) e)
  (c:∀s w,J s w->VS P n b (E s) w (MM n E J g s Q)):VS P n (.loop b) e w Q:=by
 intro a u;refine wp_loop_ghost (fun m a w=>∃s,g s=m/\J s w/\Agree n (E s) a) (g f) ⟨f,rfl,l,u.sub h⟩ ?_;rintro m a w ⟨s,rfl,o,k⟩;refine wp_mono (c s w o a k) ?_;intro x y v j;cases x with
 | normal =>
   obtain⟨i,t,r,q⟩:=j;exact⟨g i,r,i,rfl,t,q⟩
 | _=>exact j
theorem Ae{a:Type}{E:a->A9}{J:a->World->Prop}{d:a->Nat}{s:a}(b:a)(f:J b w)(c:d b<d s)(g:Jv (E b) e):M3 n .normal e w (MM n E J d s Q) :=
 fun _ h=>⟨b,f,c,h.sub g⟩
theorem N2{b:Type}{E:b->A9}{J:b->World->Prop}{d:b->Nat}{s:b}{id:Nat}(h:M3 n (.exit id) e w Q):M3 n (.exit id) e w (MM n E J d s Q):=fun a c=>h a c
theorem J6:Jv [] e:=fun _ _ h=>by cases h
theorem J5{d:Nat}{v:Value}{e':A9}(h:lk e d=some v)(c:Jv e' e):Jv ((d,v) :: e') e:=by
 intro t u b;rw[Ju] at b;by_cases a:d=t
 ·grind
 ·rw[if_neg a] at b; exact c t u b
def QL:Nat->List Value->A9
 | _,[]=>[]
 | k,v :: r=>(k,v) :: QL (k+1) r
theorem n0i(t:Nat)(v:Value):∀(k:Nat) (vs:List Value),lk (QL k vs) t=some v->k<=t/\vs[t-k]?=some v
 | k,[],h=>by cases h
 | k,u :: r,h=>by
   rw[QL,Ju] at h;by_cases a:k=t
   ·grind
   ·rw[if_neg a] at h;have ⟨c,b⟩:=n0i t v (k+1) r h
    grind
theorem Q4{f:FuncId}{a:Func}{c:Code}{vs:List Value}{R:Ending->World->Prop}
  (i:P.funcs[f]?=some a) (m:a.ntmps=n) (j:a.body=some c) (b:Nat.ble vs.length n=true)
  (h:VS P n c (QL 0 vs) w (bodyPost P a R)):Calls P f vs.toArray w R:=by
 have g:vs.length<=n:=Nat.le_of_ble_eq_true b;refine calls_of_wp i j (h _ ⟨rfl,?_,?_⟩)
 ·grind
 ·intro t v k;have ⟨_,e⟩:=n0i t v 0 vs k;have l:t<vs.length:=by rcases Nat.lt_or_ge t vs.length with d | d; exact d; rw[List.getElem?_eq_none (by omega)] at e; cases e
  rw[Array.getD_eq_getD_getElem?,Array.getElem?_append_left (by omega)]
  grind
theorem q0U{c:Func}{R:Ending->World->Prop}{t:Nat}{v:Value}(d:c.results=#[.tmp t])(f:lk e t=some v)(h:R (.returned v) w):M3 n .normal e w (bodyPost P c R) :=
 fun a b=>⟨b.1,v,by rw[results_tmp d]; rw[b.2.2 t v f],h⟩
theorem L7{c:Func}{R:Ending->World->Prop}{t:Nat}{v:Value}(d:c.results=#[.tmp t])(f:lk e t=some v)(h:R (.returned v) w):M3 n .ret e w (bodyPost P c R) :=
 fun a b=>⟨b.1,v,by rw[results_tmp d]; rw[b.2.2 t v f],h⟩
theorem q0T{f:Func}{R:Ending->World->Prop}{t t':Nat}{v b:Value}(i:f.results=#[.tmp t,.tmp t'])(g:lk e t=some v)(c:lk e t'=some b)(h:R (.returned (.tuple #[v,b])) w):M3 n .ret e w (bodyPost P f R) :=
 fun a d=>⟨d.1,_,by rw[results_tmp2 i]; rw[d.2.2 t v g,d.2.2 t' b c],h⟩
end
def D6(P:Program)(n:Nat)(e:A9)(op:Op)(ty:TypeId)(w:World)(v:Value)(w':World):Prop :=
 ∀a dst pos after g,Agree n e a->(execOp a.eval ⟨dst,op,ty,pos,after,g⟩).run P w=.ok (.value v) w'
def TS(P:Program)(n:Nat)(e:A9)(op:Op)(ty:TypeId)(w:World)(w':World):Prop :=
 ∀a dst pos after g,Agree n e a->(execOp a.eval ⟨dst,op,ty,pos,after,g⟩).run P w=.ok .skip w'
section
variable {P:Program} {n:Nat} {e:A9} {w:World} {Q:Exit->Act->World->Prop} {ops:Array Oper} {rest:List Oper}
theorem oN(h:M3 n .normal e w Q):VO P n ops [] e w Q:=fun a b=>wpList_nil (h a b)
theorem F0{d:Nat}{f:Op}{ty:TypeId}{c:String}{b:Array Edge}{w':World}(v:Value)(k:D6 P n e f ty w v w')(j:Nat.blt d n=true)
  (h:VO P n ops rest ((d,v) :: e) w' Q):VO P n ops (⟨some d,f,ty,c,b,none⟩ :: rest) e w Q:=by
 intro a g;refine wpList_plain rfl fun K i=>?_;unfold Oper.wp;rw[k a (some d) c b none g];exact i _ _ (h _ (g.put d j v))
theorem Vo{d:Op}{ty:TypeId}{c:String}{b:Array Edge}{w':World}(i:TS P n e d ty w w')
  (h:VO P n ops rest e w' Q):VO P n ops (⟨none,d,ty,c,b,none⟩ :: rest) e w Q:=by
 intro a f;refine wpList_plain rfl fun K g=>?_;unfold Oper.wp;rw[i a none c b none f];exact g _ _ (h _ f)
def Jw:List Oper->Nat->Option Nat
 | [],_=>none
 | o :: _,0=>o.dst
 | _ :: r,j+1=>Jw r j
def QM(ops:Array Oper)(j:Nat):Option Nat:=Jw ops.toList j
theorem q0V:∀(l:List Oper) (j:Nat),Jw l j=(l[j]?).bind (·.dst)
 | [],_=>by simp[Jw]
 | _ :: _,0=>by simp[Jw]
 | _ :: r,j+1=>by simp[Jw,q0V r j]
theorem y0i(ops:Array Oper)(j:Nat):QM ops j=(ops[j]?).bind (·.dst):=by grind[QM,q0V]
theorem r0q{a:Act}(k:Agree n e a){j d:Nat}{b:Bool}(i:QM ops j=some d)(g:lk e d=some (.bool b)):yielded ops a.tmps j=some b:=by
 have h:=k.2.2 d _ g;unfold yielded;have f:((ops[j]?).bind (·.dst))=some d:=by rw[<- y0i]; exact i
 rw[f];have l:d<a.tmps.size:=by
  rcases Nat.lt_or_ge d a.tmps.size with c | c
  ·exact c
  ·rw[Array.getD_eq_getD_getElem?,Array.getElem?_eq_none c] at h; cases h
 simp_all
theorem AE{g:Option Nat}{i:Op}{ty:TypeId}{f:String}{c:Array Edge}{j d:Nat}{b:Bool}(o:QM ops j=some d)(m:lk e d=some (.bool b))
  (h:VO P n ops (⟨g,i,ty,f,c,none⟩ :: rest) e w Q):VO P n ops (⟨g,i,ty,f,c,some (j,b)⟩ :: rest) e w Q:=by
 intro a l;have k:=h a l;unfold wpList at k ⊢;simpa only[Region.wanted,r0q l o m,BEq.rfl,if_true,Oper.wp,Oper.asks,execOp,Oper.upon] using k
def Vp:BinOp->Int->Int->Option Bool
 | .eql,a,b=>some (a==b)
 | .neq,a,b=>some (a != b)
 | .lss,a,b=>some (decide (a<b))
 | .leq,a,b=>some (decide (a<=b))
 | .gtr,a,b=>some (decide (a > b))
 | .geq,a,b=>some (decide (a≥b))
 | _,_,_=>none
def QN:BinOp->ByteArray->ByteArray->Option Bool
 | .eql,a,b=>some (decide (a=b))
 | .neq,a,b=>some (!decide (a=b))
 | _,_,_=>none
def NB:BinOp->Value->Value->Option Value
 | op,.int k a,.int k' b=>if k=k' then(match Vp op a b with | some r=>some (.bool r) | none=>none) else none
 | op,.string a,.string b=>match QN op a b with | some r=>some (.bool r) | none=>none
 | _,_,_=>none
def Z0(e:A9):Op->Option Value
 | .move x=>ev e x
 | .assign x=>ev e x
 | .pick c a b=>match ev e c with
   | some (.bool true)=>ev e a
   | some (.bool false)=>ev e b
   | _=>none
 | .unOp .not _ x=>match ev e x with
   | some (.bool b)=>some (.bool (!b))
   | _=>none
 | .extract x i=>match ev e x with
   | some (.tuple vs)=>vs.toList[i]?
   | _=>none
 | .binOp op _ x y _=>match ev e x,ev e y with
   | some u,some v=>NB op u v
   | _,_=>none
 | .makeFunc fn first cap=>match evl e first.toList,evl e cap.toList with
   | some fs,some cs=>some (.func fn fs.toArray cs.toArray)
   | _,_=>none
 | _=>none
theorem y0q(a b:ByteArray):(a.toList==b.toList)=decide (a=b):=by
 rw[Bool.eq_iff_iff,beq_iff_eq,dq,ByteArray.toList_eq,ByteArray.toList_eq];constructor
 ·intro h; cases a; simp_all
 grind
theorem D0{l:Op}{ty:TypeId}{v:Value}(h:Z0 e l=some v):D6 P n e l ty w v w:=by
 intro a z t j g b;unfold Z0 at h;split at h
 ·simp only[execOp,b.ev h]; rfl
 ·simp only[execOp,b.ev h]; rfl
 ·rename_i c x y;split at h
  ·rename_i f; simp only[execOp,b.ev f,<- b.ev h]; rfl
  ·rename_i f; simp only[execOp,b.ev f,<- b.ev h]; rfl
  grind
 ·split at h
  ·rename_i f; simp only[oi] at h; subst h; simp only[execOp,b.ev f]; rfl
  grind
 ·split at h
  ·rename_i V f; rw[Array.getElem?_toList] at h; simp only[execOp,b.ev f,Instr.extract,h]; rfl
  grind
 ·rename_i l T x y X;split at h
  ·rename_i u v' s o;unfold NB at h;split at h
   ·rename_i k p W q;split at h
    ·rename_i E; subst E;split at h
     ·rename_i r d;simp only[oi] at h; subst h;unfold Vp at d;split at d <;> simp only[oi,reduceCtorEq] at d <;> subst d <;> simp[execOp,b.ev s,b.ev o,eqGuard,binOp,Op.intCmp]
     grind
    grind
   ·rename_i p q;split at h
    ·rename_i r d;simp only[oi] at h; subst h;unfold QN at d;split at d <;> simp only[oi,reduceCtorEq] at d <;> subst d <;> simp[execOp,b.ev s,b.ev o,eqGuard,binOp,Op.stringOp,y0q]
    grind
   grind
  grind
 ·split at h
  ·rename_i Q Y m i;simp only[oi] at h; subst h;have G:=b.evl m;have H:=b.evl i;have F:∀(x:Array Operand),x.map a.eval=(x.toList.map a.eval).toArray:=fun x=>by grind
   simp only[execOp,Instr.makeFunc,F,G,H];rfl
  grind
 grind
theorem L6{d:Nat}{c:Op}{ty:TypeId}{b:String}{a:Array Edge}{v:Value}(h:Z0 e c=some v)(f:Nat.blt d n=true)
 (k:VO P n ops rest ((d,v) :: e) w Q):VO P n ops (⟨some d,c,ty,b,a,none⟩ :: rest) e w Q:=F0 v (D0 h) f k
end
def W9(P:Program)(T:TypeId):Bool:=match P.underlying T with
 | some (.struct _) | some (.array ..) | none=>false
 | _=>true
class K2(P:Program)(T:TypeId):Prop where h:W9 P T=true
class H4(P:Program)(T:TypeId)(E:outParam TypeId):Prop where h:P.underlying T=some (.slice E)
class IQ(P:Program)(T:TypeId):Prop where h:P.underlying T=some .string
def QO(P:Program)(T:TypeId):Option (Nat×Nat×Option Value):=(P.info? T).map fun i=>(i.size,i.bytes,i.zero)
class Info(P:Program)(T:TypeId)(size bytes:outParam Nat)(z:outParam Value):Prop where h:QO P T=some (size,bytes,some z)
def BC(P:Program)(T:TypeId):Bool:=match P.underlying T with
 | some (.struct _) | some (.array ..)=>true
 | _=>false
class L5(P:Program)(T:TypeId):Prop where h:BC P T=true
def NC(P:Program)(T:TypeId)(k:Nat):Option (Nat×Bool):=match P.underlying T with
 | some (.struct fs)=>match fs[k]? with
   | some f=>some (f.offset,match P.info? f.type with | some i=>!(i.size==0) | none=>false)
   | none=>none
 | _=>none
class x8(P:Program)(T:TypeId)(k:Nat)(off:outParam Nat):Prop where h:NC P T k=some (off,true)
def CY(P:Program)(f:Nat):Bool:=match P.funcs[f]? with
 | some fn => !(fn.name == "runtime.NumGoroutine") && fn.body.isSome
 | none=>false
class C4(P:Program)(f:Nat):Prop where h:CY P f=true
theorem h0n{P:Program}{T:TypeId}{i:TypeInfo}(w:World)(h:P.info? T=some i):(typeInfo T).run P w=.ok i w:=by
 have a:(program).run P w=.ok P w:=rfl;unfold typeInfo
 simp_all
theorem U8{P:Program}{T:TypeId}{i:TypeInfo}(w:World)(h:P.info? T=some i):(sizeOf T).run P w=.ok i.size w:=by
 unfold sizeOf; rw[Sem.run_bind,h0n w h]; rfl
theorem Jx{P:Program}{T:TypeId}{i:TypeInfo}{z:Value}(w:World)(h:P.info? T=some i)(hz:i.zero=some z):(zeroValue T).run P w=.ok z w:=by
 unfold zeroValue; rw[Sem.run_bind,h0n w h]; simp_all
theorem Info.get{P:Program}{T s y:Nat}{z:Value}(h:Info P T s y z):∃i,P.info? T=some i/\i.size=s/\i.bytes=y/\i.zero=some z:=by
 have hi:=h.h;unfold QO at hi
 simp_all
def Blk(w:World)(b:Nat)(cs:List Value)(T:TypeId):Prop:=w.heap[b]?=some (.cells cs.toArray T (0,0))
def At(w:World)(b o:Nat)(cs:List Value):Prop:=∀i u,cs[i]?=some u->w.cell? ⟨b,o+i,none⟩=some u
abbrev Ext(w w':World):Prop:=Below w.heap.size w w'
theorem Ext.refl(w:World):Ext w w:=Below.refl _ _
theorem Ext.trans{a b c:World}(h:Ext a b)(k:Ext b c):Ext a c:=Below.trans h (Below.mono k h.size)
theorem Blk.lt{w:World}{b:Nat}{cs:List Value}{T:TypeId}(h:Blk w b cs T):b<w.heap.size:=by
 grind[Nat.lt_or_ge,Blk,Array.getElem?_eq_none]
theorem Blk.ext{w w':World}{b:Nat}{cs:List Value}{T:TypeId}(h:Blk w b cs T)(k:Ext w w'):Blk w' b cs T:=by
 unfold Blk; rw[k.block b h.lt]; exact h
theorem Blk.up{w w':World}{b:Nat}{cs:List Value}{T:TypeId}(h:Blk w b cs T)(k:Ext w w'):Blk w' b cs T:=h.ext k
theorem Blk.at{w:World}{b:Nat}{cs:List Value}{T:TypeId}(h:Blk w b cs T):At w b 0 cs:=by
 intro i u a;unfold World.cell?;rw[show(⟨b,0+i,none⟩:Addr).block=b from rfl,h]
 grind
theorem At.lt{w:World}{b o:Nat}{cs:List Value}(h:At w b o cs)(d:0<cs.length):b<w.heap.size:=by
 have c:=h 0 cs[0] (by grind);rcases Nat.lt_or_ge b w.heap.size with a | a
 ·exact a
 ·unfold World.cell? at c; grind
theorem At.same{w w':World}{b o:Nat}{cs:List Value}(h:At w b o cs)(k:b<w.heap.size->w'.heap[b]?=w.heap[b]?):At w' b o cs:=by
 intro i u a;have d:0<cs.length:=by rcases Nat.lt_or_ge i cs.length with c | c; omega; rw[List.getElem?_eq_none c] at a; cases a
 have:=h i u a;rw[<- this];exact World.cell?_of_block (w:=w) (k (h.lt d))
theorem At.ext{w w':World}{b o:Nat}{cs:List Value}(h:At w b o cs)(k:Ext w w'):At w' b o cs:=h.same (fun a=>k.block b a)
theorem At.up{w w':World}{b o:Nat}{cs:List Value}(h:At w b o cs)(k:Ext w w'):At w' b o cs:=h.ext k
theorem At.mid{w:World}{b o:Nat}{pre c post:List Value}(h:At w b o (pre++c++post)):At w b (o+pre.length) c:=by
 intro i u d;have e:i<c.length:=by rcases Nat.lt_or_ge i c.length with a | a; exact a; rw[List.getElem?_eq_none a] at d; cases d
 have:=h (pre.length+i) u (by grind)
 grind
structure QP(w:World)(b:Nat)(w':World):Prop where
 eq:w.heap.size=b
 ext:Ext w w'
 size:w'.heap.size=b+1
structure Wr(b:Nat)(w w':World):Prop where
 os:w'.os=w.os
 tape:w'.tape=w.tape
 output:w'.output=w.output
 size:w'.heap.size=w.heap.size
 block:∀k,k≠b->w'.heap[k]?=w.heap[k]?
theorem Wr.below{b B:Nat}{w w':World}(h:Wr b w w')(c:B<=b):Below B w w':=⟨h.os,h.tape,h.output,by rw[h.size]; exact Nat.le_refl _,fun k a=>h.block k (by omega)⟩
theorem Jy(w:World)(o:Obj):QP w w.heap.size (w.alloc o):=⟨rfl,(Below.refl _ _).alloc (Nat.le_refl _) _,by simp⟩
theorem Jz(w:World)(cs:Array Value)(T:TypeId):Blk (w.alloc (.cells cs T)) w.heap.size cs.toList T:=by
 unfold Blk World.alloc; simp
section
variable {P:Program} {n:Nat} {e:A9} {w:World} {Q:Exit->Act->World->Prop} {ops:Array Oper} {rest:List Oper}
 {d:Nat} {ty:TypeId} {pos:String} {after:Array Edge}
theorem GY{T:TypeId}{x:Operand}{v:Value}{cs:List Value}(f:ev e x=some v)(c:v.cells.toList=cs)(i:Nat.blt d n=true)
  (k:∀b w',QP w b w'->Blk w' b cs T->VO P n ops rest ((d,.pointer (some ⟨b,0,none⟩)) :: e) w' Q) :
  VO P n ops (⟨some d,.box T x,ty,pos,after,none⟩ :: rest) e w Q:=by
 subst c;refine F0 (.pointer (some ⟨w.heap.size,0,none⟩)) (w':=w.alloc (.cells v.cells T)) ?_ i (k _ _ (Jy _ _) (Jz _ _ _));intro a h pos after g j;simp only[execOp,j.ev f]; rfl
theorem p0t{T:TypeId}{s y:Nat}{z:Value}{cs:List Value}[i:Info P T s y z](f:z.cells.toList=cs)(j:Nat.blt d n=true)
  (k:∀b w',QP w b w'->Blk w' b cs T->VO P n ops rest ((d,.pointer (some ⟨b,0,none⟩)) :: e) w' Q) :
  VO P n ops (⟨some d,.alloc T,ty,pos,after,none⟩ :: rest) e w Q:=by
 subst f;obtain⟨l,c,q,o,m⟩:=i.get;refine F0 (.pointer (some ⟨w.heap.size,0,none⟩)) (w':=w.alloc (.cells z.cells T)) ?_ j (k _ _ (Jy _ _) (Jz _ _ _));intro a h pos after g r;have hz:=Jx w c m;simp only[execOp,Instr.alloc,Sem.run_bind,hz,Result.andThen];rfl
theorem f0t{T:TypeId}{x:Operand}{b o f c:Nat}[t:x8 P T f c](r:ev e x=some (.pointer (some ⟨b,o,none⟩))) :
  D6 P n e (.fieldAddr T x f) ty w (.pointer (some ⟨b,o+c,none⟩)) w:=by
 intro a s q j g y;have h:=t.h;unfold NC at h;split at h
 ·rename_i E l;split at h
  ·rename_i z d;simp only[oi,pj] at h;obtain⟨v,m⟩:=h;split at m
   ·rename_i i hi;have u:¬i.size=0:=by simpa using m
    have k:(Addr.mk b o none).add z.offset=⟨b,o+c,none⟩:=by
     unfold Addr.add;rw[v];split
     ·grind
     ·rfl
    simp only[execOp,y.ev r];simp[Instr.fieldAt,run_underlying l,d,Instr.sureAddr,fieldPlace,U8 w hi,u,Result.andThen,k]
   grind
  grind
 grind
theorem i0X{T:TypeId}{ad:Addr}{v:Value}[e:K2 P T](h:w.cell? ad=some v):(loadVar T ad).run P w=.ok v w:=by
 have c:=e.h;unfold W9 at c;split at c
 ·cases c
 ·cases c
 ·cases c
 ·rename_i j i g;cases hu:P.underlying T with
  | none=>grind
  | some d =>
    have:(isAgg T).run P w=.ok false w:=by
     unfold isAgg;simp only[Sem.run_bind,run_underlying hu,Result.andThen];cases d with
     | struct f=>grind
     | array a b=>grind
     | _=>rfl
    simp[loadVar,this,h,load,Sem.run,Result.andThen]
theorem Vq{T:TypeId}{x:Operand}{ad:Addr}{v:Value}[K2 P T](d:ev e x=some (.pointer (some ad)))(h:w.cell? ad=some v):D6 P n e (.load T x) ty w v w:=by
 intro a f c b g i;simp only[execOp,i.ev d];simp[Instr.loadAt,Instr.sureAddr,i0X h,Result.andThen]
theorem QQ{T:TypeId}{b o s y:Nat}{z:Value}{cs:List Value}[l:L5 P T][i:Info P T s y z](n:cs.length=s)(h:At w b o cs):(loadVar T ⟨b,o,none⟩).run P w=.ok (.agg cs.toArray) w:=by
 have e:=l.h;unfold BC at e;obtain⟨m,c,q,u,t⟩:=i.get;have k:(isAgg T).run P w=.ok true w:=by
  split at e
  ·rename_i r d; unfold isAgg; simp[run_underlying d,Result.andThen]
  ·rename_i a b d; unfold isAgg; simp[run_underlying d,Result.andThen]
  ·cases e
 have f:=run_loadCells_list (P:=P) w ⟨b,o,none⟩ cs (fun j v g=>by
  have:=h j v g
  grind[Addr.add])
 rw[n,<- q] at f;simp[loadVar,k,U8 w c,Result.andThen,f]
theorem V7{T:TypeId}{x:Operand}{b o s y:Nat}{z:Value}{cs:List Value}[L5 P T][Info P T s y z](f:ev e x=some (.pointer (some ⟨b,o,none⟩)))(j:cs.length=s)(h:At w b o cs):D6 P n e (.load T x) ty w (.agg cs.toArray) w:=by
 intro a i d c g k;simp only[execOp,k.ev f];simp[Instr.loadAt,Instr.sureAddr,QQ j h,Result.andThen]
theorem MO{T T':TypeId}{x y:Operand}{a b:Int}(j:ev e x=some (.int .i64 a))(h:ev e y=some (.int .i64 b))(k : -9223372036854775808<=a+b/\a+b<=9223372036854775807) :
  D6 P n e (.binOp .add T x y T') ty w (.int .i64 (a+b)) w:=by
 intro l i f c g d;simp only[execOp,d.ev j,d.ev h];simp[eqGuard,binOp,Op.intArith,IntWalk.i64_in _ k]
theorem x0k{T T':TypeId}{x y:Operand}{a b:Int}(j:ev e x=some (.int .i64 a))(h:ev e y=some (.int .i64 b))(k : -9223372036854775808<=a-b/\a-b<=9223372036854775807) :
  D6 P n e (.binOp .sub T x y T') ty w (.int .i64 (a-b)) w:=by
 intro l i f c g d;simp only[execOp,d.ev j,d.ev h];simp[eqGuard,binOp,Op.intArith,IntWalk.i64_in _ k]
theorem x0o{T T':TypeId}{x y:Operand}{a b:Int}(j:ev e x=some (.int .i64 a))(h:ev e y=some (.int .i64 b))(k : -9223372036854775808<=a*b/\a*b<=9223372036854775807) :
  D6 P n e (.binOp .mul T x y T') ty w (.int .i64 (a*b)) w:=by
 intro l i f c g d;simp only[execOp,d.ev j,d.ev h];simp[eqGuard,binOp,Op.intArith,IntWalk.i64_in _ k]
theorem TT{T T':TypeId}{x y:Operand}{s t:ByteArray}(i:ev e x=some (.string s))(f:ev e y=some (.string t))(k:s.size+t.size<=9223372036854775807) :
  D6 P n e (.binOp .add T x y T') ty w (.string (s++t)) w:=by
 intro j h d a g c;have b:¬(9223372036854775807:Int) < (s.size:Int)+(t.size:Int):=by omega
 simp only[execOp,c.ev i,c.ev f];simp[eqGuard,binOp,Op.stringOp,b]
theorem Af{T E:TypeId}{x:Operand}{p:Option Addr}{len b:Nat}[h:H4 P T E](f:ev e x=some (.slice p len b)) :
  D6 P n e (.call ⟨.builtin .len,[x].toArray,#[T]⟩) ty w (.int .i64 (len:Int)) w:=by
 intro a i d c g j;have:([x].toArray.map a.eval)=#[.slice p len b]:=by simp[j.ev f]
 simp only[execOp,resolve,this];simp[invoke,builtin,Builtin.len_,run_underlying h.h,goInt,Result.andThen]
theorem QR{f:Nat}[h:C4 P f](a:Array Value):(callFunc f a).run P w=.ok (.enter f a) w:=by
 have b:=h.h;unfold CY at b;split at b
 ·rename_i i d;simp only[ba,Bool.not_eq_true',Option.isSome_iff_exists] at b;obtain⟨j,c,g⟩:=b;have e:(program).run P w=.ok P w:=rfl;unfold callFunc
  simp_all
 grind
theorem V8{f:Nat}{xs:List Operand}{vs:List Value}{b:Array TypeId}[C4 P f](k:evl e xs=some vs)(l:Nat.blt d n=true)
  (h:Calls P f vs.toArray w (fun en w'=>∃v,en=.returned v/\VO P n ops rest ((d,v) :: e) w' Q)) :
  VO P n ops (⟨some d,.call ⟨.value (.func f),xs.toArray,b⟩,ty,pos,after,none⟩ :: rest) e w Q:=by
 intro a c;refine wpList_plain rfl fun K j=>?_;unfold Oper.wp;have g:xs.toArray.map a.eval=vs.toArray:=by rw[<- c.evl k]; simp
 have:(execOp a.eval ⟨some d,.call ⟨.value (.func f),xs.toArray,b⟩,ty,pos,after,none⟩).run P w=.ok (.enter f vs.toArray) w:=by
  simp only[execOp,resolve,g];simp[Act.eval,Deferred.ofValue,invoke,QR]
 rw[this];refine Calls.mono h ?_;rintro en w' ⟨v,rfl,i⟩;exact j _ _ (i _ (c.put d l v))
end
class M1(P:Program):Prop where h:P.follows .mixedOrders=true
def VQ(P:Program)(n:Nat)(ops:Array Oper)(w0:World)(l:List Oper)(e:A9)(Q:Exit->Act->World->Prop):Prop :=
 ∀a,Agree n e a->wpQuiet P ops (Ext w0) (fun a'=>∀w',Ext w0 w'->Q .normal a' w') l a
section
variable {P:Program} {n:Nat} {e:A9} {w:World} {Q:Exit->Act->World->Prop} {ops:Array Oper} {rest:List Oper}
 {d:Nat} {ty:TypeId} {pos:String} {after:Array Edge}
end
class Rep(α:Type) where
 sz:Nat
 pos:0<sz
 rep:Nat->Nat->World->List Value->α->Prop
 len:∀{lo hi w cs x},rep lo hi w cs x->cs.length=sz
 same:∀{lo hi w w' cs x},rep lo hi w cs x->(∀k,lo<=k->k<hi->k<w.heap.size->w'.heap[k]?=w.heap[k]?)->rep lo hi w' cs x
 wide:∀{lo hi lo' hi' w cs x},rep lo hi w cs x->lo'<=lo->hi<=hi'->rep lo' hi' w cs x
def K1(x:Int):Prop := -9223372036854775808<=x/\x<=9223372036854775807
instance:Rep Int where
 sz:=1
 pos:=Nat.one_pos
 rep _ _ _ cs x:=cs=[.int .i64 x]/\K1 x
 len h:=by grind
 same h _:=h
 wide h _ _:=h
instance:Rep Bool where
 sz:=1
 pos:=Nat.one_pos
 rep _ _ _ cs x:=cs=[.bool x]
 len h:=by grind
 same h _:=h
 wide h _ _:=h
instance:Rep ByteArray where
 sz:=1
 pos:=Nat.one_pos
 rep _ _ _ cs x:=cs=[.string x]/\x.size<=9223372036854775807
 len h:=by grind
 same h _:=h
 wide h _ _:=h
section
variable {α:Type} [Rep α]
def All(lo hi:Nat)(w:World):List Value->List α->Prop
 | cs,[]=>cs=[]
 | cs,x :: r=>∃c d,cs=c++d/\Rep.rep lo hi w c x/\All lo hi w d r
theorem All.len{lo hi:Nat}{w:World}:∀{cs:List Value} {xs:List α},All lo hi w cs xs->cs.length=xs.length*Rep.sz α
 | cs,[],h=>by rw[show cs=[] from h]; simp
 | cs,x :: r,h=>by
   obtain⟨c,d,rfl,b,a⟩:=h;rw[List.length_append,Rep.len b,All.len a,List.length_cons,Nat.add_mul]; omega
theorem All.same{lo hi:Nat}{w w':World}(k:∀k,lo<=k->k<hi->k<w.heap.size->w'.heap[k]?=w.heap[k]?):∀{cs:List Value} {xs:List α},All lo hi w cs xs->All lo hi w' cs xs
 | _,[],h=>h
 | _,_ :: _,h=>by
   obtain⟨c,d,rfl,b,a⟩:=h;exact⟨c,d,rfl,Rep.same b k,All.same k a⟩
theorem All.wide{lo hi b a:Nat}{w:World}(f:b<=lo)(e:hi<=a):∀{cs:List Value} {xs:List α},All lo hi w cs xs->All b a w cs xs
 | _,[],h=>h
 | _,_ :: _,h=>by
   obtain⟨c,d,rfl,i,g⟩:=h;exact⟨c,d,rfl,Rep.wide i f e,All.wide f e g⟩
theorem All.app{lo hi:Nat}{w:World}{ds:List Value}{a:List α}(k:All lo hi w ds a):∀{cs:List Value} {xs:List α},All lo hi w cs xs->All lo hi w (cs++ds) (xs++a)
 | cs,[],h=>by rw[show cs=[] from h]; exact k
 | _,_ :: _,h=>by
   obtain⟨c,d,rfl,e,b⟩:=h;exact⟨c,d++ds,by simp,e,All.app k b⟩
theorem All.one{lo hi:Nat}{w:World}{c:List Value}{x:α}(h:Rep.rep lo hi w c x):All lo hi w c [x]:=⟨c,[],by simp,h,rfl⟩
theorem All.get{lo hi:Nat}{w:World}:∀{cs:List Value} {xs:List α} {i:Nat} (_:All lo hi w cs xs) (hi':i<xs.length),
  ∃pre c post,cs=pre++c++post/\pre.length=i*Rep.sz α/\Rep.rep lo hi w c xs[i]
 | _,x :: r,0,h,_=>by
   obtain⟨c,d,rfl,b,a⟩:=h;exact⟨[],c,d,by simp,by simp,b⟩
 | _,x :: r,i+1,h,hi'=>by
   obtain⟨c,d,rfl,b,a⟩:=h;obtain⟨pre,e,post,rfl,g,f⟩:=All.get a (i:=i) (by grind)
   grind[List.length_append,Rep.len,Nat.add_mul]
def SlR(lo hi:Nat)(w:World)(v:Value)(xs:List α):Prop :=
 ∃p cap,v=.slice p xs.length cap/\xs.length<=cap/\cap<=9223372036854775807 /\
  (xs=[]∨∃b o cs,p=some ⟨b,o,none⟩/\lo<=b/\b<hi/\At w b o cs/\All lo hi w cs xs)
theorem SlR.same{lo hi:Nat}{w w':World}{v:Value}{xs:List α}(h:SlR lo hi w v xs)(k:∀k,lo<=k->k<hi->k<w.heap.size->w'.heap[k]?=w.heap[k]?):SlR lo hi w' v xs:=by
 obtain⟨p,a,f,e,d,c⟩:=h;refine⟨p,a,f,e,d,?_⟩;rcases c with c | ⟨b,o,cs,hp,hlo,hhi,hat,hall⟩
 ·grind
 ·exact .inr ⟨b,o,cs,hp,hlo,hhi,hat.same (k b hlo hhi),hall.same k⟩
theorem SlR.wide{lo hi c a:Nat}{w:World}{v:Value}{xs:List α}(h:SlR lo hi w v xs)(i:c<=lo)(g:hi<=a):SlR c a w v xs:=by
 obtain⟨p,d,f,k,j,e⟩:=h;refine⟨p,d,f,k,j,?_⟩;rcases e with e | ⟨b,o,cs,hp,hlo,hhi,hat,hall⟩
 ·grind
 ·exact .inr ⟨b,o,cs,hp,by omega,by omega,hat,hall.wide i g⟩
instance:Rep (List α) where
 sz:=1
 pos:=Nat.one_pos
 rep lo hi w cs xs:=∃v,cs=[v]/\SlR lo hi w v xs
 len:=by grind
 same:=by rintro lo hi w w' cs x ⟨v,rfl,h⟩ k; exact⟨v,rfl,h.same k⟩
 wide:=by rintro lo hi lo' hi' w cs x ⟨v,rfl,h⟩ h1 h2; exact⟨v,rfl,h.wide h1 h2⟩
theorem Rep.up{lo hi:Nat}{w w':World}{cs:List Value}{x:α}(h:Rep.rep lo hi w cs x)(k:Ext w w'):Rep.rep lo hi w' cs x:=Rep.same h (fun i _ _ a=>k.block i a)
theorem Rep.below{lo hi B:Nat}{w w':World}{cs:List Value}{x:α}(h:Rep.rep lo hi w cs x)(k:Below B w w')(b:hi<=B):Rep.rep lo hi w' cs x:=Rep.same h (fun i _ a _=>k.block i (by omega))
theorem SlR.up{lo hi:Nat}{w w':World}{v:Value}{xs:List α}(h:SlR lo hi w v xs)(k:Ext w w'):SlR lo hi w' v xs:=h.same (fun i _ _ a=>k.block i a)
theorem SlR.below{lo hi B:Nat}{w w':World}{v:Value}{xs:List α}(h:SlR lo hi w v xs)(k:Below B w w')(b:hi<=B):SlR lo hi w' v xs:=h.same (fun i _ a _=>k.block i (by omega))
theorem SlR.len{lo hi:Nat}{w:World}{v:Value}{xs:List α}(h:SlR lo hi w v xs):∃p cap,v=.slice p xs.length cap:=by obtain⟨p,cap,a,_⟩:=h; grind
theorem SlR.le{lo hi:Nat}{w:World}{v:Value}{xs:List α}(h:SlR lo hi w v xs):xs.length<=9223372036854775807:=by obtain⟨p,a,b,d,c,_⟩:=h; omega
theorem SlR.nil{lo hi:Nat}{w:World}:SlR lo hi w (.slice none 0 0) ([]:List α):=⟨none,0,rfl,Nat.le_refl _,by omega,.inl rfl⟩
theorem SlR.get{lo hi:Nat}{w:World}{p:Option Addr}{a e:Nat}{xs:List α}(h:SlR lo hi w (.slice p a e) xs){i:Nat}(d:i<xs.length) :
  a=xs.length/\∃b o c,p=some ⟨b,o,none⟩/\lo<=b/\b<hi/\At w b (o+i*Rep.sz α) c/\Rep.rep lo hi w c xs[i]:=by
 obtain⟨q,j,g,s,r,f⟩:=h;simp only[Value.slice.injEq] at g;obtain⟨rfl,rfl,rfl⟩:=g;refine⟨rfl,?_⟩;rcases f with f | ⟨b,o,cs,hp,hlo,hhi,hat,hall⟩
 ·grind
 ·obtain⟨l,c,k,rfl,m,n⟩:=hall.get d;refine⟨b,o,c,hp,hlo,hhi,?_,n⟩;rw[<- m]; exact hat.mid
end
section
variable {P:Program} {n:Nat} {e:A9} {w:World} {Q:Exit->Act->World->Prop} {ops:Array Oper} {rest:List Oper}
 {d:Nat} {ty:TypeId} {pos:String} {after:Array Edge}
theorem ND{T E s y:Nat}{z:Value}{x ix:Operand}{b o d m k:Nat}{G:IntKind}[h:H4 P T E][i:Info P E s y z](u:ev e x=some (.slice (some ⟨b,o,none⟩) d m))(hi:ev e ix=some (.int G (k:Int)))(H:k<d) :
  D6 P n e (.indexAddr T x ix) ty w (.pointer (some ⟨b,o+k*s,none⟩)) w:=by
 intro a t r j g q;obtain⟨F,c,v,V,Q⟩:=i.get;have f:(Addr.mk b o none).add (k*s)=⟨b,o+k*s,none⟩:=by
  unfold Addr.add;split
  ·grind
  ·rfl
 have l:0<=(k:Int)/\(k:Int) < (d:Int):=oo;simp only[execOp,q.ev u,q.ev hi];simp only[Instr.indexAt,asIntOf,Sem.run_bind,run_underlying h.h,Result.andThen,Sem.run_pure,l,and_self,if_true,U8 w c,v,Int.toNat_natCast,f]
variable {α:Type} [Rep α]
theorem FH{T T':TypeId}{x:Operand}{b i:Nat}{v:Value}{cs:List Value}[K2 P T](f:ev e x=some (.pointer (some ⟨b,i,none⟩)))(a:Blk w b cs T')(c:cs[i]?=some v)(g:Nat.blt d n=true)
  (h:VO P n ops rest ((d,v) :: e) w Q):VO P n ops (⟨some d,.load T x,ty,pos,after,none⟩ :: rest) e w Q :=
 F0 _ (Vq f (by have:=a.at i v c; simpa using this)) g h
theorem B0I{T:TypeId}{x:Operand}{ad:Addr}{v:Value}[K2 P T](a:ev e x=some (.pointer (some ad)))(c:w.cell? ad=some v)(b:Nat.blt d n=true)
 (h:VO P n ops rest ((d,v) :: e) w Q):VO P n ops (⟨some d,.load T x,ty,pos,after,none⟩ :: rest) e w Q:=F0 _ (Vq a c) b h
theorem m0d{T:TypeId}{x:Operand}{b o f a:Nat}[x8 P T f a](c:ev e x=some (.pointer (some ⟨b,o,none⟩)))(g:Nat.blt d n=true)
 (h:VO P n ops rest ((d,.pointer (some ⟨b,o+a,none⟩)) :: e) w Q):VO P n ops (⟨some d,.fieldAddr T x f,ty,pos,after,none⟩ :: rest) e w Q:=F0 _ (f0t c) g h
end
def u6(cs:List Value)(o:Nat)(vs:List Value):List Value:=cs.take o++vs++cs.drop (o+vs.length)
def ones:List Value->Bool
 | []=>true
 | v :: r=>v.oneCell'&&ones r
theorem q0n:∀{vs:List Value},ones vs=true->∀v∈vs,v.oneCell'=true
 | [],_,_,h=>by cases h
 | u :: r,h,v,hv=>by
   simp only[ones,ba] at h;rcases List.mem_cons.1 hv with rfl | hv
   ·grind
   ·exact q0n h.2 v hv
theorem HB(w:World)(g k:Nat)(cs:Array Value)(h:k≠g):(w.setRow g cs).heap[k]?=w.heap[k]?:=by
 grind[World.setRow]
theorem QS(w:World)(g:Nat)(cs:Array Value):Wr g w (w.setRow g cs) :=
 ⟨rfl,rfl,rfl,by simp_all,fun k a=>HB w g k cs a⟩
def Z1:List Value->Nat->Bool
 | [],0=>true
 | _ :: r,k+1=>Z1 r k
 | _,_=>false
theorem M4:∀{vs:List Value} {k:Nat},Z1 vs k=true->vs.length=k
 | [],0,_=>rfl
 | _ :: r,k+1,h=>by simp[M4 (vs:=r) (k:=k) h]
 | [],_+1,h=>by cases h
 | _ :: _,0,h=>by cases h
section
variable {P:Program} {n:Nat} {e:A9} {w:World} {Q:Exit->Act->World->Prop} {ops:Array Oper} {rest:List Oper}
 {d:Nat} {ty:TypeId} {pos:String} {after:Array Edge}
theorem JA{T T' s y:Nat}{z:Value}{b o:Nat}{cs vs:List Value}{v:Value}[i:Info P T s y z](e:v.cells.toList=vs)(h:vs.length=s)(l:ones vs=true)(k:Blk w b cs T')(g:o+vs.length<=cs.length) :
  (storeVar T ⟨b,o,none⟩ v).run P w=.ok () (w.setRow b (u6 cs o vs).toArray):=by
 obtain⟨c,a,j,n,m⟩:=i.get;have d:v.cells.size=c.size:=by rw[j,<- h,<- e]; simp
 have f:=run_storeCells_at (P:=P) b o T' vs 0 cs.toArray w k (by simpa using g) (q0n l);unfold storeVar;simp only[Sem.run_bind,U8 w a,Result.andThen,d,ne_eq,not_true_eq_false,if_false,e]
 grind[u6]
theorem p0s{T T' s y:Nat}{z:Value}{x v:Operand}{b o:Nat}{cs vs:List Value}{u:Value}[Info P T s y z](j:ev e x=some (.pointer (some ⟨b,o,none⟩)))(i:ev e v=some u)(f:Blk w b cs T')(q:u.cells.toList=vs)
  (r:Z1 vs s=true) (t:ones vs=true) (l:Nat.ble (o+s) cs.length=true)
  (k:∀w',Wr b w w'->Blk w' b (u6 cs o vs) T'->VO P n ops rest e w' Q) :
  VO P n ops (⟨none,.store T x v,ty,pos,after,none⟩ :: rest) e w Q:=by
 have c:=M4 r;have d:o+vs.length<=cs.length:=by rw[c]; exact Nat.le_of_ble_eq_true l
 refine Vo (w':=w.setRow b (u6 cs o vs).toArray) ?_ (k _ (QS _ _ _) ?_)
 ·intro a m pos after g h;simp only[execOp,h.ev j,h.ev i];simp[Instr.storeAt,Instr.sureAddr,JA q c t f d,Result.andThen]
 ·exact setRow_heap w b cs.toArray _ T' (0,0) f
def BD(place:List (Nat×Nat)):List Value->List (Nat×Value)->Option (List Value)
 | cs,[]=>some cs
 | cs,(i,v) :: r=>match place[i]? with
   | none=>none
   | some p=>bif Z1 v.cells.toList p.2&&Nat.ble (p.1+p.2) cs.length then BD place (u6 cs p.1 v.cells.toList) r else none
theorem x0d(v:Value)(r cs:List Value)(o:Nat)(h:o+(r.length+1)<=cs.length):u6 cs o (v :: r)=u6 (cs.set o v) (o+1) r:=by
 obtain⟨A,C,b,rfl⟩:∃A C:List Value,A.length=o/\cs=A++C:=⟨cs.take o,cs.drop o,by grind,by simp⟩;subst b;cases C with
 | nil=>grind
 | cons x C =>
   simp only[u6,List.length_cons,List.set_append_right _ _ (Nat.le_refl _),Nat.sub_self,List.set_cons_zero];have a:List.take A.length (A++x :: C)=A:=by simp
   have e:List.take (A.length+1) (A++v :: C)=A++[v]:=by
    rw[List.take_append,List.take_of_length_le (by omega)]; simp
   have c:List.drop (A.length+(r.length+1)) (A++x :: C)=List.drop r.length C:=by
    rw[List.drop_append,List.drop_eq_nil_of_le (by omega)]; simp
   have d:List.drop (A.length+1+r.length) (A++v :: C)=List.drop r.length C:=by
    rw[show A.length+1+r.length=A.length+(r.length+1) by omega,List.drop_append,List.drop_eq_nil_of_le (by omega)]; simp
   rw[a,e,c,d]; simp
theorem n0u(a:Nat):∀(vs:List Value) (j:Nat) (cs:Array Value),a+j+vs.length<=cs.size ->
  ((vs.zipIdx j).foldl (fun cs (c,j)=>cs.setIfInBounds (a+j) c) cs).toList=u6 cs.toList (a+j) vs
 | [],j,cs,h=>by simp[u6]
 | v :: r,j,cs,h=>by
   simp only[List.zipIdx_cons,List.foldl_cons];rw[n0u a r (j+1) _ (by grind),x0d v r _ _ (by omega)]
   grind
theorem NE(place:List (Nat×Nat)):∀(parts:List (Nat×Value)) (cs ds:List Value),BD place cs parts=some ds->Instr.fill (fun i=>place[i]?) cs.toArray parts=some ds.toArray
 | [],cs,ds,h=>by simp only[BD,oi] at h; subst h; rfl
 | (i,v) :: r,cs,ds,h=>by
   unfold BD at h;split at h
   ·cases h
   ·rename_i p c;cases hb:(Z1 v.cells.toList p.2&&Nat.ble (p.1+p.2) cs.length) with
    | false=>grind
    | true =>
      rw[hb] at h;simp only[cond_true] at h;simp only[ba] at hb;have g:=M4 hb.1;have a:=Nat.le_of_ble_eq_true hb.2;have b:v.cells.size=p.2:=by rw[<- g]; simp
      have f:=NE place r _ _ h;unfold Instr.fill;simp only[c];rw[if_neg (by simp[b,a])];have e:=n0u p.1 v.cells.toList 0 cs.toArray (by simp[b,a]);have d:Array.foldl (fun cs (x:Value×Nat)=>cs.setIfInBounds (p.1+x.2) x.1) cs.toArray v.cells.zipIdx=(u6 cs p.1 v.cells.toList).toArray:=by
       rw[<- Array.foldl_toList];apply Array.ext';simpa using e
      exact(congrArg (fun q=>Instr.fill (fun i=>place[i]?) q r) d).trans f
def JB(P:Program)(T:TypeId):Option (List (Nat×Nat)):=match P.underlying T with
 | some (.struct fs)=>some (fs.toList.map fun f=>(f.offset,match P.info? f.type with | some i=>i.size | none=>0))
 | _=>none
def NF(P:Program)(T:TypeId):Bool:=match P.underlying T with
 | some (.struct fs)=>fs.toList.all fun f=>(P.info? f.type).isSome
 | _=>false
class r0p(P:Program)(T:TypeId)(pl:outParam (List (Nat×Nat))):Prop where
 h:JB P T=some pl
 ok:NF P T=true
def evp(e:A9):List (Nat×Operand)->Option (List (Nat×Value))
 | []=>some []
 | (i,x) :: r=>match ev e x,evp e r with | some v,some vs=>some ((i,v) :: vs) | _,_=>none
theorem Agree.evp{a:Act}(h:Agree n e a):∀{xs:List (Nat×Operand)} {vs:List (Nat×Value)},evp e xs=some vs->xs.map (fun(i,x)=>(i,a.eval x))=vs
 | [],vs,hx=>by grind[Sv.evp]
 | (i,x) :: r,vs,hx=>by
   unfold Sv.evp at hx;split at hx
   ·rename_i v d c b;simp at hx; subst hx;simp[h.ev c,Agree.evp h b]
   grind
theorem m0M(w:World):∀(fs:List Field),(fs.all fun f=>(P.info? f.type).isSome)=true ->
  (fs.mapM (fun f=>do Pure.pure (f.offset,<- sizeOf f.type):Field->Sem (Nat×Nat))).run P w=.ok (fs.map fun f=>(f.offset,match P.info? f.type with | some i=>i.size | none=>0)) w
 | [],_=>rfl
 | f :: r,h=>by
   simp only[List.all_cons,ba,Option.isSome_iff_exists] at h;obtain⟨⟨i,hi⟩,a⟩:=h;rw[List.mapM_cons];simp only[Sem.run_bind,U8 w hi,Result.andThen,Sem.run_pure,m0M w r a,List.map_cons,hi]
theorem r0J{T s y:Nat}{z:Value}{pl:List (Nat×Nat)}{b:List (Nat×Operand)}{vs:List (Nat×Value)}{cs:List Value}[i:Info P T s y z][p:r0p P T pl](Q:evp e b=some vs)(F:BD pl z.cells.toList vs=some cs) :
  D6 P n e (.build T b.toArray) ty w (.agg cs.toArray) w:=by
 intro a u t o g H;obtain⟨v,c,X,W,G⟩:=i.get;have j:=p.h;have m:=p.ok;unfold JB at j;unfold NF at m;split at j
 ·rename_i k d;rw[d] at m;simp only[oi] at j;have r:=m0M (P:=P) w k.toList m;rw[j] at r;have q:=NE pl vs z.cells.toList cs F;have V:b.toArray.map (fun(i,x)=>(i,a.eval x))=vs.toArray:=by rw[<- Agree.evp H Q]; simp
  have l:(k.mapM (fun f=>do Pure.pure (f.offset,<- sizeOf f.type):Field->Sem (Nat×Nat))).run P w=.ok pl.toArray w:=by
   rw[Array.mapM_eq_mapM_toList];show(Functor.map List.toArray (List.mapM _ k.toList):Sem _).run P w=_;rw[map_eq_pure_bind,Sem.run_bind,r];rfl
  have E:(fun i:Nat=>pl.toArray[i]?)=(fun i:Nat=>pl[i]?):=by funext i; simp
  simp only[execOp,V];simp only[Instr.build,Sem.run_bind,Jx w c G,Result.andThen,run_underlying d,l,E]
  simp_all
 grind
class GX(P:Program)(T:TypeId):Prop where h:P.underlying T=some .bool
theorem n0y(c:Nat){T:TypeId}{a b:Bool}[h:GX P T]:(Op.equalIn (c+1) T (.bool a) (.bool b)).run P w=.ok (a==b) w:=by simp[Op.equalIn,run_underlying h.h]
theorem x0p{T T':TypeId}{x y:Operand}{a b:Bool}[h:GX P T](k:ev e x=some (.bool a))(i:ev e y=some (.bool b)):D6 P n e (.binOp .eql T x y T') ty w (.bool (a==b)) w:=by
 intro m j f c g d;have l:(Op.equal T (.bool a) (.bool b)).run P w=.ok (a==b) w:=n0y 9999;simp only[execOp,d.ev k,d.ev i];simp[eqGuard,binOp,l,Result.andThen]
theorem x0n{T T':TypeId}{x y:Operand}{a b:Bool}[h:GX P T](k:ev e x=some (.bool a))(i:ev e y=some (.bool b)):D6 P n e (.binOp .neq T x y T') ty w (.bool (!(a==b))) w:=by
 intro m j f c g d;have l:(Op.equal T (.bool a) (.bool b)).run P w=.ok (a==b) w:=n0y 9999;simp only[execOp,d.ev k,d.ev i];simp[eqGuard,binOp,l,Result.andThen]
theorem GZ{T T' s y b:Nat}{z:Value}{x:Operand}{cs:List Value}[L5 P T][Info P T s y z](f:ev e x=some (.pointer (some ⟨b,0,none⟩)))(a:Blk w b cs T')(c:Z1 cs s=true)(g:Nat.blt d n=true)
 (h:VO P n ops rest ((d,.agg cs.toArray) :: e) w Q):VO P n ops (⟨some d,.load T x,ty,pos,after,none⟩ :: rest) e w Q:=F0 _ (V7 f (M4 c) a.at) g h
theorem m0c{T s y b o:Nat}{z:Value}{x:Operand}{cs:List Value}[L5 P T][Info P T s y z](f:ev e x=some (.pointer (some ⟨b,o,none⟩)))(a:At w b o cs)(c:Z1 cs s=true)(g:Nat.blt d n=true)
 (h:VO P n ops rest ((d,.agg cs.toArray) :: e) w Q):VO P n ops (⟨some d,.load T x,ty,pos,after,none⟩ :: rest) e w Q:=F0 _ (V7 f (M4 c) a) g h
def DS(s:Nat):Nat->Nat->List (Nat×Nat)
 | 0,_=>[]
 | k+1,i=>(i*s,s) :: DS s k (i+1)
theorem i0O(s:Nat):∀(k i j:Nat),j<k->(DS s k i)[j]?=some ((i+j)*s,s)
 | 0,_,_,h=>by omega
 | k+1,i,0,_=>by simp[DS]
 | k+1,i,j+1,h=>by
   rw[DS,List.getElem?_cons_succ,i0O s k (i+1) j (by omega)];congr 2; rw[show i+1+j=i+(j+1) by omega]
theorem QT(f g:Nat->Option (Nat×Nat)):∀(parts:List (Nat×Value)) (cs ds:Array Value),(∀i p,f i=some p->g i=some p)->Instr.fill f cs parts=some ds->Instr.fill g cs parts=some ds
 | [],_,_,_,h=>h
 | (i,v) :: r,cs,ds,hfg,h=>by
   unfold Instr.fill at h ⊢;cases hf:f i with
   | none=>grind
   | some p =>
     rw[hf] at h;rw[hfg i p hf];obtain⟨c,a⟩:=p;simp only at h ⊢;split at h
     ·cases h
     ·rename_i b; rw[if_neg b]; exact QT f g r _ _ hfg h
def I8:Nat->List Value->List Value
 | 0,_=>[]
 | k+1,z=>z++I8 k z
theorem q0g(z:Value):∀k,I8 k [z]=List.replicate k z
 | 0=>rfl
 | k+1=>by rw[I8,q0g z k]; rfl
theorem s0J(z:Value)(k:Nat):(Array.range k).map (fun i=>#[z][i % #[z].size]!)=(I8 k [z]).toArray:=by
 rw[q0g];apply Array.ext';simp only[Array.toList_map,Array.toList_range];apply List.ext_getElem?;intro j;by_cases a:j<k
 ·simp[a,Nat.mod_one]
 ·simp[a]
theorem l0e{T E y c:Nat}{z:Value}{f:List (Nat×Operand)}{vs:List (Nat×Value)}{cs:List Value}[X:H4 P T E][i:Info P E 1 y z](hz:z.cells=#[z])(hx:evp e f=some vs)(hl:Nat.ble c 16777216=true)
  (V:BD (DS 1 c 0) (I8 c [z]) vs=some cs) (hd:Nat.blt d n=true)
  (k:∀b w',QP w b w'->Blk w' b cs E->VO P n ops rest ((d,.slice (some ⟨b,0,none⟩) c c) :: e) w' Q) :
  VO P n ops (⟨some d,.buildSlice T c f.toArray,ty,pos,after,none⟩ :: rest) e w Q:=by
 obtain⟨G,l,h2,h3,W⟩:=i.get;refine F0 (.slice (some ⟨w.heap.size,0,none⟩) c c) (w':=w.alloc (.cells cs.toArray E)) ?_ hd (k _ _ (Jy _ _) (by simpa using Jz w cs.toArray E));intro a F pos after g Y;have v:=Nat.le_of_ble_eq_true hl;have e1:f.toArray.map (fun(i,x)=>(i,a.eval x))=vs.toArray:=by rw[<- Agree.evp Y hx]; simp
 have q:=NE (DS 1 c 0) vs (I8 c [z]) cs V;have o:=QT (fun i:Nat=>(DS 1 c 0)[i]?) (fun i:Nat=>some (i*1,1)) vs _ _ (fun i p t=>by
  by_cases hi:i<c
  ·rw[i0O 1 c 0 i hi] at t; simpa using t
  ·rw[List.getElem?_eq_none (by
    have:∀k j,(DS 1 k j).length=k:=fun k=>by induction k with
     | zero=>intro j; rfl
     | succ k H=>intro j; simp[DS,H]
    rw[this]; omega)] at t
   cases t) q
 have r:¬c > 2 ^ 24:=by omega
 have m:Instr.fill (fun i=>some (i,1)) (I8 c [z]).toArray vs=some cs.toArray:=by simpa using o
 have s:∀w:World,(newRow E cs.toArray).run P w=.ok ⟨w.heap.size,0,none⟩ (w.alloc (.cells cs.toArray E)):=fun _=>rfl;simp only[execOp,e1];simp only[Instr.buildSlice,Sem.run_bind,run_underlying X.h,Result.andThen,U8 w l,h2,Nat.mul_one,r,if_false];by_cases u:c=0
 ·subst u;have e2:Array.map (fun x=>(#[]:Array Value)[x % (#[]:Array Value).size]!) (Array.range 0)=(I8 0 [z]).toArray:=by simp[I8]
  simp_all
 ·simp only[u,if_false,Sem.run_bind,Sem.run_pure,Result.andThen,Jx w l W,hz,s0J z c,m,s]
def F8(s:ByteArray)(k:Nat):Int:=((s.data.toList.getD k 0).toNat:Int)
theorem v0I(s:ByteArray)(k:Nat):0<=F8 s k:=by grind[F8]
theorem v0J(s:ByteArray)(k:Nat):F8 s k<=255:=by unfold F8; have:=(s.data.toList.getD k 0).toNat_lt; omega
theorem r0H{T:TypeId}{x ix:Operand}{s:ByteArray}{k:Nat}{q:IntKind}[h:IQ P T](m:ev e x=some (.string s))(hi:ev e ix=some (.int q (k:Int)))(c:k<s.size) :
  D6 P n e (.index T x ix) ty w (.int .u8 (F8 s k)) w:=by
 intro a j f b g d;have l:0<=(k:Int):=by omega
 have o:s[k]?=some s[k]:=by simp[c]
 simp only[execOp,d.ev m,d.ev hi];simp only[Instr.index,asIntOf,Sem.run_bind,Sem.run_pure,Result.andThen,run_underlying h.h,l,if_true,Int.toNat_natCast,o];congr 3;have i:k<s.data.toList.length:=by simpa using c
 have:s[k]=s.data.toList[k]:=rfl
 grind[F8,List.getElem?_eq_getElem]
theorem k0y(w:World)(ad:Addr):(asAddr (.pointer (some ad))).run P w=.ok ad w:=rfl
theorem q0S{d:Func}{R:Ending->World->Prop}{t T T' s y b:Nat}{z:Value}{cs:List Value}[L5 P T][Info P T s y z](l:d.results=#[.cell t T])(i:lk e t=some (.pointer (some ⟨b,0,none⟩)))(j:Blk w b cs T')(k:Z1 cs s=true)
  (h:R (.returned (.agg cs.toArray)) w):M3 n .ret e w (bodyPost P d R):=by
 intro a f;refine⟨f.1,.agg cs.toArray,?_,h⟩;have g:=QQ (P:=P) (T:=T) (M4 k) j.at;have c:=f.2.2 _ _ i;simp only[Array.getD_eq_getD_getElem?] at c;simp[results,l,c,k0y,g,Result.andThen]
theorem n0v{j:Func}{R:Ending->World->Prop}{t g T T' s y b:Nat}{z v1:Value}{cs:List Value}[L5 P T][Info P T s y z](q:j.results=#[.cell t T,.tmp g])(l:lk e t=some (.pointer (some ⟨b,0,none⟩)))(m:Blk w b cs T')(o:Z1 cs s=true)
  (c:lk e g=some v1) (h:R (.returned (.tuple #[.agg cs.toArray,v1])) w):M3 n .ret e w (bodyPost P j R):=by
 intro a d;refine⟨d.1,.tuple #[.agg cs.toArray,v1],?_,h⟩;have k:=QQ (P:=P) (T:=T) (M4 o) m.at;have i:=d.2.2 _ _ l;have f:=d.2.2 _ _ c;simp only[Array.getD_eq_getD_getElem?] at i f;simp[results,q,i,f,k0y,k,Result.andThen]
end
class JC(P:Program)(T:TypeId)(α:Type)[Rep α]:Prop where
 op:∀{H:Type} {enc:TypeId×Value->H} {w:World} {sp:Nat->Bool} {hl:Bool} {fuel:Nat} {cs:List Value} {x:DataW H×List MemPlace},
  DataW.trod enc P w 0 sp hl fuel T cs=some x->∃y:α,Rep.rep 0 w.heap.size w cs y
class PR(P:Program)(T:TypeId):Prop where h:P.underlying T=some (.int .i64)
class MN(P:Program)(T:TypeId):Prop where h:P.underlying T=some (.int .u8)
instance:Rep UInt8 where
 sz:=1
 pos:=Nat.one_pos
 rep _ _ _ cs x:=cs=[.int .u8 (x.toNat:Int)]
 len h:=by grind
 same h _:=h
 wide h _ _:=h
instance {P:Program}{T:TypeId}[hT:PR P T]:JC P T Int where
 op:=by
  intro H enc w sp hl fuel cs x h;obtain⟨n,rfl,_,hw⟩:=DataW.trod_int hT.h h;refine⟨n,rfl,?_⟩;simp only[Lit.wf,ba,dq] at hw;have h1:IntKind.i64.min = -9223372036854775808:=rfl;have h2:IntKind.i64.max=9223372036854775807:=rfl;rw[h1,h2] at hw;exact hw
instance {P:Program}{T:TypeId}[hT:MN P T]:JC P T UInt8 where
 op:=by
  intro H enc w sp hl fuel cs x h;obtain⟨n,rfl,_,hw⟩:=DataW.trod_int hT.h h;simp only[Lit.wf,ba,dq] at hw;have h1:IntKind.u8.min=0:=rfl;have h2:IntKind.u8.max=255:=rfl;rw[h1,h2] at hw;refine⟨UInt8.ofNat n.toNat,?_⟩;show [Value.int .u8 n]=[Value.int .u8 _];have:(UInt8.ofNat n.toNat).toNat=n.toNat:=by simp; omega
  grind
instance {P:Program}{T:TypeId}[hT:GX P T]:JC P T Bool where
 op:=by
  intro H enc w sp hl fuel cs x h;obtain⟨b,rfl,_⟩:=DataW.trod_bool hT.h h;exact⟨b,rfl⟩
instance {P:Program}{T:TypeId}[hT:IQ P T]:JC P T ByteArray where
 op:=by
  intro H enc w sp hl fuel cs x h;obtain⟨s,rfl,_,hs⟩:=DataW.trod_string hT.h h;exact⟨s,rfl,by grind[maxLen]⟩
theorem JD{w:World}{c:Nat}{a:Addr}{n:Nat}{cs:List Value}(e:0<n)(h:w.cells? c a n=some cs):a=⟨a.block,a.off,none⟩/\cs.length=n/\At w a.block a.off cs:=by
 obtain⟨_,k,g⟩:=World.cells?_some h;obtain⟨b,o,sp⟩:=a;have d:sp=none:=by
  have f:=g 0 e;have j:(Addr.mk b o sp).add 0=⟨b,o,sp⟩:=by simp[Addr.add]
  rw[j,List.getElem?_eq_getElem (by omega)] at f;cases sp with
  | none=>rfl
  | some q =>
    grind[World.cell?]
 subst d;refine⟨rfl,k,fun i u l=>?_⟩
 grind[Nat.lt_or_ge,List.getElem?_eq_none,Addr.add]
theorem At.app{w:World}{b o:Nat}{cs ds:List Value}(h:At w b o cs)(k:At w b (o+cs.length) ds):At w b o (cs++ds):=by
 intro i u a;rcases Nat.lt_or_ge i cs.length with hi | hi
 ·rw[List.getElem?_append_left hi] at a; exact h i u a
 ·rw[List.getElem?_append_right hi] at a;have:=k (i-cs.length) u a
  grind
theorem QU{w:World}{b o:Nat}:At w b o []:=fun i u a=>by grind
instance {P:Program}{T E:TypeId}{α:Type}[Rep α][hT:H4 P T E][hE:JC P E α]:JC P T (List α) where
 op:=by
  intro H enc w sp hl fuel cs x h;rcases DataW.trod_slice hT.h h with ⟨rfl,_⟩ | ⟨a,len,cap,elems,rest,n,rfl,rfl,_,_,hlc,hcm,hel,hat,_,_⟩
  ·exact⟨[],_,rfl,SlR.nil⟩
  ·have hcap:cap<=9223372036854775807:=by unfold maxLen at hcm; omega
   -- each element's cells and what they read as
   have each:∀i,i<len->∃c:List Value,w.cells? 0 (a.add (i*P.cellsOf E)) (P.cellsOf E)=some c/\∃y:α,Rep.rep 0 w.heap.size w c y:=by
    intro i hi;have hi':=hat i hi;rw[List.getElem?_eq_getElem (by omega)] at hi';cases hc:w.cells? 0 (a.add (i*P.cellsOf E)) (P.cellsOf E) with
    | none=>rw[hc] at hi'; cases hi'
    | some c =>
      rw[hc] at hi';simp only[Option.bind_some] at hi';exact⟨c,rfl,hE.op hi'⟩
   by_cases h0:len=0
   ·subst h0;exact⟨[],_,rfl,some a,cap,rfl,Nat.zero_le _,hcap,.inl rfl⟩
   ·have hs:P.cellsOf E=Rep.sz α:=by
     obtain⟨c,hc,y,hy⟩:=each 0 (by omega);have:=(World.cells?_some hc).2.1;rw[<- this]; exact Rep.len hy
    have hsp:0<P.cellsOf E:=by rw[hs]; exact Rep.pos
    obtain⟨b,o,rfl⟩:∃b o,a=⟨b,o,none⟩:=by
     obtain⟨c,hc,_⟩:=each 0 (by omega);have e0:a.add (0*P.cellsOf E)=a:=by simp[Addr.add]
     rw[e0] at hc;exact⟨a.block,a.off,(JD hsp hc).1⟩
    have hb:b<w.heap.size:=by
     obtain⟨c,hc,_⟩:=each 0 (by omega);have e0:(Addr.mk b o none).add (0*P.cellsOf E)=⟨b,o,none⟩:=by simp[Addr.add]
     rw[e0] at hc;have h1:=JD hsp hc;exact h1.2.2.lt (by rw[h1.2.1]; exact hsp)
    have build:∀k,k<=len->∃(cs:List Value) (xs:List α),xs.length=k/\At w b o cs/\All 0 w.heap.size w cs xs:=by
     intro k
     induction k with
     | zero=>exact fun _=>⟨[],[],rfl,QU,rfl⟩
     | succ k ih =>
       intro hk;obtain⟨cs,xs,h1,h2,h3⟩:=ih (by omega);obtain⟨c,hc,y,hy⟩:=each k (by omega);have hadd:(Addr.mk b o none).add (k*P.cellsOf E)=⟨b,o+k*P.cellsOf E,none⟩:=by
        unfold Addr.add;split
        ·rename_i h0; rw[h0]; rfl
        ·rfl
       rw[hadd] at hc;have h4:=(JD hsp hc).2.2;refine⟨cs++c,xs++[y],by simp[h1],h2.app ?_,All.app (All.one hy) h3⟩;have:cs.length=k*P.cellsOf E:=by rw[h3.len,h1,hs]
       rw[this]; exact h4
    obtain⟨cs,xs,h1,h2,h3⟩:=build len (Nat.le_refl _);subst h1;exact⟨xs,_,rfl,some ⟨b,o,none⟩,cap,rfl,hlc,hcap,.inr ⟨b,o,cs,rfl,Nat.zero_le _,hb,h2,h3⟩⟩
theorem m0Y{P:Program}{T:TypeId}{H:Type}{enc:TypeId×Value->H}{w:World}{sp:Nat->Bool}{c:Bool}{a:Nat}{cs:List Value}{x:DataW H×List MemPlace}{b:Array Field}
  (d:P.underlying T=some (.struct b)) (h:DataW.trod enc P w 0 sp c a T cs=some x) :
  cs.length=P.cellsOf T/\∀(i:Nat) (f:Field),b[i]?=some f->∃n y,DataW.trod enc P w 0 sp c n f.type ((cs.drop f.offset).take (P.cellsOf f.type))=some y:=by
 obtain⟨e,n,_,_,k,j,g⟩:=DataW.trod_struct d h
 grind
theorem f0W{H:Type}{enc:TypeId×Value->H}{P:Program}(g:laidOutB P=true){W c:World}(e:Below W.heap.size W c) :
  ∀{ts:List TypeId} {vs:List Value} {ds:List (DataW H)} {ps:List MemPlace},(ts.all fun t=>P.readableRec t&&decide (t<P.types.size))=true ->
   DataW.TrodAll enc P W 0 (fun _=>true) true ts vs ds ps->DataW.TrodAll enc P c 0 (fun b=>decide (b<W.heap.size)) true ts vs ds ps
 | [],[],[],_,_,h=>h
 | t :: ts,v :: vs,d :: ds,ps,hr,h=>by
   obtain⟨p,q,i,k,rfl⟩:=h;simp only[List.all_cons,ba,dq] at hr;have a:∀x∈p,x.block<W.heap.size:=by
    obtain⟨f,j⟩:=i;exact DataW.trod_lt f t _ _ j
   exact⟨p,q,Below.trod g hr.1.1 hr.1.2 i e a,f0W g e (by grind) k,rfl⟩
 | [],[],_ :: _,_,_,h=>h.elim
 | [],_ :: _,_,_,_,h=>h.elim
 | _ :: _,[],_,_,_,h=>h.elim
 | _ :: _,_ :: _,[],_,_,h=>h.elim
def VH(P:Program)(n:Nat)(ops:Array Oper)(w0:World)(fuel:Nat)(listed:Array Bool)(e:A9)(w:World)(Q:Exit->Act->World->Prop):Prop :=
 Ext w0 w/\∀a,Agree n e a->wpAnyH P .any ops (NoPanic Q) (Ext w0) fuel listed a w
def DT:List Oper->Nat->Option Oper
 | [],_=>none
 | o :: _,0=>some o
 | _ :: r,i+1=>DT r i
theorem u0w:∀(l:List Oper) (i:Nat),DT l i=l[i]?
 | [],_=>by simp[DT]
 | _ :: _,0=>by simp[DT]
 | _ :: r,i+1=>by simp[DT,u0w r i]
theorem Vr{l:List Oper}{i:Nat}{o:Oper}(h:DT l i=some o):l.toArray[i]?=some o:=by grind[u0w]
section
variable {P:Program} {n:Nat} {e:A9} {w w0:World} {Q:Exit->Act->World->Prop} {l:List Oper} {fuel:Nat} {listed:Array Bool}
 {d:Nat} {op:Op} {ty:TypeId} {pos:String} {after:Array Edge}
theorem MR{id:Nat}[b:M1 P](h:∀w',Ext w w'->VH P n l.toArray w' l.length (Array.replicate l.length false) e w' Q):VS P n (.region id l.toArray true) e w Q:=by
 intro a c;refine wp_region_noPanic (wp_region_held (S:=Ext w.drew) b.h ?_);have:=(h w.drew ((Below.refl _ _).drew)).2 a c
 simp_all
theorem D1(i:Nat){v:Value}(hi:DT l i=some ⟨some d,op,ty,pos,after,none⟩)(o:∀w',Ext w0 w'->D6 P n e op ty w' v w')(j:Nat.blt d n=true)
  (m:Region.noSelect l.toArray=true) (g:Region.free .any l.toArray listed i=true) (f:(Region.ready .any l.toArray listed).contains i=true)
  (h:VH P n l.toArray w0 fuel (listed.setIfInBounds i true) ((d,v) :: e) w Q):VH P n l.toArray w0 (fuel+1) listed e w Q:=by
 refine⟨h.1,fun a c=>wpAnyH_take (v:=v) (Vr hi) m g f (fun _ _ _ k=>k) (.inl ⟨by simp[Region.wanted],fun w' b=>o w' b a _ _ _ _ c⟩) h.1 (h.2 _ (c.put d j v))⟩
theorem s0V(i:Nat){v:Value}(hi:DT l i=some ⟨some d,op,ty,pos,after,none⟩)(c:Region.ready .any l.toArray listed=[i])(g:D6 P n e op ty w v w)(f:Nat.blt d n=true)
  (h:VH P n l.toArray w0 fuel (listed.setIfInBounds i true) ((d,v) :: e) w Q):VH P n l.toArray w0 (fuel+1) listed e w Q:=by
 refine⟨h.1,fun a b=>wpAnyH_all c (by simp) fun j k=>?_⟩;obtain rfl:j=i:=by grind
 unfold wpOp;simp only[Vr hi,Region.wanted,if_true,Oper.wp];rw[g a _ _ _ _ b];exact .inl ⟨h.1,h.2 _ (b.put d f v)⟩
theorem MS(d:Region.ready .any l.toArray listed=[])(h:M3 n .normal e w Q)(c:Ext w0 w):VH P n l.toArray w0 fuel listed e w Q :=
 ⟨c,fun a b=>wpAnyH_done d (NoPanic.normal (h a b)) fuel⟩
end
section
variable {P:Program} {n:Nat} {e:A9} {w:World} {Q:Exit->Act->World->Prop} {ops:Array Oper} {rest:List Oper}
 {d:Nat} {ty:TypeId} {pos:String} {after:Array Edge}
theorem t0K{a b:Int}(g:K1 a)(d:0<b) : -9223372036854775808<=a.tdiv b/\a.tdiv b<=9223372036854775807:=by
 unfold K1 at g;rcases Int.le_total 0 a with c | c
 ·have e:=Int.tdiv_nonneg c (Int.le_of_lt d);have h:(a.tdiv b).natAbs=a.natAbs / b.natAbs:=Int.natAbs_tdiv a b;have f:=Nat.div_le_self a.natAbs b.natAbs;omega
 ·have e:=Int.tdiv_nonneg (show 0 <= -a by omega) (Int.le_of_lt d);rw[Int.neg_tdiv] at e;have h:(a.tdiv b).natAbs=a.natAbs / b.natAbs:=Int.natAbs_tdiv a b;have f:=Nat.div_le_self a.natAbs b.natAbs;omega
theorem q0c{T T':TypeId}{x y:Operand}{a b:Int}(l:ev e x=some (.int .i64 a))(k:ev e y=some (.int .i64 b))(d:K1 a)(m:0<b) :
  D6 P n e (.binOp .quo T x y T') ty w (.int .i64 (a.tdiv b)) w:=by
 intro o j h c g f;have i:¬b=0:=by omega
 simp only[execOp,f.ev l,f.ev k];simp[eqGuard,binOp,Op.intDiv,i,IntWalk.i64_in _ (t0K d m)]
theorem PS{T T':TypeId}{x y:Operand}{a b:Int}(j:ev e x=some (.int .i64 a))(h:ev e y=some (.int .i64 b))(k:b≠0) :
  D6 P n e (.binOp .rem T x y T') ty w (.int .i64 (a.tmod b)) w:=by
 intro l i f c g d;simp only[execOp,d.ev j,d.ev h];simp[eqGuard,binOp,Op.intDiv,k]
theorem x0m{T:TypeId}{x:Operand}{a:Int}(d:ev e x=some (.int .i64 a))(h : -9223372036854775808 <= -a /\ -a<=9223372036854775807) :
  D6 P n e (.unOp .neg T x) ty w (.int .i64 (-a)) w:=by
 intro j f c b g i;simp only[execOp,i.ev d];simp[Op.unary,Op.intArith,IntWalk.i64_in _ h]
theorem o0w{T T':TypeId}{x:Operand}{k:IntKind}{a:Int}[i:MN P T'][hi:PR P T](d:ev e x=some (.int k a)) :
  D6 P n e (.convert T T' x) ty w (.int .u8 (a % 256)) w:=by
 intro l f c b g j;simp only[execOp,j.ev d];simp[convert,run_underlying i.h,run_underlying hi.h,Conv.intToInt,IntKind.wrap_u8,Result.andThen]
theorem k0v{T T' E:TypeId}{x:Operand}{b o a m:Nat}{ms:List Int}[s:H4 P T E][q:MN P E][r:IQ P T'](l:ev e x=some (.slice (some ⟨b,o,none⟩) m a))(k:ms.length=m)(f:At w b o (ms.map (Value.int .u8))) :
  D6 P n e (.convert T T' x) ty w (.string (strOfNums ms)) w:=by
 intro u j d c g t;have h:=run_convert_bytes_arg (P:=P) w T E s.h q.h b o m a ms k (fun i hi=>f i _ (by grind)) T' r.h;simp only[execOp,t.ev l]
 simp_all
theorem q0h(z:List Value):∀k,(I8 k z).length=k*z.length
 | 0=>by simp[I8]
 | k+1=>by rw[I8,List.length_append,q0h z k,Nat.add_mul]; omega
theorem q0i(z:List Value):∀(k j:Nat),j<k*z.length->(I8 k z)[j]?=z[j % z.length]?
 | 0,j,h=>by omega
 | k+1,j,h=>by
   have b:j<k*z.length+z.length:=by rwa [Nat.add_mul,Nat.one_mul] at h
   rw[I8];rcases Nat.lt_or_ge j z.length with a | a
   ·rw[List.getElem?_append_left a,Nat.mod_eq_of_lt a]
   ·rw[List.getElem?_append_right a,q0i z k (j-z.length) (by omega)]
    grind[Nat.mod_eq_sub_mod]
theorem j0K(z:Array Value)(k:Nat)(hz:0<z.size):madeCells z (k*z.size)=(I8 k z.toList).toArray:=by
 apply Array.ext';apply List.ext_getElem?;intro j;unfold madeCells;by_cases b:j<k*z.size
 ·have a:j % z.size<z.size:=Nat.mod_lt _ hz;rw[show(I8 k z.toList).toArray.toList=I8 k z.toList by simp,q0i z.toList k j (by omega)]
  grind
 grind[List.getElem?_eq_none,q0h]
theorem m0L{T E s y:Nat}{z:Value}{x r:Operand}{m:Nat}{zs:List Value}[Q:H4 P T E][i:Info P E s y z](V:ev e x=some (.int .i64 (m:Int)))(l:ev e r=some (.int .i64 (m:Int)))(hz:z.cells.toList=zs)(W:Z1 zs s=true)(G:Nat.blt 0 s=true)
  (hm:m*y<=281474976710656) (v:m<=9223372036854775807) :
  D6 P n e (.makeSlice T x r) ty w (.slice (some ⟨w.heap.size,0,none⟩) m m) (w.alloc (.cells (I8 m zs).toArray E)):=by
 intro a u t k g q;obtain⟨b,c,Y,X,H⟩:=i.get;subst hz;have j:=M4 W;have d:z.cells.size=s:=by simpa using j
 have F:(b.bytes:Int)*(m:Int)<=281474976710656:=by
  have h:((b.bytes*m:Nat):Int)<=281474976710656:=by rw[X,Nat.mul_comm]; omega
  rwa [Int.natCast_mul] at h
 have h:=run_make (P:=P) w T E b z Q.h c H .i64 .i64 m m (by omega) (Int.le_refl _) F (by omega);simp only[Int.toNat_natCast] at h;have f:0<z.cells.size:=by rw[d]; simpa using G
 have o:=j0K z.cells m f;rw[Y] at h;rw[d] at o;rw[o] at h;simp only[execOp,q.ev V,q.ev l]
 simp_all
variable {w0:World} {l:List Oper} {fuel:Nat} {listed:Array Bool}
def VHo(P:Program)(n:Nat)(l:List Oper)(w0:World)(fuel:Nat)(listed:Array Bool)(e:A9)(w:World)(Q:Exit->Act->World->Prop)(i:Nat):Prop :=
 ∀a,Agree n e a->wpOp P l.toArray (NoPanic Q) i (fun a' w'=>Ext w0 w'/\wpAnyH P .any l.toArray (NoPanic Q) (Ext w0) fuel (listed.setIfInBounds i true) a' w') a w
theorem R2(i:Nat)(f:Region.ready .any l.toArray listed=[i])(hi:VHo P n l w0 fuel listed e w Q i)(d:Ext w0 w):VH P n l.toArray w0 (fuel+1) listed e w Q :=
 ⟨d,fun a c=>wpAnyH_all f (by simp) fun k b=>by
   rcases List.mem_cons.1 b with rfl | b
   ·exact hi a c
   grind⟩
theorem R3{i f:Nat}{xs:List Operand}{vs:List Value}{b:Array TypeId}[C4 P f](hi:DT l i=some ⟨some d,.call ⟨.value (.func f),xs.toArray,b⟩,ty,pos,after,none⟩)
  (k:evl e xs=some vs) (m:Nat.blt d n=true)
  (h:Calls P f vs.toArray w (fun en w'=>∃v,en=.returned v/\VH P n l.toArray w0 fuel (listed.setIfInBounds i true) ((d,v) :: e) w' Q)):VHo P n l w0 fuel listed e w Q i:=by
 intro a g;unfold wpOp;simp only[Vr hi,Region.wanted,if_true,Oper.wp];have j:xs.toArray.map a.eval=vs.toArray:=by rw[<- g.evl k]; simp
 have:(execOp a.eval ⟨some d,.call ⟨.value (.func f),xs.toArray,b⟩,ty,pos,after,none⟩).run P w=.ok (.enter f vs.toArray) w:=by
  simp only[execOp,resolve,j];simp[Act.eval,Deferred.ofValue,invoke,QR]
 rw[this];refine .inl (Calls.mono h ?_);rintro en w' ⟨v,rfl,c⟩;exact⟨c.1,c.2 _ (g.put d m v)⟩
end
structure WE(g:Option Nat)(w w':World):Prop where
 os:w'.os=w.os
 tape:w'.tape=w.tape
 output:w'.output=w.output
 size:w.heap.size<=w'.heap.size
 block:∀k,k<w.heap.size->g≠some k->w'.heap[k]?=w.heap[k]?
theorem WE.of_ext{g:Option Nat}{w w':World}(h:Ext w w'):WE g w w':=⟨h.os,h.tape,h.output,h.size,fun k a _=>h.block k a⟩
theorem WE.of_wr{b:Nat}{w w':World}(h:Wr b w w'):WE (some b) w w':=⟨h.os,h.tape,h.output,by rw[h.size]; exact Nat.le_refl _,fun k _ c=>h.block k (fun a=>c (by rw[a]))⟩
theorem WE.refl{g:Option Nat}(w:World):WE g w w:=⟨rfl,rfl,rfl,Nat.le_refl _,fun _ _ _=>rfl⟩
theorem WE.trans{g:Option Nat}{a b c:World}(h:WE g a b)(k:WE g b c):WE g a c :=
 ⟨k.os.trans h.os,k.tape.trans h.tape,k.output.trans h.output,Nat.le_trans h.size k.size,fun i hi d=>(k.block i (Nat.lt_of_lt_of_le hi h.size) d).trans (h.block i hi d)⟩
theorem WE.below{g:Option Nat}{w w':World}{B:Nat}(h:WE g w w')(c:∀k,g=some k->B<=k)(a:B<=w.heap.size):Below B w w' :=
 ⟨h.os,h.tape,h.output,h.size,fun k b=>h.block k (by omega) (fun e=>by grind)⟩
theorem WE.ext{w w':World}(h:WE none w w'):Ext w w':=h.below (fun _ e=>by cases e) (Nat.le_refl _)
theorem Blk.we{g:Option Nat}{w w':World}{b:Nat}{cs:List Value}{T:TypeId}(h:Blk w b cs T)(k:WE g w w')(a:∀i,g=some i->b≠i):Blk w' b cs T:=by
 unfold Blk; rw[k.block b h.lt (fun e=>a b e rfl)]; exact h
theorem At.we{g:Option Nat}{w w':World}{b o:Nat}{cs:List Value}(h:At w b o cs)(k:WE g w w')(a:∀i,g=some i->b≠i):At w' b o cs:=h.same (fun c=>k.block b c (fun e=>a b e rfl))
theorem SlR.we{a:Type}[Rep a]{g:Option Nat}{lo hi:Nat}{w w':World}{v:Value}{xs:List a}(h:SlR lo hi w v xs)(k:WE g w w')(c:∀i,g=some i->i<lo∨hi<=i):SlR lo hi w' v xs :=
 h.same (fun i f d b=>k.block i b (fun e=>by grind))
theorem Rep.rep.we{a:Type}[Rep a]{g:Option Nat}{lo hi:Nat}{w w':World}{cs:List Value}{x:a}(h:Rep.rep lo hi w cs x)(k:WE g w w')(c:∀i,g=some i->i<lo∨hi<=i):Rep.rep lo hi w' cs x :=
 Rep.same h (fun i f d b=>k.block i b (fun e=>by grind))
theorem Rep.rep.up{a:Type}[Rep a]{lo hi:Nat}{w w':World}{cs:List Value}{x:a}(h:Rep.rep lo hi w cs x)(k:Ext w w'):Rep.rep lo hi w' cs x:=Rep.up h k
theorem Rep.rep.wide{c:Type}[Rep c]{lo hi b a:Nat}{w:World}{cs:List Value}{x:c}(h:Rep.rep lo hi w cs x)(e:b<=lo)(d:hi<=a):Rep.rep b a w cs x:=Rep.wide h e d
def Own(w:World)(E:TypeId)(s:Nat)(g:Option Nat)(v:Value)(n:Nat)(cs:List Value):Prop :=
 (g=none/\n=0/\cs=[]/\∃p,v=.slice p 0 0) ∨
 ∃b o cap cur,g=some b/\v=.slice (some ⟨b,o,none⟩) n cap/\w.heap[b]?=some (.cells cur E (0,0))/\n<=cap/\cap<=maxLen/\cur.size=o+cap*s/\(cur.toList.drop o).take (n*s)=cs
theorem Own.nil{w:World}{E s:Nat}{p:Option Addr}:Own w E s none (.slice p 0 0) 0 []:=.inl ⟨rfl,rfl,rfl,p,rfl⟩
theorem Own.len{w:World}{E:TypeId}{s:Nat}{g:Option Nat}{v:Value}{n:Nat}{cs:List Value}(h:Own w E s g v n cs):∃p c,v=.slice p n c:=by
 rcases h with ⟨_,rfl,_,p,rfl⟩ | ⟨b,o,cap,cur,_,rfl,_⟩
 ·grind
 grind
theorem Own.clen{w:World}{E:TypeId}{s:Nat}{g:Option Nat}{v:Value}{n:Nat}{cs:List Value}(h:Own w E s g v n cs):cs.length=n*s:=by
 rcases h with ⟨_,rfl,rfl,_⟩ | ⟨b,o,cap,cur,_,rfl,_,h2,_,h4,rfl⟩
 ·simp
 simp_all
theorem Own.lt{w:World}{E:TypeId}{s:Nat}{g:Option Nat}{v:Value}{n:Nat}{cs:List Value}(h:Own w E s g v n cs):∀k,g=some k->k<w.heap.size:=by
 intro k a;rcases h with ⟨rfl,_⟩ | ⟨b,o,cap,cur,rfl,rfl,h1,_⟩
 ·cases a
 grind
theorem Own.we{g':Option Nat}{w w':World}{E:TypeId}{s:Nat}{g:Option Nat}{v:Value}{n:Nat}{cs:List Value}(h:Own w E s g v n cs)(k:WE g' w w')(c:∀i,g'=some i->g≠some i):Own w' E s g v n cs:=by
 have a:=h.lt;rcases h with h | ⟨b,o,cap,cur,rfl,rfl,h1,h2⟩
 ·exact .inl h
 ·refine .inr ⟨b,o,cap,cur,rfl,rfl,?_,h2⟩;rw[k.block b (a b rfl) (fun e=>c b e rfl)]; exact h1
theorem Own.up{w w':World}{E:TypeId}{s:Nat}{g:Option Nat}{v:Value}{n:Nat}{cs:List Value}(h:Own w E s g v n cs)(k:Ext w w'):Own w' E s g v n cs:=h.we (g':=none) (WE.of_ext k) (fun _ e=>by cases e)
theorem Own.at{w:World}{E:TypeId}{s:Nat}{b n:Nat}{v:Value}{cs:List Value}(h:Own w E s (some b) v n cs):∃o cap,v=.slice (some ⟨b,o,none⟩) n cap/\At w b o cs:=by
 rcases h with ⟨h,_⟩ | ⟨b',o,cap,cur,hb,rfl,h1,h2,h3,h4,rfl⟩
 ·cases h
 ·cases hb;refine⟨o,cap,rfl,fun i u a=>?_⟩;unfold World.cell?
  grind
section
variable {P:Program} {n:Nat} {e:A9} {w:World} {Q:Exit->Act->World->Prop} {ops:Array Oper} {rest:List Oper}
 {d:Nat} {ty:TypeId} {pos:String} {after:Array Edge}
theorem u0f{T E s y:Nat}{z:Value}[X:H4 P T E][i:Info P E s y z](_:0<s)(hz:z.cells.size=s){g:Option Nat}{v:Value}{a m c F G:Nat}{p2:Option Addr}{cs d:List Value}(h:Own w E s g v a cs)
  (hp:m=0∨p2=some ⟨F,G,none⟩) (hl:d.length=m*s) (hA:At w F G d) (h1:∀u∈d,u.oneCell'=true) (aH:a+m<=9223372036854775807) (hb:(a+m)*y<=140737488355328) :
  ∃v' w' g',(Builtin.append_ #[T,T] ty #[v,.slice p2 m c]).run P w=.ok v' w'/\Own w' E s g' v' (a+m) (cs++d)/\WE g w w'/\(g'=g∨g'=some w.heap.size):=by
 obtain⟨t,l,h2,h3,h4⟩:=i.get;by_cases hm:m=0
 ·subst hm;have hn:d=[]:=List.eq_nil_of_length_eq_zero (by omega);subst hn;have W:∃p f,v=.slice p a f/\a<=f:=by
   rcases h with ⟨_,rfl,_,p,rfl⟩ | ⟨b,o,f,cur,_,rfl,_,h2,_⟩
   ·grind
   ·grind
  obtain⟨p,f,rfl,aB⟩:=W;refine⟨_,w,g,?_,by simpa using h,WE.refl _,.inl rfl⟩;cases p <;> cases p2 <;> simp[Builtin.append_,run_underlying X.h,sizeOf,typeInfo,l,Builtin.lenOf,Builtin.firstCells,loadCells,loadCellsFrom,storeCells,aB]
 ·rcases hp with hp | rfl
  ·exact(hm hp).elim
  have n:∀j u,d[j]?=some u->w.cell? ((⟨F,G,none⟩:Addr).add j)=some u:=fun j u hj=>by
   have x:(Addr.mk F G none).add j=⟨F,G+j,none⟩:=by unfold Addr.add; split <;> simp_all
   rw[x]; exact hA j u hj
  have aA:m*t.bytes<=140737488355328:=by
   rw[h3];exact Nat.le_trans (Nat.mul_le_mul_right y (Nat.le_add_left m a)) hb
  have Q:∀q,Own (w.drew.alloc (.cells (cs.toArray++d.toArray++Builtin.zeroCells z.cells (grownCap w (a+m) q E-(a+m))) E)) E s (some w.heap.size) (.slice (some ⟨w.heap.size,0,none⟩) (a+m) (grownCap w (a+m) q E)) (a+m) (cs++d):=fun q=>by
   have aF:=grownCap_ge w (a+m) q E;have H:=h.clen;refine .inr ⟨w.heap.size,0,_,_,rfl,rfl,_root_.Go.heap_alloc_new w.drew _,aF,grownCap_le_maxLen w (a+m) q E (by grind[maxLen]),?_,?_⟩
   ·simp only[Array.size_append,List.size_toArray,size_zeroCells,hz,hl,H,<- Nat.add_mul,Nat.zero_add]
    grind
   grind[Array.toList_append,List.length_append,Nat.add_mul,List.take_left]
  have aD:∀(g:Option Nat) q,WE g w (w.drew.alloc (.cells (cs.toArray++d.toArray++Builtin.zeroCells z.cells (grownCap w (a+m) q E-(a+m))) E)):=fun g q=>⟨rfl,rfl,rfl,by simp,fun k hk _=>_root_.Go.heap_alloc_old w.drew _ hk⟩;have H:=h.clen;rcases h with ⟨rfl,rfl,rfl,p,rfl⟩ | ⟨b,o,f,cur,rfl,rfl,g1,g2,g3,g4,g5⟩
  ·have g:=Q 0;have hw:=aD none 0;simp only[Nat.zero_add,List.nil_append,Array.empty_append] at g hw;cases p with
   | none =>
     have V:=run_append_nil (P:=P) w T ty E t z X.h l h4 ⟨F,G,none⟩ m c d (by grind) n (by omega) (by omega) (by omega);exact⟨_,_,_,V,by simpa using g,hw,.inr rfl⟩
   | some a0 =>
     have V:=run_append_grow (P:=P) w T ty E t z X.h l h4 a0 0 0 [] (by simp) (fun j v hj=>by grind) ⟨F,G,none⟩ m c d (by grind) n (by omega) (by omega) (growslice_fits (by omega) (by grind));simp only[Nat.zero_add,Array.empty_append] at V;exact⟨_,_,_,V,by simpa using g,hw,.inr rfl⟩
  ·by_cases r:a+m<=f
   ·have aG:o+a*s+d.length<=cur.size:=by
     have:=Nat.mul_le_mul_right s r;rw[Nat.add_mul] at this;rw[hl,g4]; omega
    have hf:=run_firstCells_some (P:=P) w t.size m ⟨F,G,none⟩ m c d (by grind) n;have Y:=run_storeCells_at P b (o+a*s) E d 0 cur w g1 (by omega) h1;simp only[Nat.add_zero] at Y;have V:(Builtin.append_ #[T,T] ty #[.slice (some ⟨b,o,none⟩) a f,.slice (some ⟨F,G,none⟩) m c]).run P w=.ok (.slice (some ⟨b,o,none⟩) (a+m) f) (w.setRow b (cur.toList.take (o+a*s)++d++cur.toList.drop (o+a*s+d.length)).toArray):=by
     rw[h2] at hf;simp[Builtin.append_,run_underlying X.h,sizeOf,typeInfo,l,Builtin.lenOf,r,hf,Addr.add_lit,Y,h2]
    refine⟨_,_,some b,V,.inr ⟨b,o,f,_,rfl,rfl,setRow_heap w b cur _ E _ g1,r,g3,?_,?_⟩,⟨rfl,rfl,rfl,by simp[World.setRow],fun k _ hk=>HB w b k _ (fun e=>hk (by rw[e]))⟩,.inl rfl⟩
    ·simp only[List.size_toArray,List.length_append,List.length_take,List.length_drop,Array.length_toList];omega
    ·show(List.drop o (cur.toList.take (o+a*s)++d++cur.toList.drop (o+a*s+d.length))).take ((a+m)*s)=cs++d;have e1:(cur.toList.take (o+a*s)).length=o+a*s:=by rw[List.length_take,Array.length_toList]; omega
     rw[List.append_assoc,List.drop_append_of_le_length (by omega),List.drop_take,show o+a*s-o=a*s by omega,g5,<- List.append_assoc];rw[show(a+m)*s=(cs++d).length by rw[List.length_append,H,hl,Nat.add_mul]];exact List.take_left
   ·have TR:∀j u,cs[j]?=some u->w.cell? ((⟨b,o,none⟩:Addr).add j)=some u:=fun j u hu=>by
     have x:(Addr.mk b o none).add j=⟨b,o+j,none⟩:=by unfold Addr.add; split <;> simp_all
     rw[x];obtain⟨o0,c0,e0,aC⟩:=Own.at (.inr ⟨b,o,f,cur,rfl,rfl,g1,g2,g3,g4,g5⟩:Own w E s (some b) (.slice (some ⟨b,o,none⟩) a f) a cs);cases e0;exact aC j u hu
    have V:=run_append_grow (P:=P) w T ty E t z X.h l h4 ⟨b,o,none⟩ a f cs (by grind) TR ⟨F,G,none⟩ m c d (by grind) n (by omega) (by omega) (growslice_fits (by omega) (by grind))
    grind
theorem l0i{x:Operand}{ad:Addr}(d:ev e x=some (.pointer (some ad))):D6 P n e (.nilCheck x) ty w (.pointer (some ad)) w:=by
 intro a f c b g h;simp only[execOp,h.ev d];simp
end
end Go.Proofs.Sv
end
section
namespace Go.Proofs.Xv
open Go Go.RowKit Go.Proofs.Sv
inductive Ty
 | int (k:IntKind) | bool | str | sl (e:Ty) | pt (e:Ty) | pr (a b:Ty)
 deriving DecidableEq
@[reducible] def c9:Ty->Type
  | .int _=>Int
  | .bool=>Bool
  | .str=>ByteArray
  | .sl e=>List (c9 e)
  | .pt e=>c9 e
  | .pr a b=>c9 a×c9 b
def sz:Ty->Nat
 | .pr a b=>sz a+sz b
 | _=>1
theorem DR:∀t,0<sz t
 | .int _ | .bool | .str | .sl _ | .pt _=>Nat.one_pos
 | .pr a b=>by have:=DR a; grind[sz]
def a7:(t:Ty)->c9 t
 | .int _=>(0:Int)
 | .bool=>false
 | .str=>(⟨#[]⟩:ByteArray)
 | .sl _=>[]
 | .pt e=>a7 e
 | .pr a b=>(a7 a,a7 b)
def lo:IntKind->Int
 | .i8 => -128 | .i16 => -32768 | .i32 => -2147483648 | .i64 => -9223372036854775808 | _=>0
def hi:IntKind->Int
 | .i8=>127 | .i16=>32767 | .i32=>2147483647 | .i64=>9223372036854775807 | .u8=>255 | .u16=>65535 | .u32=>4294967295 | .u64=>18446744073709551615
def wf:(t:Ty)->c9 t->Prop
 | .int k,x=>lo k<=x/\x<=hi k
 | .bool,_=>True
 | .str,s=>s.size<=9223372036854775807
 | .sl e,xs=>xs.length<=9223372036854775807/\∀x∈xs,wf e x
 | .pt e,x=>wf e x
 | .pr a b,x=>wf a x.1/\wf b x.2
def UF(w:World)(k:Nat):Prop:=∃c T,w.heap[k]?=some (.cells c T (0,0))
theorem UF.lt{w:World}{k:Nat}(h:UF w k):k<w.heap.size:=by
 obtain⟨c,T,h⟩:=h
 grind
theorem UF.same{w w':World}{k:Nat}(h:UF w k)(e:w'.heap[k]?=w.heap[k]?):UF w' k:=by
 obtain⟨c,T,h⟩:=h;exact⟨c,T,e.trans h⟩
def UFg(w:World)(n k:Nat):Prop:=k<w.heap.size/\(n<=k->UF w k)
theorem UFg.lt{w:World}{n k:Nat}(h:UFg w n k):k<w.heap.size:=h.1
theorem UFg.same{w w':World}{n k:Nat}(h:UFg w n k)(b:w.heap.size<=w'.heap.size)(e:w'.heap[k]?=w.heap[k]?):UFg w' n k:=⟨Nat.lt_of_lt_of_le h.1 b,fun a=>(h.2 a).same e⟩
theorem UF.g{w:World}{n k:Nat}(h:UF w k):UFg w n k:=⟨h.lt,fun _=>h⟩
theorem FZ{w:World}{E s:Nat}{b:Nat}{v:Value}{n:Nat}{cs:List Value}(h:Own w E s (some b) v n cs):UF w b:=by
 rcases h with ⟨h,_⟩ | ⟨b',o,cap,cur,hb,_,h,_⟩
 ·cases h
 ·cases hb; exact⟨_,_,h⟩
theorem Vs{w:World}{b:Nat}{cs:List Value}{T:TypeId}(h:Blk w b cs T):UF w b:=⟨_,_,h⟩
def AllR{α:Type}(R:List Value->α->Prop):List Value->List α->Prop
 | cs,[]=>cs=[]
 | cs,x :: r=>∃c d,cs=c++d/\R c x/\AllR R d r
def RT(K:Nat->Prop)(w:World):(t:Ty)->List Value->c9 t->Prop
 | .int k,cs,x=>cs=[.int k x]/\(lo k<=x/\x<=hi k)
 | .bool,cs,x=>cs=[.bool x]
 | .str,cs,s=>cs=[.string s]/\s.size<=9223372036854775807
 | .sl e,cs,xs=>∃p cap,cs=[.slice p xs.length cap]/\xs.length<=cap/\cap<=9223372036854775807 /\
    (xs=[]∨∃b o ds,p=some ⟨b,o,none⟩/\K b/\At w b o ds/\AllR (RT K w e) ds xs)
 | .pt e,cs,x=>∃b o ds,cs=[.pointer (some ⟨b,o,none⟩)]/\K b/\At w b o ds/\RT K w e ds x
 | .pr a b,cs,x=>∃c d,cs=c++d/\RT K w a c x.1/\RT K w b d x.2
theorem AllR.mapR{a:Type}{R R':List Value->a->Prop}(h:∀c x,R c x->R' c x):∀{cs:List Value} {xs:List a},AllR R cs xs->AllR R' cs xs
 | _,[],k=>k
 | _,_ :: _,⟨c,d,e,k1,k2⟩=>⟨c,d,e,h _ _ k1,AllR.mapR h k2⟩
theorem AllR.mem{a:Type}{R:List Value->a->Prop}:∀{cs:List Value} {xs:List a},AllR R cs xs->∀x∈xs,∃c,R c x
 | _,[],_,x,hx=>by cases hx
 | _,_ :: _,⟨c,d,e,k1,k2⟩,x,hx=>by
   rcases List.mem_cons.1 hx with rfl | hx
   ·grind
   ·exact AllR.mem k2 x hx
theorem AllR.len{a:Type}{R:List Value->a->Prop}{s:Nat}(b:∀c x,R c x->c.length=s):∀{cs:List Value} {xs:List a},AllR R cs xs->cs.length=xs.length*s
 | cs,[],h=>by rw[show cs=[] from h]; simp
 | cs,x :: r,⟨c,d,e,k1,k2⟩=>by
   subst e;rw[List.length_append,b _ _ k1,AllR.len b k2,List.length_cons,Nat.add_mul]; omega
theorem AllR.app{a:Type}{R:List Value->a->Prop}{ds:List Value}{b:List a}(k:AllR R ds b):∀{cs:List Value} {xs:List a},AllR R cs xs->AllR R (cs++ds) (xs++b)
 | cs,[],h=>by rw[show cs=[] from h]; exact k
 | _,_ :: _,⟨c,d,e,h1,h2⟩=>⟨c,d++ds,by rw[e]; simp,h1,AllR.app k h2⟩
theorem AllR.one{a:Type}{R:List Value->a->Prop}{c:List Value}{x:a}(h:R c x):AllR R c [x]:=⟨c,[],by simp,h,rfl⟩
theorem AllR.get{a:Type}{R:List Value->a->Prop}{s:Nat}(b:∀c x,R c x->c.length=s):∀{cs:List Value} {xs:List a} {i:Nat} (_:AllR R cs xs) (hi:i<xs.length),
  ∃pre c post,cs=pre++c++post/\pre.length=i*s/\R c xs[i]
 | _,x :: r,0,⟨c,d,e,h1,h2⟩,_=>⟨[],c,d,by simp[e],by simp,h1⟩
 | _,x :: r,i+1,⟨c,d,e,h1,h2⟩,hi=>by
   obtain⟨pre,f,post,h,j,g⟩:=AllR.get b h2 (i:=i) (by grind)
   grind
theorem AllR.set{b:Type}{R:List Value->b->Prop}{s:Nat}(g:∀c x,R c x->c.length=s){a:List Value}{y:b}(f:R a y):∀{cs:List Value} {xs:List b} {i:Nat} (_:AllR R cs xs) (_:i<xs.length),
  AllR R (cs.take (i*s)++a++cs.drop ((i+1)*s)) (xs.set i y)
 | _,x :: r,0,⟨c,d,e,h1,h2⟩,_=>by
   subst e;refine⟨a,d,?_,f,h2⟩
   grind
 | _,x :: r,i+1,⟨c,d,e,h1,h2⟩,hi=>by
   subst e;have h:=g _ _ h1;refine⟨c,d.take (i*s)++a++d.drop ((i+1)*s),?_,h1,AllR.set g f h2 (by simpa using hi)⟩;have j:(i+1)*s=c.length+i*s:=by rw[h,Nat.add_mul]; omega
   have k:(i+1+1)*s=c.length+(i+1)*s:=by rw[h,Nat.add_mul (i+1)]; omega
   rw[k,List.drop_length_add_append,j,List.take_length_add_append];simp
theorem RT.len{K:Nat->Prop}{w:World}:∀{t:Ty} {cs:List Value} {x:c9 t},RT K w t cs x->cs.length=sz t
 | .int _,_,_,h=>by rw[h.1]; rfl
 | .bool,_,_,h=>by rw[show _=_ from h]; rfl
 | .str,_,_,h=>by rw[h.1]; rfl
 | .sl _,_,_,⟨_,_,h,_⟩=>by rw[h]; rfl
 | .pt _,_,_,⟨_,_,_,h,_⟩=>by rw[h]; rfl
 | .pr a b,_,_,⟨c,d,h,h1,h2⟩=>by rw[h,List.length_append,RT.len h1,RT.len h2]; rfl
theorem RT.same{K K':Nat->Prop}{w w':World}(g:∀k,K k->k<w.heap.size->K' k/\w'.heap[k]?=w.heap[k]?):∀{t:Ty} {cs:List Value} {x:c9 t},RT K w t cs x->RT K' w' t cs x
 | .int _,_,_,h=>h
 | .bool,_,_,h=>h
 | .str,_,_,h=>h
 | .sl e,_,xs,⟨p,cap,h1,h2,h3,i⟩=>by
   refine⟨p,cap,h1,h2,h3,?_⟩;rcases i with i | ⟨b,o,ds,hp,hb,hat,hall⟩
   ·grind
   ·rcases Nat.eq_zero_or_pos ds.length with hz | hz
    ·left;have:=hall.len (fun c x h=>RT.len h)
     grind[Nat.mul_eq_zero,List.eq_nil_of_length_eq_zero,DR]
    ·have f:=hat.lt hz;exact .inr ⟨b,o,ds,hp,(g b hb f).1,hat.same (fun _=>(g b hb f).2),hall.mapR (fun c x h=>RT.same g h)⟩
 | .pt e,_,x,⟨b,o,ds,h1,hb,hat,h2⟩=>by
   have hz:0<ds.length:=by rw[RT.len h2]; exact DR e
   have f:=hat.lt hz;exact⟨b,o,ds,h1,(g b hb f).1,hat.same (fun _=>(g b hb f).2),RT.same g h2⟩
 | .pr a b,_,x,⟨c,d,h,h1,h2⟩=>⟨c,d,h,RT.same g h1,RT.same g h2⟩
def H7:Ty->Bool
 | .int _ | .bool | .str=>true
 | .sl _ | .pt _=>false
 | .pr a b=>H7 a&&H7 b
theorem RT.free{K K':Nat->Prop}{w w':World}:∀{t:Ty} {cs:List Value} {x:c9 t},H7 t=true->RT K w t cs x->RT K' w' t cs x
 | .int _,_,_,_,h=>h
 | .bool,_,_,_,h=>h
 | .str,_,_,_,h=>h
 | .pr a b,_,x,hk,⟨c,d,h,h1,h2⟩=>by
   simp only[H7,ba] at hk;exact⟨c,d,h,RT.free hk.1 h1,RT.free hk.2 h2⟩
theorem RT.up{K K':Nat->Prop}{w:World}{t:Ty}{cs:List Value}{x:c9 t}(h:RT K w t cs x)(b:∀k,K k->K' k):RT K' w t cs x:=RT.same (fun k a _=>⟨b k a,rfl⟩) h
theorem RT.wf{K:Nat->Prop}{w:World}:∀{t:Ty} {cs:List Value} {x:c9 t},RT K w t cs x->Xv.wf t x
 | .int _,_,_,h=>h.2
 | .bool,_,_,_=>trivial
 | .str,_,_,h=>h.2
 | .sl e,_,xs,⟨p,cap,h1,h2,h3,h4⟩=>by
   refine⟨by omega,fun x f=>?_⟩;rcases h4 with rfl | ⟨b,o,ds,hp,hb,hat,hall⟩
   ·cases f
   ·obtain⟨c,g⟩:=hall.mem x f;exact RT.wf g
 | .pt e,_,x,⟨b,o,ds,h1,hb,hat,h2⟩=>RT.wf (t:=e) h2
 | .pr a b,_,x,⟨c,d,h,h1,h2⟩=>⟨RT.wf h1,RT.wf h2⟩
theorem RT.one{K:Nat->Prop}{w:World}:∀{t:Ty} {cs:List Value} {x:c9 t},RT K w t cs x->∀u∈cs,u.oneCell'=true
 | .int _,_,_,h,u,e=>by rw[h.1] at e; cases List.mem_singleton.1 e; rfl
 | .bool,_,_,h,u,e=>by rw[show _=_ from h] at e; cases List.mem_singleton.1 e; rfl
 | .str,_,_,h,u,e=>by rw[h.1] at e; cases List.mem_singleton.1 e; rfl
 | .sl _,_,_,⟨_,_,h,_⟩,u,e=>by rw[h] at e; cases List.mem_singleton.1 e; rfl
 | .pt _,_,_,⟨_,_,_,h,_⟩,u,e=>by rw[h] at e; cases List.mem_singleton.1 e; rfl
 | .pr a b,_,_,⟨c,d,h,h1,h2⟩,u,e=>by
   rw[h] at e;rcases List.mem_append.1 e with e | e
   ·exact RT.one h1 u e
   ·exact RT.one h2 u e
theorem RT.get{K:Nat->Prop}{w:World}{e:Ty}{p:Option Addr}{n a:Nat}{xs:List (c9 e)}(h:RT K w (.sl e) [.slice p n a] xs){i:Nat}(hi:i<xs.length) :
  n=xs.length/\∃b o c,p=some ⟨b,o,none⟩/\K b/\At w b (o+i*sz e) c/\RT K w e c xs[i]:=by
 obtain⟨q,g,f,s,r,d⟩:=h;simp only[List.cons.injEq,Value.slice.injEq,and_true] at f;obtain⟨rfl,rfl,rfl⟩:=f;refine⟨rfl,?_⟩;rcases d with d | ⟨b,o,ds,hp,hb,hat,hall⟩
 ·grind
 ·obtain⟨k,c,j,rfl,l,m⟩:=hall.get (fun c x h=>RT.len h) hi;refine⟨b,o,c,hp,hb,?_,m⟩;rw[<- l]; exact hat.mid
structure Fac(P:Program)(W:World):Prop where
 pow : ∀ g, P.globalNamed "internal/strconv.uint64pow10" = some g → Lib.TabIs P W "internal/strconv.uint64pow10" .u64 Lib.pow10Tab
 err : ∀ g, P.globalNamed "strconv.ErrSyntax" = some g → ∃ e, W.cell? ⟨g, 0, none⟩ = some e ∧ (e = .nilIface ∨ ∃ u v, e = .iface u v)
 rng : ∀ g, P.globalNamed "strconv.ErrRange" = some g → ∃ e, W.cell? ⟨g, 0, none⟩ = some e ∧ (e = .nilIface ∨ ∃ u v, e = .iface u v)
 mx : ∀ f g, P.funcNamed "strings.Split" = some f → P.globalNamed "internal/bytealg.MaxLen" = some g → ∃ m, W.cell? ⟨g, 0, none⟩ = some (.int .i64 m)
theorem Vt{W a:World}(k:Ext W a){g:Nat}{v:Value}(h:W.cell? ⟨g,0,none⟩=some v):a.cell? ⟨g,0,none⟩=some v:=by
 rw[<- h]; exact World.cell?_of_block (w:=W) (k.block g (World.block_lt_of_cell? W _ h))
theorem G0T{P:Program}{W d:World}{a:String}{k:IntKind}{zs:List Int}(h:Lib.TabIs P W a k zs)(e:Ext W d):Lib.TabIs P d a k zs:=by
 unfold Lib.TabIs World.var? at *
 cases hg:P.globalNamed a with
 | none=>simp[hg] at h
 | some g =>
   simp only[hg,Option.bind_some] at h ⊢;have c:g<W.heap.size:=by
    rcases Nat.lt_or_ge g W.heap.size with b | b
    ·exact b
    ·rw[Array.getElem?_eq_none b] at h; simp at h
   rw[e.block g c];exact h
theorem Fac.up{P:Program}{W c:World}(h:Fac P W)(k:Ext W c):Fac P c :=
 ⟨fun g e=>G0T (h.pow g e) k,fun g e=>by obtain⟨u,a,b⟩:=h.err g e; exact⟨u,Vt k a,b⟩,fun g e=>by obtain⟨u,a,b⟩:=h.rng g e; exact⟨u,Vt k a,b⟩,fun f g d e=>by obtain⟨u,a⟩:=h.mx f g d e; exact⟨u,Vt k a⟩⟩
def WK(P:Program)(w:World)(io:Nat->Prop):Prop:=∃W0:World,Fac P W0/\Ext W0 w/\∀k,io k->W0.heap.size<=k
theorem WK.fac{P:Program}{w:World}{a:Nat->Prop}:WK P w a->Fac P w:=fun⟨_,h,k,_⟩=>h.up k
theorem WK.sub{P:Program}{w:World}{b a:Nat->Prop}(c:∀k,a k->b k):WK P w b->WK P w a:=fun⟨W0,h,k,l⟩=>⟨W0,h,k,fun i hi=>l i (c i hi)⟩
inductive AV
 | v (x:Value)
 | d (fr:Bool) (t:Ty) (x:c9 t)
 | agg (xs:List AV)
 | tup (xs:List AV)
 | ptr (id off:Nat)
 | pel (id ver k s off:Nat)
 | os (id ver:Nat)
 | fn (f:FuncId) (caps:List AV)
 | ow (T:TypeId) (fr:Bool) (t:Ty) (xs:List (c9 t))
 | gel (id k:Nat)
 | og (id:Nat)
 | ob (T:TypeId) (cs:List AV)
inductive Ob
 | box (T:TypeId) (cs:List AV)
 | arr (T:TypeId) (fr:Bool) (t:Ty) (xs:List (c9 t)) (ver:Nat)
 | grd (T Te:TypeId) (fr:Bool) (t:Ty) (xs:List (List (c9 t))) (hole:Option Nat)
def b5{β:Type}:List (Nat×β)->Nat->Option β
 | [],_=>none
 | (d,v) :: e,t=>bif Nat.beq d t then some v else b5 e t
theorem lK{a:Type}(d:Nat)(v:a)(e:List (Nat×a))(t:Nat):b5 ((d,v) :: e) t=if d=t then some v else b5 e t:=by
 show(bif Nat.beq d t then some v else b5 e t)=_
 simp_all
structure Gh where
 ρ:Nat->Value
 γ:Nat->Option Nat
 K:Nat->Prop
 w:World
 o:List (Nat×Ob)
 B:Nat
 δ:Nat->Nat->Prop
def rg(G:Gh)(fr:Bool)(k:Nat):Prop:=G.K k/\(fr=true->G.B<=k)
mutual
def AVR(G:Gh):AV->Value->Prop
 | .v x,u=>u=x
 | .d fr t x,u=>RT (rg G fr) G.w t [u] x
 | .agg xs,u=>∃us:List Value,u=.agg us.toArray/\AVRs G xs us
 | .tup xs,u=>∃us:List Value,u=.tuple us.toArray/\AVRs G xs us
 | .ptr id off,u=>(∃T cs,b5 G.o id=some (.box T cs))/\∃b,G.ρ id=.pointer (some ⟨b,0,none⟩)/\u=.pointer (some ⟨b,off,none⟩)
 | .pel id ver k s off,u=>u.oneCell'=true/\∃T fr t xs ver',b5 G.o id=some (.arr T fr t xs ver')/\ver<=ver'/\(ver=ver'->∃b o n c,G.ρ id=.slice (some ⟨b,o,none⟩) n c/\u=.pointer (some ⟨b,o+(k*s+off),none⟩))
 | .os id ver,u=>u.oneCell'=true/\∃T fr t xs ver',b5 G.o id=some (.arr T fr t xs ver')/\ver<=ver'/\(ver=ver'->u=G.ρ id)
 | .fn f caps,u=>∃us:List Value,u=.func (.func f) #[] us.toArray/\AVRs G caps us
 | .ow ..,_=>False
 | .ob ..,_=>False
 | .gel id k,u=>(∃T Te fr t xs hole,b5 G.o id=some (.grd T Te fr t xs hole))/\∃b o n c,G.ρ id=.slice (some ⟨b,o,none⟩) n c/\u=.pointer (some ⟨b,o+k,none⟩)
 | .og id,u=>u.oneCell'=true/\(∃T Te fr t xs hole,b5 G.o id=some (.grd T Te fr t xs hole))/\u=G.ρ id
def AVRs(G:Gh):List AV->List Value->Prop
 | [],us=>us=[]
 | a :: r,us=>∃u us',us=u :: us'/\AVR G a u/\AVRs G r us'
end
theorem AVRs.len{G:Gh}:∀{as:List AV} {us:List Value},AVRs G as us->us.length=as.length
 | [],us,h=>by rw[show us=[] from h]; rfl
 | a :: r,us,⟨u,us',e,_,h⟩=>by rw[e]; simp[AVRs.len h]
theorem AVRs.app{G:Gh}{b:List AV}{vs:List Value}(k:AVRs G b vs):∀{as:List AV} {us:List Value},AVRs G as us->AVRs G (as++b) (us++vs)
 | [],us,h=>by rw[show us=[] from h]; exact k
 | a :: r,us,⟨u,us',e,h1,h2⟩=>⟨u,us'++vs,by rw[e]; rfl,h1,AVRs.app k h2⟩
theorem AVRs.split{G:Gh}{c:List AV}:∀{as:List AV} {us:List Value},AVRs G (as++c) us->∃us1 us2,us=us1++us2/\AVRs G as us1/\AVRs G c us2
 | [],us,h=>⟨[],us,rfl,rfl,h⟩
 | a :: r,us,⟨u,us',e,h1,h2⟩=>by
   obtain⟨b,g,i,f,d⟩:=AVRs.split h2;exact⟨u :: b,g,by grind,⟨u,b,rfl,h1,f⟩,d⟩
theorem AVRs.take{G:Gh}{a:List AV}{us:List Value}(h:AVRs G a us)(k:Nat):AVRs G (a.take k) (us.take k)/\AVRs G (a.drop k) (us.drop k):=by
 rw[<- List.take_append_drop k a] at h;obtain⟨f,i,e,d,c⟩:=h.split;have g:=d.len;have b:=c.len
 grind[List.length_take,List.drop_eq_nil_of_le,List.take_of_length_le]
theorem AVRs.get{G:Gh}:∀{as:List AV} {us:List Value} {i:Nat} {a:AV},AVRs G as us->as[i]?=some a->∃u,us[i]?=some u/\AVR G a u
 | a :: r,us,0,x,⟨u,us',e,h1,h2⟩,hx=>by
   grind
 | a :: r,us,i+1,x,⟨u,us',e,h1,h2⟩,hx=>by
   obtain⟨v,b,c⟩:=AVRs.get h2 (i:=i) (by simpa using hx)
   grind
def QV:AV->Bool
 | .v x=>x.oneCell'
 | .d _ t _=>match t with | .pr _ _=>false | _=>true
 | .agg _ | .tup _ | .ow .. | .ob ..=>false
 | _=>true
theorem AVR.one{G:Gh}:∀{a:AV} {u:Value},AVR G a u->QV a=true->u.oneCell'=true
 | .v x,u,h,ho=>by rw[show u=x from h]; exact ho
 | .d _ t x,u,h,_=>RT.one h u (List.mem_singleton.2 rfl)
 | .ptr _ _,u,⟨_,_,_,h⟩,_=>by rw[h]; rfl
 | .pel ..,u,h,_=>h.1
 | .os ..,u,h,_=>h.1
 | .fn ..,u,⟨_,h,_⟩,_=>by rw[h]; rfl
 | .gel ..,u,⟨_,_,_,_,_,_,h⟩,_=>by rw[h]; rfl
 | .og ..,u,h,_=>h.1
 | .ow ..,_,h,_=>h.elim
 | .ob ..,_,h,_=>h.elim
structure Rows(G:Gh)(id:Nat)(Te:TypeId)(fr:Bool)(t:Ty)(xs:List (List (c9 t)))(hole:Option Nat)(vs:List Value)(bs:Nat->Option Nat):Prop where
 len:vs.length=xs.length
 blk:∀b,G.δ id b↔∃k,k<xs.length/\hole≠some k/\bs k=some b
 inj:∀k k' b,k<xs.length->k'<xs.length->hole≠some k->hole≠some k'->bs k=some b->bs k'=some b->k=k'
 row:∀k,k<xs.length->hole≠some k->∃cs,Own G.w Te (sz t) (bs k) (vs.getD k (.bool false)) (xs.getD k []).length cs/\AllR (RT (rg G fr) G.w t) cs (xs.getD k [])/\∀b,bs k=some b->G.B<=b
 one:∀v∈vs,v.oneCell'=true
def ObR(G:Gh)(id:Nat):Ob->Prop
 | .box T cs=>∃b us,G.γ id=some b/\G.ρ id=.pointer (some ⟨b,0,none⟩)/\Blk G.w b us T/\AVRs G cs us
 | .arr T fr t xs _=>∃cs,Own G.w T (sz t) (G.γ id) (G.ρ id) xs.length cs/\AllR (RT (rg G fr) G.w t) cs xs/\∀b,G.γ id=some b->G.B<=b
 | .grd T Te fr t xs hole=>∃vs bs,Own G.w T 1 (G.γ id) (G.ρ id) xs.length vs/\Rows G id Te fr t xs hole vs bs/\∀b,G.γ id=some b->G.B<=b
def I2:Option Ob->Bool
 | some (.grd ..)=>true
 | _=>false
structure Cx where
 P:Program
 n:Nat
 w0:World
 io:Nat->Prop
 K0:Nat->Prop
 pin:Nat->Value->Prop
 base:Nat
structure Sat(X:Cx)(G:Gh):Prop where
 base:G.B=X.base/\X.base<=X.w0.heap.size/\WK X.P X.w0 X.io
 os:G.w.os=X.w0.os
 tape:G.w.tape=X.w0.tape
 output:G.w.output=X.w0.output
 size:X.w0.heap.size<=G.w.heap.size
 block:∀k,k<X.w0.heap.size->¬X.io k->G.w.heap[k]?=X.w0.heap[k]?
 obs:∀id o,b5 G.o id=some o->ObR G id o
 inj:∀id id' o o' b,b5 G.o id=some o->b5 G.o id'=some o'->G.γ id=some b->G.γ id'=some b->id=id'
 imm:∀id o b,b5 G.o id=some o->G.γ id=some b->¬G.K b
 own:∀id o b,b5 G.o id=some o->G.γ id=some b->X.w0.heap.size<=b∨X.io b
 klt:∀k,G.K k->UFg G.w X.w0.heap.size k
 kfrom:∀k,G.K k->X.K0 k∨X.base<=k
 sep:∀id b,G.δ id b->I2 (b5 G.o id)=true->(X.w0.heap.size<=b∨X.io b)/\¬G.K b/\(∀i o,b5 G.o i=some o->G.γ i≠some b)/\∀i,G.δ i b->I2 (b5 G.o i)=true->id=i
 pin:∀i v,X.pin i v->AVR G (.ptr (500000+i) 0) v
theorem Sat.le{X:Cx}{G:Gh}(S:Sat X G):G.B<=X.w0.heap.size:=by
 rw[S.base.1]; exact S.base.2.1
theorem Sat.wk{X:Cx}{G:Gh}(S:Sat X G):WK X.P G.w (fun k=>X.w0.heap.size<=k∨X.io k):=by
 obtain⟨W0,h,k,l⟩:=S.base.2.2;refine⟨W0,h,⟨S.os.trans k.os,S.tape.trans k.tape,S.output.trans k.output,Nat.le_trans k.size S.size,fun i hi=>?_⟩,fun i hi=>?_⟩
 ·exact(S.block i (Nat.lt_of_lt_of_le hi k.size) (fun e=>absurd (l i e) (Nat.not_le.2 hi))).trans (k.block i hi)
 ·rcases hi with hi | hi
  ·exact Nat.le_trans k.size hi
  ·exact l i hi
structure GLe(G G':Gh):Prop where
 hB:G'.B=G.B
 hK:∀k,G.K k->k<G.w.heap.size->G'.K k/\G'.w.heap[k]?=G.w.heap[k]?
 hbox:∀id T cs,b5 G.o id=some (.box T cs)->G'.ρ id=G.ρ id/\∃T' cs',b5 G'.o id=some (.box T' cs')
 hgrd:∀id T Te fr t xs hole,b5 G.o id=some (.grd T Te fr t xs hole)->G'.ρ id=G.ρ id/\∃T' Te' fr' t' xs' hole',b5 G'.o id=some (.grd T' Te' fr' t' xs' hole')
 harr:∀id T fr t xs ver,b5 G.o id=some (.arr T fr t xs ver)->∃T' fr' t' xs' ver',b5 G'.o id=some (.arr T' fr' t' xs' ver')/\ver<=ver'/\(ver=ver'->G'.ρ id=G.ρ id)
theorem GLe.hR{G a:Gh}(h:GLe G a){fr:Bool}:∀k,rg G fr k->k<G.w.heap.size->rg a fr k/\a.w.heap[k]?=G.w.heap[k]?:=fun k ⟨b,d⟩ c=>⟨⟨(h.hK k b c).1,fun e=>by rw[h.hB]; exact d e⟩,(h.hK k b c).2⟩
mutual
theorem AVR.mono{G r:Gh}(h:GLe G r):∀{a:AV} {u:Value},AVR G a u->AVR r a u
 | .v _,_,k=>k
 | .d _ _ _,_,k=>RT.same h.hR k
 | .agg _,_,⟨us,e,k⟩=>⟨us,e,AVRs.mono h k⟩
 | .tup _,_,⟨us,e,k⟩=>⟨us,e,AVRs.mono h k⟩
 | .ptr id off,u,⟨⟨T,cs,h1⟩,b,h2,h3⟩=>by
   obtain⟨e,j⟩:=h.hbox id T cs h1;exact⟨j,b,by grind,h3⟩
 | .pel id ver k s off,u,⟨h0,T,fr,t,xs,ver',h1,h2,h3⟩=>by
   obtain⟨m,g,q,i,f,l,w,x⟩:=h.harr id T fr t xs ver' h1;refine⟨h0,m,g,q,i,f,l,by omega,fun e=>?_⟩
   grind
 | .os id ver,u,⟨h0,T,fr,t,xs,ver',h1,h2,h3⟩=>by
   obtain⟨m,g,q,i,f,l,w,x⟩:=h.harr id T fr t xs ver' h1;exact⟨h0,m,g,q,i,f,l,by omega,fun e=>by grind⟩
 | .fn _ _,_,⟨us,e,k⟩=>⟨us,e,AVRs.mono h k⟩
 | .ow ..,_,k=>k
 | .ob ..,_,k=>k
 | .gel id k,u,⟨⟨T,Te,fr,t,xs,hole,h1⟩,b,o,n,c,h2,h3⟩=>by
   obtain⟨e,j⟩:=h.hgrd id T Te fr t xs hole h1;exact⟨j,b,o,n,c,by grind,h3⟩
 | .og id,u,⟨h0,⟨T,Te,fr,t,xs,hole,h1⟩,h2⟩=>by
   obtain⟨e,j⟩:=h.hgrd id T Te fr t xs hole h1;exact⟨h0,j,by grind⟩
theorem AVRs.mono{G a:Gh}(h:GLe G a):∀{as:List AV} {us:List Value},AVRs G as us->AVRs a as us
 | [],_,k=>k
 | _ :: _,_,⟨u,us',e,k1,k2⟩=>⟨u,us',e,AVR.mono h k1,AVRs.mono h k2⟩
end
theorem GLe.refl(G:Gh):GLe G G:=⟨rfl,fun _ h _=>⟨h,rfl⟩,fun _ _ _ h=>⟨rfl,_,_,h⟩,fun _ _ _ _ _ _ _ h=>⟨rfl,_,_,_,_,_,_,h⟩,fun _ _ _ _ _ _ h=>⟨_,_,_,_,_,h,Nat.le_refl _,fun _=>rfl⟩⟩
theorem GLe.trans{A B C:Gh}(h:GLe A B)(k:GLe B C)(F:A.w.heap.size<=B.w.heap.size):GLe A C:=by
 refine⟨k.hB.trans h.hB,fun i hi E=>?_,fun i T x hi=>?_,fun i T z n t o e hi=>?_,fun i T n t o r hi=>?_⟩
 ·obtain⟨j,g⟩:=h.hK i hi E;obtain⟨s,q⟩:=k.hK i j (by omega)
  grind
 ·obtain⟨j,d,m,g⟩:=h.hbox i T x hi;obtain⟨s,q⟩:=k.hbox i d m g
  grind
 ·obtain⟨j,d,Te',b,l,a,c,g⟩:=h.hgrd i T z n t o e hi;obtain⟨s,q⟩:=k.hgrd i d Te' b l a c g
  grind
 ·obtain⟨d,b,l,a,f,j,g,Q⟩:=h.harr i T n t o r hi;obtain⟨P,y,G,v,u,s,q,H⟩:=k.harr i d b l a f j
  grind
theorem Rows.up{G f:Gh}{id:Nat}{Te:TypeId}{fr:Bool}{t:Ty}{xs:List (List (c9 t))}{a:Option Nat}{vs:List Value}{m:Nat->Option Nat}(h:Rows G id Te fr t xs a vs m)(d:GLe G f)(g:∀b,f.δ id b↔G.δ id b){go:Option Nat}(q:WE go G.w f.w)(i:∀b,G.δ id b->go≠some b):Rows f id Te fr t xs a vs m:=by
 refine⟨h.len,fun b=>(g b).trans (h.blk b),h.inj,fun k l n=>?_,h.one⟩;obtain⟨o,r,v,u⟩:=h.row k l n;exact⟨o,r.we q (fun j s e=>i j ((h.blk j).2 ⟨k,l,n,e⟩) s),v.mapR (fun c x y=>RT.same (w:=G.w) d.hR y),by rw[d.hB]; exact u⟩
theorem NG{o:Option Ob}(h:I2 o=true):∃T Te fr t xs hole,o=some (.grd T Te fr t xs hole):=by
 unfold I2 at h
 grind
theorem Sat.dlt{X:Cx}{G:Gh}(S:Sat X G){id b:Nat}(h:G.δ id b)(f:I2 (b5 G.o id)=true):b<G.w.heap.size:=by
 obtain⟨T,n,r,t,m,c,e⟩:=NG f;obtain⟨s,q,_,a,_⟩:=S.obs id _ e;obtain⟨k,d,i,g⟩:=(a.blk b).1 h;obtain⟨l,j,_⟩:=a.row k d i;exact j.lt b g
theorem Sat.duf{X:Cx}{G:Gh}(S:Sat X G){id b:Nat}(h:G.δ id b)(f:I2 (b5 G.o id)=true):UF G.w b:=by
 obtain⟨T,l,q,t,j,c,e⟩:=NG f;obtain⟨r,n,_,a,_⟩:=S.obs id _ e;obtain⟨k,d,g,m⟩:=(a.blk b).1 h;obtain⟨i,s,_⟩:=a.row k d g
 grind[FZ]
theorem Sat.ext{X:Cx}{G:Gh}(S:Sat X G){w':World}(h:Ext G.w w'):Sat X { G with w:=w' }/\GLe G { G with w:=w' }:=by
 have a:GLe G { G with w:=w' }:=⟨rfl,fun k d H=>⟨d,h.block k H⟩,fun _ _ _ h=>⟨rfl,_,_,h⟩,fun _ _ _ _ _ _ _ h=>⟨rfl,_,_,_,_,_,_,h⟩,fun _ _ _ _ _ _ h=>⟨_,_,_,_,_,h,Nat.le_refl _,fun _=>rfl⟩⟩;refine⟨⟨S.base,h.os.trans S.os,h.tape.trans S.tape,h.output.trans S.output,Nat.le_trans S.size h.size,fun k d hi=>(h.block k (Nat.lt_of_lt_of_le d S.size)).trans (S.block k d hi),?_,S.inj,S.imm,S.own,fun k d=>(S.klt k d).same h.size (a.hK k d (S.klt k d).lt).2,S.kfrom,S.sep,fun i v h=>(S.pin i v h).mono a⟩,a⟩;intro id o q;have:=S.obs id o q;cases o with
 | box T l =>
   obtain⟨b,u,j,g,f,s⟩:=this;exact⟨b,u,j,g,f.ext h,AVRs.mono a s⟩
 | arr T z t r n =>
   obtain⟨l,j,g,f⟩:=this;exact⟨l,j.up h,g.mapR (fun c x E=>RT.same (w:=G.w) a.hR E),f⟩
 | grd T P z t r m =>
   obtain⟨F,y,j,g,f⟩:=this;exact⟨F,y,j.up h,g.up a (fun _=>Iff.rfl) (go:=none) (WE.of_ext h) (fun _ _ e=>by cases e),f⟩
def Gh.put(G:Gh)(id:Nat)(ob:Ob)(r:Value)(g:Option Nat)(w':World):Gh :=
 ⟨fun i=>if i=id then r else G.ρ i,fun i=>if i=id then g else G.γ i,G.K,w',(id,ob) :: G.o,G.B,fun i b=>i≠id/\G.δ i b⟩
def w0d(G:Gh)(id:Nat)(ob:Ob)(r:Value):Prop :=
 (∀T cs,b5 G.o id=some (.box T cs)->r=G.ρ id/\∃T' cs',ob=.box T' cs') /\
 (∀T fr t xs ver,b5 G.o id=some (.arr T fr t xs ver)->∃T' fr' t' xs' ver',ob=.arr T' fr' t' xs' ver'/\ver<=ver'/\(ver=ver'->r=G.ρ id))/\I2 (b5 G.o id)=false
theorem Sat.put{X:Cx}{G:Gh}(S:Sat X G){id:Nat}{ob:Ob}{r:Value}{g:Option Nat}{w':World}{go:Option Nat}
  (V:w0d G id ob r) (y:∀b,go=some b->(∃o,b5 G.o id=some o)/\G.γ id=some b) (f:WE go G.w w') (W:∀b,g=some b->go=some b∨G.w.heap.size<=b)
  (aI:GLe G (G.put id ob r g w')->ObR (G.put id ob r g w') id ob):Sat X (G.put id ob r g w')/\GLe G (G.put id ob r g w'):=by
 have n:∀i,b5 (G.put id ob r g w').o i=if id=i then some ob else b5 G.o i:=fun i=>lK _ _ _ _
 have aA:∀k,G.K k->go≠some k:=fun k q e=>by
  obtain⟨⟨o,d⟩,m⟩:=y k e;exact S.imm id o k d m q
 have s:GLe G (G.put id ob r g w'):=by
  refine⟨rfl,fun k q hl=>⟨q,f.block k hl (aA k q)⟩,fun i T cs hi=>?_,fun i T Te fr t xs H hi=>?_,fun i T fr t xs Y hi=>?_⟩
  ·rw[n];by_cases e:id=i
   ·subst e;obtain⟨u,T',aH,P⟩:=V.1 T cs hi
    grind[Gh.put]
   grind[Gh.put]
  ·rw[n];by_cases e:id=i
   ·subst e;have:=V.2.2;rw[hi] at this;cases this
   grind[Gh.put]
  ·rw[n];by_cases e:id=i
   ·subst e;obtain⟨T',aN,t',aJ,aF,u,P,h3⟩:=V.2.1 T fr t xs Y hi;simp only[Gh.put,if_true]
    grind
   ·simp only[Gh.put,if_neg e,if_neg (Ne.symm e)]
    grind
 have F:∀i o b,i≠id->b5 G.o i=some o->G.γ i=some b->go≠some b:=fun i o b hi d a e=>by
  obtain⟨⟨o',l⟩,m⟩:=y b e;exact hi (S.inj i id o o' b d l a m)
 have aL:∀i o b,b5 G.o i=some o->G.γ i=some b->b<G.w.heap.size:=fun i o b d a=>by
  have:=S.obs i o d;cases o with
  | box T cs=>obtain⟨b',us,u,P,h3,h4⟩:=this; rw[a] at u; cases u; exact h3.lt
  | arr T fr t xs Y=>obtain⟨cs,u,P,_⟩:=this; exact u.lt b a
  | grd T Te fr t xs H=>obtain⟨vs,bs,u,_⟩:=this; exact u.lt b a
 have aB:∀b,g=some b->∀i o,i≠id->b5 G.o i=some o->G.γ i≠some b:=fun b a i o hi d e=>by
  grind
 have aO:=W;refine⟨⟨S.base,f.os.trans S.os,f.tape.trans S.tape,f.output.trans S.output,Nat.le_trans S.size f.size,fun k q hi=>?_,?_,?_,?_,?_,fun k q=>(S.klt k q).same f.size (s.hK k q (S.klt k q).lt).2,S.kfrom,?_,fun i v h=>(S.pin i v h).mono s⟩,s⟩
 ·refine(f.block k (Nat.lt_of_lt_of_le q S.size) (fun e=>?_)).trans (S.block k q hi);obtain⟨⟨o,d⟩,m⟩:=y k e;rcases S.own id o k d m with h | h
  ·omega
  grind
 ·intro i o d;rw[n] at d;by_cases e:id=i
  ·grind
  ·rw[if_neg e] at d;have:=S.obs i o d;cases o with
   | box T cs =>
     obtain⟨b,us,u,P,h3,h4⟩:=this;refine⟨b,us,?_,?_,?_,AVRs.mono s h4⟩
     ·grind[Gh.put]
     ·grind[Gh.put]
     ·exact h3.we f (fun j E z=>by grind)
   | arr T fr t xs Y =>
     obtain⟨cs,u,P,h3⟩:=this;refine⟨cs,?_,?_,by grind[Gh.put]⟩
     ·simp only[Gh.put,if_neg (Ne.symm e)];exact u.we f (fun j E z=>F i _ j (Ne.symm e) d z E)
     ·exact P.mapR (fun c x hr=>RT.same (w:=G.w) s.hR hr)
   | grd T Te fr t xs H =>
     obtain⟨vs,bs,u,P,h3⟩:=this;refine⟨vs,bs,?_,?_,by grind[Gh.put]⟩
     ·simp only[Gh.put,if_neg (Ne.symm e)];exact u.we f (fun j E z=>F i _ j (Ne.symm e) d z E)
     ·refine P.up s (fun b=>⟨fun h=>h.2,fun h=>⟨Ne.symm e,h⟩⟩) f (fun b a aC=>?_);obtain⟨⟨o',l⟩,m⟩:=y b aC;exact(S.sep i b a (by rw[d]; rfl)).2.2.1 id o' l m
 ·intro i i' o o' b d l a Q;rw[n] at d l;simp only[Gh.put] at a Q;by_cases e:i=id
  ·grind
  ·rw[if_neg e] at a;rw[if_neg (Ne.symm e)] at d;by_cases e':i'=id
   ·grind
   ·rw[if_neg e'] at Q;rw[if_neg (Ne.symm e')] at l;exact S.inj i i' o o' b d l a Q
 ·intro i o b d a q;rw[n] at d;simp only[Gh.put] at a q;by_cases e:i=id
  ·rw[if_pos e] at a;rcases W b a with h | h
   ·grind
   ·have:=(S.klt b q).lt; omega
  ·rw[if_neg e] at a;rw[if_neg (Ne.symm e)] at d;exact S.imm i o b d a q
 ·intro i o b d a;rw[n] at d;simp only[Gh.put] at a;by_cases e:i=id
  ·rw[if_pos e] at a;rcases W b a with h | h
   ·obtain⟨⟨o',l⟩,m⟩:=y b h;exact S.own id o' b l m
   ·exact .inl (Nat.le_trans S.size h)
  ·rw[if_neg e] at a;rw[if_neg (Ne.symm e)] at d;exact S.own i o b d a
 ·intro i b a W;obtain⟨aD,a⟩:=a;rw[n,if_neg (Ne.symm aD)] at W;obtain⟨s1,s2,s3,s4⟩:=S.sep i b a W;have aK:=S.dlt a W;refine⟨s1,s2,fun j o d E=>?_,fun j E aM=>?_⟩
  ·grind[Gh.put]
  ·obtain⟨aG,E⟩:=E
   grind
def Gh.grd(G:Gh)(id:Nat)(ob:Ob)(D:Nat->Prop)(w':World):Gh :=
 ⟨G.ρ,G.γ,G.K,w',(id,ob) :: G.o,G.B,fun i b=>(i=id/\D b)∨(i≠id/\G.δ i b)⟩
theorem Sat.grd{X:Cx}{G:Gh}(S:Sat X G){id:Nat}{T Te T' Te':TypeId}{fr fr':Bool}{t t':Ty}{xs:List (List (c9 t))}{xs':List (List (c9 t'))}{H hole':Option Nat}{D:Nat->Prop}{w':World}{go:Option Nat}
  (P:b5 G.o id=some (.grd T Te fr t xs H)) (s:∀b,go=some b->G.γ id=some b) (d:WE go G.w w')
  (hD:∀b,D b->(X.w0.heap.size<=b∨X.io b)/\¬G.K b/\(∀i o,b5 G.o i=some o->G.γ i≠some b)/\∀i,i≠id->G.δ i b->I2 (b5 G.o i)=true->False)
  (aC:GLe G (G.grd id (.grd T' Te' fr' t' xs' hole') D w')->ObR (G.grd id (.grd T' Te' fr' t' xs' hole') D w') id (.grd T' Te' fr' t' xs' hole')) :
  Sat X (G.grd id (.grd T' Te' fr' t' xs' hole') D w')/\GLe G (G.grd id (.grd T' Te' fr' t' xs' hole') D w'):=by
 have E:∀i,b5 (G.grd id (.grd T' Te' fr' t' xs' hole') D w').o i=if id=i then some (.grd T' Te' fr' t' xs' hole') else b5 G.o i:=fun i=>lK _ _ _ _
 have a:∀i o,b5 (G.grd id (.grd T' Te' fr' t' xs' hole') D w').o i=some o->∃o',b5 G.o i=some o':=fun i o h=>by
  grind
 have q:∀i,I2 (b5 (G.grd id (.grd T' Te' fr' t' xs' hole') D w').o i)=I2 (b5 G.o i):=fun i=>by
  rw[E];by_cases e:id=i
  ·subst e; rw[if_pos rfl,P]; rfl
  grind
 have V:∀k,G.K k->go≠some k:=fun k n e=>S.imm id _ k P (s k e) n;have m:GLe G (G.grd id (.grd T' Te' fr' t' xs' hole') D w'):=by
  refine⟨rfl,fun k n hl=>⟨n,d.block k hl (V k n)⟩,fun i T0 Y hi=>⟨rfl,?_⟩,fun i T0 Te0 f0 t0 x0 h0 hi=>⟨rfl,?_⟩,fun i T0 f0 t0 x0 aB hi=>?_⟩
  ·grind
  ·grind
  ·rw[E];by_cases e:id=i
   ·grind
   ·rw[if_neg e]; exact⟨_,_,_,_,_,hi,Nat.le_refl _,fun _=>rfl⟩
 have y:∀i o b,i≠id->b5 G.o i=some o->G.γ i=some b->go≠some b:=fun i o b hi h f e=>hi (S.inj i id o _ b h P f (s b e));refine⟨⟨S.base,d.os.trans S.os,d.tape.trans S.tape,d.output.trans S.output,Nat.le_trans S.size d.size,fun k n hi=>?_,?_,?_,?_,?_,fun k n=>(S.klt k n).same d.size (m.hK k n (S.klt k n).lt).2,S.kfrom,?_,fun i v h=>(S.pin i v h).mono m⟩,m⟩
 ·refine(d.block k (Nat.lt_of_lt_of_le n S.size) (fun e=>?_)).trans (S.block k n hi);rcases S.own id _ k P (s k e) with h | h
  ·omega
  grind
 ·intro i o hi;rw[E] at hi;by_cases e:id=i
  ·grind
  ·rw[if_neg e] at hi;have:=S.obs i o hi;cases o with
   | box T Y =>
     obtain⟨b,us,l,F,Q,h4⟩:=this;exact⟨b,us,l,F,Q.we d (fun j g u=>by grind),h4.mono m⟩
   | arr T fr t xs aB =>
     obtain⟨Y,l,F,Q⟩:=this;exact⟨Y,l.we d (fun j g u=>y i _ j (Ne.symm e) hi u g),F.mapR (fun c x hr=>RT.same (w:=G.w) m.hR hr),Q⟩
   | grd T0 Te0 f0 t0 x0 h0 =>
     obtain⟨vs,bs,l,F,Q⟩:=this;refine⟨vs,bs,l.we d (fun j g u=>y i _ j (Ne.symm e) hi u g),F.up m (fun b=>⟨fun h=>?_,fun h=>.inr ⟨Ne.symm e,h⟩⟩) d (fun b f q=>?_),Q⟩
     ·rcases h with ⟨h,_⟩ | ⟨_,h⟩
      ·omega
      omega
     ·exact(S.sep i b f (by rw[hi]; rfl)).2.2.1 id _ P (s b q)
 ·intro i i' o o' b h h' f aA;obtain⟨r,l⟩:=a i o h;obtain⟨o2,F⟩:=a i' o' h';exact S.inj i i' r o2 b l F f aA
 ·intro i o b h f;obtain⟨r,l⟩:=a i o h;exact S.imm i r b l f
 ·intro i o b h f;obtain⟨r,l⟩:=a i o h;exact S.own i r b l f
 ·intro i b f hg;rw[q] at hg;rcases f with ⟨rfl,f⟩ | ⟨hne,f⟩
  ·obtain⟨s1,W,s3,s4⟩:=hD b f;refine⟨s1,W,fun j o h g=>?_,fun j g z=>?_⟩
   ·obtain⟨r,l⟩:=a j o h;exact s3 j r l g
   ·rw[q] at z;rcases g with ⟨e,_⟩ | ⟨e,g⟩
    ·omega
    grind
  ·obtain⟨s1,W,s3,s4⟩:=S.sep i b f hg;refine⟨s1,W,fun j o h g=>?_,fun j g z=>?_⟩
   ·obtain⟨r,l⟩:=a j o h;exact s3 j r l g
   ·rw[q] at z;rcases g with ⟨rfl,g⟩ | ⟨e,g⟩
    ·grind
    grind
def X0(t t':Ty)(x:c9 t):Option (c9 t'):=if h:t=t' then some (h ▸ x) else none
theorem DU{t t':Ty}{x:c9 t}{y:c9 t'}(h:X0 t t' x=some y):∃e:t=t',y=e ▸ x:=by
 unfold X0 at h
 grind
def AM(o:List (Nat×Ob))(rec:(t:Ty)->List AV->Option (c9 t×List Nat×Bool)):(t:Ty)->AV->Option (c9 t×List Nat×Bool)
 | t,.d fr t' x=>match X0 t' t x with
   | some y=>some (y,[],fr||H7 t)
   | none=>none
 | .sl _,.v (.slice none 0 0)=>some ([],[],true)
 | .sl e,.os id ver=>match b5 o id with
   | some (.arr _ fr e' xs ver')=>bif Nat.beq ver ver' then(match X0 (.sl e') (.sl e) xs with
     | some y=>some (y,[id],fr||H7 e)
     | none=>none) else none
   | _=>none
 | .pt e,.ptr id off=>match b5 o id with
   | some (.box _ cs)=>match rec e ((cs.drop off).take (sz e)) with
     | some (x,l,_)=>some (x,id :: l,false)
     | none=>none
   | _=>none
 | _,_=>none
def H8(o:List (Nat×Ob)):Nat->(t:Ty)->List AV->Option (c9 t×List Nat×Bool)
 | 0,_,_=>none
 | n+1,.pr a b,cs=>match H8 o n a (cs.take (sz a)) with
   | some (x,l,f)=>match H8 o n b (cs.drop (sz a)) with
     | some (y,m,g)=>some ((x,y),l++m,f&&g)
     | none=>none
   | none=>none
 | n+1,t,cs=>match cs with
   | [c]=>AM o (H8 o n) t c
   | _=>none
def rk(G:Gh)(K':Nat->Prop)(fl:Bool)(k:Nat):Prop:=K' k/\(fl=true->G.B<=k)
theorem s0b{X:Cx}{G:Gh}(S:Sat X G){K':Nat->Prop}(V:∀k,G.K k->K' k){r:(t:Ty)->List AV->Option (c9 t×List Nat×Bool)}
  (n:∀{t:Ty} {cs:List AV} {us:List Value} {x:c9 t} {l:List Nat} {q:Bool},r t cs=some (x,l,q)->(∀id∈l,∀b,G.γ id=some b->K' b)->AVRs G cs us->RT (rk G K' q) G.w t us x)
  {t:Ty} {c:AV} {u:Value} {x:c9 t} {l:List Nat} {q:Bool} (h:AM G.o r t c=some (x,l,q)) (Q:∀id∈l,∀b,G.γ id=some b->K' b) (j:AVR G c u):RT (rk G K' q) G.w t [u] x:=by
 unfold AM at h;split at h
 ·rename_i t0 W t' x0;split at h
  ·rename_i y P;simp only[oi,pj] at h;obtain⟨rfl,rfl,rfl⟩:=h;obtain⟨e,rfl⟩:=DU P;subst e;by_cases hf:H7 t'=true
   ·exact RT.free hf j
   ·exact RT.up j (fun k g=>⟨V k g.1,fun e=>g.2 (by grind)⟩)
  grind
 ·simp only[oi,pj] at h;obtain⟨rfl,rfl,rfl⟩:=h;have:u=_:=j;subst this;exact⟨none,0,rfl,Nat.le_refl _,by omega,.inl rfl⟩
 ·rename_i e id aC;split at h
  ·rename_i T W e' xs aA F;rw[ce] at h;split at h
   ·rename_i s;split at h
    ·rename_i y P;simp only[oi,pj] at h;obtain⟨rfl,rfl,rfl⟩:=h;obtain⟨E,rfl⟩:=DU P;cases E;obtain⟨_,T1,aD,t1,aF,Y,H,h2,h3⟩:=j;rw[F] at H;cases H;have j:=h3 (nb s);subst j;obtain⟨cs,m,hA,hB⟩:=S.obs id _ F;have a:AllR (RT (rk G K' (W||H7 e)) G.w e) cs xs:=hA.mapR (fun c x hr=>by
      by_cases hf:H7 e=true
      ·grind[RT.free]
      ·exact RT.up hr (fun k g=>⟨V k g.1,fun e'=>g.2 (by grind)⟩))
     cases hg:G.γ id with
     | none =>
       rw[hg] at m;rcases m with ⟨_,hn,_,p,hp⟩ | ⟨b,_,_,_,z,_⟩
       ·have:xs=[]:=List.eq_nil_of_length_eq_zero hn;subst this;exact⟨p,0,by grind,Nat.le_refl _,by omega,.inl rfl⟩
       grind
     | some b =>
       rw[hg] at m;obtain⟨o0,c0,E,f⟩:=m.at;rcases m with ⟨h,_⟩ | ⟨b',o1,cap,cur,z,hv2,k1,k2,k3,k4,k5⟩
       ·cases h
       ·cases z;rw[hv2] at E; cases E;exact⟨_,c0,by rw[hv2],k2,(by grind[maxLen]),.inr ⟨b,o0,cs,rfl,⟨Q id (by simp) b hg,fun _=>hB b hg⟩,f,a⟩⟩
    grind
   grind
  grind
 ·rename_i e id d;split at h
  ·rename_i T aB F;split at h
   ·rename_i x1 l1 f1 H;simp only[oi,pj] at h;obtain⟨rfl,rfl,rfl⟩:=h;obtain⟨_,b,z,rfl⟩:=j;obtain⟨b',us,g1,g2,g3,g4⟩:=S.obs id _ F;rw[z] at g2;cases g2;have a:=((g4.take d).2.take (sz e)).1;have hR:=n H (fun i hi=>Q i (by grind)) a;refine⟨b,d,_,rfl,⟨Q id (by simp) b g1,(fun e=>by cases e)⟩,?_,RT.up hR (fun k g=>⟨g.1,(fun e=>by cases e)⟩)⟩;have f:=g3.at;intro i v s;have hi:i<sz e:=by
     rcases Nat.lt_or_ge i (sz e) with h' | h'
     ·exact h'
     ·grind
    rw[List.getElem?_take_of_lt hi,List.getElem?_drop] at s;have:=f (d+i) v s
    grind
   grind
  grind
 grind
theorem Ga{X:Cx}{G:Gh}(S:Sat X G){K':Nat->Prop}(H:∀k,G.K k->K' k):∀(n:Nat) {t:Ty} {cs:List AV} {us:List Value} {x:c9 t} {l:List Nat} {fl:Bool},
  H8 G.o n t cs=some (x,l,fl)->(∀id∈l,∀b,G.γ id=some b->K' b)->AVRs G cs us->RT (rk G K' fl) G.w t us x:=by
 intro n
 induction n with
 | zero=>grind[H8]
 | succ n s =>
   intro t cs us x l fl h y v;have i:∀(t:Ty) (x:c9 t) (r:Option (c9 t×List Nat×Bool)),r=some (x,l,fl)->r=(match(generalizing:=false) cs with | [c]=>AM G.o (H8 G.o n) t c | _=>none)->RT (rk G K' fl) G.w t us x:=by
    intro t x r m g;rw[m] at g;have h:=g.symm;split at h
    ·rename_i c;obtain⟨u,j,rfl,hu,z⟩:=v;have:j=[]:=z
     grind[s0b]
    ·cases h
   cases t with
   | pr a b =>
     unfold H8 at h;split at h
     ·rename_i P Q Y F;split at h
      ·rename_i V W T E;simp only[oi,pj] at h;obtain⟨rfl,rfl,rfl⟩:=h;have d:=AVRs.take v (sz a);refine⟨us.take (sz a),us.drop (sz a),(List.take_append_drop _ _).symm,RT.up (s F (fun id q=>y id (by grind)) d.1) (fun k f=>⟨f.1,fun e=>f.2 ?_⟩),RT.up (s E (fun id q=>y id (by grind)) d.2) (fun k f=>⟨f.1,fun e=>f.2 ?_⟩)⟩
       ·grind
       grind
      grind
     grind
   | _=>exact i _ _ _ h rfl
theorem Vu{X:Cx}{G:Gh}(S:Sat X G){n:Nat}{t:Ty}{cs:List AV}{us:List Value}{x:c9 t}{a:Bool}(h:H8 G.o n t cs=some (x,[],a))(b:AVRs G cs us):RT (rg G a) G.w t us x :=
 Ga S (K':=G.K) (fun _ h=>h) n h (fun _ h=>by cases h) b
def F2(fr:Bool):(t:Ty)->c9 t->List AV
 | .pr a b,x=>F2 fr a x.1++F2 fr b x.2
 | .int k,x=>[.d fr (.int k) x]
 | .bool,x=>[.d fr .bool x]
 | .str,x=>[.d fr .str x]
 | .sl e,x=>[.d fr (.sl e) x]
 | .pt e,x=>[.d fr (.pt e) x]
theorem DV{G:Gh}{fr:Bool}:∀{t:Ty} {us:List Value} {x:c9 t},RT (rg G fr) G.w t us x->AVRs G (F2 fr t x) us
 | .pr a b,_,x,⟨c,d,e,h1,h2⟩=>by rw[e]; exact AVRs.app (DV h2) (DV h1)
 | .int _,us,x,h=>⟨_,[],h.1,⟨rfl,h.2⟩,rfl⟩
 | .bool,us,x,h=>⟨_,[],(show us=_ from h),rfl,rfl⟩
 | .str,us,x,h=>⟨_,[],h.1,⟨rfl,h.2⟩,rfl⟩
 | .sl e,us,x,⟨p,cap,h1,h⟩=>⟨_,[],h1,⟨p,cap,rfl,h⟩,rfl⟩
 | .pt e,us,x,⟨b,o,ds,h1,h⟩=>⟨_,[],h1,⟨b,o,ds,rfl,h⟩,rfl⟩
def Gb(fr:Bool):(t:Ty)->c9 t->Nat->Option AV
 | t,x,0=>some (.d fr (.pt t) x)
 | .pr a b,x,off=>bif Nat.ble (sz a) off then Gb fr b x.2 (off-sz a) else Gb fr a x.1 off
 | _,_,_=>none
theorem p0a{G:Gh}{fr:Bool}{b:Nat}(j:rg G fr b):∀{t:Ty} {x:c9 t} {off o:Nat} {ds:List Value} {a:AV},Gb fr t x off=some a->At G.w b o ds->RT (rg G fr) G.w t ds x->AVR G a (.pointer (some ⟨b,o+off,none⟩)):=by
 intro t
 induction t with
 | pr q r i n =>
   intro x off o ds a h e g;cases off with
   | zero=>simp only[Gb,oi] at h; subst h; exact⟨b,o,ds,rfl,j,e,g⟩
   | succ off =>
     simp only[Gb,ce] at h;split at h
     ·rename_i f;have f:=Nat.le_of_ble_eq_true f;obtain⟨c,d,rfl,l,m⟩:=g;have k:At G.w b (o+c.length) d:=At.mid (pre:=c) (c:=d) (post:=[]) (by grind)
      grind[RT.len,sz]
     ·obtain⟨c,d,rfl,l,m⟩:=g;exact i h (At.mid (pre:=[]) (c:=c) (post:=d) (by grind)) l
 | _ =>
   intro x off o ds a h e g;cases off with
   | zero=>simp only[Gb,oi] at h; subst h; exact⟨b,o,ds,rfl,j,e,g⟩
   | succ off=>grind[Gb]
abbrev Pa:=List (Nat×Bool)
structure Sl where
 p:Pa
 a:AV
structure St where
 e:List (Nat×Sl)
 o:List (Nat×Ob)
def QW(p q:Pa):Bool:=p.all fun x=>q.any fun y=>Nat.beq x.1 y.1&&(x.2==y.2)
def PathP(p:Pa)(a:Act):Prop:=∀x∈p,a.tmps.getD x.1 undef=.bool x.2
theorem PathP.sub{p q:Pa}{a:Act}(h:PathP q a)(c:QW p q=true):PathP p a:=by
 intro x e;simp only[QW,List.all_eq_true,List.any_eq_true,ba,beq_iff_eq] at c;obtain⟨y,d,b,f⟩:=c x e;have b:=nb b;rw[b,f]; exact h y d
structure EnvR(n:Nat)(G:Gh)(e:List (Nat×Sl))(a:Act):Prop where
 defers:a.defers=[]
 size:a.tmps.size=n
 val:∀t s,b5 e t=some s->(PathP s.p a->AVR G s.a (a.tmps.getD t undef))/\(¬PathP s.p a->a.tmps.getD t undef=undef)
theorem EnvR.mono{n:Nat}{G b:Gh}{e:List (Nat×Sl)}{a:Act}(h:EnvR n G e a)(f:GLe G b):EnvR n b e a :=
 ⟨h.defers,h.size,fun t s c=>⟨fun d=>((h.val t s c).1 d).mono f,(h.val t s c).2⟩⟩
def NH:Value->Option AV
 | .int k n=>bif decide (lo k<=n)&&decide (n<=hi k) then some (.d true (.int k) n) else none
 | .bool b=>some (.d true .bool b)
 | .string s=>bif decide (s.size<=9223372036854775807) then some (.d true .str s) else none
 | .agg _=>none
 | .tuple _=>none
 | u=>some (.v u)
def AN:List Value->Option (List AV)
 | []=>some []
 | u :: r=>match NH u with
   | some a=>match AN r with
     | some l=>some (a :: l)
     | none=>none
   | none=>none
theorem k0R{G:Gh}{u:Value}{a:AV}(h:NH u=some a):AVR G a u:=by
 unfold NH at h;split at h
 ·rw[ce] at h;split at h
  ·rename_i b;simp only[ba,dq] at b;simp only[oi] at h; subst h; exact⟨rfl,b⟩
  grind
 ·simp only[oi] at h; subst h; exact rfl
 ·rw[ce] at h;split at h
  ·rename_i b;simp only[dq] at b;simp only[oi] at h; subst h; exact⟨rfl,b⟩
  grind
 ·cases h
 ·cases h
 ·simp only[oi] at h; subst h; exact rfl
theorem JE{G:Gh}:∀{us:List Value} {as:List AV},AN us=some as->AVRs G as us
 | [],as,h=>by simp[AN] at h; subst h; exact rfl
 | u :: r,as,h=>by
   unfold AN at h;split at h
   ·rename_i a b;split at h
    ·rename_i l c;simp at h; subst h; exact⟨u,r,rfl,k0R b,JE c⟩
    grind
   grind
def QX:Value->Option AV
 | .agg cs=>match AN cs.toList with
   | some l=>some (.agg l)
   | none=>none
 | u=>NH u
theorem s0g{G:Gh}{u:Value}{a:AV}(h:QX u=some a):AVR G a u:=by
 unfold QX at h;split at h
 ·rename_i b;split at h
  ·rename_i l c;simp at h; subst h; exact⟨b.toList,by simp,JE c⟩
  grind
 grind[k0R]
def rd(st:St)(p:Pa):Operand->Option AV
 | .tmp t=>match b5 st.e t with
   | some s=>bif QW s.p p then some s.a else none
   | none=>none
 | .const v=>QX v
 | .func f=>some (.fn f [])
 | .global g=>some (.v (.pointer (some ⟨g,0,none⟩)))
theorem D2{n:Nat}{G:Gh}{st:St}{a:Act}{p:Pa}(f:EnvR n G st.e a)(c:PathP p a){x:Operand}{v:AV}(h:rd st p x=some v):AVR G v (a.eval x):=by
 unfold rd at h;split at h
 ·rename_i t;split at h
  ·rename_i s d;rw[ce] at h;split at h
   ·rename_i b;simp at h; subst h;exact(f.val t s d).1 (c.sub b)
   grind
  grind
 ·exact s0g h
 ·simp at h; subst h; exact⟨[],rfl,rfl⟩
 ·simp at h; subst h; exact rfl
def N9(st:St)(p:Pa):List Operand->Option (List AV)
 | []=>some []
 | x :: r=>match rd st p x with
   | some a=>match N9 st p r with
     | some l=>some (a :: l)
     | none=>none
   | none=>none
theorem Cp{n:Nat}{G:Gh}{st:St}{a:Act}{p:Pa}(d:EnvR n G st.e a)(c:PathP p a):∀{xs:List Operand} {vs:List AV},N9 st p xs=some vs->AVRs G vs (xs.map a.eval)
 | [],vs,h=>by simp[N9] at h; subst h; exact rfl
 | x :: r,vs,h=>by
   unfold N9 at h;split at h
   ·rename_i b f;split at h
    ·rename_i l g;simp at h; subst h; exact⟨_,_,rfl,D2 d c f,Cp d c g⟩
    grind
   grind
inductive Kd
 | agg (pl:List (Nat×Nat)) (e:Bool) (ag:List Bool) | sl (E:TypeId) | arr (m:Nat) (E:TypeId) | str | bool | int (k:IntKind) | oth | ptr
structure TI where
 size:Nat
 bytes:Nat
 zero:Value
 kd:Kd
 ty:Ty
def QY(P:Program)(T:TypeId):Nat->List (Nat×Nat)->Prop
 | _,[]=>True
 | k,(off,_) :: r=>NC P T k=some (off,true)/\QY P T (k+1) r
def M0z(P:Program)(t:TypeId):Bool:=match P.underlying t with
 | some (.int _)=>true
 | _=>false
def QZ(P:Program):Nat->List Field->Bool
 | _,[]=>true
 | k, f :: r => decide (f.name ≠ "_") && Nat.beq f.offset k && M0z P f.type && QZ P (k + 1) r
def Vv(P:Program)(T:TypeId):Bool:=match P.underlying T with
 | some (.struct fs)=>!P.stoodInHeld T&&!P.eqGuardType P.depth T&&QZ P 0 fs.toList
 | _=>false
def Vw(P:Program)(T:TypeId):Option (List (Bool×Bool)):=match P.underlying T with
 | some (.struct fs)=>some (fs.toList.map fun f=>(BC P f.type,W9 P f.type))
 | _=>none
def Ra(P:Program)(T:TypeId):Kd->Prop
 | .agg pl e ag=>BC P T=true/\JB P T=some pl/\NF P T=true/\QY P T 0 pl/\(e=true->Vv P T=true)/\Vw P T=some (ag.map fun b=>(b,!b))
 | .arr m E=>BC P T=true/\P.underlying T=some (.array m E)
 | .sl E=>W9 P T=true/\P.underlying T=some (.slice E)
 | .str=>W9 P T=true/\P.underlying T=some .string
 | .bool=>W9 P T=true/\P.underlying T=some .bool
 | .int k=>W9 P T=true/\P.underlying T=some (.int k)
 | .oth=>W9 P T=true
 | .ptr=>W9 P T=true/\P.underlying T=some (.pointer (P.pointee T))
def HC(P:Program)(T:TypeId)(ti:TI):Prop :=
 QO P T=some (ti.size,ti.bytes,some ti.zero)/\Z1 ti.zero.cells.toList ti.size=true/\Nat.blt 0 ti.size=true/\ones ti.zero.cells.toList=true/\Ra P T ti.kd
abbrev p8:=List (Nat×TI)
def B2(P:Program)(Γ:p8):Prop:=∀T ti,b5 Γ T=some ti->HC P T ti
theorem h0t{P:Program}{T:TypeId}:∀{pl:List (Nat×Nat)} {j k:Nat} {x:Nat×Nat},QY P T j pl->pl[k]?=some x->NC P T (j+k)=some (x.1,true)
 | (off,s) :: r,j,0,x,h,hx=>by simp at hx; subst hx; exact h.1
 | (off,s) :: r,j,k+1,x,h,hx=>by
   have:=h0t (j:=j+1) (k:=k) h.2 (by simpa using hx);rw[show j+(k+1)=j+1+k by omega]; exact this
def isAgg:Kd->Bool
 | .agg .. | .arr ..=>true
 | _=>false
theorem B0r{P:Program}{T:TypeId}{a:Kd}(h:Ra P T a):(isAgg a=true->BC P T=true)/\(isAgg a=false->W9 P T=true):=by
 cases a with
 | agg b e c=>exact⟨fun _=>h.1,(fun e=>by cases e)⟩
 | arr m E=>exact⟨fun _=>h.1,(fun e=>by cases e)⟩
 | oth=>exact⟨(fun e=>by cases e),fun _=>h⟩
 | _=>exact⟨(fun e=>by cases e),fun _=>h.1⟩
def D3(a:Act):List Operand->A9
 | []=>[]
 | .tmp t :: r=>(t,a.tmps.getD t undef) :: D3 a r
 | _ :: r=>D3 a r
theorem NI{a:Act}{t:Nat}{v:Value}:∀{xs:List Operand},lk (D3 a xs) t=some v->a.tmps.getD t undef=v
 | [],h=>by cases h
 | .tmp s :: r,h=>by
   rw[D3,Ju] at h;by_cases e:s=t
   ·grind
   ·rw[if_neg e] at h; exact NI h
 | .const _ :: r,h=>NI (xs:=r) h
 | .global _ :: r,h=>NI (xs:=r) h
 | .func _ :: r,h=>NI (xs:=r) h
theorem Vx{n:Nat}{G:Gh}{e:List (Nat×Sl)}{a:Act}(h:EnvR n G e a)(xs:List Operand):Agree n (D3 a xs) a:=⟨h.defers,h.size,fun _ _ b=>NI b⟩
theorem r0d{a:Act}{t:Nat}:∀{xs:List Operand},.tmp t∈xs->lk (D3 a xs) t=some (a.tmps.getD t undef)
 | y :: r,h=>by
   have d:Operand.tmp t∈r->lk (D3 a (y :: r)) t=some (a.tmps.getD t undef):=fun c=>by
    have b:=r0d (a:=a) c;cases y with
    | tmp s =>
      rw[D3,Ju];by_cases e:s=t
      ·subst e; simp
      ·rw[if_neg e]; exact b
    | _=>exact b
   grind[D3,Ju]
theorem J2{a:Act}{xs:List Operand}{x:Operand}(h:x∈xs):ev (D3 a xs) x=some (a.eval x):=by
 cases x with
 | tmp t=>exact r0d h
 | _=>rfl
def M5(X:Cx)(G:Gh)(a:Act)(op:Op)(ty:TypeId)(av:AV):Prop :=
 ∃v,(∀dst pos after g,(execOp a.eval ⟨dst,op,ty,pos,after,g⟩).run X.P G.w=.ok (.value v) G.w)/\AVR G av v
theorem B4{X:Cx}{G:Gh}{a:Act}{st:St}{f:Op}{ty:TypeId}{av:AV}{v:Value}(j:EnvR X.n G st.e a)(xs:List Operand)(h:D6 X.P X.n (D3 a xs) f ty G.w v G.w)(i:AVR G av v):M5 X G a f ty av :=
 ⟨v,fun d c b g=>h a d c b g (Vx j xs),i⟩
def Cq:AV->Option (List AV)
 | .agg xs=>bif xs.all QV then some xs else none
 | a=>bif QV a then some [a] else none
theorem IS:∀{us:List Value},(∀u∈us,u.oneCell'=true)->ones us=true
 | [],_=>rfl
 | u :: r,h=>by
   have c:=h u (by simp);have a:=IS (us:=r) (fun v b=>h v (by grind))
   grind[ones,Value.oneCell']
theorem AVRs.ones{G:Gh}:∀{as:List AV} {us:List Value},AVRs G as us->as.all QV=true->∀u∈us,u.oneCell'=true
 | [],us,h,_,u,hu=>by rw[show us=[] from h] at hu; cases hu
 | a :: r,us,⟨u,us',e,h1,h2⟩,ho,x,hx=>by
   simp only[List.all_cons,ba] at ho;rw[e] at hx;rcases List.mem_cons.1 hx with rfl | hx
   ·exact h1.one ho.1
   ·exact AVRs.ones h2 ho.2 x hx
theorem v0F{u:Value}(h:u.oneCell'=true):u.cells.toList=[u]:=by cases u <;> first | rfl | cases h
theorem JF{G:Gh}{a:AV}{cs:List AV}{u:Value}(h:Cq a=some cs)(d:AVR G a u):AVRs G cs u.cells.toList/\ones u.cells.toList=true:=by
 unfold Cq at h;split at h
 ·rename_i f;rw[ce] at h;split at h
  ·rename_i c;simp at h; subst h;obtain⟨g,rfl,b⟩:=d;simp only[Value.cells,List.toList_toArray];exact⟨b,IS (b.ones c)⟩
  grind
 ·rw[ce] at h;split at h
  ·rename_i c;simp at h; subst h;have b:=d.one c;rw[v0F b];exact⟨⟨u,[],rfl,d,rfl⟩,IS (fun v e=>by grind)⟩
  grind
def JG(ti:TI)(cs:List AV):Option AV :=
 bif isAgg ti.kd then(bif Nat.ble ti.size cs.length then some (.agg (cs.take ti.size)) else none)
 else match cs with
  | c :: _=>some c
  | []=>none
theorem Vy{w:World}{b o:Nat}{us:List Value}(h:At w b o us)(k:Nat):At w b o (us.take k):=by
 intro i u c;rcases Nat.lt_or_ge i k with a | a
 ·rw[List.getElem?_take_of_lt a] at c; exact h i u c
 grind
theorem Vz{w:World}{b o:Nat}{us:List Value}(h:At w b o us)(k:Nat):At w b (o+k) (us.drop k):=by
 intro i u a;rw[List.getElem?_drop] at a;have:=h (k+i) u a
 grind
theorem q0H{X:Cx}{G:Gh}{a:Act}{st:St}{T:TypeId}{d:TI}{x:Operand}{b o:Nat}{us:List Value}{cs:List AV}{av:AV}{ty:TypeId}(s:EnvR X.n G st.e a)(l:HC X.P T d)
  (y:a.eval x=.pointer (some ⟨b,o,none⟩)) (i:At G.w b o us) (k:AVRs G cs us) (h:JG d cs=some av):M5 X G a (.load T x) ty av:=by
 obtain⟨hi,z,_,_,j⟩:=l;have j:=B0r j;have g:ev (D3 a [x]) x=some (.pointer (some ⟨b,o,none⟩)):=by grind[J2]
 unfold JG at h;rw[ce] at h;split at h
 ·rename_i q;rw[ce] at h;split at h
  ·rename_i f;simp at h; subst h;have f:=Nat.le_of_ble_eq_true f
   haveI:L5 X.P T:=⟨j.1 q⟩
   haveI:Info X.P T d.size d.bytes d.zero:=⟨hi⟩
   have m:=k.len;exact B4 s [x] (V7 g (by grind) (Vy i d.size)) ⟨us.take d.size,rfl,(k.take _).1⟩
  grind
 ·rename_i q;split at h
  ·rename_i c r;simp at h; subst h
   haveI:K2 X.P T:=⟨j.2 (by grind)⟩
   obtain⟨u,t,rfl,v,_⟩:=k;exact B4 s [x] (Vq g (by simpa using i 0 u rfl)) v
  grind
def VA(a b:Operand)(x y z:Bool):Bool:=match b with
 | .const (.bool false)=>x&&y
 | _=>match a with
   | .const (.bool true)=>x||z
   | _=>bif x then y else z
theorem evB{st:St}{p:Pa}{v:Bool}{f:Bool}{y:Bool}(h:rd st p (.const (.bool v))=some (.d f .bool y)):y=v:=by
 grind[rd,QX,NH]
theorem u0K{st:St}{p q:Pa}{a b:Operand}{f g x y z:Bool}(e:rd st p a=some (.d f .bool y))(c:rd st q b=some (.d g .bool z)):VA a b x y z=bif x then y else z:=by
 unfold VA
 grind[evB]
def DW(k:IntKind)(r:Int):Prop:=lo k<=r/\r<=hi k
def CZ(k k':IntKind)(r:Bool):Option (Prop×AV):=bif decide (k=k') then some (True,.d true .bool r) else none
def Rb(a b:Int):Bool:=a==b
def neI(a b:Int):Bool:=a != b
def ltI(a b:Int):Bool:=decide (a<b)
def leI(a b:Int):Bool:=decide (a<=b)
def M0I(a b:Int):Option (Prop×AV):=some (DW .i64 (a+b),.d true (.int .i64) (a+b))
def K0W(a b:Int):Option (Prop×AV):=some (DW .i64 (a-b),.d true (.int .i64) (a-b))
def M0u(a b:Int):Option (Prop×AV):=some (DW .i64 (a*b),.d true (.int .i64) (a*b))
def L0r(a b:Int):Option (Prop×AV):=some (0<b,.d true (.int .i64) (a.tdiv b))
def L0b(a b:Int):Option (Prop×AV):=some (0<b,.d true (.int .i64) (a.tmod b))
def K0X(a b:Int):Option (Prop×AV):=some ((0<=b/\b<=62)/\DW .i64 (a*2 ^ b.toNat),.d true (.int .i64) (a*2 ^ b.toNat))
def Rc(k:IntKind)(a b:Int):Option (Prop×AV):=some ((0<=b/\b<=62)/\DW k (a.fdiv (2 ^ b.toNat)),.d true (.int k) (a.fdiv (2 ^ b.toNat)))
def Rd(a b:ByteArray):Bool:=decide (a=b)
def M0G(a b:ByteArray):Option (Prop×AV):=some (a.size+b.size<=9223372036854775807,.d true .str (a++b))
def HD:List AV->List AV->Option Bool
 | [],[]=>some true
 | .d _ (.int k) a :: r,.d _ (.int k') b :: s=>bif decide (k=k') then(match HD r s with | some e=>some (Rb a b&&e) | none=>none) else none
 | _,_=>none
def Re(ti:Option TI)(xs ys:List AV):Option Bool:=match ti with
 | some ⟨_,_,_,.agg pl true _,_⟩=>bif Nat.beq pl.length xs.length then HD xs ys else none
 | _=>none
def Rf(k:IntKind)(a b:Int):Option (Prop×AV):=some (0<=a/\0<=b,.d true (.int k) ((a.toNat &&& b.toNat:Nat):Int))
def NJ(ti:Option TI):BinOp->AV->AV->Option (Prop×AV)
 | .eql,.d _ (.int k) a,.d _ (.int k') b=>CZ k k' (Rb a b)
 | .neq,.d _ (.int k) a,.d _ (.int k') b=>CZ k k' (neI a b)
 | .lss,.d _ (.int k) a,.d _ (.int k') b=>CZ k k' (ltI a b)
 | .leq,.d _ (.int k) a,.d _ (.int k') b=>CZ k k' (leI a b)
 | .gtr,.d _ (.int k) a,.d _ (.int k') b=>CZ k k' (ltI b a)
 | .geq,.d _ (.int k) a,.d _ (.int k') b=>CZ k k' (leI b a)
 | .add,.d _ (.int .i64) a,.d _ (.int .i64) b=>M0I a b
 | .sub,.d _ (.int .i64) a,.d _ (.int .i64) b=>K0W a b
 | .mul,.d _ (.int .i64) a,.d _ (.int .i64) b=>M0u a b
 | .quo,.d _ (.int .i64) a,.d _ (.int .i64) b=>L0r a b
 | .rem,.d _ (.int .i64) a,.d _ (.int .i64) b=>L0b a b
 | .eql,.d _ .str a,.d _ .str b=>some (True,.d true .bool (Rd a b))
 | .neq,.d _ .str a,.d _ .str b=>some (True,.d true .bool (!Rd a b))
 | .add,.d _ .str a,.d _ .str b=>M0G a b
 | .eql,.d _ .bool a,.d _ .bool b=>match ti with
   | some ⟨_,_,_,.bool,_⟩=>some (True,.d true .bool (a==b))
   | _=>none
 | .neq,.d _ .bool a,.d _ .bool b=>match ti with
   | some ⟨_,_,_,.bool,_⟩=>some (True,.d true .bool (!(a==b)))
   | _=>none
 | .shl,.d _ (.int .i64) a,.d _ (.int _) b=>K0X a b
 | .shr,.d _ (.int .i64) a,.d _ (.int _) b=>Rc .i64 a b
 | .shr,.d _ (.int .u64) a,.d _ (.int _) b=>Rc .u64 a b
 | .eql,.agg xs,.agg ys=>match Re ti xs ys with
   | some e=>some (True,.d true .bool e)
   | none=>none
 | .neq,.agg xs,.agg ys=>match Re ti xs ys with
   | some e=>some (True,.d true .bool (!e))
   | none=>none
 | .add,.d _ (.int .u8) a,.d _ (.int .u8) b=>some (DW .u8 (a+b),.d true (.int .u8) (a+b))
 | .sub,.d _ (.int .u8) a,.d _ (.int .u8) b=>some (DW .u8 (a-b),.d true (.int .u8) (a-b))
 | .eql,.d _ (.pt _) _,.v (.pointer none)=>match ti with
   | some ⟨_,_,_,.ptr,_⟩=>some (True,.d true .bool false)
   | _=>none
 | .neq,.d _ (.pt _) _,.v (.pointer none)=>match ti with
   | some ⟨_,_,_,.ptr,_⟩=>some (True,.d true .bool true)
   | _=>none
 | .eql,.v (.pointer none),.v (.pointer none)=>match ti with
   | some ⟨_,_,_,.ptr,_⟩=>some (True,.d true .bool true)
   | _=>none
 | .neq,.v (.pointer none),.v (.pointer none)=>match ti with
   | some ⟨_,_,_,.ptr,_⟩=>some (True,.d true .bool false)
   | _=>none
 | .and,.d _ (.int .i64) a,.d _ (.int .i64) b=>Rf .i64 a b
 | .and,.d _ (.int .u64) a,.d _ (.int .u64) b=>Rf .u64 a b
 | .add,.d _ (.int .u64) a,.d _ (.int .u64) b=>some (True,.d true (.int .u64) ((a+b) % 18446744073709551616))
 | .mul,.d _ (.int .u64) a,.d _ (.int .u64) b=>some (True,.d true (.int .u64) ((a*b) % 18446744073709551616))
 | _,_,_=>none
theorem F1{G:Gh}{fr:Bool}{k:IntKind}{x:Int}{u:Value}(h:AVR G (.d fr (.int k) x) u):u=.int k x/\lo k<=x/\x<=hi k:=⟨by have:=h.1; simpa using this,h.2⟩
theorem DX{G:Gh}{fr:Bool}{x:Bool}{u:Value}(h:AVR G (.d fr .bool x) u):u=.bool x:=by have:[u]=_:=h; simpa using this
theorem Rg{G:Gh}{fr:Bool}{s:ByteArray}{u:Value}(h:AVR G (.d fr .str s) u):u=.string s/\s.size<=9223372036854775807:=⟨by have:=h.1; simpa using this,h.2⟩
theorem C0B{i j:Int}(c:K1 j)(a:0<j):K1 (i.tmod j):=by
 have b:=Int.tmod_lt_of_pos i a;have d : -j<i.tmod j:=by
  have:=Int.tmod_lt_of_pos (-i) a;rw[Int.neg_tmod] at this; omega
 grind[K1]
theorem Rh(k:IntKind){n:Int}(h:lo k<=n/\n<=hi k):k.wrap n=n:=by
 cases k <;> simp only[lo,hi] at h
 ·grind[IntWalk.i8_in]
 ·grind[IntWalk.i16_in]
 ·grind[IntWalk.i32_in]
 ·grind[IntWalk.i64_in]
 ·grind[IntWalk.u8_in]
 ·grind[IntWalk.u16_in]
 ·grind[IntWalk.u32_in]
 grind[IntWalk.u64_in]
theorem x0l{P:Program}{n:Nat}{e:A9}{w:World}{T T' ty:TypeId}{x y:Operand}{k:IntKind}{a b:Int}(j:ev e x=some (.int .i64 a))(i:ev e y=some (.int k b))(r:0<=b/\b<=62)(l:lo .i64<=a*2 ^ b.toNat/\a*2 ^ b.toNat<=hi .i64) :
  D6 P n e (.binOp .shl T x y T') ty w (.int .i64 (a*2 ^ b.toNat)) w:=by
 intro m h f c g d;have o:¬b<0:=by omega
 have q:min b.toNat IntKind.i64.bits=b.toNat:=Nat.min_eq_left (by show b.toNat<=64; omega);simp only[execOp,d.ev j,d.ev i];simp[eqGuard,binOp,Rh .i64 l]
theorem q0b{P:Program}{n:Nat}{e:A9}{w:World}{T T' ty:TypeId}{x y:Operand}{k c:IntKind}{a b:Int}(m:ev e x=some (.int c a))(l:ev e y=some (.int k b))(s:0<=b/\b<=62)(q:64<=c.bits) :
  D6 P n e (.binOp .shr T x y T') ty w (.int c (a.fdiv (2 ^ b.toNat))) w:=by
 intro r j h d g f;have i:¬b<0:=by omega
 have o:min b.toNat c.bits=b.toNat:=Nat.min_eq_left (by omega);simp only[execOp,f.ev m,f.ev l];simp[eqGuard,binOp,Op.shift,i,o]
theorem u0e{P:Program}{n:Nat}{e:A9}{w:World}{T T' ty:TypeId}{x y:Operand}{a b r:Int}{c:BinOp}(l:ev e x=some (.int .u8 a))(k:ev e y=some (.int .u8 b))(m:(c=.add/\r=a+b)∨(c=.sub/\r=a-b))(o:lo .u8<=r/\r<=hi .u8) :
  D6 P n e (.binOp c T x y T') ty w (.int .u8 r) w:=by
 intro q j i d g h;simp only[execOp,h.ev l,h.ev k];have f:=Rh .u8 o;rcases m with ⟨rfl,rfl⟩ | ⟨rfl,rfl⟩
 ·simp[eqGuard,binOp,Op.intArith,f]
 ·simp[eqGuard,binOp,Op.intArith,f]
theorem q0d{P:Program}{n:Nat}{e:A9}{w:World}{T T' ty:TypeId}{x y:Operand}{k:IntKind}{a b:Int}(f:k=.i64∨k=.u64)(z:ev e x=some (.int k a))(E:ev e y=some (.int k b))(s:0<=a/\a<=hi k)(q:0<=b/\b<=hi k) :
  D6 P n e (.binOp .and T x y T') ty w (.int k ((a.toNat &&& b.toNat:Nat):Int)) w/\0<=((a.toNat &&& b.toNat:Nat):Int)/\((a.toNat &&& b.toNat:Nat):Int)<=hi k:=by
 have u:((a.toNat &&& b.toNat:Nat):Int)<=a:=by
  have:=Nat.and_le_left (n:=a.toNat) (m:=b.toNat);omega
 have F:(0:Int)<=((a.toNat &&& b.toNat:Nat):Int):=Int.natCast_nonneg _;have d:∀x:Int,x<=hi k->x<18446744073709551616:=fun x h=>by
  rcases f with rfl | rfl
  ·have:hi .i64=9223372036854775807:=rfl;omega
  ·have:hi .u64=18446744073709551615:=rfl;omega
 have j:lo k<=((a.toNat &&& b.toNat:Nat):Int):=by
  rcases f with rfl | rfl
  ·have:lo .i64 = -9223372036854775808:=rfl;omega
  ·have:lo .u64=0:=rfl;omega
 have l:=Rh k ⟨j,(by omega:((a.toNat &&& b.toNat:Nat):Int)<=hi k)⟩;refine⟨?_,F,by omega⟩;intro G v t i g c;simp only[execOp,c.ev z,c.ev E];have o:a % 18446744073709551616=a:=Int.emod_eq_of_lt s.1 (d a s.2);have r:b % 18446744073709551616=b:=Int.emod_eq_of_lt q.1 (d b q.2);rcases f with rfl | rfl
 ·simp[eqGuard,binOp,Op.intBits,show IntKind.bits .i64=64 from rfl,o,r,l]
 ·simp[eqGuard,binOp,Op.intBits,show IntKind.bits .u64=64 from rfl,o,r,l]
theorem q0a{P:Program}{n:Nat}{e:A9}{w:World}{T T' ty:TypeId}{x y:Operand}{a b r:Int}{c:BinOp}(l:ev e x=some (.int .u64 a))(k:ev e y=some (.int .u64 b))(m:(c=.add/\r=a+b)∨(c=.mul/\r=a*b)) :
  D6 P n e (.binOp c T x y T') ty w (.int .u64 (r % 18446744073709551616)) w:=by
 intro o j i d g h;simp only[execOp,h.ev l,h.ev k];have f:IntKind.wrap .u64 r=r % 18446744073709551616:=by
  unfold IntKind.wrap;simp[IntKind.signed,IntKind.bits]
 rcases m with ⟨rfl,rfl⟩ | ⟨rfl,rfl⟩
 ·simp[eqGuard,binOp,Op.intArith,f]
 ·simp[eqGuard,binOp,Op.intArith,f]
theorem v0r{P:Program}{w:World}{G:Gh}{d:Nat}{xs c:Array Value}:∀{fs:List Field} {k:Nat} {as bs:List AV} {e:Bool},QZ P k fs=true->fs.length=as.length->HD as bs=some e->AVRs G as (xs.toList.drop k)->AVRs G bs (c.toList.drop k) ->
  (Op.eqFields (d+1) xs c fs).run P w=.ok e w
 | [],k,[],bs,e,_,_,h,_,_=>by
   cases bs with
   | nil=>simp only[HD,oi] at h; subst h; simp[Op.eqFields]
   | cons b r=>grind[HD]
 | f :: r,k,a :: as,bs,e,hf,hl,h,hx,hy=>by
   unfold HD at h;split at h
   ·grind
   ·rename_i g q x aB g' q' y aA e1;cases e1;rw[ce] at h;split at h
    ·rename_i n;have n:q=q':=by simpa using n
     subst n;split at h
     ·rename_i e' s;simp only[oi] at h; subst h;simp only[QZ,ba,dq] at hf;obtain⟨⟨⟨H,j⟩,hi⟩,hr⟩:=hf;have j:=nb j;obtain⟨u,t,E,hu,l⟩:=hx;obtain⟨v,z,ev,F,m⟩:=hy;obtain⟨rfl,_⟩:=F1 hu;obtain⟨rfl,_⟩:=F1 F;have W:xs[f.offset]?=some (.int q x):=by
       have:(xs.toList.drop k)[0]?=some (.int q x):=by rw[E]; rfl
       rw[List.getElem?_drop] at this;rw[j]; simpa using this
      have X:c[f.offset]?=some (.int q y):=by
       have:(c.toList.drop k)[0]?=some (.int q y):=by rw[ev]; rfl
       rw[List.getElem?_drop] at this;rw[j]; simpa using this
      have V:t=xs.toList.drop (k+1):=by
       have:(xs.toList.drop k).drop 1=t:=by rw[E]; rfl
       rw[List.drop_drop] at this; exact this.symm
      have T:z=c.toList.drop (k+1):=by
       have:(c.toList.drop k).drop 1=z:=by rw[ev]; rfl
       rw[List.drop_drop] at this; exact this.symm
      subst V; subst T;have ih:=v0r (w:=w) (d:=d) hr (by simpa using hl) s l m;unfold M0z at hi;split at hi
      ·rename_i Q i;have Y:(part f.type xs f.offset).run P w=.ok (.int q x) w:=by simp[part,Go.isAgg,run_underlying i,W]
       have p2:(part f.type c f.offset).run P w=.ok (.int q y) w:=by simp[part,Go.isAgg,run_underlying i,X]
       have p3:=run_equalIn_int w d f.type q Q x y i;simp only[Op.eqFields,H,ne_eq,not_false_eq_true,if_true,Sem.run_bind,Y,p2,p3,Result.andThen_ok];by_cases o:x=y
       ·grind[Rb]
       ·simp[Rb,o]
      grind
     grind
    grind
   grind
theorem x0q{P:Program}{n:Nat}{j:A9}{w:World}{G:Gh}{T T' ty:TypeId}{x y:Operand}{us vs:List Value}{k u:List AV}{e:Bool}{pl:List (Nat×Nat)}(t:ev j x=some (.agg us.toArray))(v:ev j y=some (.agg vs.toArray))
  (Q:AVRs G k us) (E:AVRs G u vs) {X:List Bool} (H:Ra P T (.agg pl true X)) (Y:pl.length=k.length) (h:HD k u=some e) :
  D6 P n j (.binOp .eql T x y T') ty w (.bool e) w/\D6 P n j (.binOp .neq T x y T') ty w (.bool (!e)) w:=by
 obtain⟨_,l,_,_,c,_⟩:=H;have c:=c rfl;unfold Vv at c;split at c
 ·rename_i r z;simp only[ba,Bool.not_eq_true'] at c;obtain⟨⟨V,s⟩,F⟩:=c;have q:P.fieldsOf T=r:=by unfold Program.fieldsOf; rw[z]
  have i:r.toList.length=k.length:=by
   unfold JB at l;rw[z] at l;simp only[oi] at l;rw[<- Y,<- l,List.length_map]
  have f:(Op.equalIn 10000 T (.agg us.toArray) (.agg vs.toArray)).run P w=.ok e w:=by
   rw[run_equalIn_struct w 9999 T _ _ (by grind) V,q];exact v0r (d:=9998) F i h Q E
  constructor
  ·intro W o m b g a;simp only[execOp,a.ev t,a.ev v];simp[run_eqGuard_agg w .eql T x y us.toArray vs.toArray s,run_eql_struct,f]
  ·intro W o m b g a;simp only[execOp,a.ev t,a.ev v];simp[run_eqGuard_agg w .neq T x y us.toArray vs.toArray s,run_neq_struct,f]
 grind
theorem k0M{X:Cx}{G:Gh}{a:Act}{st:St}{T T' ty:TypeId}{j:Option TI}{x y:Operand}{g i:List AV}{e:Bool}(k:EnvR X.n G st.e a)(f:∀t,j=some t->HC X.P T t)
  (o:AVR G (.agg g) (a.eval x)) (q:AVR G (.agg i) (a.eval y)) (h:Re j g i=some e):M5 X G a (.binOp .eql T x y T') ty (.d true .bool e)/\M5 X G a (.binOp .neq T x y T') ty (.d true .bool (!e)):=by
 have b:ev (D3 a [x,y]) x=some (a.eval x):=J2 (by simp);have c:ev (D3 a [x,y]) y=some (a.eval y):=J2 (by simp);unfold Re at h;split at h
 ·rw[ce] at h;split at h
  ·rename_i v;obtain⟨E,m,s⟩:=o;obtain⟨F,z,u⟩:=q;rw[m] at b;rw[z] at c;obtain⟨l,r⟩:=x0q (P:=X.P) (n:=X.n) (w:=G.w) (T':=T') (ty:=ty) b c s u (f _ rfl).2.2.2.2 (nb v) h;exact⟨B4 k [x,y] l rfl,B4 k [x,y] r rfl⟩
  grind
 grind
theorem k0x{P:Program}{n:Nat}{e:A9}{ty:TypeId}{w:World}{T T':TypeId}{x y:Operand}{q:Option Addr}(j:P.underlying T=some (.pointer (P.pointee T)))(f:Sv.ev e x=some (.pointer q))(h:Sv.ev e y=some (.pointer none)) :
  D6 P n e (.binOp .eql T x y T') ty w (.bool q.isNone) w:=by
 intro a i d b g c;have:=run_eql_pointer_nil w T q j;simp only[execOp,c.ev f,c.ev h];simp[eqGuard,this,Result.andThen]
theorem k0w{P:Program}{n:Nat}{e:A9}{ty:TypeId}{w:World}{T T':TypeId}{x y:Operand}{q:Option Addr}(j:P.underlying T=some (.pointer (P.pointee T)))(f:Sv.ev e x=some (.pointer q))(h:Sv.ev e y=some (.pointer none)) :
  D6 P n e (.binOp .neq T x y T') ty w (.bool (!q.isNone)) w:=by
 intro a i d b g c;have:=run_neq_pointer_nil w T q j;simp only[execOp,c.ev f,c.ev h];simp[eqGuard,this,Result.andThen]
theorem s0i{X:Cx}{G:Gh}{a:Act}{st:St}{op:BinOp}{T T' ty:TypeId}{ti:Option TI}{x y:Operand}{u v r:AV}{q:Prop}(E:EnvR X.n G st.e a)(Q:∀t,ti=some t->HC X.P T t)
  (H:AVR G u (a.eval x)) (F:AVR G v (a.eval y)) (h:NJ ti op u v=some (q,r)) (z:q):M5 X G a (.binOp op T x y T') ty r:=by
 have c:ev (D3 a [x,y]) x=some (a.eval x):=J2 (by simp);have l:ev (D3 a [x,y]) y=some (a.eval y):=J2 (by simp);have V:∀{o:BinOp} {f g:Bool} {k k':IntKind} {i j:Int} {aA:Bool} {q':Prop} {r':AV},u=.d f (.int k) i->v=.d g (.int k') j->CZ k k' aA=some (q',r')->Vp o i j=some aA->op=o->r'=r ->
   M5 X G a (.binOp op T x y T') ty r:=by
  intro o f g k k' i j aA q' r' e1 e2 hb hc ho hr;subst e1; subst e2;unfold CZ at hb;rw[ce] at hb;split at hb
  ·rename_i hk;have hk:k=k':=by simpa using hk
   subst hk;simp only[oi,pj] at hb;obtain⟨_,rfl⟩:=hb;obtain⟨m,_⟩:=F1 H;obtain⟨s,_⟩:=F1 F;rw[m] at c;rw[s] at l;refine B4 E [x,y] (v:=.bool aA) (D0 ?_) ?_
   ·grind[Z0,NB]
   ·rw[<- hr]; exact rfl
  ·cases hb
 have ar:∀{f g:Bool} {i j:Int},u=.d f (.int .i64) i->v=.d g (.int .i64) j->ev (D3 a [x,y]) x=some (.int .i64 i)/\ev (D3 a [x,y]) y=some (.int .i64 j)/\K1 i/\K1 j:=by
  intro f g i j e1 e2;subst e1; subst e2;obtain⟨m,W⟩:=F1 H;obtain⟨s,Y⟩:=F1 F;rw[m] at c;rw[s] at l;exact⟨c,l,W,Y⟩
 have sr:∀{f g:Bool} {i j:ByteArray},u=.d f .str i->v=.d g .str j->ev (D3 a [x,y]) x=some (.string i)/\ev (D3 a [x,y]) y=some (.string j):=by
  intro f g i j e1 e2;subst e1; subst e2;rw[(Rg H).1] at c;rw[(Rg F).1] at l;exact⟨c,l⟩
 have br:∀{f g i j:Bool},u=.d f .bool i->v=.d g .bool j->ev (D3 a [x,y]) x=some (.bool i)/\ev (D3 a [x,y]) y=some (.bool j):=by
  intro f g i j e1 e2;subst e1; subst e2;rw[DX H] at c;rw[DX F] at l;exact⟨c,l⟩
 unfold NJ at h;split at h
 ·exact V rfl rfl h rfl rfl rfl
 ·exact V rfl rfl h rfl rfl rfl
 ·exact V rfl rfl h rfl rfl rfl
 ·exact V rfl rfl h rfl rfl rfl
 ·exact V rfl rfl h rfl rfl rfl
 ·exact V rfl rfl h rfl rfl rfl
 ·simp only[M0I,oi,pj] at h;obtain⟨rfl,rfl⟩:=h;obtain⟨m,s,_⟩:=ar rfl rfl;exact B4 E [x,y] (MO m s z) ⟨rfl,z⟩
 ·simp only[K0W,oi,pj] at h;obtain⟨rfl,rfl⟩:=h;obtain⟨m,s,_⟩:=ar rfl rfl;exact B4 E [x,y] (x0k m s z) ⟨rfl,z⟩
 ·simp only[M0u,oi,pj] at h;obtain⟨rfl,rfl⟩:=h;obtain⟨m,s,_⟩:=ar rfl rfl;exact B4 E [x,y] (x0o m s z) ⟨rfl,z⟩
 ·simp only[L0r,oi,pj] at h;obtain⟨rfl,rfl⟩:=h;obtain⟨m,s,h3,_⟩:=ar rfl rfl;exact B4 E [x,y] (q0c m s h3 z) ⟨rfl,t0K h3 z⟩
 ·simp only[L0b,oi,pj] at h;obtain⟨rfl,rfl⟩:=h;obtain⟨m,s,h3,h4⟩:=ar rfl rfl;exact B4 E [x,y] (PS m s (by omega)) ⟨rfl,C0B h4 z⟩
 ·simp only[oi,pj] at h;obtain⟨rfl,rfl⟩:=h;obtain⟨m,s⟩:=sr rfl rfl;exact B4 E [x,y] (D0 (by grind[Z0,NB,QN,Rd])) rfl
 ·simp only[oi,pj] at h;obtain⟨rfl,rfl⟩:=h;obtain⟨m,s⟩:=sr rfl rfl;exact B4 E [x,y] (D0 (by grind[Z0,NB,QN,Rd])) rfl
 ·simp only[M0G,oi,pj] at h;obtain⟨rfl,rfl⟩:=h;obtain⟨m,s⟩:=sr rfl rfl;exact B4 E [x,y] (TT m s z) ⟨rfl,by grind⟩
 ·split at h
  ·simp only[oi,pj] at h;obtain⟨rfl,rfl⟩:=h;obtain⟨m,s⟩:=br rfl rfl
   haveI:GX X.P T:=⟨(Q _ rfl).2.2.2.2.2⟩
   exact B4 E [x,y] (x0p m s) rfl
  grind
 ·split at h
  ·simp only[oi,pj] at h;obtain⟨rfl,rfl⟩:=h;obtain⟨m,s⟩:=br rfl rfl
   haveI:GX X.P T:=⟨(Q _ rfl).2.2.2.2.2⟩
   exact B4 E [x,y] (x0n m s) rfl
  grind
 ·simp only[K0X,oi,pj] at h;obtain⟨rfl,rfl⟩:=h;obtain⟨m,_⟩:=F1 H;obtain⟨s,_⟩:=F1 F;rw[m] at c;rw[s] at l;exact B4 E [x,y] (x0l c l z.1 z.2) ⟨rfl,z.2⟩
 ·simp only[Rc,oi,pj] at h;obtain⟨rfl,rfl⟩:=h;obtain⟨m,_⟩:=F1 H;obtain⟨s,_⟩:=F1 F;rw[m] at c;rw[s] at l;exact B4 E [x,y] (q0b c l z.1 (Nat.le_refl 64)) ⟨rfl,z.2⟩
 ·simp only[Rc,oi,pj] at h;obtain⟨rfl,rfl⟩:=h;obtain⟨m,_⟩:=F1 H;obtain⟨s,_⟩:=F1 F;rw[m] at c;rw[s] at l;exact B4 E [x,y] (q0b c l z.1 (Nat.le_refl 64)) ⟨rfl,z.2⟩
 ·grind[oi,pj,k0M]
 ·split at h
  ·rename_i he;simp only[oi,pj] at h;obtain⟨rfl,rfl⟩:=h;exact(k0M E Q H F he).2
  grind
 ·simp only[oi,pj] at h;obtain⟨rfl,rfl⟩:=h;obtain⟨m,_⟩:=F1 H;obtain⟨s,_⟩:=F1 F;rw[m] at c;rw[s] at l;exact B4 E [x,y] (u0e c l (.inl ⟨rfl,rfl⟩) z) ⟨rfl,z⟩
 ·simp only[oi,pj] at h;obtain⟨rfl,rfl⟩:=h;obtain⟨m,_⟩:=F1 H;obtain⟨s,_⟩:=F1 F;rw[m] at c;rw[s] at l;exact B4 E [x,y] (u0e c l (.inr ⟨rfl,rfl⟩) z) ⟨rfl,z⟩
 ·split at h
  ·simp only[oi,pj] at h;obtain⟨rfl,rfl⟩:=h;obtain⟨b,o,ds,m,_⟩:=H;simp only[List.cons.injEq,and_true] at m;have s:a.eval y=.pointer none:=F;rw[m] at c;rw[s] at l;exact B4 E [x,y] (k0x (Q _ rfl).2.2.2.2.2 c l) rfl
  grind
 ·split at h
  ·simp only[oi,pj] at h;obtain⟨rfl,rfl⟩:=h;obtain⟨b,o,ds,m,_⟩:=H;simp only[List.cons.injEq,and_true] at m;have s:a.eval y=.pointer none:=F;rw[m] at c;rw[s] at l;exact B4 E [x,y] (k0w (Q _ rfl).2.2.2.2.2 c l) rfl
  grind
 ·split at h
  ·simp only[oi,pj] at h;obtain⟨rfl,rfl⟩:=h;have m:a.eval x=.pointer none:=H;have s:a.eval y=.pointer none:=F;rw[m] at c;rw[s] at l;exact B4 E [x,y] (k0x (Q _ rfl).2.2.2.2.2 c l) rfl
  grind
 ·split at h
  ·simp only[oi,pj] at h;obtain⟨rfl,rfl⟩:=h;have m:a.eval x=.pointer none:=H;have s:a.eval y=.pointer none:=F;rw[m] at c;rw[s] at l;exact B4 E [x,y] (k0w (Q _ rfl).2.2.2.2.2 c l) rfl
  grind
 ·simp only[Rf,oi,pj] at h;obtain⟨rfl,rfl⟩:=h;obtain⟨m,W⟩:=F1 H;obtain⟨s,Y⟩:=F1 F;rw[m] at c;rw[s] at l;obtain⟨hr,aC,aB⟩:=q0d (P:=X.P) (n:=X.n) (w:=G.w) (T:=T) (T':=T') (ty:=ty) (.inl rfl) c l ⟨z.1,W.2⟩ ⟨z.2,Y.2⟩;have h0:lo .i64<=0:=by decide
  exact B4 E [x,y] hr ⟨rfl,Int.le_trans h0 aC,aB⟩
 ·simp only[Rf,oi,pj] at h;obtain⟨rfl,rfl⟩:=h;obtain⟨m,W⟩:=F1 H;obtain⟨s,Y⟩:=F1 F;rw[m] at c;rw[s] at l;obtain⟨hr,aC,aB⟩:=q0d (P:=X.P) (n:=X.n) (w:=G.w) (T:=T) (T':=T') (ty:=ty) (.inr rfl) c l ⟨z.1,W.2⟩ ⟨z.2,Y.2⟩;have h0:lo .u64<=0:=by decide
  exact B4 E [x,y] hr ⟨rfl,Int.le_trans h0 aC,aB⟩
 ·simp only[oi,pj] at h;obtain⟨rfl,rfl⟩:=h;obtain⟨m,_⟩:=F1 H;obtain⟨s,_⟩:=F1 F;rw[m] at c;rw[s] at l;exact B4 E [x,y] (q0a c l (.inl ⟨rfl,rfl⟩)) ⟨rfl,Int.emod_nonneg _ (by decide),Int.le_of_lt_add_one (Int.emod_lt_of_pos _ (by decide))⟩
 ·simp only[oi,pj] at h;obtain⟨rfl,rfl⟩:=h;obtain⟨m,_⟩:=F1 H;obtain⟨s,_⟩:=F1 F;rw[m] at c;rw[s] at l;exact B4 E [x,y] (q0a c l (.inr ⟨rfl,rfl⟩)) ⟨rfl,Int.emod_nonneg _ (by decide),Int.le_of_lt_add_one (Int.emod_lt_of_pos _ (by decide))⟩
 grind
def I1{β:Type}:List β->Nat->Option β
 | [],_=>none
 | x :: _,0=>some x
 | _ :: r,n+1=>I1 r n
theorem AO{a:Type}:∀(l:List a) (n:Nat),I1 l n=l[n]?
 | [],_=>by simp[I1]
 | _ :: _,0=>by simp[I1]
 | _ :: r,n+1=>by simp[I1,AO r n]
def X1(o:List (Nat×Ob)):AV->Option (List AV×List Nat)
 | .ptr id off=>match b5 o id with
   | some (.box _ cs)=>some (cs.drop off,[id])
   | _=>none
 | .pel id ver k s off=>match b5 o id with
   | some (.arr _ fr t xs ver')=>bif Nat.beq ver ver'&&Nat.beq s (sz t) then some ((F2 fr t (xs.getD k (a7 t))).drop off,[id]) else none
   | _=>none
 | .d fr (.pt t) x=>some (F2 fr t x,[])
 | _=>none
def Cr(o:List (Nat×Ob)):AV->Prop
 | .pel id _ k _ _=>match b5 o id with
   | some (.arr _ _ _ xs _)=>k<xs.length
   | _=>True
 | _=>True
theorem u0p{w:World}{T:TypeId}{s n b f o j g:Nat}{v:Value}{cs:List Value}(h:Own w T s (some b) v n cs)(i:v=.slice (some ⟨f,o,none⟩) j g){k:Nat}{c pre post:List Value}(e:cs=pre++c++post)(l:pre.length=k*s):b=f/\At w b (o+k*s) c:=by
 obtain⟨m,q,d,a⟩:=h.at;rw[i] at d;cases d;rw[e] at a;have:=a.mid
 grind
theorem VB{X:Cx}{G:Gh}(S:Sat X G){p:AV}{u:Value}{cs:List AV}{l:List Nat}(h:X1 G.o p=some (cs,l))(hq:Cr G.o p)(F:AVR G p u):∃b o us,u=.pointer (some ⟨b,o,none⟩)/\At G.w b o us/\AVRs G cs us:=by
 unfold X1 at h;split at h
 ·rename_i id a;split at h
  ·rename_i T aA f;simp only[oi,pj] at h;obtain⟨rfl,rfl⟩:=h;obtain⟨_,b,r,rfl⟩:=F;obtain⟨y,us,g1,Q,g3,g4⟩:=S.obs id _ f;rw[r] at Q;cases Q;exact⟨b,a,us.drop a,rfl,by simpa using Vz g3.at a,(g4.take a).2⟩
  grind
 ·rename_i id aC k s a;split at h
  ·rename_i T fr t v V f;rw[ce] at h;split at h
   ·rename_i j;simp only[ba] at j;have m:=nb j.1;have z:=nb j.2;subst m; subst z;simp only[oi,pj] at h;obtain⟨rfl,rfl⟩:=h;have P:k<v.length:=by simpa only[Cr,f] using hq
    obtain⟨_,T1,aF,t1,aG,H,i,h2,h3⟩:=F;rw[f] at i;cases i;obtain⟨b,o,n,c,hr,rfl⟩:=h3 rfl;obtain⟨cs,g,hA,aD⟩:=S.obs id _ f;obtain⟨aB,c',Y,e,hp,W⟩:=hA.get (fun c x h=>RT.len h) P;cases hg:G.γ id with
    | none =>
      rw[hg] at g;rcases g with ⟨_,hn,_⟩ | ⟨y,_,_,_,r,_⟩
      ·omega
      grind
    | some y =>
      rw[hg] at g;obtain⟨E,d⟩:=u0p g hr e hp;subst E;have hD:=DV W;have q:v.getD k (a7 t)=v[k]:=by simp[P]
      rw[q];exact⟨y,o+(k*sz t+a),c'.drop a,rfl,by rw[<- Nat.add_assoc]; exact Vz d a,(hD.take a).2⟩
   grind
  grind
 ·rename_i fr t x;simp only[oi,pj] at h;obtain⟨rfl,rfl⟩:=h;obtain⟨b,o,ds,i,r,d,W⟩:=F;simp only[List.cons.injEq,and_true] at i
  grind[DV]
 grind
def Ri:AV->Nat->Option AV
 | .ptr id off,k=>some (.ptr id (off+k))
 | .pel id ver i s off,k=>some (.pel id ver i s (off+k))
 | .d fr (.pt t) x,k=>Gb fr t x k
 | _,_=>none
theorem r0T{X:Cx}{G:Gh}(_:Sat X G){p r:AV}{u:Value}{k:Nat}{cs:List AV}{l:List Nat}(v:X1 G.o p=some (cs,l))(h:Ri p k=some r)(g:AVR G p u):∃b o,u=.pointer (some ⟨b,o,none⟩)/\AVR G r (.pointer (some ⟨b,o+k,none⟩)):=by
 unfold Ri at h;split at h
 ·simp at h; subst h;obtain⟨E,b,q,rfl⟩:=g;exact⟨b,_,rfl,E,b,q,rfl⟩
 ·rename_i id F i s H;simp at h; subst h;obtain⟨Y,y,f,w,j,a,d,Q,P⟩:=g;simp only[X1,d,ce] at v;split at v
  ·rename_i m;simp only[ba] at m;have e:=nb m.1;obtain⟨b,o,n,c,T,rfl⟩:=P e;exact⟨b,_,rfl,rfl,y,f,w,j,a,d,Q,fun _=>⟨b,o,n,c,T,by grind⟩⟩
  grind
 ·rename_i V t x;obtain⟨b,o,ds,d,q,z,W⟩:=g;simp only[List.cons.injEq,and_true] at d
  grind[p0a]
 grind
def JH(n:Int)(len:Nat):Prop:=0<=n/\n < (len:Int)
def JI(Γ:p8)(o:List (Nat×Ob))(T:TypeId)(v:AV)(n:Int):Option (Prop×AV×List Nat):=match v,b5 Γ T with
 | .d fr (.sl t) xs,some ⟨_,_,_,.sl E,_⟩=>match b5 Γ E with
   | some te=>bif Nat.beq te.size (sz t) then some (JH n xs.length,.d fr (.pt t) (xs.getD n.toNat (a7 t)),[]) else none
   | none=>none
 | .os id ver,some ⟨_,_,_,.sl E,_⟩=>match b5 Γ E,b5 o id with
   | some te,some (.arr _ _ t xs ver')=>bif Nat.beq ver ver'&&Nat.beq te.size (sz t) then some (JH n xs.length,.pel id ver n.toNat (sz t) 0,[id]) else none
   | _,_=>none
 | .ptr id off,some ⟨_,_,_,.arr m E,_⟩=>match b5 Γ E with
   | some te=>some (JH n m,.ptr id (off+n.toNat*te.size),[])
   | none=>none
 | .og id,some ⟨_,_,_,.sl E,_⟩=>match b5 Γ E,b5 o id with
   | some te,some (.grd _ _ _ _ xs _)=>bif Nat.beq te.size 1 then some (JH n xs.length,.gel id n.toNat,[id]) else none
   | _,_=>none
 | _,_=>none
theorem o0x{P:Program}{n:Nat}{e:A9}{ty:TypeId}{w:World}{T E s y m k b o:Nat}{z:Value}{x ix:Operand}{F:IntKind}(h:P.underlying T=some (.array m E))[i:Info P E s y z](r:ev e x=some (.pointer (some ⟨b,o,none⟩)))(hi:ev e ix=some (.int F (k:Int)))(G:k<m) :
  D6 P n e (.indexAddr T x ix) ty w (.pointer (some ⟨b,o+k*s,none⟩)) w:=by
 intro a t q f g l;obtain⟨u,c,v,Q,H⟩:=i.get;have d:(Addr.mk b o none).add (k*s)=⟨b,o+k*s,none⟩:=by
  unfold Addr.add;split
  ·grind
  ·rfl
 have j:0<=(k:Int)/\(k:Int) < (m:Int):=oo;simp only[execOp,l.ev r,l.ev hi];simp only[Instr.indexAt,asIntOf,Sem.run_bind,run_underlying h,Instr.sureAddr,Result.andThen,Sem.run_pure,j,and_self,if_true,U8 w c,v,Int.toNat_natCast,d]
theorem v0d{X:Cx}{G:Gh}{a:Act}{st:St}{Γ:p8}(g:B2 X.P Γ)(S:Sat X G)(hE:EnvR X.n G st.e a){T ty:TypeId}{x ix:Operand}{v r:AV}{n:Int}{f:Bool}{k:IntKind}{q:Prop}{l:List Nat}
  (hx:AVR G v (a.eval x)) (hn:AVR G (.d f (.int k) n) (a.eval ix)) (h:JI Γ G.o T v n=some (q,r,l)) (F:q):M5 X G a (.indexAddr T x ix) ty r:=by
 have j:ev (D3 a [x,ix]) x=some (a.eval x):=J2 (by simp);have y:ev (D3 a [x,ix]) ix=some (a.eval ix):=J2 (by simp);rw[(F1 hn).1] at y;unfold JI at h;split at h
 ·rename_i fr t Y s0 y0 z0 E Q H;split at h
  ·rename_i s u;rw[ce] at h;split at h
   ·rename_i w;have w:=nb w;simp only[oi,pj] at h;obtain⟨rfl,rfl,rfl⟩:=h
    haveI:H4 X.P T E:=⟨(g T _ H).2.2.2.2.2⟩
    haveI:Info X.P E s.size s.bytes s.zero:=⟨(g E _ u).1⟩
    obtain⟨i,rfl⟩:=Int.eq_ofNat_of_zero_le F.1;have hi:i<Y.length:=by have:=F.2; omega
    obtain⟨p,aA,z,_⟩:=id hx;simp only[List.cons.injEq,and_true] at z;have aB:=hx;rw[z] at aB j;obtain⟨_,b,o,c,rfl,W,aJ,hR⟩:=RT.get aB hi;refine B4 hE [x,ix] (ND j y hi) ?_;simp only[Int.toNat_natCast,gq,List.getElem?_eq_getElem hi,Option.getD_some];exact⟨b,o+i*s.size,c,rfl,W,by grind,hR⟩
   grind
  grind
 ·rename_i id aK s0 y0 z0 E Q H;split at h
  ·rename_i s T' fr t Y aH u V;rw[ce] at h;split at h
   ·rename_i w;simp only[ba] at w;have aC:=nb w.1;have aI:=nb w.2;clear w;subst aC;simp only[oi,pj] at h;obtain⟨rfl,rfl,rfl⟩:=h
    haveI:H4 X.P T E:=⟨(g T _ H).2.2.2.2.2⟩
    haveI:Info X.P E s.size s.bytes s.zero:=⟨(g E _ u).1⟩
    obtain⟨i,rfl⟩:=Int.eq_ofNat_of_zero_le F.1;have hi:i<Y.length:=by have:=F.2; omega
    obtain⟨_,T1,aM,t1,aO,aF,h1,h2,h3⟩:=hx;rw[V] at h1;cases h1;have hu:=h3 rfl;obtain⟨cs,hO,hA,aL⟩:=S.obs id _ V;rcases hO with ⟨_,hn,_⟩ | ⟨b,o,aA,cur,W,z,_⟩
    ·omega
    ·rw[hu,z] at j;refine B4 hE [x,ix] (ND j y hi) ?_;simp only[Int.toNat_natCast];exact⟨rfl,_,_,_,_,_,V,Nat.le_refl _,fun _=>⟨b,o,_,_,z,by grind⟩⟩
   grind
  grind
 ·rename_i id aN s0 y0 z0 m E Q H;split at h
  ·rename_i s u;simp only[oi,pj] at h;obtain⟨rfl,rfl,rfl⟩:=h
   haveI:Info X.P E s.size s.bytes s.zero:=⟨(g E _ u).1⟩
   obtain⟨i,rfl⟩:=Int.eq_ofNat_of_zero_le F.1;have hi:i<m:=by have:=F.2; omega
   obtain⟨aD,b,W,z⟩:=hx;rw[z] at j;refine B4 hE [x,ix] (o0x (g T _ H).2.2.2.2.2 j y hi) ?_;simp only[Int.toNat_natCast];exact⟨aD,b,W,rfl⟩
  grind
 ·rename_i id s0 y0 z0 E Q H;split at h
  ·rename_i s T' Te fr t Y aG u V;rw[ce] at h;split at h
   ·rename_i w;have w:=nb w;simp only[oi,pj] at h;obtain⟨rfl,rfl,rfl⟩:=h
    haveI:H4 X.P T E:=⟨(g T _ H).2.2.2.2.2⟩
    haveI:Info X.P E s.size s.bytes s.zero:=⟨(g E _ u).1⟩
    obtain⟨i,rfl⟩:=Int.eq_ofNat_of_zero_le F.1;have hi:i<Y.length:=by have:=F.2; omega
    obtain⟨_,_,hu⟩:=hx;obtain⟨vs,bs,hO,_,_⟩:=S.obs id _ V;rcases hO with ⟨_,hn,_⟩ | ⟨b,o,aA,cur,W,z,_⟩
    ·omega
    ·rw[hu,z] at j;refine B4 hE [x,ix] (ND j y hi) ?_;simp only[Int.toNat_natCast,w,Nat.mul_one];exact⟨⟨_,_,_,_,_,_,V⟩,b,o,_,_,z,rfl⟩
   grind
  grind
 grind
def Gc(cs:List AV)(o:Nat)(vs:List AV):List AV:=cs.take o++vs++cs.drop (o+vs.length)
theorem VC{G:Gh}{cs vs:List AV}{us a:List Value}{o:Nat}(h:AVRs G cs us)(k:AVRs G vs a)(_:o+vs.length<=cs.length):AVRs G (Gc cs o vs) (u6 us o a):=by
 unfold Gc u6;rw[k.len];exact AVRs.app (h.take _).2 (AVRs.app k (h.take o).1)
def AP(st:St)(p:Pa)(pl:List (Nat×Nat)):List AV->List (Nat×Operand)->Option (List AV)
 | cs,[]=>some cs
 | cs,(i,x) :: r=>match I1 pl i with
   | some (off,s)=>match rd st p x with
     | some v=>match Cq v with
       | some vs=>bif Nat.beq vs.length s&&Nat.ble (off+vs.length) cs.length then AP st p pl (Gc cs off vs) r else none
       | none=>none
     | none=>none
   | none=>none
theorem VD:∀{us:List Value} {k:Nat},us.length=k->Z1 us k=true
 | [],0,_=>rfl
 | _ :: r,k+1,h=>VD (us:=r) (by grind)
 | [],_+1,h=>by grind
 | _ :: _,0,h=>by grind
theorem VE{a:Act}{xs:List Operand}:∀{ps:List (Nat×Operand)},(∀q∈ps,q.2∈xs)->evp (D3 a xs) ps=some (ps.map fun q=>(q.1,a.eval q.2))
 | [],_=>rfl
 | (i,x) :: r,h=>by
   have d:=J2 (a:=a) (h (i,x) (by simp));have c:=VE (a:=a) (ps:=r) (fun q b=>h q (by grind))
   grind[evp]
theorem VF{n:Nat}{G:Gh}{a:Act}{st:St}{p:Pa}{pl:List (Nat×Nat)}(l:EnvR n G st.e a)(j:PathP p a):∀{ps:List (Nat×Operand)} {cs r:List AV} {us:List Value},AP st p pl cs ps=some r->AVRs G cs us ->
  ∃ws,BD pl us (ps.map fun q=>(q.1,a.eval q.2))=some ws/\AVRs G r ws
 | [],cs,r,us,h,hA=>by simp[AP] at h; subst h; exact⟨us,rfl,hA⟩
 | (i,x) :: q,cs,r,us,h,hA=>by
   unfold AP at h;split at h
   ·rename_i f s hi;split at h
    ·rename_i v o;split at h
     ·rename_i z g;rw[ce] at h;split at h
      ·rename_i b;simp only[ba] at b;have w:=nb b.1;have c:=Nat.le_of_ble_eq_true b.2;have t:=D2 l j o;obtain⟨m,_⟩:=JF g t;have k:=m.len;have d:=hA.len;obtain⟨ws,E,u⟩:=VF l j h (VC hA m c);refine⟨ws,?_,u⟩;simp only[List.map_cons];unfold BD;rw[AO] at hi;simp only[hi];have y:(Z1 (a.eval x).cells.toList s&&Nat.ble (f+s) us.length)=true:=by
        rw[ba];exact⟨VD (by omega),Nat.ble_eq_true_of_le (by omega)⟩
       grind
      grind
     grind
    grind
   grind
end Go.Proofs.Xv
end
section
namespace Go.Proofs.Sv
open Go Go.RowKit
section
variable {P:Program} {n:Nat} {e:A9} {w:World} {Q:Exit->Act->World->Prop} {l:List Oper} {fuel:Nat} {listed:Array Bool} {S:World->Prop} {ops:Array Oper} {rest:List Oper}
 {d:Nat} {op:Op} {ty:TypeId} {pos:String} {after:Array Edge}
end
section
variable {P:Program} {ops:Array Oper} {Q:Exit->Act->World->Prop} {S:World->Prop} {st:Nat}
end
section
variable {P:Program} {n:Nat} {e:A9} {w:World} {Q:Exit->Act->World->Prop} {l:List Oper} {fuel:Nat} {listed:Array Bool} {S:World->Prop} {st:Nat}
 {d:Nat} {op:Op} {ty:TypeId} {pos:String} {after:Array Edge}
end
theorem Own.set{w w':World}{E s:Nat}{g g' n j c k o:Nat}{v:Value}{cs vs:List Value}(h:Own w E s (some g) v n cs)(d:v=.slice (some ⟨g',o,none⟩) j c)(r:k<n)(i:vs.length=s)(q:∀cur:Array Value,w.heap[g]?=some (.cells cur E (0,0))->w'.heap[g]?=some (.cells (u6 cur.toList (o+k*s) vs).toArray E (0,0))) :
  Own w' E s (some g) v n (u6 cs (k*s) vs):=by
 rcases h with ⟨h,_⟩ | ⟨b,o',cap,cur,hb,hv2,h1,h2,h3,h4,rfl⟩
 ·cases h
 ·cases hb;rw[d] at hv2;cases hv2;refine .inr ⟨g,o,c,_,rfl,d,q cur h1,h2,h3,?_,?_⟩
  ·have a:(k+1)*s<=c*s:=Nat.mul_le_mul_right s (by omega);rw[Nat.add_mul] at a;simp only[u6,List.size_toArray,List.length_append,List.length_take,List.length_drop,Array.length_toList];omega
  ·have a:(k+1)*s<=n*s:=Nat.mul_le_mul_right s (by omega);have f:n*s<=c*s:=Nat.mul_le_mul_right s h2;rw[Nat.add_mul] at a;have l:List.drop o (u6 cur.toList (o+k*s) vs)=u6 (cur.toList.drop o) (k*s) vs:=by
    unfold u6;rw[List.append_assoc,List.append_assoc,List.drop_append,List.drop_take,List.length_take,List.drop_drop,Array.length_toList];rw[show o+k*s-o=k*s by omega,show o-min (o+k*s) cur.size=0 by omega,List.drop_zero,Nat.add_assoc]
   show(List.drop o (u6 cur.toList (o+k*s) vs)).take (n*s)=_;rw[l];have m:(cur.toList.drop o).length=c*s:=by rw[List.length_drop,Array.length_toList]; omega
   generalize cur.toList.drop o=C at m;simp only[u6];have e:(List.take (k*s) C).length=k*s:=by rw[List.length_take]; omega
   rw[List.append_assoc,List.take_append,List.take_append,e,i,List.append_assoc];congr 1
   ·rw[List.take_of_length_le (by rw[e]; omega),List.take_take]; congr 1; omega
   ·congr 1
    ·rw[List.take_of_length_le (by omega)]
    ·rw[List.drop_take]; congr 1; omega
end Go.Proofs.Sv
end
section
namespace Go.Proofs.Sv
open Go
section
open Go.RowKit
variable {P:Program} {n:Nat} {e:A9} {w:World} {Q:Exit->Act->World->Prop} {ops:Array Oper} {rest:List Oper}
 {d:Nat} {ty:TypeId} {pos:String} {after:Array Edge}
end
end Go.Proofs.Sv
end
section
namespace Go.Proofs.Sv
open Go Go.RowKit
def OwnI(w:World)(E:TypeId)(g:Option Nat)(v:Value)(xs:List Int):Prop:=Own w E 1 g v xs.length (xs.map (Value.int .i64))/\∀x∈xs,K1 x
theorem OwnI.up{w w':World}{E:TypeId}{g:Option Nat}{v:Value}{xs:List Int}(h:OwnI w E g v xs)(k:Ext w w'):OwnI w' E g v xs:=⟨h.1.up k,h.2⟩
theorem OwnI.we{g':Option Nat}{w w':World}{E:TypeId}{g:Option Nat}{v:Value}{xs:List Int}(h:OwnI w E g v xs)(k:WE g' w w')(a:∀i,g'=some i->g≠some i):OwnI w' E g v xs:=⟨h.1.we k a,h.2⟩
theorem OwnI.lt{w:World}{E:TypeId}{g:Option Nat}{v:Value}{xs:List Int}(h:OwnI w E g v xs):∀k,g=some k->k<w.heap.size:=h.1.lt
theorem OwnI.len{w:World}{E:TypeId}{g:Option Nat}{v:Value}{xs:List Int}(h:OwnI w E g v xs):∃p c,v=.slice p xs.length c:=h.1.len
theorem All.ints{lo hi:Nat}{w:World}:∀{cs:List Value} {xs:List Int},All lo hi w cs xs->cs=xs.map (Value.int .i64)
 | _,[],h=>h
 | _,x :: r,h=>by
   obtain⟨c,d,rfl,b,a⟩:=h;rw[b.1,All.ints a]; rfl
theorem SlR.src{lo hi:Nat}{w:World}{v:Value}{xs:List Int}(h:SlR lo hi w v xs):∃p cap b o,v=.slice p xs.length cap/\(xs.length=0∨p=some ⟨b,o,none⟩)/\At w b o (xs.map (Value.int .i64)):=by
 obtain⟨p,cap,rfl,_,_,a⟩:=h;rcases a with rfl | ⟨b,o,cs,rfl,_,_,hat,hall⟩
 ·exact⟨p,cap,0,0,rfl,.inl rfl,fun i u c=>by simp at c⟩
 ·rw[hall.ints] at hat;exact⟨_,cap,b,o,rfl,.inr rfl,hat⟩
theorem WE.then{g g':Option Nat}{w a b:World}(h:WE g w a)(k:WE g' a b)(d:∀i,g'=some i->w.heap.size<=i∨g=some i):WE g w b :=
 ⟨k.os.trans h.os,k.tape.trans h.tape,k.output.trans h.output,Nat.le_trans h.size k.size,fun i hi c=>(k.block i (Nat.lt_of_lt_of_le hi h.size) (fun e=>by
   grind)).trans (h.block i hi c)⟩
section
variable {P:Program} {n:Nat} {e:A9} {w:World} {ty:TypeId}
end
theorem At.tail{w:World}{b o:Nat}{c:Value}{cs:List Value}(h:At w b o (c :: cs)):At w b (o+1) cs:=by
 intro i u a;have:=h (i+1) u (by grind)
 grind
theorem SlR.tail{lo hi:Nat}{w:World}{p:Option Addr}{e a:Nat}{xs:List Int}(h:SlR lo hi w (.slice p e a) xs)(t:1<=e):SlR lo hi w (.slice (if a=1 then p else p.map (·.add (1*1))) (e-1) (a-1)) xs.tail:=by
 obtain⟨s,k,m,l,j,g⟩:=h;cases m;cases xs with
 | nil=>grind
 | cons x r =>
   refine⟨if a=1 then p else p.map (·.add (1*1)),a-1,rfl,by grind,by omega,?_⟩;by_cases q:a=1
   ·grind
   ·right;rcases g with g | ⟨b,o,cs,rfl,hlo,hhi,hat,hall⟩
    ·cases g
    ·obtain⟨c,d,rfl,i,n⟩:=hall;have f:=i.1;subst f;refine⟨b,o+1,d,?_,hlo,hhi,hat.tail,n⟩
     grind[Addr.add]
end Go.Proofs.Sv
end
section
namespace Go.Proofs.Xv
open Go Go.RowKit Go.Proofs.Sv
def H0L:IntKind->IntKind->Int->Option Int
 | .i64,.i64,n=>some n
 | .u8,.u8,n=>some n
 | .u8,.i64,n=>some n
 | .i64,.u8,n=>some (n % 256)
 | _,_,_=>none
def VG(k k':IntKind)(n:Int):Prop×Int:=match H0L k k' n with
 | some m=>(True,m)
 | none=>(DW k' n,n)
def HE(a b:Int):Int:=min a b
def HF(a b:Int):Int:=max a b
def NK(l h:Int)(n:Nat):Prop:=0<=l/\l<=h/\h<=(n:Int)
def S5(st:St)(p:Pa):Option Operand->Option (Option Int)
 | none=>some none
 | some x=>match rd st p x with
   | some (.d _ (.int _) n)=>some (some n)
   | _=>none
def HH{α:Type}(xs:List α):Option Int->Option Int->List α
 | none,none=>xs
 | some l,none=>xs.drop l.toNat
 | none,some h=>xs.take h.toNat
 | some l,some h=>(xs.take h.toNat).drop l.toNat
def Da:Nat->Nat->Nat->List (Nat×Nat)
 | 0,_,_=>[]
 | m+1,k,s=>(k*s,s) :: Da m (k+1) s
theorem m0V{s:Nat}:∀{m k i:Nat} {q:Nat×Nat},(Da m k s)[i]?=some q->q=((k+i)*s,s)
 | 0,k,i,q,h=>by grind[Da]
 | m+1,k,0,q,h=>by grind[Da,List.getElem?_cons_zero,oi]
 | m+1,k,i+1,q,h=>by
   simp only[Da,List.getElem?_cons_succ] at h;have:=m0V h
   grind
theorem l0k{P:Program}{n:Nat}{e:A9}{ty:TypeId}{w:World}{T E s y k Q m:Nat}{z v:Value}{b:List (Nat×Operand)}{vs:List (Nat×Value)}{cs:List Value}(Y:P.underlying T=some (.array m E))[i:Info P T s y z][j:Info P E k Q v](W:evp e b=some vs)(G:BD (Da m 0 k) z.cells.toList vs=some cs) :
  D6 P n e (.build T b.toArray) ty w (.agg cs.toArray) w:=by
 intro a t r l g V;obtain⟨u,f,h2,h3,H⟩:=i.get;obtain⟨q,c,o,_,_⟩:=j.get;have h:=NE (Da m 0 k) vs z.cells.toList cs G;have d:=QT (fun i:Nat=>(Da m 0 k)[i]?) (fun i:Nat=>some (i*k,k)) vs _ _ (fun i p F=>by rw[m0V F,Nat.zero_add]) h;have X:b.toArray.map (fun(i,x)=>(i,a.eval x))=vs.toArray:=by rw[<- Agree.evp V W]; simp
 simp only[execOp,X];simp only[Instr.build,Sem.run_bind,Jx w f H,Result.andThen,run_underlying Y,U8 w c,o];rw[show z.cells=z.cells.toList.toArray by simp];simp only[d];rfl
def VI(ti:TI)(cs:List AV)(f:Nat):Option AV:=match ti.kd with
 | .agg pl _ ag=>match I1 pl f,I1 ag f with
   | some (off,s),some true=>bif Nat.ble (off+s) cs.length then some (.agg ((cs.drop off).take s)) else none
   | some (off,_),some false=>I1 cs off
   | _,_=>none
 | _=>none
def I3(Γ:p8)(st:St)(p:Pa):Op->Option (Prop×AV×List Nat)
 | .move x | .assign x=>match rd st p x with
   | some a=>some (True,a,[])
   | none=>none
 | .nilCheck x=>match rd st p x with
   | some v=>match X1 st.o v with
     | some (_,l)=>some (Cr st.o v,v,l)
     | none=>none
   | none=>none
 | .pick c a b=>match c with
   | .tmp s=>match rd st p (.tmp s),rd st ((s,true) :: p) a,rd st ((s,false) :: p) b with
     | some (.d _ .bool x),some (.d _ .bool y),some (.d _ .bool z)=>some (True,.d true .bool (VA a b x y z),[])
     | _,_,_=>none
   | _=>none
 | .binOp op T x y _=>match rd st p x,rd st p y with
   | some u,some v=>match NJ (b5 Γ T) op u v with
     | some (q,r)=>some (q,r,[])
     | none=>none
   | _,_=>none
 | .unOp .not _ x=>match rd st p x with
   | some (.d _ .bool b)=>some (True,.d true .bool (!b),[])
   | _=>none
 | .unOp .neg _ x=>match rd st p x with
   | some (.d _ (.int .i64) n)=>some (DW .i64 (-n),.d true (.int .i64) (-n),[])
   | _=>none
 | .convert S T x=>match rd st p x,b5 Γ S,b5 Γ T with
   | some (.d _ (.int k) n),some ⟨_,_,_,.int _,_⟩,some ⟨_,_,_,.int k',_⟩=>match VG k k' n with
     | (q,m)=>some (q,.d true (.int k') m,[])
   | some (.os id ver),some ⟨_,_,_,.sl E,_⟩,some ⟨_,_,_,.str,_⟩=>match b5 st.o id,b5 Γ E with
     | some (.arr _ _ (.int .u8) xs ver'),some ⟨_,_,_,.int .u8,_⟩=>bif Nat.beq ver ver' then some (0<xs.length,.d true .str (strOfNums xs),[id]) else none
     | _,_=>none
   | _,_,_=>none
 | .fieldAddr T x f=>match rd st p x,b5 Γ T with
   | some v,some ⟨_,_,_,.agg pl _ _,_⟩=>match I1 pl f,X1 st.o v with
     | some (off,_),some (_,l)=>match Ri v off with
       | some r=>some (True,r,l)
       | none=>none
     | _,_=>none
   | _,_=>none
 | .load T x=>match rd st p x,b5 Γ T with
   | some v,some ti=>match X1 st.o v with
     | some (cs,l)=>match JG ti cs with
       | some r=>some (Cr st.o v,r,l)
       | none=>none
     | none=>none
   | _,_=>none
 | .indexAddr T x i=>match rd st p x,rd st p i with
   | some v,some (.d _ (.int _) n)=>JI Γ st.o T v n
   | _,_=>none
 | .index T x i=>match rd st p x,rd st p i,b5 Γ T with
   | some (.d _ .str s),some (.d _ (.int _) n),some ⟨_,_,_,.str,_⟩=>some (JH n s.size,.d true (.int .u8) (F8 s n.toNat),[])
   | _,_,_=>none
 | .extract x i=>match rd st p x with
   | some (.tup l)=>match I1 l i with
     | some r=>some (True,r,[])
     | none=>none
   | _=>none
 | .field T x f=>match rd st p x,b5 Γ T with
   | some (.agg cs),some ti=>match VI ti cs f with
     | some r=>some (True,r,[])
     | none=>none
   | _,_=>none
 | .makeFunc (.func f) first cap=>match first.toList,N9 st p cap.toList with
   | [],some l=>some (True,.fn f l,[])
   | _,_=>none
 | .build T parts=>match b5 Γ T with
   | some ⟨_,_,z,.agg pl _ _,_⟩=>match AN z.cells.toList with
     | some cs=>match AP st p pl cs parts.toList with
       | some r=>some (True,.agg r,[])
       | none=>none
     | none=>none
   | some ⟨_,_,z,.arr m E,_⟩=>match b5 Γ E,AN z.cells.toList with
     | some te,some cs=>match AP st p (Da m 0 te.size) cs parts.toList with
       | some r=>some (True,.agg r,[])
       | none=>none
     | _,_=>none
   | _=>none
 | .slice T x l h none=>match rd st p x,S5 st p l,S5 st p h,b5 Γ T with
   | some (.d fr (.sl t) xs),some lo,some hi,some ⟨_,_,_,.sl E,_⟩=>match b5 Γ E with
     | some te=>bif Nat.beq te.size (sz t) then some (NK (lo.getD 0) (hi.getD xs.length) xs.length,.d fr (.sl t) (HH xs lo hi),[]) else none
     | none=>none
   | _,_,_,_=>none
 | .call ⟨.builtin .len,xs,Ts⟩=>match N9 st p xs.toList,Ts.toList with
   | some [.d _ (.sl _) l],[T]=>match b5 Γ T with
     | some ⟨_,_,_,.sl _,_⟩=>some (True,.d true (.int .i64) (l.length:Int),[])
     | _=>none
   | some [.os id ver],[T]=>match b5 Γ T,b5 st.o id with
     | some ⟨_,_,_,.sl _,_⟩,some (.arr _ _ _ l ver')=>bif Nat.beq ver ver' then some (True,.d true (.int .i64) (l.length:Int),[id]) else none
     | _,_=>none
   | some [.v (.slice none 0 0)],[T]=>match b5 Γ T with
     | some ⟨_,_,_,.sl _,_⟩=>some (True,.d true (.int .i64) (0:Int),[])
     | _=>none
   | some [.d _ .str s],[T]=>match b5 Γ T with
     | some ⟨_,_,_,.str,_⟩=>some (True,.d true (.int .i64) (s.size:Int),[])
     | _=>none
   | _,_=>none
 | .call ⟨.builtin .min,xs,_⟩=>match N9 st p xs.toList with
   | some [.d _ (.int .i64) a,.d _ (.int .i64) b]=>some (True,.d true (.int .i64) (HE a b),[])
   | _=>none
 | .call ⟨.builtin .max,xs,_⟩=>match N9 st p xs.toList with
   | some [.d _ (.int .i64) a,.d _ (.int .i64) b]=>some (True,.d true (.int .i64) (HF a b),[])
   | _=>none
 | _=>none
theorem AllR.takeD{a:Type}{R:List Value->a->Prop}{s:Nat}(b:∀c x,R c x->c.length=s):∀{cs:List Value} {xs:List a} (k:Nat),AllR R cs xs->AllR R (cs.take (k*s)) (xs.take k)/\AllR R (cs.drop (k*s)) (xs.drop k)
 | cs,xs,0,h=>by simpa using (⟨rfl,h⟩:AllR R [] ([]:List a)/\AllR R cs xs)
 | cs,[],k+1,h=>by rw[show cs=[] from h]; simpa using (⟨rfl,rfl⟩:AllR R [] ([]:List a)/\AllR R [] ([]:List a))
 | _,x :: r,k+1,⟨c,d,e,h1,h2⟩=>by
   subst e;have i:=b _ _ h1;have g:(k+1)*s=c.length+k*s:=by rw[i,Nat.add_mul]; omega
   rw[g,List.take_length_add_append,List.drop_length_add_append];have f:=AllR.takeD b k h2;exact⟨⟨c,_,rfl,h1,f.1⟩,f.2⟩
theorem AllR.cut{a:Type}{R:List Value->a->Prop}{s:Nat}(b:∀c x,R c x->c.length=s){cs:List Value}{xs:List a}{l h:Nat}(d:AllR R cs xs)(_:l<=h)(_:h<=xs.length):AllR R ((cs.take (h*s)).drop (l*s)) ((xs.take h).drop l) :=
 (AllR.takeD b l (AllR.takeD b h d).1).2
theorem b9{n:Int}(h : -9223372036854775808<=n/\n<=9223372036854775807):lo .i64<=n/\n<=hi .i64:=h
theorem u0I{a b:Int}(h:K1 a)(k:K1 b):K1 (HE a b)/\K1 (HF a b):=by grind[K1,HE,HF]
theorem C0I(a b:Int):(if b<a then b else a)=HE a b:=by grind[HE]
theorem C0O(a b:Int):(if b > a then b else a)=HF a b:=by grind[HF]
section
variable {X:Cx} {G:Gh} {a:Act} {st:St} {Γ:p8} {p:Pa}
theorem Rj(c:EnvR X.n G st.e a)(b:PathP p a){o:Option Operand}{r:Option Int}(h:S5 st p o=some r):(o=none/\r=none)∨∃x n k,o=some x/\r=some n/\a.eval x=.int k n:=by
 unfold S5 at h;split at h
 ·grind
 ·rename_i x;split at h
  ·rename_i k n d;simp at h;exact .inr ⟨x,n,k,rfl,h.symm,(F1 (D2 c b d)).1⟩
  grind
theorem v0A{a:Type}(xs:List a)(lo hi:Option Int)(h:NK (lo.getD 0) (hi.getD xs.length) xs.length):HH xs lo hi=(xs.take (hi.getD xs.length).toNat).drop (lo.getD 0).toNat:=by
 cases lo <;> cases hi <;> simp[HH]
theorem o0t(H:B2 X.P Γ)(hE:EnvR X.n G st.e a)(hp:PathP p a){T E ty:TypeId}{s0 y0:Nat}{z0:Value}{aD:Ty}{x:Operand}{l h:Option Operand}{lo hi:Option Int}{fr:Bool}{t:Ty}{xs:List (c9 t)}{u:TI}
  (hT:b5 Γ T=some ⟨s0,y0,z0,.sl E,aD⟩) (aA:b5 Γ E=some u) (hs:u.size=sz t) (hx:AVR G (.d fr (.sl t) xs) (a.eval x)) (hl:S5 st p l=some lo) (hh:S5 st p h=some hi) (hq:NK (lo.getD 0) (hi.getD xs.length) xs.length) :
  M5 X G a (.slice T x l h none) ty (.d fr (.sl t) (HH xs lo hi)):=by
 obtain⟨pp,j,z,aG,aF,h4⟩:=id hx;simp only[List.cons.injEq,and_true] at z;have Y:=(H T _ hT).2.2.2.2.2;have hI:Info X.P E u.size u.bytes u.zero:=⟨(H E _ aA).1⟩;obtain⟨aH,i,W,h3,h5⟩:=hI.get;rw[v0A xs lo hi hq];obtain⟨q1,q2,q3⟩:=hq;have aB:(∃n k,l=some n/\a.eval n=.int k (lo.getD 0))∨(l=none/\lo.getD 0=0):=by
  rcases Rj hE hp hl with ⟨q,s⟩ | ⟨y,n,k,q,s,e3⟩
  ·grind
  ·grind
 have aC:(∃n k,h=some n/\a.eval n=.int k (hi.getD xs.length))∨(h=none/\hi.getD xs.length=(xs.length:Int)):=by
  rcases Rj hE hp hh with ⟨q,s⟩ | ⟨y,n,k,q,s,e3⟩
  ·grind
  ·grind
 generalize lo.getD 0=l0 at *
 generalize hi.getD xs.length=h0 at *
 have r1:∀(y:Nat) (f:BoundsCode) (k:IntKind),h0<=y->(Instr.sliceBound (.int k h0) y f).run X.P G.w=.ok h0.toNat G.w:=fun y f k V=>run_sliceBound (P:=X.P) (w:=G.w) k h0 y f (by omega) V;have r2:∀(y:Nat) (f:BoundsCode) (k:IntKind),l0<=y->(Instr.sliceBound (.int k l0) y f).run X.P G.w=.ok l0.toNat G.w:=fun y f k V=>run_sliceBound (P:=X.P) (w:=G.w) k l0 y f q1 V;have Q:∀F v m g,(execOp a.eval ⟨F,.slice T x l h none,ty,v,m,g⟩).run X.P G.w=.ok (.value (.slice (if j=l0.toNat then pp else pp.map (·.add (l0.toNat*u.size))) (h0.toNat-l0.toNat) (j-l0.toNat))) G.w:=by
  intro F v m g;rcases aB with ⟨n1,k1,rfl,q⟩ | ⟨rfl,q⟩ <;> rcases aC with ⟨n2,k2,rfl,s⟩ | ⟨rfl,s⟩
  ·simp[execOp,z,Instr.sliceAt,Instr.slice,Instr.sliceBounds,run_underlying Y,Result.andThen,U8 G.w i,W,q,s,r1 j .sliceAcap k2 (by omega),r2 h0.toNat .sliceB k1 (by omega)]
  ·have:h0.toNat=xs.length:=by omega
   simp[execOp,z,Instr.sliceAt,Instr.slice,Instr.sliceBounds,run_underlying Y,Result.andThen,U8 G.w i,W,q,this,r2 xs.length .sliceB k1 (by omega)]
  ·simp[execOp,z,Instr.sliceAt,Instr.slice,Instr.sliceBounds,run_underlying Y,Result.andThen,U8 G.w i,W,q,s,r1 j .sliceAcap k2 (by omega)]
  ·have:h0.toNat=xs.length:=by omega
   simp[execOp,z,Instr.sliceAt,Instr.slice,Instr.sliceBounds,run_underlying Y,Result.andThen,U8 G.w i,W,q,this]
 refine⟨_,Q,?_⟩;have r:((xs.take h0.toNat).drop l0.toNat).length=h0.toNat-l0.toNat:=by rw[List.length_drop,List.length_take]; omega
 rw[<- r];refine⟨_,_,rfl,by rw[r]; omega,by omega,?_⟩;by_cases hc:j=l0.toNat
 ·grind
 ·rcases h4 with h4 | ⟨b,o,ds,rfl,hb,hat,hall⟩
  ·grind
  ·right;have hR:=fun(c:List Value) (y:c9 t) (V:RT (rg G fr) G.w t c y)=>RT.len V;refine⟨b,o+l0.toNat*u.size,(ds.take (h0.toNat*sz t)).drop (l0.toNat*sz t),?_,hb,?_,?_⟩
   ·grind[Addr.add]
   ·grind[Vz,Vy]
   grind[AllR.cut]
theorem o0Q(o:EnvR X.n G st.e a){T ty:TypeId}{x ix:Operand}{s:ByteArray}{n:Int}{f g:Bool}{k:IntKind}(m:X.P.underlying T=some .string)(l:AVR G (.d f .str s) (a.eval x))(j:AVR G (.d g (.int k) n) (a.eval ix))(h:JH n s.size) :
  M5 X G a (.index T x ix) ty (.d true (.int .u8) (F8 s n.toNat)):=by
 haveI:IQ X.P T:=⟨m⟩
 have b:ev (D3 a [x,ix]) x=some (a.eval x):=J2 (by simp);have c:ev (D3 a [x,ix]) ix=some (a.eval ix):=J2 (by simp);rw[(Rg l).1] at b;rw[(F1 j).1] at c;obtain⟨i,rfl⟩:=Int.eq_ofNat_of_zero_le h.1;have hi:i<s.size:=by have:=h.2; omega
 exact B4 o [x,ix] (r0H b c hi) ⟨rfl,v0I _ _,v0J _ _⟩
theorem s0f(_:EnvR X.n G st.e a){S T ty:TypeId}{x:Operand}{f:Bool}{k u b:IntKind}{n m:Int}(y:X.P.underlying S=some (.int u))(v:X.P.underlying T=some (.int b))(t:AVR G (.d f (.int k) n) (a.eval x)){q:Prop}(h:VG k b n=(q,m))(l:q) :
  M5 X G a (.convert S T x) ty (.d true (.int b) m):=by
 obtain⟨r,c⟩:=F1 t;have j:b.wrap n=m/\lo b<=m/\m<=hi b:=by
  unfold VG at h;split at h
  case h_2 =>
   simp only[pj] at h;obtain⟨rfl,rfl⟩:=h;exact⟨Rh _ l,l⟩
  rename_i z w;simp only[pj] at h;obtain⟨_,rfl⟩:=h;have h:=w;unfold H0L at h;split at h <;> simp only[oi,reduceCtorEq] at h
  ·subst h; exact⟨IntWalk.i64_in _ c,c⟩
  ·subst h; exact⟨IntWalk.u8_in _ c,c⟩
  ·grind[lo,hi,IntWalk.i64_in]
  ·grind[lo,hi,IntKind.wrap_u8]
 refine⟨.int b m,fun s o i g=>?_,rfl,j.2⟩;rw[<- j.1];simp[execOp,r,convert,run_underlying v,run_underlying y,Conv.intToInt,Result.andThen]
theorem o0p(S:Sat X G)(hE:EnvR X.n G st.e a){k T E ty T':TypeId}{x:Operand}{id ver:Nat}{fr:Bool}{xs:List Int}(hS:X.P.underlying k=some (.slice E))(m:X.P.underlying E=some (.int .u8))(hT:X.P.underlying T=some .string)(y:AVR G (.os id ver) (a.eval x))(z:b5 G.o id=some (.arr T' fr (.int .u8) xs ver))(hq:0<xs.length) :
  M5 X G a (.convert k T x) ty (.d true .str (strOfNums xs)):=by
 obtain⟨_,T2,Y,t2,V,u,v,g2,Q⟩:=y;rw[z] at v;cases v;have y:=Q rfl;obtain⟨g,F,W,_⟩:=S.obs id _ z;have f:∀{xs:List Int} {g:List Value},AllR (RT (rg G fr) G.w (.int .u8)) g xs->g=xs.map (Value.int .u8):=by
  intro xs
  induction xs with
  | nil=>intro g h; exact h
  | cons x r H =>
    rintro g ⟨c,d,e,t,s⟩;rw[e,t.1,H s]; rfl
 have f:=f W;subst f
 haveI:H4 X.P k E:=⟨hS⟩
 haveI:MN X.P E:=⟨m⟩
 haveI:IQ X.P T:=⟨hT⟩
 rcases F with ⟨_,h0,_⟩ | ⟨b,o,cap,cur,hb,hv,t,s,h3,h4,h5⟩
 ·omega
 ·have j:Own G.w T' 1 (some b) (G.ρ id) xs.length (xs.map (Value.int .u8)):=.inr ⟨b,o,cap,cur,rfl,hv,t,s,h3,h4,h5⟩;obtain⟨o2,i,e2,q⟩:=j.at;have l:ev (D3 a [x]) x=some (.slice (some ⟨b,o2,none⟩) xs.length i):=by grind[J2]
  refine B4 hE [x] (k0v l rfl q) ⟨rfl,?_⟩;rw[strOfNums_size];have:cap<=9223372036854775807:=h3;omega
theorem j0n(g:B2 X.P Γ)(S:Sat X G)(F:EnvR X.n G st.e a){T ty:TypeId}{x:Operand}{f c w y u:Nat}{m:Value}{i:Ty}{pl:List (Nat×Nat)}{k:Bool}{d:List Bool}{v r:AV}{cs:List AV}{l:List Nat}
  (s:b5 Γ T=some ⟨w,y,m,.agg pl k d,i⟩) (j:I1 pl f=some (c,u)) (t:AVR G v (a.eval x)) (E:X1 G.o v=some (cs,l)) (z:Ri v c=some r):M5 X G a (.fieldAddr T x f) ty r:=by
 obtain⟨b,o,Q,H⟩:=r0T S E z t;have q:=(g T _ s).2.2.2.2.2.2.2.1;rw[AO] at j
 haveI:x8 X.P T f c:=⟨by have:=h0t q j; simpa using this⟩
 have h:ev (D3 a [x]) x=some (.pointer (some ⟨b,o,none⟩)):=by grind[J2]
 exact B4 F [x] (f0t h) H
theorem m0O{P:Program}{w:World}{T:TypeId}{i:TypeInfo}{xs:Array Value}{a:Nat}(c:BC P T=true)(hi:P.info? T=some i):(part T xs a).run P w=.ok (.agg (xs.extract a (a+i.size))) w:=by
 unfold BC at c;split at c
 ·rename_i b;simp[part,Go.isAgg,run_underlying b,U8 w hi,Result.andThen]
 ·rename_i b;simp[part,Go.isAgg,run_underlying b,U8 w hi,Result.andThen]
 grind
theorem m0N{P:Program}{w:World}{T:TypeId}{xs:Array Value}{a:Nat}{v:Value}(b:W9 P T=true)(c:xs[a]?=some v):(part T xs a).run P w=.ok v w:=by
 unfold W9 at b;cases hu:P.underlying T with
 | none=>grind
 | some d=>cases d <;> simp[hu] at b <;> simp[part,Go.isAgg,run_underlying hu,c]
theorem o0V(hE:EnvR X.n G st.e a){T ty:TypeId}{Y:TI}{x:Operand}{f:Nat}{cs:List AV}{r:AV}(hT:HC X.P T Y)(hx:AVR G (.agg cs) (a.eval x))(h:VI Y cs f=some r):M5 X G a (.field T x f) ty r:=by
 obtain⟨_,_,_,_,hk⟩:=hT;obtain⟨t,eu,hA⟩:=hx;unfold VI at h;split at h
 ·rename_i pl e ag Q;rw[Q] at hk;obtain⟨_,w,h3,_,_,H⟩:=hk;unfold JB at w;unfold NF at h3;unfold Vw at H;split at w
  ·rename_i E W;simp only[W,oi] at w h3 H;have m:∀{d s:Nat} {b:Bool},I1 pl f=some (d,s)->I1 ag f=some b->∃c i,E[f]?=some c/\X.P.info? c.type=some i/\d=c.offset/\s=i.size/\BC X.P c.type=b/\W9 X.P c.type=!b:=by
    intro d s b j l;rw[AO] at j l;rw[<- w,List.getElem?_map] at j;have g3:(E.toList.map fun f=>(BC X.P f.type,W9 X.P f.type))[f]?=some (b,!b):=by rw[H,List.getElem?_map,l]; rfl
    rw[List.getElem?_map] at g3;cases o:E.toList[f]? with
    | none=>rw[o] at j; cases j
    | some c =>
      grind
   have q:ev (D3 a [x]) x=some (.agg t.toArray):=by grind[J2]
   split at h
   ·rename_i d s j l;obtain⟨c,i,o,hi,rfl,rfl,F,_⟩:=m j l;rw[ce] at h;split at h
    ·simp only[oi] at h; subst h;refine B4 hE [x] (v:=.agg (t.toArray.extract c.offset (c.offset+i.size))) ?_ ⟨(t.drop c.offset).take i.size,?_,?_⟩
     ·intro ac z y k g V;simp only[execOp,V.ev q];simp[Instr.field,run_underlying W,o,asAgg,m0O F hi]
     ·grind
     ·exact((hA.take c.offset).2.take i.size).1
    grind
   ·rename_i d s j l;obtain⟨c,i,o,hi,rfl,rfl,_,F⟩:=m j l;rw[AO] at h;obtain⟨u,aA,hr⟩:=hA.get h;refine B4 hE [x] (v:=u) ?_ hr;intro ac z y k g V;simp only[execOp,V.ev q];simp[Instr.field,run_underlying W,o,asAgg,m0N F (show t.toArray[c.offset]?=some u by grind)]
   grind
  grind
 grind
theorem n0K(g:B2 X.P Γ)(i:EnvR X.n G st.e a)(s:PathP p a){T ty:TypeId}{j k:Nat}{c:Value}{h:Ty}{pl:List (Nat×Nat)}{o:Bool}{f:List Bool}{b:Array (Nat×Operand)}{cs r:List AV}
  (t:b5 Γ T=some ⟨j,k,c,.agg pl o f,h⟩) (hz:AN c.cells.toList=some cs) (m:AP st p pl cs b.toList=some r):M5 X G a (.build T b) ty (.agg r):=by
 obtain⟨v,z,y⟩:=VF i s m (JE (G:=G) hz);have d:=(g T _ t)
 haveI:Info X.P T j k c:=⟨d.1⟩
 haveI:r0p X.P T pl:=⟨d.2.2.2.2.2.1,d.2.2.2.2.2.2.1⟩
 have u:=VE (a:=a) (xs:=b.toList.map (·.2)) (ps:=b.toList) (fun q x=>List.mem_map_of_mem x);have l:=r0J (P:=X.P) (T:=T) (n:=X.n) (w:=G.w) (ty:=ty) u z;rw[Array.toArray_toList] at l;exact B4 i _ l ⟨v,rfl,y⟩
theorem j0N(c:B2 X.P Γ)(l:EnvR X.n G st.e a)(s:PathP p a){T E ty:TypeId}{k i m:Nat}{h:Value}{g:Ty}{d:TI}{b:Array (Nat×Operand)}{cs r:List AV}
  (j:b5 Γ T=some ⟨k,i,h,.arr m E,g⟩) (f:b5 Γ E=some d) (hz:AN h.cells.toList=some cs) (v:AP st p (Da m 0 d.size) cs b.toList=some r):M5 X G a (.build T b) ty (.agg r):=by
 obtain⟨t,u,z⟩:=VF l s v (JE (G:=G) hz)
 haveI:Info X.P T k i h:=⟨(c T _ j).1⟩
 haveI:Info X.P E d.size d.bytes d.zero:=⟨(c E _ f).1⟩
 have x:=VE (a:=a) (xs:=b.toList.map (·.2)) (ps:=b.toList) (fun q y=>List.mem_map_of_mem y);have o:=l0k (P:=X.P) (T:=T) (n:=X.n) (w:=G.w) (ty:=ty) (c T _ j).2.2.2.2.2 x u;rw[Array.toArray_toList] at o;exact B4 l _ o ⟨t,rfl,z⟩
theorem j0J(q:EnvR X.n G st.e a)(d:PathP p a){f:FuncId}{first b:Array Operand}{ty:TypeId}{l:List AV}(r:first.toList=[])(o:N9 st p b.toList=some l):M5 X G a (.makeFunc (.func f) first b) ty (.fn f l):=by
 have i:=Cp q d o;refine⟨.func (.func f) #[] (b.toList.map a.eval).toArray,fun k h c g=>?_,_,rfl,i⟩;have j:first=#[]:=by cases first; simp_all
 have m:b.map a.eval=(b.toList.map a.eval).toArray:=by grind
 subst j;simp only[execOp,Instr.makeFunc,m];simp
theorem B0w{xs:Array Operand}{u:Value}(h:xs.toList.map a.eval=[u]):xs.map a.eval=#[u]:=by
 grind
theorem VJ{T ty:TypeId}{E:TypeId}{xs:Array Operand}{e:Array TypeId}{l:Option Addr}{m c:Nat}(k:X.P.underlying T=some (.slice E))(j:xs.toList.map a.eval=[.slice l m c])(n:e.toList=[T])(q:m<=9223372036854775807) :
  M5 X G a (.call ⟨.builtin .len,xs,e⟩) ty (.d true (.int .i64) (m:Int)):=by
 have f:=B0w j;have o:e=#[T]:=Array.ext' (by omega);subst o;refine⟨.int .i64 m,fun i h b g=>?_,rfl,b9 (by omega)⟩;simp only[execOp,resolve,f];simp[invoke,builtin,Builtin.len_,run_underlying k,goInt,Result.andThen]
theorem r0W{T ty:TypeId}{xs:Array Operand}{c:Array TypeId}{s:ByteArray}(j:X.P.underlying T=some .string)(i:xs.toList.map a.eval=[.string s])(k:c.toList=[T])(m:s.size<=9223372036854775807) :
  M5 X G a (.call ⟨.builtin .len,xs,c⟩) ty (.d true (.int .i64) (s.size:Int)):=by
 have e:=B0w i;have l:c=#[T]:=Array.ext' (by omega);subst l;refine⟨.int .i64 s.size,fun h f b g=>?_,rfl,b9 (by omega)⟩;simp only[execOp,resolve,e];simp[invoke,builtin,Builtin.len_,run_underlying j,goInt,Result.andThen]
theorem h0r{ty:TypeId}{xs:Array Operand}{i:Array TypeId}{u v:Int}(k:xs.toList.map a.eval=[.int .i64 u,.int .i64 v])(j:K1 u)(h:K1 v) :
  M5 X G a (.call ⟨.builtin .min,xs,i⟩) ty (.d true (.int .i64) (HE u v))/\M5 X G a (.call ⟨.builtin .max,xs,i⟩) ty (.d true (.int .i64) (HF u v)):=by
 have f:xs.map a.eval=#[.int .i64 u,.int .i64 v]:=by apply Array.ext'; simpa using k
 refine⟨⟨.int .i64 (HE u v),fun e c b g=>?_,rfl,(u0I j h).1⟩,⟨.int .i64 (HF u v),fun e c b g=>?_,rfl,(u0I j h).2⟩⟩
 ·rw[<- C0I];simp only[execOp,resolve,f];simp[invoke,builtin,Builtin.min_,Builtin.min2]
 ·rw[<- C0O];simp only[execOp,resolve,f];simp[invoke,builtin,Builtin.max_,Builtin.max2]
end
theorem s0m{X:Cx}{G:Gh}{a:Act}{st:St}{Γ:p8}{p:Pa}(w:B2 X.P Γ)(S:Sat X G)(ho:G.o=st.o)(d:EnvR X.n G st.e a)(H:PathP p a){op:Op}{ty:TypeId}{q:Prop}{r:AV}{l:List Nat}
  (h:I3 Γ st p op=some (q,r,l)) (hq:q):M5 X G a op ty r:=by
 unfold I3 at h;split at h
 ·rename_i x;split at h
  ·rename_i v Q;simp only[oi,pj] at h;obtain⟨_,rfl,_⟩:=h;exact B4 d [x] (D0 (by grind[Z0,J2])) (D2 d H Q)
  grind
 ·rename_i x;split at h
  ·rename_i v Q;simp only[oi,pj] at h;obtain⟨_,rfl,_⟩:=h;exact B4 d [x] (D0 (by grind[Z0,J2])) (D2 d H Q)
  grind
 ·rename_i x;split at h
  ·rename_i v Q;split at h
   ·rename_i cs l' hd;simp only[oi,pj] at h;obtain⟨rfl,rfl,_⟩:=h;rw[<- ho] at hd hq;have hx:=D2 d H Q;obtain⟨b,o,us,e,_⟩:=VB S hd hq hx;have aA:ev (D3 a [x]) x=some (.pointer (some ⟨b,o,none⟩)):=by grind[J2]
    rw[e] at hx;exact B4 d [x] (l0i aA) hx
   grind
  grind
 ·rename_i c x y;split at h
  ·rename_i s;split at h
   ·rename_i f1 vx f2 vy f3 vz j F V;simp only[oi,pj] at h;obtain⟨_,rfl,_⟩:=h;have e1:=DX (D2 d H j);rw[u0K F V];have hc:ev (D3 a [.tmp s,x,y]) (.tmp s)=some (.bool vx):=by grind[J2]
    cases vx with
    | true =>
      have aC:PathP ((s,true) :: p) a:=by
       intro z hz;rcases List.mem_cons.1 hz with rfl | hz
       ·exact e1
       ·exact H z hz
      have e2:=DX (D2 d aC F);exact B4 d [.tmp s,x,y] (v:=.bool vy) (D0 (by grind[Z0,J2])) rfl
    | false =>
      have aC:PathP ((s,false) :: p) a:=by
       intro z hz;rcases List.mem_cons.1 hz with rfl | hz
       ·exact e1
       ·exact H z hz
      have e2:=DX (D2 d aC V);exact B4 d [.tmp s,x,y] (v:=.bool vz) (D0 (by grind[Z0,J2])) rfl
   grind
  grind
 ·split at h
  ·rename_i u v j F;split at h
   ·rename_i q' r' hb;simp only[oi,pj] at h;obtain⟨rfl,rfl,_⟩:=h;exact s0i d (fun t ht=>w _ t ht) (D2 d H j) (D2 d H F) hb hq
   grind
  grind
 ·rename_i x;split at h
  ·rename_i f b j;simp only[oi,pj] at h;obtain⟨_,rfl,_⟩:=h;have e1:=DX (D2 d H j);have aA:ev (D3 a [x]) x=some (.bool b):=by grind[J2]
   exact B4 d [x] (D0 (by grind[Z0])) rfl
  grind
 ·rename_i x;split at h
  ·rename_i f n j;simp only[oi,pj] at h;obtain⟨rfl,rfl,_⟩:=h;have e1:=(F1 (D2 d H j)).1;have aA:ev (D3 a [x]) x=some (.int .i64 n):=by grind[J2]
   exact B4 d [x] (x0m aA hq) ⟨rfl,hq⟩
  grind
 ·split at h
  ·rename_i f k n _ _ _ k0 _ _ _ _ k' _ j F V;split at h;rename_i q' m hm;simp only[oi,pj] at h;obtain⟨rfl,rfl,_⟩:=h;exact s0f d (w _ _ F).2.2.2.2.2 (w _ _ V).2.2.2.2.2 (D2 d H j) hm hq
  ·rename_i id aL _ _ _ E _ _ _ _ _ j F V;split at h
   ·rename_i E' fr xs aF _ _ _ _ h4 h5;rw[ce] at h;split at h
    ·rename_i Q;have Q:=nb Q;subst Q;simp only[oi,pj] at h;obtain⟨rfl,rfl,_⟩:=h;exact o0p S d (w _ _ F).2.2.2.2.2 (w _ _ h5).2.2.2.2.2 (w _ _ V).2.2.2.2.2 (D2 d H j) (by rw[ho]; exact h4) hq
    grind
   grind
  grind
 ·split at h
  ·rename_i v _ _ _ pl _ j F;split at h
   ·rename_i aO s1 cs l' hf hd;split at h
    ·rename_i r' hm;simp only[oi,pj] at h;obtain⟨_,rfl,_⟩:=h;rw[<- ho] at hd;exact j0n w S d F hf (D2 d H j) hd hm
    grind
   grind
  grind
 ·split at h
  ·rename_i v ti j F;split at h
   ·rename_i cs l' hd;split at h
    ·rename_i r' hm;simp only[oi,pj] at h;obtain⟨rfl,rfl,_⟩:=h;rw[<- ho] at hd hq;obtain⟨b,o,us,e,aI,hA⟩:=VB S hd hq (D2 d H j);exact q0H d (w _ _ F) e aI hA hm
    grind
   grind
  grind
 ·split at h
  ·rename_i v f k n j F;rw[<- ho] at h;exact v0d w S d (D2 d H j) (D2 d H F) h hq
  grind
 ·split at h
  ·rename_i f s g k n _ _ _ _ j F V;simp only[oi,pj] at h;obtain⟨rfl,rfl,_⟩:=h;exact o0Q d (w _ _ V).2.2.2.2.2 (D2 d H j) (D2 d H F) hq
  grind
 ·rename_i x i;split at h
  ·rename_i l' j;split at h
   ·rename_i r' F;simp only[oi,pj] at h;obtain⟨_,rfl,_⟩:=h;obtain⟨us,e,hA⟩:=D2 d H j;rw[AO] at F;obtain⟨u,W,hr⟩:=hA.get F;have aA:ev (D3 a [x]) x=some (.tuple us.toArray):=by grind[J2]
    exact B4 d [x] (D0 (by grind[Z0])) hr
   grind
  grind
 ·split at h
  ·rename_i cs ti j F;split at h
   ·rename_i r' V;simp only[oi,pj] at h;obtain⟨_,rfl,_⟩:=h;exact o0V d (w _ _ F) (D2 d H j) V
   grind
  grind
 ·grind[oi,pj,j0J]
 ·grind[oi,pj,n0K,j0N]
 ·split at h
  ·rename_i j F V h4;split at h
   ·rename_i te h5;rw[ce] at h
    grind[oi,pj,o0t,nb,D2]
   grind
  grind
 ·rename_i xs Ts;split at h
  ·rename_i f t l' T j F;split at h
   ·rename_i V;simp only[oi,pj] at h;obtain⟨_,rfl,_⟩:=h;obtain⟨u,Y,e,W,hr⟩:=Cp d H j;have:Y=[]:=hr;subst this;obtain⟨p0,aJ,Q,aG,aB,_⟩:=W;simp only[List.cons.injEq,and_true] at Q;rw[Q] at e;exact VJ (w _ _ V).2.2.2.2.2 e F (by omega)
   grind
  ·rename_i id aL T j F;split at h
   ·rename_i _ _ _ _ T' fr t l' aF V h4;rw[ce] at h;split at h
    ·rename_i Q;have Q:=nb Q;simp only[oi,pj] at h;obtain⟨_,rfl,_⟩:=h;obtain⟨u,Y,e,W,hr⟩:=Cp d H j;have:Y=[]:=hr;subst this;obtain⟨_,T1,aN,t1,aP,aM,g1,g2,g3⟩:=W;rw[<- ho] at h4;rw[h4] at g1;cases g1;have W:=g3 Q;obtain⟨cs,hO,_,_⟩:=S.obs id _ h4;have aB:l'.length<=9223372036854775807:=by
      rcases hO with ⟨_,hn,_⟩ | ⟨b,o,aJ,cur,_,_,_,aG,aB,_⟩
      ·omega
      ·grind[maxLen]
     obtain⟨p0,c0,aK⟩:=hO.len;rw[W,aK] at e;exact VJ (w _ _ V).2.2.2.2.2 e F aB
    grind
   grind
  ·rename_i T j F;split at h
   ·rename_i V;simp only[oi,pj] at h;obtain⟨_,rfl,_⟩:=h;obtain⟨u,Y,e,W,hr⟩:=Cp d H j;have:Y=[]:=hr;subst this;have W:u=_:=W;rw[W] at e;exact VJ (w _ _ V).2.2.2.2.2 e F (Nat.zero_le _)
   grind
  ·rename_i f s T j F;split at h
   ·rename_i V;simp only[oi,pj] at h;obtain⟨_,rfl,_⟩:=h;obtain⟨u,Y,e,W,hr⟩:=Cp d H j;have:Y=[]:=hr;subst this;obtain⟨Q,hm⟩:=Rg W;rw[Q] at e;exact r0W (w _ _ V).2.2.2.2.2 e F hm
   grind
  grind
 ·rename_i xs Ts;split at h
  ·rename_i f u g v j;simp only[oi,pj] at h;obtain⟨_,rfl,_⟩:=h;obtain⟨x1,aH,e1,W,x2,aD,e2,Q,e3⟩:=Cp d H j;have e3:aD=[]:=e3;subst e3; subst e2;obtain⟨g1,g2⟩:=F1 W;obtain⟨g3,g4⟩:=F1 Q;rw[g1,g3] at e1;exact(h0r e1 g2 g4).1
  grind
 ·rename_i xs Ts;split at h
  ·rename_i f u g v j;simp only[oi,pj] at h;obtain⟨_,rfl,_⟩:=h;obtain⟨x1,aH,e1,W,x2,aD,e2,Q,e3⟩:=Cp d H j;have e3:aD=[]:=e3;subst e3; subst e2;obtain⟨g1,g2⟩:=F1 W;obtain⟨g3,g4⟩:=F1 Q;rw[g1,g3] at e1;exact(h0r e1 g2 g4).2
  grind
 grind
def Db(o:List (Nat×Ob)):AV->Option ((t:Ty)×List (c9 t)×List Nat×Bool)
 | .d fr (.sl t) xs=>some ⟨t,xs,[],fr||H7 t⟩
 | .os id ver=>match b5 o id with
   | some (.arr _ fr t xs ver')=>bif Nat.beq ver ver' then some ⟨t,xs,[id],fr||H7 t⟩ else none
   | _=>none
 | _=>none
def Rl(n m y:Nat):Prop:=n+m<=9223372036854775807/\(n+m)*y<=140737488355328
def Rm(n n':Int)(y:Nat):Prop:=0<=n/\n'=n/\n.toNat*y<=281474976710656/\n<=9223372036854775807
def DY(st:St)(p:Pa)(t:Ty):Nat->List (Nat×Operand)->Option (List (c9 t)×Bool)
 | _,[]=>some ([],true)
 | k,(i,x) :: r=>bif Nat.beq i k then(match rd st p x with
   | some v=>match Cq v with
     | some cs=>match H8 st.o 24 t cs with
       | some (y,[],f)=>match DY st p t (k+1) r with
         | some (ys,g)=>some (y :: ys,f&&g)
         | none=>none
       | _=>none
     | none=>none
   | none=>none) else none
def Am(o:List (Nat×Ob))(d:Nat):Bool:=match b5 o d with
 | none=>true
 | some _=>false
def Rn:TI->Option (TypeId×Ty)
 | ⟨1,_,.slice none 0 0,.sl Te,.sl t⟩=>some (Te,t)
 | _=>none
def AQ(Γ:p8)(st:St)(p:Pa)(d:Nat):Op->Option (Prop×AV×(Nat×Ob)×List Nat)
 | .alloc T=>match b5 Γ T with
   | some ti=>match AN ti.zero.cells.toList with
     | some cs=>bif Am st.o d then some (True,.ptr d 0,(d,.box T cs),[d]) else none
     | none=>none
   | none=>none
 | .box T x=>match rd st p x with
   | some v=>match Cq v with
     | some cs=>bif Am st.o d then some (True,.ptr d 0,(d,.box T cs),[d]) else none
     | none=>none
   | none=>none
 | .makeSlice T l c=>match rd st p l,rd st p c,b5 Γ T with
   | some (.d _ (.int .i64) n),some (.d _ (.int .i64) n'),some ⟨_,_,_,.sl E,_⟩=>match b5 Γ E with
     | some te=>match Rn te with
       | some (Te,t)=>bif Am st.o d then some (Rm n n' te.bytes,.og d,(d,.grd E Te true t (List.replicate n.toNat []) none),[d]) else none
       | none=>match AN te.zero.cells.toList with
         | some cs=>match H8 st.o 24 te.ty cs with
           | some (z,[],f)=>bif Am st.o d&&Nat.beq te.size (sz te.ty) then some (Rm n n' te.bytes,.os d 0,(d,.arr E f te.ty (List.replicate n.toNat z) 0),[d]) else none
           | _=>none
         | none=>none
     | none=>none
   | _,_,_=>none
 | .buildSlice T n parts=>match b5 Γ T with
   | some ⟨_,_,_,.sl E,_⟩=>match b5 Γ E with
     | some te=>match DY st p te.ty 0 parts.toList with
       | some (xs,f)=>bif Am st.o d&&Nat.beq te.size (sz te.ty)&&Nat.beq parts.toList.length n&&Nat.ble (n*te.size) 16777216 then some (True,.os d 0,(d,.arr E f te.ty xs 0),[d]) else none
       | none=>none
     | none=>none
   | _=>none
 | .call ⟨.builtin .append,xs,Ts⟩=>match N9 st p xs.toList,Ts.toList with
   | some [.os id ver,v],[T,T2]=>match b5 Γ T,b5 st.o id,Db st.o v with
     | some ⟨_,_,_,.sl E,_⟩,some (.arr E' fr t l ver'),some ⟨t',m,ids,f⟩=>match b5 Γ E,X0 (.sl t') (.sl t) m with
       | some te,some m'=>bif Nat.beq ver ver'&&Nat.beq E E'&&Nat.beq te.size (sz t)&&Nat.beq T T2 then some (Rl l.length m'.length te.bytes,.os id (ver+1),(id,.arr E (fr&&f) t (l++m') (ver+1)),id :: ids) else none
       | _,_=>none
     | _,_,_=>none
   | some [.v (.slice none 0 0),v],[T,T2]=>match b5 Γ T,Db st.o v with
     | some ⟨_,_,_,.sl E,_⟩,some ⟨t,m,ids,f⟩=>match b5 Γ E with
       | some te=>bif Am st.o d&&Nat.beq te.size (sz t)&&Nat.beq T T2 then some (Rl 0 m.length te.bytes,.os d 0,(d,.arr E f t m 0),d :: ids) else none
       | none=>none
     | _,_=>none
   | _,_=>none
 | _=>none
def Cs(Γ:p8)(st:St)(p:Pa):Op->Option (Prop×(Nat×Ob)×List Nat)
 | .store T x y=>match rd st p x,rd st p y,b5 Γ T with
   | some (.ptr id off),some v,some ti=>match b5 st.o id,Cq v with
     | some (.box T' cs),some vs=>bif Nat.beq vs.length ti.size&&Nat.ble (off+vs.length) cs.length then some (True,(id,.box T' (Gc cs off vs)),[id]) else none
     | _,_=>none
   | some (.pel id ver k s off),some v,some ti=>match b5 st.o id,Cq v with
     | some (.arr E fr t l ver'),some vs=>match H8 st.o 24 t (Gc (F2 fr t (l.getD k (a7 t))) off vs) with
       | some (y,[],f)=>bif Nat.beq ver ver'&&Nat.beq s (sz t)&&Nat.beq vs.length ti.size&&Nat.ble (off+vs.length) (sz t) then some (k<l.length,(id,.arr E (fr&&f) t (l.set k y) ver'),[id]) else none
       | _=>none
     | _,_=>none
   | _,_,_=>none
 | _=>none
def Mk(X:Cx)(G:Gh)(a:Act)(op:Op)(ty:TypeId)(av:AV)(w:Nat×Ob):Prop :=
 ∃v G',(∀dst pos after g,(execOp a.eval ⟨dst,op,ty,pos,after,g⟩).run X.P G.w=.ok (.value v) G'.w)/\Sat X G'/\GLe G G'/\G'.o=w :: G.o/\AVR G' av v
theorem DZ{o:List (Nat×Ob)}{d:Nat}(h:Am o d=true):b5 o d=none:=by
 grind[Am]
section
variable {X:Cx} {G:Gh} {a:Act} {st:St} {Γ:p8} {p:Pa}
theorem Ro{d:Nat}{ob:Ob}{r:Value}(h:b5 G.o d=none):w0d G d ob r:=⟨(fun _ _ a=>by grind),(fun _ _ _ _ _ a=>by grind),by rw[h]; rfl⟩
theorem VK(S:Sat X G){d:Nat}{T:TypeId}{cs:List AV}{us:Array Value}(i:b5 G.o d=none)(f:AVRs G cs us.toList) :
  ∃G',G'.w=G.w.alloc (.cells us T)/\Sat X G'/\GLe G G'/\G'.o=(d,.box T cs) :: G.o/\AVR G' (.ptr d 0) (.pointer (some ⟨G.w.heap.size,0,none⟩)):=by
 have c:=Jy G.w (.cells us T);have j:=Jz G.w us T;have h:=S.put (id:=d) (ob:=.box T cs) (r:=.pointer (some ⟨G.w.heap.size,0,none⟩)) (g:=some G.w.heap.size) (w':=G.w.alloc (.cells us T)) (go:=none) (Ro i) (fun _ e=>by cases e) (WE.of_ext c.ext) (fun b e=>by cases e; exact .inr (Nat.le_refl _))
  (fun a=>⟨G.w.heap.size,us.toList,by simp[Gh.put],by simp[Gh.put],j,f.mono a⟩)
 exact⟨_,rfl,h.1,h.2,rfl,⟨T,cs,by rw[show(Gh.put G d (.box T cs) _ _ _).o=(d,.box T cs) :: G.o from rfl,lK]; simp⟩,_,by simp[Gh.put],rfl⟩
theorem B0o(S:Sat X G){d:Nat}{E:TypeId}{fr:Bool}{t:Ty}{xs:List (c9 t)}{us:Array Value}(k:b5 G.o d=none)(i:AllR (RT (rg G fr) G.w t) us.toList xs)(n:xs.length<=9223372036854775807) :
  ∃G',G'.w=G.w.alloc (.cells us E)/\Sat X G'/\GLe G G'/\G'.o=(d,.arr E fr t xs 0) :: G.o/\AVR G' (.os d 0) (.slice (some ⟨G.w.heap.size,0,none⟩) xs.length xs.length):=by
 have j:=Jy G.w (.cells us E);have l:=Jz G.w us E;have a:=i.len (fun c x h=>RT.len h);have h:=S.put (id:=d) (ob:=.arr E fr t xs 0) (r:=.slice (some ⟨G.w.heap.size,0,none⟩) xs.length xs.length) (g:=some G.w.heap.size) (w':=G.w.alloc (.cells us E)) (go:=none) (Ro k) (fun _ e=>by cases e) (WE.of_ext j.ext) (fun b e=>by grind)
  (fun f=>⟨us.toList,by
    simp only[Gh.put,if_true];exact .inr ⟨G.w.heap.size,0,xs.length,us,rfl,rfl,by simpa [Blk] using l,Nat.le_refl _,by simp only[maxLen]; omega,by simpa using a,by rw[List.drop_zero,<- a,List.take_length]⟩,i.mapR (fun c x m=>RT.same (w:=G.w) f.hR m),fun b e=>by simp only[Gh.put,if_true] at e ⊢; cases e; exact Nat.le_trans S.le S.size⟩)
 exact⟨_,rfl,h.1,h.2,rfl,rfl,E,fr,t,xs,0,by rw[show(Gh.put G d (.arr E fr t xs 0) _ _ _).o=(d,.arr E fr t xs 0) :: G.o from rfl,lK]; simp,Nat.le_refl _,fun _=>by simp[Gh.put]⟩
theorem H0y(S:Sat X G){d n:Nat}{E Te:TypeId}{t:Ty}(l:b5 G.o d=none)(m:n<=9223372036854775807) :
  ∃G',G'.w=G.w.alloc (.cells (I8 n [.slice none 0 0]).toArray E)/\Sat X G'/\GLe G G'/\G'.o=(d,.grd E Te true t (List.replicate n []) none) :: G.o/\AVR G' (.og d) (.slice (some ⟨G.w.heap.size,0,none⟩) n n):=by
 have c:=Jy G.w (.cells (I8 n [.slice none 0 0]).toArray E);have f:=Jz G.w (I8 n [.slice none 0 0]).toArray E;have s:I8 n [Value.slice none 0 0]=List.replicate n (.slice none 0 0):=by
  clear c f m
  induction n with
  | zero=>rfl
  | succ n q=>grind[I8]
 have h:=S.put (id:=d) (ob:=.grd E Te true t (List.replicate n []) none) (r:=.slice (some ⟨G.w.heap.size,0,none⟩) n n) (g:=some G.w.heap.size) (w':=G.w.alloc (.cells (I8 n [.slice none 0 0]).toArray E)) (go:=none) (Ro l) (fun _ e=>by cases e) (WE.of_ext c.ext) (fun b e=>by grind)
  (fun i=>⟨List.replicate n (.slice none 0 0),fun _=>none,by
    simp only[Gh.put,if_true,List.length_replicate];exact .inr ⟨G.w.heap.size,0,n,_,rfl,rfl,by simpa [Blk] using f,Nat.le_refl _,by grind[maxLen],by grind,by grind⟩,⟨by simp,fun b=>⟨fun h=>(h.1 rfl).elim,fun⟨_,_,_,h⟩=>by cases h⟩,(fun _ _ _ _ _ _ _ h=>by cases h),fun k a _=>by
     rw[List.length_replicate] at a;refine⟨[],?_,?_,(fun _ h=>by cases h)⟩
     ·simp only[gq,List.getElem?_replicate,a,if_true,Option.getD_some];exact Own.nil
     ·simp only[gq,List.getElem?_replicate,a,if_true,Option.getD_some];rfl,fun v j=>by rw[(List.mem_replicate.1 j).2]; rfl⟩,fun b e=>by simp only[Gh.put,if_true] at e ⊢; cases e; exact Nat.le_trans S.le S.size⟩)
 exact⟨_,rfl,h.1,h.2,rfl,rfl,⟨E,Te,true,t,List.replicate n [],none,by rw[show(Gh.put G d (.grd E Te true t (List.replicate n []) none) _ _ _).o=(d,.grd E Te true t (List.replicate n []) none) :: G.o from rfl,lK]; simp⟩,by simp[Gh.put]⟩
theorem y0k{a:TI}{Te:TypeId}{t:Ty}(h:Rn a=some (Te,t)):a.size=1/\a.zero=.slice none 0 0/\a.ty=.sl t:=by
 unfold Rn at h
 grind
theorem j0I(j:B2 X.P Γ)(S:Sat X G)(w:EnvR X.n G st.e a)(x:PathP p a){d T E ty s0 y0 Te:Nat}{V:Value}{v t:Ty}{l c:Operand}{n y:Int}{i:TI}{f g:Bool}
  (hl:rd st p l=some (.d f (.int .i64) n)) (H:rd st p c=some (.d g (.int .i64) y)) (Y:b5 Γ T=some ⟨s0,y0,V,.sl E,v⟩) (s:b5 Γ E=some i) (hg:Rn i=some (Te,t))
  (hd:b5 G.o d=none) (hq:Rm n y i.bytes):Mk X G a (.makeSlice T l c) ty (.og d) (d,.grd E Te true t (List.replicate n.toNat []) none):=by
 obtain⟨q1,rfl,z,q3⟩:=hq;obtain⟨m,rfl⟩:=Int.eq_ofNat_of_zero_le q1;simp only[Int.toNat_natCast] at z ⊢;have h:=j E _ s
 haveI:H4 X.P T E:=⟨(j T _ Y).2.2.2.2.2⟩
 haveI:Info X.P E i.size i.bytes i.zero:=⟨h.1⟩
 obtain⟨_,Q,_⟩:=y0k hg;obtain⟨F,h1,h2,h3,W,h5⟩:=H0y S (E:=E) (Te:=Te) (t:=t) (d:=d) (n:=m) hd (by omega);have e1:=(F1 (D2 w x hl)).1;have e2:=(F1 (D2 w x H)).1;have k:ev (D3 a [l,c]) l=some (.int .i64 (m:Int)):=by grind[J2]
 have u:ev (D3 a [l,c]) c=some (.int .i64 (m:Int)):=by grind[J2]
 refine⟨_,F,fun r q b g=>?_,h2,h3,W,h5⟩;rw[h1];have hz:i.zero.cells.toList=[.slice none 0 0]:=by rw[Q]; rfl
 exact m0L (P:=X.P) (n:=X.n) k u hz (by rw[<- hz]; exact h.2.1) h.2.2.1 z (by omega) a r q b g (Vx w _)
theorem p0k(f:B2 X.P Γ)(S:Sat X G){d T ty:Nat}{c:TI}{cs:List AV}(m:b5 Γ T=some c)(hz:AN c.zero.cells.toList=some cs)(s:b5 G.o d=none):Mk X G a (.alloc T) ty (.ptr d 0) (d,.box T cs):=by
 obtain⟨h,v,u,t,l,r⟩:=VK S (T:=T) s (JE (G:=G) hz);have n:Info X.P T c.size c.bytes c.zero:=⟨(f T _ m).1⟩;obtain⟨k,b,y,x,q⟩:=n.get;refine⟨_,h,fun j i e g=>?_,u,t,l,r⟩;have hz:=Jx G.w b q;simp only[execOp,Instr.alloc,Sem.run_bind,hz,Result.andThen,v];rfl
theorem v0K(S:Sat X G)(w:EnvR X.n G st.e a)(c:PathP p a){d T ty:Nat}{x:Operand}{v:AV}{cs:List AV}(k:rd st p x=some v)(l:Cq v=some cs)(r:b5 G.o d=none):Mk X G a (.box T x) ty (.ptr d 0) (d,.box T cs):=by
 obtain⟨h,_⟩:=JF l (D2 w c k);obtain⟨f,u,t,q,m,s⟩:=VK S (T:=T) (us:=(a.eval x).cells) r h;refine⟨_,f,fun j i b g=>?_,t,q,m,s⟩;simp only[execOp,u];rfl
theorem n0R{a:Type}{R:List Value->a->Prop}{zs:List Value}{z:a}(h:R zs z):∀k,AllR R (I8 k zs) (List.replicate k z)
 | 0=>rfl
 | k+1=>⟨zs,I8 k zs,rfl,h,n0R h k⟩
theorem i0V(j:B2 X.P Γ)(S:Sat X G)(y:EnvR X.n G st.e a)(F:PathP p a){d T E ty s0 y0:Nat}{z0:Value}{v:Ty}{l c:Operand}{n H:Int}{b:TI}{cs:List AV}{z:c9 b.ty}{f g x:Bool}
  (hl:rd st p l=some (.d f (.int .i64) n)) (hc:rd st p c=some (.d g (.int .i64) H)) (hT:b5 Γ T=some ⟨s0,y0,z0,.sl E,v⟩) (s:b5 Γ E=some b) (hz:AN b.zero.cells.toList=some cs) (Y:H8 G.o 24 b.ty cs=some (z,[],x))
  (hd:b5 G.o d=none) (_:b.size=sz b.ty) (hq:Rm n H b.bytes):Mk X G a (.makeSlice T l c) ty (.os d 0) (d,.arr E x b.ty (List.replicate n.toNat z) 0):=by
 obtain⟨q1,rfl,V,q3⟩:=hq;obtain⟨m,rfl⟩:=Int.eq_ofNat_of_zero_le q1;simp only[Int.toNat_natCast] at V ⊢;have i:=j E _ s
 haveI:H4 X.P T E:=⟨(j T _ hT).2.2.2.2.2⟩
 haveI:Info X.P E b.size b.bytes b.zero:=⟨i.1⟩
 have t:=Vu S Y (JE (G:=G) hz);have hA:=n0R (R:=RT (rg G x) G.w b.ty) t m;obtain⟨W,h1,h2,h3,h4,Q⟩:=B0o S (E:=E) (d:=d) (us:=(I8 m b.zero.cells.toList).toArray) hd (by omega) (by grind);rw[List.length_replicate] at Q;have e1:=(F1 (D2 y F hl)).1;have e2:=(F1 (D2 y F hc)).1;have k:ev (D3 a [l,c]) l=some (.int .i64 (m:Int)):=by grind[J2]
 have u:ev (D3 a [l,c]) c=some (.int .i64 (m:Int)):=by grind[J2]
 refine⟨_,W,fun r q h g=>?_,h2,h3,h4,Q⟩;rw[h1];exact m0L (P:=X.P) (n:=X.n) k u rfl i.2.1 i.2.2.1 V (by omega) a r q h g (Vx y _)
theorem t0W(pre post c:List Value)(k:Nat)(h:pre.length=k):u6 (pre++post) k c=pre++(c++post.drop c.length):=by
 unfold u6;subst h
 simp_all
theorem k0B(S:Sat X G)(u:G.o=st.o)(F:EnvR X.n G st.e a)(s:PathP p a){t:Ty}{place:List (Nat×Nat)}:∀{ps:List (Nat×Operand)} {k:Nat} {ys:List (c9 t)} {fl:Bool} {pre post:List Value},DY st p t k ps=some (ys,fl)->pre.length=k*sz t->post.length=ps.length*sz t ->
  (∀i,i<k+ps.length->place[i]?=some (i*sz t,sz t))->∃ws,BD place (pre++post) (ps.map fun q=>(q.1,a.eval q.2))=some (pre++ws)/\AllR (RT (rg G fl) G.w t) ws ys/\ys.length=ps.length
 | [],k,ys,fl,pre,post,h,h1,h2,hpl=>by
   simp only[DY,oi,pj] at h; obtain⟨rfl,rfl⟩:=h;have:post=[]:=List.eq_nil_of_length_eq_zero (by grind);subst this;exact⟨[],by simp[BD],rfl,rfl⟩
 | (i,x) :: r,k,ys,fl,pre,post,h,h1,h2,hpl=>by
   unfold DY at h;rw[ce] at h;split at h
   ·rename_i hi;have hi:=nb hi;subst hi;split at h
    ·rename_i v P;split at h
     ·rename_i Y l;split at h
      ·rename_i y f z;split at h
       ·rename_i V g m;simp only[oi,pj] at h; obtain⟨rfl,rfl⟩:=h;obtain⟨H,_⟩:=JF l (D2 F s P);rw[<- u] at z;have E:=Vu S z H;have d:=RT.len E;rw[List.length_cons,Nat.add_mul] at h2;obtain⟨ws,W,Q,g3⟩:=k0B S u F s (k:=i+1) (pre:=pre++(a.eval x).cells.toList) (post:=post.drop (sz t)) m (by grind) (by grind) (fun j hj=>hpl j (by grind));refine⟨(a.eval x).cells.toList++ws,?_,⟨_,ws,rfl,RT.up E (fun k b=>⟨b.1,fun e=>b.2 (by grind)⟩),Q.mapR (fun c x h=>RT.up h (fun k b=>⟨b.1,fun e=>b.2 (by grind)⟩))⟩,by grind⟩;simp only[List.map_cons];unfold BD;rw[hpl i (by grind)];have T:(Z1 (a.eval x).cells.toList (sz t)&&Nat.ble (i*sz t+sz t) (pre++post).length)=true:=by
         rw[ba];exact⟨VD d,Nat.ble_eq_true_of_le (by grind)⟩
        simp only[T,cond_true]
        grind[t0W,List.append_assoc]
       grind
      grind
     grind
    grind
   grind
theorem h0D(t:B2 X.P Γ)(S:Sat X G)(ho:G.o=st.o)(hE:EnvR X.n G st.e a)(hp:PathP p a){d T E ty s0 y0 n:Nat}{z0:Value}{aA:Ty}{f:Array (Nat×Operand)}{b:TI}{xs:List (c9 b.ty)}{fr:Bool}
  (hT:b5 Γ T=some ⟨s0,y0,z0,.sl E,aA⟩) (H:b5 Γ E=some b) (aB:DY st p b.ty 0 f.toList=some (xs,fr)) (hd:b5 G.o d=none) (hs:b.size=sz b.ty) (hn:f.toList.length=n) (aH:n*b.size<=16777216) :
  Mk X G a (.buildSlice T n f) ty (.os d 0) (d,.arr E fr b.ty xs 0):=by
 have m:=t E _ H;have hU:=(t T _ hT).2.2.2.2.2;have hI:Info X.P E b.size b.bytes b.zero:=⟨m.1⟩;obtain⟨Q,j,k1,k2,k3⟩:=hI.get;have aC:=M4 m.2.1;have hz:b.zero.cells.size=b.size:=by simpa using aC
 have u:0<b.size:=by have:=m.2.2.1; simpa using this
 let place:List (Nat×Nat):=(List.range n).map fun i=>(i*sz b.ty,sz b.ty)
 have k:∀i,i<n->place[i]?=some (i*sz b.ty,sz b.ty):=fun i hi=>by grind
 let zs:=((Array.range (n*b.size)).map (b.zero.cells[· % b.zero.cells.size]!)).toList
 have aD:zs.length=n*sz b.ty:=by simp[zs,hs]
 obtain⟨y,g1,g2,g3⟩:=k0B S ho hE hp (place:=place) (pre:=[]) (post:=zs) aB (by simp) (by grind) (fun i hi=>k i (by omega));simp only[List.nil_append] at g1;have hf:=NE place _ zs y g1;have r:=QT (fun i:Nat=>place[i]?) (fun i:Nat=>some (i*b.size,b.size)) _ _ _ (fun i q hi=>by
  grind) hf
 have aF:=g2.len (fun c x h=>RT.len h);obtain⟨G',h1,h2,h3,h4,h5⟩:=B0o S (E:=E) (d:=d) (us:=y.toArray) hd (by omega) (by have:=Nat.le_mul_of_pos_right n u; omega);have W:xs.length=n:=by omega
 rw[W] at h5;refine⟨_,G',fun aI aG V g=>?_,h2,h3,h4,h5⟩;rw[h1];have e1:f.map (fun(i,x)=>(i,a.eval x))=(f.toList.map fun q=>(q.1,a.eval q.2)).toArray:=by
  apply Array.ext';simp only[Array.toList_map]
 have s:¬n*b.size > 2 ^ 24:=by omega
 have l:∀w:World,(newRow E y.toArray).run X.P w=.ok ⟨w.heap.size,0,none⟩ (w.alloc (.cells y.toArray E)):=fun _=>rfl;have Y:Q.size=b.size:=k1;simp only[execOp,e1];simp only[Instr.buildSlice,Sem.run_bind,run_underlying hU,Result.andThen,U8 G.w j,Y,s,if_false];by_cases z:n*b.size=0
 ·have F:n=0:=by rcases Nat.mul_eq_zero.1 z with h' | h'; exact h'; omega
  have v:Array.map (fun x=>(#[]:Array Value)[x % (#[]:Array Value).size]!) (Array.range (n*b.size))=zs.toArray:=by
   have:zs.length=0:=by rw[aD,F]; simp
   rw[List.eq_nil_of_length_eq_zero this,z];simp
  simp only[z] at v ⊢;simp only[if_true,Sem.run_bind,Sem.run_pure,Result.andThen,v,r,l]
 ·have v:(Array.range (n*b.size)).map (fun x=>b.zero.cells[x % b.zero.cells.size]!)=zs.toArray:=Array.toArray_toList.symm;simp only[z,if_false,Sem.run_bind,Sem.run_pure,Result.andThen,Jx G.w j k3,v,r,l]
theorem k0O(S:Sat X G){v:AV}{u:Value}{t:Ty}{f:List (c9 t)}{k:List Nat}{z:Bool}(h:Db G.o v=some ⟨t,f,k,z⟩)(l:AVR G v u) :
  ∃p2 c b2 o2 news,u=.slice p2 f.length c/\(f.length=0∨p2=some ⟨b2,o2,none⟩)/\At G.w b2 o2 news/\AllR (RT (rg G z) G.w t) news f:=by
 have i:∀{j:Bool} {t:Ty} {c:List Value} {x:c9 t},RT (rg G j) G.w t c x->RT (rg G (j||H7 t)) G.w t c x:=fun {j t c x} h=>by
  grind[H7,RT.free,RT.up]
 unfold Db at h;split at h
 ·simp only[oi] at h; cases h;obtain⟨p,e,a,h2,h3,T⟩:=l;simp only[List.cons.injEq,and_true] at a;rcases T with rfl | ⟨b,o,ds,n,hb,d,hall⟩
  ·exact⟨p,e,0,0,[],a,.inl rfl,QU,rfl⟩
  ·exact⟨p,e,b,o,ds,a,.inr n,d,hall.mapR (fun c x h=>i h)⟩
 ·rename_i id aA;split at h
  ·rename_i E W t' xs s y;rw[ce] at h;split at h
   ·rename_i a;have a:=nb a;simp only[oi] at h; cases h;obtain⟨_,T1,aC,t1,aD,q,r,g2,H⟩:=l;rw[y] at r;cases r;have l:=H a;obtain⟨Q,g,P,aB⟩:=S.obs id _ y;cases hg:G.γ id with
    | none =>
      rw[hg] at g;rcases g with ⟨_,F,_,p,n⟩ | ⟨b,_,_,_,hb,_⟩
      ·have:f=[]:=List.eq_nil_of_length_eq_zero F;subst this;exact⟨p,0,0,0,[],by grind,.inl rfl,QU,rfl⟩
      grind
    | some b =>
      rw[hg] at g;obtain⟨Y,V,m,d⟩:=g.at;rcases g with ⟨h,_⟩ | ⟨b',o1,e,cur,hb,hv2,_⟩
      ·cases h
      ·cases hb;rw[hv2] at m; cases m;exact⟨_,V,b,Y,Q,by grind,.inr rfl,d,P.mapR (fun c x h=>i h)⟩
   grind
  grind
 grind
theorem VL{K:Nat->Prop}{w:World}{t:Ty}:∀{news:List Value} {ys:List (c9 t)},AllR (RT K w t) news ys->∀u∈news,u.oneCell'=true
 | news,[],h,u,a=>by rw[show news=[] from h] at a; cases a
 | _,y :: r,⟨c,d,e,h1,h2⟩,u,a=>by
   rw[e] at a;rcases List.mem_append.1 a with a | a
   ·grind[RT.one]
   ·exact VL h2 u a
theorem j0y{xs:Array Operand}{b:Array TypeId}{T ty:TypeId}{u v r:Value}{w':World}(e:xs.toList.map a.eval=[u,v])(h:b.toList=[T,T])(f:(Builtin.append_ #[T,T] ty #[u,v]).run X.P G.w=.ok r w') :
  ∀dst pos after g,(execOp a.eval ⟨dst,.call ⟨.builtin .append,xs,b⟩,ty,pos,after,g⟩).run X.P G.w=.ok (.value r) w':=by
 intro dst pos after g;have c:xs.map a.eval=#[u,v]:=by apply Array.ext'; simpa using e
 have d:b=#[T,T]:=Array.ext' (by omega);subst d;simp only[execOp,resolve,c];simp[invoke,builtin,f,Result.andThen]
theorem n0Q(q:B2 X.P Γ)(S:Sat X G){T E ty s0 y0 id ver:Nat}{z0:Value}{W:Ty}{xs:Array Operand}{Ts:Array TypeId}{d:TI}{fr i:Bool}{t:Ty}{l m:List (c9 t)}{Q:List Nat}{u w:Value}{v:AV}
  (hT:b5 Γ T=some ⟨s0,y0,z0,.sl E,W⟩) (F:b5 Γ E=some d) (s:b5 G.o id=some (.arr E fr t l ver)) (hs:d.size=sz t) (aC:Ts.toList=[T,T])
  (hx:xs.toList.map a.eval=[u,w]) (hu:AVR G (.os id ver) u) (hv:Db G.o v=some ⟨t,m,Q,i⟩) (hw:AVR G v w) (hq:Rl l.length m.length d.bytes) :
  Mk X G a (.call ⟨.builtin .append,xs,Ts⟩) ty (.os id (ver+1)) (id,.arr E (fr&&i) t (l++m) (ver+1)):=by
 have f:=q E _ F
 haveI:H4 X.P T E:=⟨(q T _ hT).2.2.2.2.2⟩
 haveI:Info X.P E d.size d.bytes d.zero:=⟨f.1⟩
 have hz:d.zero.cells.size=d.size:=by simpa using M4 f.2.1
 obtain⟨p2,c,b2,o2,j,rfl,Y,H,hN⟩:=k0O S hv hw;obtain⟨_,T1,aI,t1,aJ,aD,g1,g2,g3⟩:=hu;rw[s] at g1;cases g1;have hu:=g3 rfl;obtain⟨cs,hO,hA,aB⟩:=S.obs id _ s;rw[<- hs] at hO;obtain⟨v',w',g',hr,V,z,aA⟩:=u0f (P:=X.P) (T:=T) (ty:=ty) (c:=c) (by have:=f.2.2.1; simpa using this) hz hO Y (by rw[hN.len (fun c x h=>RT.len h),hs]) H (VL hN) hq.1 hq.2;have h:=S.put (id:=id) (ob:=.arr E (fr&&i) t (l++m) (ver+1)) (r:=v') (g:=g') (w':=w') (go:=G.γ id) ⟨(fun T cs h=>by grind),(fun T aG t' aF aH h=>by grind),by rw[s]; rfl⟩
  (fun b hb=>⟨⟨_,s⟩,hb⟩) z (fun b hb=>by grind)
  (fun y=>⟨cs++j,by grind[Gh.put],((hN.mapR (fun c x h=>RT.up h (fun k n=>⟨n.1,fun e=>n.2 (by grind)⟩))).app (hA.mapR (fun c x h=>RT.up h (fun k n=>⟨n.1,fun e=>n.2 (by grind)⟩)))).mapR (fun c x hr=>RT.same (w:=G.w) y.hR hr),fun b e=>by
    simp only[Gh.put,if_true] at e ⊢;rcases aA with h | h
    ·exact aB b (h ▸ e)
    ·rw[h] at e; cases e; exact Nat.le_trans S.le S.size⟩)
 rw[hu] at hx;refine⟨v',_,j0y hx aC hr,h.1,h.2,rfl,?_,E,fr&&i,t,l++m,ver+1,by rw[show(Gh.put G id (.arr E (fr&&i) t (l++m) (ver+1)) _ _ _).o=(id,.arr E (fr&&i) t (l++m) (ver+1)) :: G.o from rfl,lK]; simp,Nat.le_refl _,fun _=>by simp[Gh.put]⟩;obtain⟨p,c,e⟩:=V.len;rw[e]; rfl
theorem h0F(n:B2 X.P Γ)(S:Sat X G){T E ty s0 y0 d:Nat}{z0:Value}{H:Ty}{xs:Array Operand}{Ts:Array TypeId}{f:TI}{j:Bool}{t:Ty}{m:List (c9 t)}{F:List Nat}{w:Value}{v:AV}
  (hT:b5 Γ T=some ⟨s0,y0,z0,.sl E,H⟩) (y:b5 Γ E=some f) (hd:b5 G.o d=none) (hs:f.size=sz t) (Y:Ts.toList=[T,T])
  (hx:xs.toList.map a.eval=[.slice none 0 0,w]) (hv:Db G.o v=some ⟨t,m,F,j⟩) (hw:AVR G v w) (hq:Rl 0 m.length f.bytes) :
  Mk X G a (.call ⟨.builtin .append,xs,Ts⟩) ty (.os d 0) (d,.arr E j t m 0):=by
 have i:=n E _ y
 haveI:H4 X.P T E:=⟨(n T _ hT).2.2.2.2.2⟩
 haveI:Info X.P E f.size f.bytes f.zero:=⟨i.1⟩
 have hz:f.zero.cells.size=f.size:=by simpa using M4 i.2.1
 obtain⟨p2,c,b2,o2,k,rfl,Q,z,V⟩:=k0O S hv hw;obtain⟨v',w',g',hr,l,u,W⟩:=u0f (P:=X.P) (T:=T) (ty:=ty) (c:=c) (by have:=i.2.2.1; simpa using this) hz (Own.nil (w:=G.w) (E:=E) (s:=f.size) (p:=none)) Q (by rw[V.len (fun c x h=>RT.len h),hs]) z (VL V) hq.1 hq.2;simp only[Nat.zero_add,List.nil_append] at l;have h:=S.put (id:=d) (ob:=.arr E j t m 0) (r:=v') (g:=g') (w':=w') (go:=none) (Ro hd) (fun _ e=>by cases e) u (fun b hb=>by grind)
  (fun q=>⟨k,by grind[Gh.put],V.mapR (fun c x hr=>RT.same (w:=G.w) q.hR hr),fun b e=>by
    simp only[Gh.put,if_true] at e ⊢;rcases W with h | h
    ·rw[h] at e; cases e
    ·rw[h] at e; cases e; exact Nat.le_trans S.le S.size⟩)
 refine⟨v',_,j0y hx Y hr,h.1,h.2,rfl,?_,E,j,t,m,0,by rw[show(Gh.put G d (.arr E j t m 0) _ _ _).o=(d,.arr E j t m 0) :: G.o from rfl,lK]; simp,Nat.le_refl _,fun _=>by simp[Gh.put]⟩;obtain⟨p,c,e⟩:=l.len;rw[e]; rfl
def Us(X:Cx)(G:Gh)(a:Act)(op:Op)(ty:TypeId)(w:Nat×Ob):Prop :=
 ∃G',(∀dst pos after g,(execOp a.eval ⟨dst,op,ty,pos,after,g⟩).run X.P G.w=.ok .skip G'.w)/\Sat X G'/\GLe G G'/\G'.o=w :: G.o
theorem VM{T ty:TypeId}{x y:Operand}{b o:Nat}{w':World}(c:a.eval x=.pointer (some ⟨b,o,none⟩))(h:(storeVar T ⟨b,o,none⟩ (a.eval y)).run X.P G.w=.ok () w') :
  ∀dst pos after g,(execOp a.eval ⟨dst,.store T x y,ty,pos,after,g⟩).run X.P G.w=.ok .skip w':=by
 intro dst pos after g;simp only[execOp,c];simp[Instr.storeAt,Instr.sureAddr,h,Result.andThen]
theorem m0F(m:B2 X.P Γ)(S:Sat X G){T T' ty id c:Nat}{x y:Operand}{e:TI}{cs vs:List AV}{v:AV}(hT:b5 Γ T=some e)(E:b5 G.o id=some (.box T' cs))(hx:AVR G (.ptr id c) (a.eval x))(H:AVR G v (a.eval y))(Q:Cq v=some vs)
  (hl:vs.length=e.size) (j:c+vs.length<=cs.length):Us X G a (.store T x y) ty (id,.box T' (Gc cs c vs)):=by
 haveI:Info X.P T e.size e.bytes e.zero:=⟨(m T _ hT).1⟩
 obtain⟨_,b,V,n⟩:=hx;obtain⟨z,i,g1,u,q,F⟩:=S.obs id _ E;rw[V] at u;cases u;obtain⟨s,h1⟩:=JF Q H;have t:=s.len;have k:=F.len;have l:=JA (P:=X.P) (T:=T) (o:=c) (v:=a.eval y) rfl (by omega) h1 q (by omega);have hW:=QS G.w b (u6 i c (a.eval y).cells.toList).toArray;have Y:=setRow_heap G.w b i.toArray (u6 i c (a.eval y).cells.toList).toArray T' (0,0) q;have h:=S.put (id:=id) (ob:=.box T' (Gc cs c vs)) (r:=G.ρ id) (g:=some b) (w':=G.w.setRow b (u6 i c (a.eval y).cells.toList).toArray) (go:=some b) ⟨(fun T cs h=>⟨rfl,_,_,rfl⟩),(fun T aA t' W aB h=>by grind),by rw[E]; rfl⟩
  (fun z f=>by grind) (WE.of_wr hW) (fun z f=>.inl f) (fun d=>⟨b,_,by simp[Gh.put],by grind[Gh.put],Y,VC (F.mono d) (s.mono d) j⟩)
 exact⟨_,VM n l,h.1,h.2,rfl⟩
theorem w0U{a vs:List Value}{o k:Nat}(h:o+vs.length<=k)(c:k<=a.length):(u6 a o vs).take k=u6 (a.take k) o vs:=by
 unfold u6;have b:(List.take o a).length=o:=by rw[List.length_take]; omega
 rw[List.append_assoc,List.take_append,List.take_append,b,List.append_assoc];congr 1
 ·rw[List.take_of_length_le (by rw[b]; omega),List.take_take]; congr 1; omega
 ·congr 1
  ·rw[List.take_of_length_le (by omega)]
  ·rw[List.drop_take]; congr 1; omega
theorem y0s{a vs:List Value}{o k:Nat}(h:o<=a.length):(u6 a (o+k) vs).drop o=u6 (a.drop o) k vs:=by
 grind[u6,List.append_assoc,List.drop_append,List.drop_take,List.length_take,List.drop_drop,min,Nat.add_assoc]
theorem x0c{cs vs:List Value}{o:Nat}(h:o+vs.length<=cs.length):(u6 cs o vs).length=cs.length:=by
 grind[u6,List.length_append,List.length_take,List.length_drop]
theorem m0E(aD:B2 X.P Γ)(S:Sat X G){T E ty id ver k d:Nat}{x y:Operand}{u:TI}{fr V:Bool}{t:Ty}{l:List (c9 t)}{vs:List AV}{v:AV}{z:c9 t}(hT:b5 Γ T=some u)(ho:b5 G.o id=some (.arr E fr t l ver))(hx:AVR G (.pel id ver k (sz t) d) (a.eval x))
  (hv:AVR G v (a.eval y)) (hc:Cq v=some vs) (hl:vs.length=u.size) (aM:d+vs.length<=sz t) (j:k<l.length) (hd:H8 G.o 24 t (Gc (F2 fr t (l.getD k (a7 t))) d vs)=some (z,[],V)):Us X G a (.store T x y) ty (id,.arr E (fr&&V) t (l.set k z) ver):=by
 haveI:Info X.P T u.size u.bytes u.zero:=⟨(aD T _ hT).1⟩
 obtain⟨_,T1,aR,t1,aS,aJ,g1,g2,g3⟩:=hx;rw[ho] at g1;cases g1;obtain⟨b,o,n0,c0,hr,aF⟩:=g3 rfl;obtain⟨cs,hO,hA,aQ⟩:=S.obs id _ ho;obtain⟨hV,h1⟩:=JF hc hv;have aK:=hV.len;rcases hO with ⟨_,hn,_⟩ | ⟨b',o',cap,cur,hb,hv2,k1,k2,k3,k4,k5⟩
 ·omega
 have q:b'=b/\o'=o:=by rw[hr] at hv2; simp only[Value.slice.injEq,oi,Addr.mk.injEq] at hv2; exact⟨hv2.1.1.symm,hv2.1.2.1.symm⟩
 obtain⟨q,aB⟩:=q;subst q; subst aB;obtain⟨i,c,f,e,hp,hR⟩:=hA.get (fun c x h=>RT.len h) j;have aA:=RT.len hR;have Y:(k+1)*sz t<=l.length*sz t:=Nat.mul_le_mul_right _ j;rw[Nat.add_mul] at Y;have aI:l.length*sz t<=cap*sz t:=Nat.mul_le_mul_right _ k2;have hB:Blk G.w b' cur.toList E:=by unfold Blk; rw[Array.toArray_toList]; exact k1
 have aL:cur.toList.length=o'+cap*sz t:=by omega
 have aC:=JA (P:=X.P) (T:=T) (o:=o'+(k*sz t+d)) (v:=a.eval y) rfl (by omega) h1 hB (by omega);have hW:=QS G.w b' (u6 cur.toList (o'+(k*sz t+d)) (a.eval y).cells.toList).toArray;have aG:=setRow_heap G.w b' cur (u6 cur.toList (o'+(k*sz t+d)) (a.eval y).cells.toList).toArray E (0,0) k1;have hD:=DV hR;have W:l.getD k (a7 t)=l[k]:=by simp[j]
 rw[W] at hd;have aH:=hD.len;have F:=Vu S hd (VC hD hV (by omega));have n:=AllR.set (R:=RT (rg G (fr&&V)) G.w t) (s:=sz t) (fun c x h=>RT.len h) (RT.up F (fun k j=>⟨j.1,fun e=>j.2 (by grind)⟩)) (hA.mapR (fun c x h=>RT.up h (fun k j=>⟨j.1,fun e=>j.2 (by grind)⟩))) j;have m:cs.take (k*sz t)++u6 c d (a.eval y).cells.toList++cs.drop ((k+1)*sz t)=((u6 cur.toList (o'+(k*sz t+d)) (a.eval y).cells.toList).drop o').take (l.length*sz t):=by
  rw[y0s (by omega),w0U (by omega) (by rw[List.length_drop]; omega),k5,e];have e1:(i++c++f).take (k*sz t)=i:=by rw[List.append_assoc,<- hp,List.take_left]
  have e2:(i++c++f).drop ((k+1)*sz t)=f:=by
   have:(k+1)*sz t=(i++c).length:=by rw[List.length_append,hp,aA,Nat.add_mul]; omega
   rw[this,List.drop_left]
  rw[e1,e2];unfold u6;rw[<- hp];have f1:List.take (i.length+d) (i++c++f)=i++c.take d:=by
   rw[List.append_assoc,List.take_length_add_append,List.take_append_of_le_length (by omega)]
  have f2:List.drop (i.length+d+(a.eval y).cells.toList.length) (i++c++f)=c.drop (d+(a.eval y).cells.toList.length)++f:=by
   rw[List.append_assoc,Nat.add_assoc,List.drop_length_add_append,List.drop_append_of_le_length (by omega)]
  rw[f1,f2];simp
 rw[m] at n;have h:=S.put (id:=id) (ob:=.arr E (fr&&V) t (l.set k z) ver) (r:=G.ρ id) (g:=some b') (w':=G.w.setRow b' (u6 cur.toList (o'+(k*sz t+d)) (a.eval y).cells.toList).toArray) (go:=some b') ⟨(fun T cs h=>by grind),(fun T aO t' aN aP h=>by grind),by rw[ho]; rfl⟩
  (fun b2 H=>by grind) (WE.of_wr hW) (fun b2 H=>.inl H)
  (fun Q=>⟨_,by
    simp only[Gh.put,if_true,List.length_set];exact .inr ⟨b',o',cap,_,rfl,hv2,aG,k2,k3,by grind[List.size_toArray,x0c],by grind⟩,n.mapR (fun c x hr=>RT.same (w:=G.w) Q.hR hr),fun b e=>by grind[Gh.put]⟩)
 exact⟨_,VM aF aC,h.1,h.2,rfl⟩
theorem s0p(aB:B2 X.P Γ)(S:Sat X G)(ho:G.o=st.o)(hE:EnvR X.n G st.e a)(Y:PathP p a){op:Op}{ty:TypeId}{d:Nat}{q:Prop}{r:AV}{w:Nat×Ob}{l:List Nat}
  (h:AQ Γ st p d op=some (q,r,w,l)) (hq:q):Mk X G a op ty r w:=by
 unfold AQ at h;split at h
 ·split at h
  ·rename_i ti hT;split at h
   ·rename_i cs hz;rw[ce] at h
    grind[oi,pj,p0k,DZ]
   grind
  grind
 ·split at h
  ·rename_i v hv;split at h
   ·rename_i cs hc;rw[ce] at h
    grind[oi,pj,v0K,DZ]
   grind
  grind
 ·split at h
  ·rename_i f n g n' _ _ _ E _ j H Q;split at h
   ·rename_i y h4;split at h
    ·rename_i Te t aC;rw[ce] at h
     grind[oi,pj,j0I,DZ]
    ·split at h
     ·rename_i cs h5;split at h
      ·rename_i z x W;rw[ce] at h;split at h
       ·rename_i b;rw[ba] at b
        grind[oi,pj,i0V,DZ,nb]
       grind
      grind
     grind
   grind
  grind
 ·split at h
  ·rename_i j;split at h
   ·rename_i y H;split at h
    ·rename_i xs x Q;rw[ce] at h;split at h
     ·rename_i b;simp only[ba] at b
      grind[oi,pj,h0D,DZ,nb,Nat.le_of_ble_eq_true]
     grind
    grind
   grind
  grind
 ·split at h
  ·rename_i id aD v T T2 j H;split at h
   ·rename_i _ _ _ E _ E' fr t l' aA t' m k x Q h4 h5;split at h
    ·rename_i y m' W h7;rw[ce] at h;split at h
     ·rename_i b;simp only[ba] at b;simp only[oi,pj] at h;obtain⟨rfl,rfl,rfl,_⟩:=h;obtain⟨e,rfl⟩:=DU h7;cases e;have e1:=nb b.1.1.1;have e2:=nb b.1.1.2;have e3:=nb b.1.2;have F:=nb b.2;subst e1; subst e2; subst F;obtain⟨u,s,e,V,w,c,e',hw,i⟩:=Cp hE Y j;have i:c=[]:=i
      grind[n0Q]
     grind
    grind
   grind
  ·rename_i v T T2 j H;split at h
   ·rename_i _ _ _ E _ t m k x Q h5;split at h
    ·rename_i y W;rw[ce] at h;split at h
     ·rename_i b;simp only[ba] at b;simp only[oi,pj] at h;obtain⟨rfl,rfl,rfl,_⟩:=h;have F:=nb b.2;subst F;obtain⟨u,s,e,V,w,c,e',hw,i⟩:=Cp hE Y j;have i:c=[]:=i;have V:u=_:=V
      grind[h0F,DZ,nb]
     grind
    grind
   grind
  grind
 grind
theorem s0k(c:B2 X.P Γ)(S:Sat X G)(ho:G.o=st.o)(f:EnvR X.n G st.e a)(d:PathP p a){x:Op}{ty:TypeId}{q:Prop}{w:Nat×Ob}{l:List Nat}
  (h:Cs Γ st p x=some (q,w,l)) (W:q):Us X G a x ty w:=by
 unfold Cs at h;split at h
 ·split at h
  ·rename_i id m v F i j r;split at h
   ·rename_i T' cs y Q g;rw[ce] at h;split at h
    ·rename_i b;rw[ba] at b;simp only[oi,pj] at h;obtain⟨_,rfl,_⟩:=h;exact m0F c S r (by grind) (D2 f d i) (D2 f d j) g (nb b.1) (Nat.le_of_ble_eq_true b.2)
    grind
   grind
  ·rename_i id V k s m v F i j r;split at h
   ·rename_i E Y t l' u y Q g;split at h
    ·rename_i z fl h6;rw[ce] at h;split at h
     ·rename_i b;simp only[ba] at b;simp only[oi,pj] at h;obtain⟨rfl,rfl,_⟩:=h;have T:=nb b.1.1.1;have H:=nb b.1.1.2;subst T; subst H;exact m0E c S r (by grind) (D2 f d i) (D2 f d j) g (nb b.1.2) (Nat.le_of_ble_eq_true b.2) W (by grind)
     grind
    grind
   grind
  grind
 grind
end
inductive q9
 | dat (t:Ty)
 | agg (t:Ty)
 | io (T:TypeId) (t:Ty)
 | fn (f:FuncId) (c:Ty)
 | nof (f:FuncId)
 | nil
 | os (E:TypeId) (t:Ty)
@[reducible] def M0E:q9->Type
  | .dat t=>c9 t
  | .agg t=>c9 t
  | .io _ t=>c9 t
  | .fn _ c=>c9 c
  | .nof _=>Unit
  | .nil=>Unit
  | .os _ t=>List (c9 t)
@[reducible] def C8:List q9->Type
  | []=>Unit
  | p :: r=>M0E p×C8 r
@[reducible] def D4:List q9->Type
  | []=>Unit
  | .io _ t :: _=>c9 t
  | _ :: r=>D4 r
structure Res(ps:List q9) where
 q:Prop
 r:AV
 z:D4 ps
structure Ct where
 f:FuncId
 ps:List q9
 res:C8 ps->Res ps
def ArgsR(K:Nat->Prop)(w:World):Option Nat->(ps:List q9)->C8 ps->List Value->Prop
 | go,[],_,vs=>vs=[]/\go=none
 | go,.dat t :: r,x,vs=>∃v us,vs=v :: us/\RT K w t [v] x.1/\ArgsR K w go r x.2 us
 | go,.agg t :: r,x,vs=>∃cs us,vs=.agg cs.toArray :: us/\RT K w t cs x.1/\ArgsR K w go r x.2 us
 | go,.fn f c :: r,x,vs=>∃cs us,vs=.func (.func f) #[] cs.toArray :: us/\RT K w c cs x.1/\ArgsR K w go r x.2 us
 | go,.nof f :: r,x,vs=>∃us,vs=.func (.func f) #[] #[] :: us/\ArgsR K w go r x.2 us
 | go,.nil :: r,x,vs=>∃us,vs=.pointer none :: us/\ArgsR K w go r x.2 us
 | go,.io T t :: r,x,vs=>∃b cs us,vs=.pointer (some ⟨b,0,none⟩) :: us/\go=some b/\¬K b/\Blk w b cs T/\RT K w t cs x.1/\ArgsR K w none r x.2 us
 | go,.os E t :: r,x,vs=>∃v cs us,vs=v :: us/\(∀b,go=some b->¬K b)/\v.oneCell'=true/\Own w E (sz t) go v x.1.length cs/\AllR (RT K w t) cs x.1/\ArgsR K w none r x.2 us
def H2:List q9->Bool
 | []=>false
 | .os _ _ :: _=>true
 | .dat _ :: r=>H2 r
 | .agg _ :: r=>H2 r
 | .fn _ _ :: r=>H2 r
 | .nof _ :: r=>H2 r
 | .nil :: r=>H2 r
 | .io _ _ :: r=>H2 r
def IOR(K:Nat->Prop)(w:World)(go:Option Nat):(ps:List q9)->D4 ps->Prop
 | [],_=>True
 | .io T t :: _,z=>∃b cs,go=some b/\Blk w b cs T/\RT K w t cs z
 | .dat _ :: r,z=>IOR K w go r z
 | .agg _ :: r,z=>IOR K w go r z
 | .fn _ _ :: r,z=>IOR K w go r z
 | .nof _ :: r,z=>IOR K w go r z
 | .nil :: r,z=>IOR K w go r z
 | .os _ _ :: r,z=>IOR K w go r z
/- The result: data lead Z2 K; each row that is handed over lies in a block of its own of the list, or has no block. -/
mutual
def ResR(K:Bool->Nat->Prop)(w:World):AV->Value->List (Option Nat)->Prop
 | .v x,u,gs=>u=x/\gs=[]
 | .d fr t x,u,gs=>RT (K fr) w t [u] x/\gs=[]
 | .agg xs,u,gs=>∃us:List Value,u=.agg us.toArray/\ResRs K w xs us gs
 | .tup xs,u,gs=>∃us:List Value,u=.tuple us.toArray/\ResRs K w xs us gs
 | .ob T xs,u,gs=>∃b us gs',gs=some b :: gs'/\u=.pointer (some ⟨b,0,none⟩)/\Blk w b us T/\ResRs K w xs us gs'
 | .ow T fr t xs,u,gs=>∃g cs,gs=[g]/\u.oneCell'=true/\Own w T (sz t) g u xs.length cs/\AllR (RT (K fr) w t) cs xs
 | _,_,_=>False
def ResRs(K:Bool->Nat->Prop)(w:World):List AV->List Value->List (Option Nat)->Prop
 | [],us,gs=>us=[]/\gs=[]
 | a :: r,us,gs=>∃u us' g1 g2,us=u :: us'/\gs=g1++g2/\ResR K w a u g1/\ResRs K w r us' g2
end
def Dc:List (Option Nat)->Prop
 | []=>True
 | g :: r=>(∀b,g=some b->some b ∉ r)/\Dc r
def JJ(fr:Bool)(K:Nat->Prop)(w w':World)(gs:List (Option Nat))(k:Nat):Prop:=((fr=false/\K k)∨w.heap.size<=k)/\UFg w' w.heap.size k/\some k ∉ gs
def KW(P:Program)(w:World)(go:Option Nat)(K:Nat->Prop):Prop:=(∀k,K k->k<w.heap.size)/\WK P w fun k=>go=some k
def Ok(P:Program)(c:Ct):Prop:=CY P c.f=true/\∀(x:C8 c.ps),(c.res x).q->∀(w:World) (vs:List Value) (go:Option Nat) (K:Nat->Prop),KW P w go K->ArgsR K w go c.ps x vs ->
 Calls P c.f vs.toArray w fun en w'=>∃v gs,en=.returned v/\WE go w w'/\Dc gs/\(∀b,some b∈gs->w.heap.size<=b∨(H2 c.ps=true/\go=some b))/\ResR (fun fr=>JJ fr K w w' gs) w' (c.res x).r v gs /\
  IOR (fun k=>(K k∨w.heap.size<=k)/\UFg w' w.heap.size k/\some k ∉ gs/\go≠some k) w' go c.ps (c.res x).z
def Dd(o:List (Nat×Ob)):(p:q9)->AV->Option (M0E p×List Nat×Option Nat)
 | .dat t,a=>match H8 o 24 t [a] with
   | some (x,l,_)=>some (x,l,none)
   | none=>none
 | .agg t,.agg cs=>match H8 o 24 t cs with
   | some (x,l,_)=>some (x,l,none)
   | none=>none
 | .fn f c,.fn f' cs=>bif Nat.beq f f' then(match H8 o 24 c cs with
   | some (x,l,_)=>some (x,l,none)
   | none=>none) else none
 | .nof f,.fn f' []=>bif Nat.beq f f' then some ((),[],none) else none
 | .io T t,.ptr id 0=>match b5 o id with
   | some (.box T' cs)=>bif Nat.beq T T' then(match H8 o 24 t cs with
     | some (x,[],_)=>some (x,[],some id)
     | _=>none) else none
   | _=>none
 | .os E t,.os id ver=>match b5 o id with
   | some (.arr E' _ t' xs ver')=>bif Nat.beq E E'&&Nat.beq ver ver' then(match X0 (.sl t') (.sl t) xs with
     | some x=>some (x,[],some id)
     | none=>none) else none
   | _=>none
 | .nil,.v (.pointer none)=>some ((),[],none)
 | _,_=>none
def S6(o:List (Nat×Ob)):(ps:List q9)->List AV->Option (C8 ps×List Nat×Option Nat)
 | [],[]=>some ((),[],none)
 | p :: r,a :: as'=>match Dd o p a with
   | some (x,l,i)=>match S6 o r as' with
     | some (y,m,j)=>match i,j with
       | none,j=>some ((x,y),l++m,j)
       | some i,none=>some ((x,y),l++m,some i)
       | _,_=>none
     | none=>none
   | none=>none
 | _,_=>none
theorem Gd{o:List (Nat×Ob)}:∀(n:Nat) {t:Ty} {cs:List AV} {x:c9 t} {l:List Nat} {fl:Bool},H8 o n t cs=some (x,l,fl)->∀id∈l,∃ob,b5 o id=some ob:=by
 intro n
 induction n with
 | zero=>grind[H8]
 | succ n i =>
   intro t cs x l fl h;have g:∀(t:Ty) (c:AV) (x:c9 t),AM o (H8 o n) t c=some (x,l,fl)->∀id∈l,∃ob,b5 o id=some ob:=by
    intro t c x h;unfold AM at h;split at h
    ·grind
    ·grind
    ·grind
    ·grind
    ·cases h
   have e:∀(t:Ty) (x:c9 t) (r:Option (c9 t×List Nat×Bool)),r=some (x,l,fl)->r=(match(generalizing:=false) cs with | [c]=>AM o (H8 o n) t c | _=>none)->∀id∈l,∃ob,b5 o id=some ob:=by
    intro t x r f d;rw[f] at d;have h:=d.symm;split at h
    ·grind
    ·cases h
   cases t with
   | pr a b =>
     unfold H8 at h
     grind
   | _=>exact e _ _ _ h rfl
def AR(G:Gh)(ids:List Nat)(k:Nat):Prop:=G.K k∨∃id∈ids,G.γ id=some k
theorem VN{X:Cx}{G:Gh}(S:Sat X G){all:List Nat}(v:∀id∈all,∃ob,b5 G.o id=some ob):∀{ps:List q9} {as':List AV} {us:List Value} {x:C8 ps} {l:List Nat} {io:Option Nat},S6 G.o ps as'=some (x,l,io)->(∀id∈l,id∈all)->(∀i,io=some i->i ∉ all)->AVRs G as' us ->
  (∀id∈l,∃ob,b5 G.o id=some ob)/\∃go,ArgsR (AR G all) G.w go ps x us/\((io=none/\go=none)∨(∃id b T cs,io=some id/\go=some b/\b5 G.o id=some (.box T cs)/\G.γ id=some b)∨∃id E fr t xs ver,io=some id/\go=G.γ id/\b5 G.o id=some (.arr E fr t xs ver)/\H2 ps=true)
 | [],[],us,x,l,io,h,hl,hio,hA=>by
   simp only[S6,oi,pj] at h;obtain⟨_,rfl,rfl⟩:=h;exact⟨(fun id h=>by cases h),none,⟨hA,rfl⟩,.inl ⟨rfl,rfl⟩⟩
 | [],_ :: _,us,x,l,io,h,hl,hio,hA=>by grind[S6]
 | _ :: _,[],us,x,l,io,h,hl,hio,hA=>by grind[S6]
 | p :: r,a :: as',us,x,l,io,h,hl,hio,hA=>by
   obtain⟨u,n,rfl,H,aB⟩:=hA;have hK:∀k,G.K k->AR G all k:=fun k hk=>.inl hk;simp only[S6] at h;split at h
   ·rename_i x1 Y i1 d;split at h
    ·rename_i y m j h2;have hx:x=(x1,y)/\l=Y++m/\((i1=none/\io=j)∨(∃i,i1=some i/\j=none/\io=some i)):=by
      split at h
      ·grind
      ·grind
      ·cases h
     obtain⟨rfl,rfl,s⟩:=hx;have aF:∀id∈Y,id∈all:=fun id P=>hl id (by grind);have hm:∀id∈m,id∈all:=fun id P=>hl id (by grind);have hB:∀id∈Y,∀b,G.γ id=some b->AR G all b:=fun id P b Q=>.inr ⟨id,aF id P,Q⟩;obtain⟨aI,go,V,q⟩:=VN S v h2 hm (fun i hi=>by
      grind) aB
     have f:(∀id∈Y,∃ob,b5 G.o id=some ob)->∀id∈Y++m,∃ob,b5 G.o id=some ob:=fun h id P=>by
      grind
     unfold Dd at d;split at d
     ·split at d
      ·rename_i x0 l0 f0 F;simp only[oi,pj] at d;obtain⟨rfl,rfl,rfl⟩:=d;refine⟨f (Gd 24 F),go,⟨u,n,rfl,RT.up (Ga S hK 24 F hB ⟨u,[],rfl,H,rfl⟩) (fun k h=>h.1),V⟩,?_⟩;rcases s with ⟨_,e⟩ | ⟨i',e,_⟩
       ·rw[e]; exact q
       grind
      grind
     ·split at d
      ·rename_i x0 l0 f0 F;simp only[oi,pj] at d;obtain⟨rfl,rfl,rfl⟩:=d;obtain⟨cs,rfl,g⟩:=H;refine⟨f (Gd 24 F),go,⟨cs,n,rfl,RT.up (Ga S hK 24 F hB g) (fun k h=>h.1),V⟩,?_⟩;rcases s with ⟨_,e⟩ | ⟨i',e,_⟩
       ·rw[e]; exact q
       grind
      grind
     ·rw[ce] at d;split at d
      ·rename_i hf;split at d
       ·rename_i x0 l0 f0 F;simp only[oi,pj] at d;obtain⟨rfl,rfl,rfl⟩:=d;obtain⟨cs,rfl,g⟩:=H;refine⟨f (Gd 24 F),go,⟨cs,n,by simp_all,RT.up (Ga S hK 24 F hB g) (fun k h=>h.1),V⟩,?_⟩;rcases s with ⟨_,e⟩ | ⟨i',e,_⟩
        ·rw[e]; exact q
        grind
       grind
      grind
     ·rw[ce] at d;split at d
      ·rename_i hf;simp only[oi,pj] at d;obtain⟨_,rfl,rfl⟩:=d;obtain⟨cs,rfl,g⟩:=H;have g:cs=[]:=g;subst g;refine⟨f (fun id h=>by cases h),go,⟨n,by simp_all,V⟩,?_⟩;rcases s with ⟨_,e⟩ | ⟨i',e,_⟩
       ·rw[e]; exact q
       grind
      grind
     ·rename_i T t id _;split at d
      ·rename_i T' cs z;rw[ce] at d;split at d
       ·rename_i hT;have hT:=nb hT;subst hT;split at d
        ·rename_i x0 f0 F;simp only[oi,pj] at d;obtain⟨rfl,rfl,rfl⟩:=d;rcases s with ⟨e,_⟩ | ⟨i',e,rfl,rfl⟩
         ·cases e
         cases e;obtain⟨_,b,Q,rfl⟩:=H;obtain⟨b',vs,W,g2,g3,g4⟩:=S.obs id _ z;rw[Q] at g2;cases g2;rcases q with ⟨_,rfl⟩ | ⟨_,_,_,_,e,_⟩ | ⟨_,_,_,_,_,_,e,_⟩
         ·refine⟨f (fun id h=>by cases h),some b,⟨b,vs,n,rfl,rfl,?_,g3,RT.up (Ga S hK 24 F hB g4) (fun k h=>h.1),V⟩,.inr (.inl ⟨id,b,T,cs,rfl,rfl,z,W⟩)⟩;rintro(h | ⟨i2,h2,h3⟩)
          ·exact S.imm id _ b z W h
          ·obtain⟨aC,h4⟩:=v i2 h2;have:=S.inj i2 id _ _ b h4 z h3 W
           grind
         ·cases e
         grind
        grind
       grind
      grind
     ·rename_i E t id ver _;split at d
      ·rename_i E' fr t' xs aH z;rw[ce] at d;split at d
       ·rename_i Q;rw[ba] at Q;have e1:=nb Q.1;have e2:=nb Q.2;subst e1; subst e2;split at d
        ·rename_i x0 hc;simp only[oi,pj] at d;obtain⟨rfl,rfl,rfl⟩:=d;rcases s with ⟨e,_⟩ | ⟨i',e,rfl,rfl⟩
         ·cases e
         cases e;obtain⟨et,rfl⟩:=DU hc;cases et;obtain⟨aD,T1,aJ,t1,aK,aG,W,g2,g3⟩:=H;rw[z] at W;cases W;have H:=g3 rfl;obtain⟨cs,hO,aA,_⟩:=S.obs id _ z;rcases q with ⟨_,rfl⟩ | ⟨_,_,_,_,e,_⟩ | ⟨_,_,_,_,_,_,e,_⟩
         ·refine⟨f (fun id h=>by cases h),G.γ id,⟨u,cs,n,rfl,?_,aD,by grind,aA.mapR (fun c x h=>RT.up h (fun k hk=>.inl hk.1)),V⟩,.inr (.inr ⟨id,_,fr,_,_,_,rfl,rfl,z,rfl⟩)⟩;intro b hg;rintro(h | ⟨i2,h2,h3⟩)
          ·exact S.imm id _ b z hg h
          ·obtain⟨aC,h4⟩:=v i2 h2;have:=S.inj i2 id _ _ b h4 z h3 hg
           grind
         ·cases e
         grind
        grind
       grind
      grind
     ·simp only[oi,pj] at d;obtain⟨_,rfl,rfl⟩:=d;have H:u=.pointer none:=H;subst H;refine⟨f (fun id h=>by cases h),go,⟨n,rfl,V⟩,?_⟩;rcases s with ⟨_,e⟩ | ⟨i',e,_⟩
      ·rw[e]; exact q
      grind
     grind
    grind
   grind
end Go.Proofs.Xv
end
