/- A logic of symbolic frames: each step of a function's code is taken by one lemma, the frame is a short list of the slots that are known. Over any program. -/
import Derived.WalkKit
import Derived.Deep.LoopGhost
import Derived.IntWalk
import Derived.Deep.Quiet
import Derived.Laws.CopyRow
import Derived.ProofKit
import Derived.ChangeArms
import Derived.Carry
import Derived.Deep.RegionHeld3
import Derived.Laws.MakeOwn
import Derived.Laws.BytesArg
import Derived.Maps.AppendAt
import Derived.Deep.Upon
import Derived.Lib.LaidTab
import Derived.Lib.ItoaNum
import Derived.Laws.StructEq
import Derived.Laws.Pointers
import Derived.Lib.Join
import Derived.Lib.ItoaLen
import Derived.Laws.Slices
set_option maxHeartbeats 0
namespace Go.Proofs
theorem oi {c:Type _} (a b:c):(some a=some b)=(a=b):=Option.some.injEq a b
theorem pj {e f:Type _} (a:e) (b:f) (c:e) (d:f):((a,b)=(c,d))=(a=c∧b=d):=Prod.mk.injEq a b c d
theorem ba (a b:Bool):((a&&b)=true)=(a=true∧b=true):=Bool.and_eq_true a b
theorem nb {n m:Nat} (h:n.beq m=true):n=m:=Nat.eq_of_beq_eq_true h
theorem ce {a:Sort _} (b:Bool) (t e:a):(bif b then t else e)=if b=true then t else e:=cond_eq_ite b t e
theorem gq {b:Type _} {l:List b} {i:Nat} {a:b}:l.getD i a=l[i]?.getD a:=List.getD_eq_getElem?_getD
theorem dq {p:Prop} [Decidable p]:(decide p=true)=p:=decide_eq_true_eq
theorem oo {a b:Prop} (h:a:=by omega) (k:b:=by omega):a∧b:=⟨h,k⟩
end Go.Proofs
section
namespace Go.Proofs.Sv
open Go Go.RowKit
abbrev y9:=List (Nat×Value)
def lk:y9->Nat->Option Value
 | [],_=>none
 | (d,v) :: e,t=>cond (Nat.beq d t) (some v) (lk e t)
def ev(e:y9):Operand->Option Value
 | .tmp t=>lk e t
 | .const v=>some v
 | .global g=>some (.pointer (some ⟨g,0,none⟩))
 | .func f=>some (.func (.func f) #[] #[])
def evl(e:y9):List Operand->Option (List Value)
 | []=>some []
 | x :: r=>match ev e x,evl e r with | some v,some vs=>some (v :: vs) | _,_=>none
def Agree(n:Nat)(e:y9)(a:Act):Prop:=a.defers=[]/\a.tmps.size=n/\∀t v,lk e t=some v->a.tmps.getD t undef=v
theorem CU(d:Nat)(v:Value)(e:y9)(t:Nat):lk ((d,v) :: e) t=if d=t then some v else lk e t:=by
 show cond (Nat.beq d t) (some v) (lk e t)=_
 simp_all
theorem Agree.ev{n:Nat}{e:y9}{a:Act}(h:Agree n e a){x:Operand}{v:Value}(b:ev e x=some v):a.eval x=v:=by
 cases x with
 | tmp t=>exact h.2.2 t v b
 | const u=>grind[Sv.ev,Act.eval]
 | global g=>grind[Sv.ev,Act.eval]
 | func f=>grind[Sv.ev,Act.eval]
theorem Agree.evl{n:Nat}{e:y9}{a:Act}(h:Agree n e a):∀{xs:List Operand} {vs:List Value},evl e xs=some vs->xs.map a.eval=vs
 | [],vs,hx=>by grind[Sv.evl]
 | x :: r,vs,hx=>by
   unfold Sv.evl at hx;split at hx
   ·rename_i v d c b;simp at hx; subst hx;simp[h.ev c,h.evl b]
   grind
theorem Agree.put{n:Nat}{e:y9}{a:Act}(h:Agree n e a)(d:Nat)(g:Nat.blt d n=true)(v:Value):Agree n ((d,v) :: e) (a.put (some d) v):=by
 have f:d<a.tmps.size:=by rw[h.2.1]; simpa using g
 refine⟨h.1,?_,fun t u c=>?_⟩
 ·simp[Act.put,h.2.1]
 ·rw[CU] at c;by_cases b:d=t
  ·subst b;simp only[if_true,oi] at c;subst c;simp[Act.put,f]
  ·simp only[b,if_false] at c;have:=h.2.2 t u c;simp only[Act.put]
   simp_all
theorem Agree.put_none{n:Nat}{e:y9}{a:Act}(h:Agree n e a)(v:Value):Agree n e (a.put none v):=h
def IH(e' e:y9):Prop:=∀t v,lk e' t=some v->lk e t=some v
theorem Agree.sub{n:Nat}{e e':y9}{a:Act}(h:Agree n e a)(b:IH e' e):Agree n e' a:=⟨h.1,h.2.1,fun t v c=>h.2.2 t v (b t v c)⟩
def VS(P:Program)(n:Nat)(c:Code)(e:y9)(w:World)(Q:Exit->Act->World->Prop):Prop:=∀a,Agree n e a->c.wp P Q a w
def VO(P:Program)(n:Nat)(ops:Array Oper)(l:List Oper)(e:y9)(w:World)(Q:Exit->Act->World->Prop):Prop:=∀a,Agree n e a->wpList P ops Q l a w
def J0(n:Nat)(x:Exit)(e:y9)(w:World)(Q:Exit->Act->World->Prop):Prop:=∀a,Agree n e a->Q x a w
def Y1(P:Program)(y:Code)(Q:Exit->Act->World->Prop):Exit->Act->World->Prop:=Exit.then (y.wp P Q) Q
def CD(id:Nat)(Q:Exit->Act->World->Prop):Exit->Act->World->Prop:=Exit.inBlock id Q
section
variable {P:Program} {n:Nat} {e:y9} {w:World} {Q:Exit->Act->World->Prop}
theorem p5{x y:Code}(h:VS P n x e w (Y1 P y Q)):VS P n (.seq x y) e w Q:=fun a b=>wp_seq (h a b)
theorem I0{id:Nat}{c:Code}(h:VS P n c e w (CD id Q)):VS P n (.block id c) e w Q:=fun a b=>wp_block (h a b)
theorem F9(h:J0 n .normal e w Q):VS P n .skip e w Q:=fun a b=>wp_skip (h a b)
theorem I9(h:J0 n .ret e w Q):VS P n .ret e w Q:=fun a b=>wp_ret (h a b)
theorem O0{id:Nat}(h:J0 n (.exit id) e w Q):VS P n (.exit id) e w Q:=fun a b=>wp_exit (h a b)
theorem Dv{c:Operand}{x y:Code}(d:ev e c=some (.bool false))(h:VS P n y e w Q):VS P n (.cond c x y) e w Q :=
 fun a b=>wp_cond_false (b.ev d) (h a b)
theorem U3{c:Operand}{x y:Code}{b:Bool}(g:ev e c=some (.bool b))(i:b=true->VS P n x e w Q)(f:b=false->VS P n y e w Q):VS P n (.cond c x y) e w Q :=
 fun a d=>wp_cond_split (d.ev g) (fun h=>i h a d) (fun h=>f h a d)
theorem H4{id:Nat}{l:List Oper}(h:VO P n l.toArray l e w Q):VS P n (.region id l.toArray false) e w Q:=fun a b=>wp_region_lit (h a b)
theorem X9{x:Exit}{e':y9}(b:IH e' e)(h:J0 n x e' w Q):J0 n x e w Q:=fun a c=>h a (c.sub b)
theorem nQ{y:Code}(h:VS P n y e w Q):J0 n .normal e w (Y1 P y Q):=fun a b=>h a b
theorem O1{y:Code}{id:Nat}(h:J0 n (.exit id) e w Q):J0 n (.exit id) e w (Y1 P y Q):=fun a b=>h a b
theorem Af{y:Code}(h:J0 n .ret e w Q):J0 n .ret e w (Y1 P y Q):=fun a b=>h a b
theorem BL{id:Nat}(h:J0 n .normal e w Q):J0 n .normal e w (CD id Q):=fun a b=>h a b
theorem O3{id b:Nat}(c:Nat.beq b id=true)(h:J0 n .normal e w Q):J0 n (.exit b) e w (CD id Q):=by
 intro a d;have:b=id:=by simpa using c
 show(if b=id then Q .normal a w else Q (.exit b) a w);rw[if_pos this]; exact h a d
def JZ(n:Nat){σ:Type}(E:σ->y9)(J:σ->World->Prop)(μ:σ->Nat)(s:σ)(Q:Exit->Act->World->Prop):Exit->Act->World->Prop
 | .normal,a,w=>∃s',J s' w/\μ s'<μ s/\Agree n (E s') a
 | x,a,w=>Q x a w
theorem Bc{b:Code}{d:Type}(E:d->y9)(J:d->World->Prop)(f:d->Nat)(g:d)(q:J g w)(h:IH (E g) e)
  (c:∀s w,J s w->VS P n b (E s) w (JZ n E J f s Q)):VS P n (.loop b) e w Q:=by
 intro a o;refine wp_loop_ghost (fun m a w=>∃s,f s=m/\J s w/\Agree n (E s) a) (f g) ⟨g,rfl,q,o.sub h⟩ ?_;rintro m a w ⟨s,rfl,u,k⟩;refine wp_mono (c s w u a k) ?_;intro x y v j;cases x with
 | normal =>
   obtain⟨i,l,r,t⟩:=j;exact⟨f i,r,i,rfl,l,t⟩
 | _=>exact j
theorem Bd{a:Type}{E:a->y9}{J:a->World->Prop}{c:a->Nat}{s:a}(b:a)(h:J b w)(d:c b<c s)(f:IH (E b) e):J0 n .normal e w (JZ n E J c s Q) :=
 fun _ g=>⟨b,h,d,g.sub f⟩
theorem O2{b:Type}{E:b->y9}{J:b->World->Prop}{c:b->Nat}{s:b}{id:Nat}(h:J0 n (.exit id) e w Q):J0 n (.exit id) e w (JZ n E J c s Q):=fun a d=>h a d
theorem D4:IH [] e:=fun _ _ h=>by cases h
theorem D3{d:Nat}{v:Value}{e':y9}(h:lk e d=some v)(c:IH e' e):IH ((d,v) :: e') e:=by
 intro t u b;rw[CU] at b;by_cases a:d=t
 ·grind
 ·rw[if_neg a] at b; exact c t u b
def RV:Nat->List Value->y9
 | _,[]=>[]
 | k,v :: r=>(k,v) :: RV (k+1) r
theorem n0A(t:Nat)(v:Value):∀(k:Nat) (vs:List Value),lk (RV k vs) t=some v->k<=t/\vs[t-k]?=some v
 | k,[],h=>by cases h
 | k,u :: r,h=>by
   rw[RV,CU] at h;by_cases a:k=t
   ·grind
   ·rw[if_neg a] at h;have ⟨b,c⟩:=n0A t v (k+1) r h
    grind
theorem U0{f:FuncId}{a:Func}{c:Code}{vs:List Value}{R:Ending->World->Prop}
  (l:P.funcs[f]?=some a) (m:a.ntmps=n) (g:a.body=some c) (b:Nat.ble vs.length n=true)
  (h:VS P n c (RV 0 vs) w (bodyPost P a R)):Calls P f vs.toArray w R:=by
 have j:vs.length<=n:=Nat.le_of_ble_eq_true b;refine calls_of_wp l g (h _ ⟨rfl,?_,?_⟩)
 ·grind
 ·intro t v i;have ⟨_,e⟩:=n0A t v 0 vs i;have k:t<vs.length:=by rcases Nat.lt_or_ge t vs.length with d | d; exact d; rw[List.getElem?_eq_none (by omega)] at e; cases e
  rw[Array.getD_eq_getD_getElem?,Array.getElem?_append_left (by omega)]
  grind
theorem r0s{c:Func}{R:Ending->World->Prop}{t:Nat}{v:Value}(d:c.results=#[.tmp t])(f:lk e t=some v)(h:R (.returned v) w):J0 n .normal e w (bodyPost P c R) :=
 fun a b=>⟨b.1,v,by rw[results_tmp d]; rw[b.2.2 t v f],h⟩
theorem N3{c:Func}{R:Ending->World->Prop}{t:Nat}{v:Value}(d:c.results=#[.tmp t])(f:lk e t=some v)(h:R (.returned v) w):J0 n .ret e w (bodyPost P c R) :=
 fun a b=>⟨b.1,v,by rw[results_tmp d]; rw[b.2.2 t v f],h⟩
theorem r0r{f:Func}{R:Ending->World->Prop}{t t':Nat}{v d:Value}(g:f.results=#[.tmp t,.tmp t'])(i:lk e t=some v)(c:lk e t'=some d)(h:R (.returned (.tuple #[v,d])) w):J0 n .ret e w (bodyPost P f R) :=
 fun a b=>⟨b.1,_,by rw[results_tmp2 g]; rw[b.2.2 t v i,b.2.2 t' d c],h⟩
end
def D6(P:Program)(n:Nat)(e:y9)(op:Op)(ty:TypeId)(w:World)(v:Value)(w':World):Prop :=
 ∀a dst pos after g,Agree n e a->(execOp a.eval ⟨dst,op,ty,pos,after,g⟩).run P w=.ok (.value v) w'
def Rd(P:Program)(n:Nat)(e:y9)(op:Op)(ty:TypeId)(w:World)(w':World):Prop :=
 ∀a dst pos after g,Agree n e a->(execOp a.eval ⟨dst,op,ty,pos,after,g⟩).run P w=.ok .skip w'
section
variable {P:Program} {n:Nat} {e:y9} {w:World} {Q:Exit->Act->World->Prop} {ops:Array Oper} {rest:List Oper}
theorem oN(h:J0 n .normal e w Q):VO P n ops [] e w Q:=fun a b=>wpList_nil (h a b)
theorem F5{d:Nat}{c:Op}{ty:TypeId}{pos:String}{after:Array Edge}{w':World}(v:Value)(f:D6 P n e c ty w v w')(i:Nat.blt d n=true)
  (h:VO P n ops rest ((d,v) :: e) w' Q):VO P n ops (⟨some d,c,ty,pos,after,none⟩ :: rest) e w Q:=by
 intro a b;refine wpList_plain rfl fun K g=>?_;unfold Oper.wp;rw[f a (some d) pos after none b];exact g _ _ (h _ (b.put d i v))
theorem RW{c:Op}{ty:TypeId}{pos:String}{after:Array Edge}{w':World}(d:Rd P n e c ty w w')
  (h:VO P n ops rest e w' Q):VO P n ops (⟨none,c,ty,pos,after,none⟩ :: rest) e w Q:=by
 intro a b;refine wpList_plain rfl fun K f=>?_;unfold Oper.wp;rw[d a none pos after none b];exact f _ _ (h _ b)
def KF:List Oper->Nat->Option Nat
 | [],_=>none
 | o :: _,0=>o.dst
 | _ :: r,j+1=>KF r j
def OI(ops:Array Oper)(j:Nat):Option Nat:=KF ops.toList j
theorem r0w:∀(l:List Oper) (j:Nat),KF l j=(l[j]?).bind (·.dst)
 | [],_=>by simp[KF]
 | _ :: _,0=>by simp[KF]
 | _ :: r,j+1=>by simp[KF,r0w r j]
theorem z0e(ops:Array Oper)(j:Nat):OI ops j=(ops[j]?).bind (·.dst):=by grind[OI,r0w]
theorem k0e{a:Act}(g:Agree n e a){j d:Nat}{b:Bool}(i:OI ops j=some d)(f:lk e d=some (.bool b)):yielded ops a.tmps j=some b:=by
 have h:=g.2.2 d _ f;unfold yielded;have k:((ops[j]?).bind (·.dst))=some d:=by rw[<- z0e]; exact i
 rw[k];have l:d<a.tmps.size:=by
  rcases Nat.lt_or_ge d a.tmps.size with c | c
  ·exact c
  ·rw[Array.getD_eq_getD_getElem?,Array.getElem?_eq_none c] at h; cases h
 simp_all
theorem Bg{c:Option Nat}{i:Op}{ty:TypeId}{pos:String}{after:Array Edge}{j d:Nat}{b:Bool}(l:OI ops j=some d)(k:lk e d=some (.bool b))
  (h:VO P n ops (⟨c,i,ty,pos,after,none⟩ :: rest) e w Q):VO P n ops (⟨c,i,ty,pos,after,some (j,b)⟩ :: rest) e w Q:=by
 intro a f;have g:=h a f;unfold wpList at g ⊢;simpa only[Region.wanted,k0e f l k,BEq.rfl,if_true,Oper.wp,Oper.asks,execOp,Oper.upon] using g
theorem JV{c:Nat}{o:Op}{ty:TypeId}{pos:String}{after:Array Edge}{j d:Nat}{b g:Bool}(k:OI ops j=some d)(i:lk e d=some (.bool b))(m:(b==g)=false)(l:Nat.blt c n=true)
  (h:VO P n ops rest ((c,undef) :: e) w Q):VO P n ops (⟨some c,o,ty,pos,after,some (j,g)⟩ :: rest) e w Q:=by
 intro a f;refine wpList_skip ?_ (h _ (f.put c l undef));simp only[Region.wanted,k0e f k i]
 grind
def Xb:BinOp->Int->Int->Option Bool
 | .eql,a,b=>some (a==b)
 | .neq,a,b=>some (a != b)
 | .lss,a,b=>some (decide (a<b))
 | .leq,a,b=>some (decide (a<=b))
 | .gtr,a,b=>some (decide (a > b))
 | .geq,a,b=>some (decide (a≥b))
 | _,_,_=>none
def RX:BinOp->ByteArray->ByteArray->Option Bool
 | .eql,a,b=>some (decide (a=b))
 | .neq,a,b=>some (!decide (a=b))
 | _,_,_=>none
def OJ:BinOp->Value->Value->Option Value
 | op,.int k a,.int k' b=>if k=k' then(match Xb op a b with | some r=>some (.bool r) | none=>none) else none
 | op,.string a,.string b=>match RX op a b with | some r=>some (.bool r) | none=>none
 | _,_,_=>none
def AM(e:y9):Op->Option Value
 | .move x=>ev e x
 | .assign x=>ev e x
 | .pick c a b=>match ev e c with
   | some (.bool true)=>ev e a
   | some (.bool false)=>ev e b
   | _=>none
 | .unOp .not _ x=>match ev e x with
   | some (.bool b)=>some (.bool (!b))
   | _=>none
 | .extract x i=>match ev e x with
   | some (.tuple vs)=>vs.toList[i]?
   | _=>none
 | .binOp op _ x y _=>match ev e x,ev e y with
   | some u,some v=>OJ op u v
   | _,_=>none
 | .makeFunc fn first cap=>match evl e first.toList,evl e cap.toList with
   | some fs,some cs=>some (.func fn fs.toArray cs.toArray)
   | _,_=>none
 | _=>none
theorem z0m(a b:ByteArray):(a.toList==b.toList)=decide (a=b):=by
 rw[Bool.eq_iff_iff,beq_iff_eq,dq,ByteArray.toList_eq,ByteArray.toList_eq];constructor
 ·intro h; cases a; simp_all
 grind
theorem q6{l:Op}{ty:TypeId}{v:Value}(h:AM e l=some v):D6 P n e l ty w v w:=by
 intro a E H i g b;unfold AM at h;split at h
 ·simp only[execOp,b.ev h]; rfl
 ·simp only[execOp,b.ev h]; rfl
 ·rename_i c x y;split at h
  ·rename_i f; simp only[execOp,b.ev f,<- b.ev h]; rfl
  ·rename_i f; simp only[execOp,b.ev f,<- b.ev h]; rfl
  grind
 ·split at h
  ·rename_i f; simp only[oi] at h; subst h; simp only[execOp,b.ev f]; rfl
  grind
 ·split at h
  ·rename_i W f; rw[Array.getElem?_toList] at h; simp only[execOp,b.ev f,Instr.extract,h]; rfl
  grind
 ·rename_i l T x y Q;split at h
  ·rename_i u v' o s;unfold OJ at h;split at h
   ·rename_i k p V q;split at h
    ·rename_i G; subst G;split at h
     ·rename_i r d;simp only[oi] at h; subst h;unfold Xb at d;split at d <;> simp only[oi,reduceCtorEq] at d <;> subst d <;> simp[execOp,b.ev o,b.ev s,eqGuard,binOp,Op.intCmp]
     grind
    grind
   ·rename_i p q;split at h
    ·rename_i r d;simp only[oi] at h; subst h;unfold RX at d;split at d <;> simp only[oi,reduceCtorEq] at d <;> subst d <;> simp[execOp,b.ev o,b.ev s,eqGuard,binOp,Op.stringOp,z0m]
    grind
   grind
  grind
 ·split at h
  ·rename_i Y X j m;simp only[oi] at h; subst h;have z:=b.evl j;have t:=b.evl m;have F:∀(x:Array Operand),x.map a.eval=(x.toList.map a.eval).toArray:=fun x=>by grind
   simp only[execOp,Instr.makeFunc,F,z,t];rfl
  grind
 grind
theorem F4{d:Nat}{a:Op}{ty:TypeId}{pos:String}{after:Array Edge}{v:Value}(h:AM e a=some v)(b:Nat.blt d n=true)
 (k:VO P n ops rest ((d,v) :: e) w Q):VO P n ops (⟨some d,a,ty,pos,after,none⟩ :: rest) e w Q:=F5 v (q6 h) b k
end
def Z2(P:Program)(T:TypeId):Bool:=match P.underlying T with
 | some (.struct _) | some (.array ..) | none=>false
 | _=>true
class K9(P:Program)(T:TypeId):Prop where h:Z2 P T=true
class I6(P:Program)(T:TypeId)(E:outParam TypeId):Prop where h:P.underlying T=some (.slice E)
class JY(P:Program)(T:TypeId):Prop where h:P.underlying T=some .string
def RY(P:Program)(T:TypeId):Option (Nat×Nat×Option Value):=(P.info? T).map fun i=>(i.size,i.bytes,i.zero)
class Info(P:Program)(T:TypeId)(size bytes:outParam Nat)(z:outParam Value):Prop where h:RY P T=some (size,bytes,some z)
def BW(P:Program)(T:TypeId):Bool:=match P.underlying T with
 | some (.struct _) | some (.array ..)=>true
 | _=>false
class M5(P:Program)(T:TypeId):Prop where h:BW P T=true
def OK(P:Program)(T:TypeId)(k:Nat):Option (Nat×Bool):=match P.underlying T with
 | some (.struct fs)=>match fs[k]? with
   | some f=>some (f.offset,match P.info? f.type with | some i=>!(i.size==0) | none=>false)
   | none=>none
 | _=>none
class x8(P:Program)(T:TypeId)(k:Nat)(off:outParam Nat):Prop where h:OK P T k=some (off,true)
def BX(P:Program)(f:Nat):Bool:=match P.funcs[f]? with
 | some fn => !(fn.name == "runtime.NumGoroutine") && fn.body.isSome
 | none=>false
class C7(P:Program)(f:Nat):Prop where h:BX P f=true
theorem h0G{P:Program}{T:TypeId}{i:TypeInfo}(w:World)(h:P.info? T=some i):(typeInfo T).run P w=.ok i w:=by
 have a:(program).run P w=.ok P w:=rfl;unfold typeInfo
 simp_all
theorem X3{P:Program}{T:TypeId}{i:TypeInfo}(w:World)(h:P.info? T=some i):(sizeOf T).run P w=.ok i.size w:=by
 unfold sizeOf; rw[Sem.run_bind,h0G w h]; rfl
theorem II{P:Program}{T:TypeId}{i:TypeInfo}{z:Value}(w:World)(h:P.info? T=some i)(hz:i.zero=some z):(zeroValue T).run P w=.ok z w:=by
 unfold zeroValue; rw[Sem.run_bind,h0G w h]; simp_all
theorem Info.get{P:Program}{T s y:Nat}{z:Value}(h:Info P T s y z):∃i,P.info? T=some i/\i.size=s/\i.bytes=y/\i.zero=some z:=by
 have hi:=h.h;unfold RY at hi
 simp_all
def Blk(w:World)(b:Nat)(cs:List Value)(T:TypeId):Prop:=w.heap[b]?=some (.cells cs.toArray T (0,0))
def At(w:World)(b o:Nat)(cs:List Value):Prop:=∀i u,cs[i]?=some u->w.cell? ⟨b,o+i,none⟩=some u
abbrev Ext(w w':World):Prop:=Below w.heap.size w w'
theorem Ext.refl(w:World):Ext w w:=Below.refl _ _
theorem Ext.trans{a b c:World}(h:Ext a b)(k:Ext b c):Ext a c:=Below.trans h (Below.mono k h.size)
theorem Blk.lt{w:World}{b:Nat}{cs:List Value}{T:TypeId}(h:Blk w b cs T):b<w.heap.size:=by
 grind[Nat.lt_or_ge,Blk,Array.getElem?_eq_none]
theorem Blk.ext{w w':World}{b:Nat}{cs:List Value}{T:TypeId}(h:Blk w b cs T)(k:Ext w w'):Blk w' b cs T:=by
 unfold Blk; rw[k.block b h.lt]; exact h
theorem Blk.up{w w':World}{b:Nat}{cs:List Value}{T:TypeId}(h:Blk w b cs T)(k:Ext w w'):Blk w' b cs T:=h.ext k
theorem Blk.at{w:World}{b:Nat}{cs:List Value}{T:TypeId}(h:Blk w b cs T):At w b 0 cs:=by
 intro i u a;unfold World.cell?;rw[show(⟨b,0+i,none⟩:Addr).block=b from rfl,h]
 grind
theorem At.lt{w:World}{b o:Nat}{cs:List Value}(h:At w b o cs)(d:0<cs.length):b<w.heap.size:=by
 have c:=h 0 cs[0] (by grind);rcases Nat.lt_or_ge b w.heap.size with a | a
 ·exact a
 ·unfold World.cell? at c; grind
theorem At.same{w w':World}{b o:Nat}{cs:List Value}(h:At w b o cs)(k:b<w.heap.size->w'.heap[b]?=w.heap[b]?):At w' b o cs:=by
 intro i u a;have d:0<cs.length:=by rcases Nat.lt_or_ge i cs.length with c | c; omega; rw[List.getElem?_eq_none c] at a; cases a
 have:=h i u a;rw[<- this];exact World.cell?_of_block (w:=w) (k (h.lt d))
theorem At.ext{w w':World}{b o:Nat}{cs:List Value}(h:At w b o cs)(k:Ext w w'):At w' b o cs:=h.same (fun a=>k.block b a)
theorem At.up{w w':World}{b o:Nat}{cs:List Value}(h:At w b o cs)(k:Ext w w'):At w' b o cs:=h.ext k
theorem At.mid{w:World}{b o:Nat}{pre c post:List Value}(h:At w b o (pre++c++post)):At w b (o+pre.length) c:=by
 intro i u d;have e:i<c.length:=by rcases Nat.lt_or_ge i c.length with a | a; exact a; rw[List.getElem?_eq_none a] at d; cases d
 have:=h (pre.length+i) u (by grind)
 grind
structure OL(w:World)(b:Nat)(w':World):Prop where
 eq:w.heap.size=b
 ext:Ext w w'
 size:w'.heap.size=b+1
structure Wr(b:Nat)(w w':World):Prop where
 os:w'.os=w.os
 tape:w'.tape=w.tape
 output:w'.output=w.output
 size:w'.heap.size=w.heap.size
 block:∀k,k≠b->w'.heap[k]?=w.heap[k]?
theorem Wr.below{b B:Nat}{w w':World}(h:Wr b w w')(a:B<=b):Below B w w':=⟨h.os,h.tape,h.output,by rw[h.size]; exact Nat.le_refl _,fun k c=>h.block k (by omega)⟩
theorem IJ(w:World)(o:Obj):OL w w.heap.size (w.alloc o):=⟨rfl,(Below.refl _ _).alloc (Nat.le_refl _) _,by simp⟩
theorem IK(w:World)(cs:Array Value)(T:TypeId):Blk (w.alloc (.cells cs T)) w.heap.size cs.toList T:=by
 unfold Blk World.alloc; simp
section
variable {P:Program} {n:Nat} {e:y9} {w:World} {Q:Exit->Act->World->Prop} {ops:Array Oper} {rest:List Oper}
 {d:Nat} {ty:TypeId} {pos:String} {after:Array Edge}
theorem Kc{T:TypeId}{x:Operand}{v:Value}{cs:List Value}(i:ev e x=some v)(c:v.cells.toList=cs)(j:Nat.blt d n=true)
  (k:∀b w',OL w b w'->Blk w' b cs T->VO P n ops rest ((d,.pointer (some ⟨b,0,none⟩)) :: e) w' Q) :
  VO P n ops (⟨some d,.box T x,ty,pos,after,none⟩ :: rest) e w Q:=by
 subst c;refine F5 (.pointer (some ⟨w.heap.size,0,none⟩)) (w':=w.alloc (.cells v.cells T)) ?_ j (k _ _ (IJ _ _) (IK _ _ _));intro a f pos after g h;simp only[execOp,h.ev i]; rfl
theorem x0v{T:TypeId}{s y:Nat}{z:Value}{cs:List Value}[i:Info P T s y z](f:z.cells.toList=cs)(m:Nat.blt d n=true)
  (k:∀b w',OL w b w'->Blk w' b cs T->VO P n ops rest ((d,.pointer (some ⟨b,0,none⟩)) :: e) w' Q) :
  VO P n ops (⟨some d,.alloc T,ty,pos,after,none⟩ :: rest) e w Q:=by
 subst f;obtain⟨j,c,o,r,l⟩:=i.get;refine F5 (.pointer (some ⟨w.heap.size,0,none⟩)) (w':=w.alloc (.cells z.cells T)) ?_ m (k _ _ (IJ _ _) (IK _ _ _));intro a h pos after g q;have hz:=II w c l;simp only[execOp,Instr.alloc,Sem.run_bind,hz,Result.andThen];rfl
theorem f0O{T:TypeId}{x:Operand}{b o f c:Nat}[y:x8 P T f c](v:ev e x=some (.pointer (some ⟨b,o,none⟩))) :
  D6 P n e (.fieldAddr T x f) ty w (.pointer (some ⟨b,o+c,none⟩)) w:=by
 intro a s u j g t;have h:=y.h;unfold OK at h;split at h
 ·rename_i E k;split at h
  ·rename_i z d;simp only[oi,pj] at h;obtain⟨q,m⟩:=h;split at m
   ·rename_i i hi;have r:¬i.size=0:=by simpa using m
    have l:(Addr.mk b o none).add z.offset=⟨b,o+c,none⟩:=by
     unfold Addr.add;rw[q];split
     ·grind
     ·rfl
    simp only[execOp,t.ev v];simp[Instr.fieldAt,run_underlying k,d,Instr.sureAddr,fieldPlace,X3 w hi,r,Result.andThen,l]
   grind
  grind
 grind
theorem j0l{T:TypeId}{ad:Addr}{v:Value}[e:K9 P T](h:w.cell? ad=some v):(loadVar T ad).run P w=.ok v w:=by
 have c:=e.h;unfold Z2 at c;split at c
 ·cases c
 ·cases c
 ·cases c
 ·rename_i f i j;cases hu:P.underlying T with
  | none=>grind
  | some d =>
    have:(isAgg T).run P w=.ok false w:=by
     unfold isAgg;simp only[Sem.run_bind,run_underlying hu,Result.andThen];cases d with
     | struct g=>grind
     | array a b=>grind
     | _=>rfl
    simp[loadVar,this,h,load,Sem.run,Result.andThen]
theorem Xc{T:TypeId}{x:Operand}{ad:Addr}{v:Value}[K9 P T](i:ev e x=some (.pointer (some ad)))(h:w.cell? ad=some v):D6 P n e (.load T x) ty w v w:=by
 intro a c f b g d;simp only[execOp,d.ev i];simp[Instr.loadAt,Instr.sureAddr,j0l h,Result.andThen]
theorem RZ{T:TypeId}{b o s y:Nat}{z:Value}{cs:List Value}[q:M5 P T][i:Info P T s y z](m:cs.length=s)(h:At w b o cs):(loadVar T ⟨b,o,none⟩).run P w=.ok (.agg cs.toArray) w:=by
 have e:=q.h;unfold BW at e;obtain⟨n,d,g,t,u⟩:=i.get;have l:(isAgg T).run P w=.ok true w:=by
  split at e
  ·rename_i r c; unfold isAgg; simp[run_underlying c,Result.andThen]
  ·rename_i a b c; unfold isAgg; simp[run_underlying c,Result.andThen]
  ·cases e
 have f:=run_loadCells_list (P:=P) w ⟨b,o,none⟩ cs (fun j v k=>by
  have:=h j v k
  grind[Addr.add])
 rw[m,<- g] at f;simp[loadVar,l,X3 w d,Result.andThen,f]
theorem CI{T:TypeId}{x:Operand}{b o s y:Nat}{z:Value}{cs:List Value}[M5 P T][Info P T s y z](j:ev e x=some (.pointer (some ⟨b,o,none⟩)))(k:cs.length=s)(h:At w b o cs):D6 P n e (.load T x) ty w (.agg cs.toArray) w:=by
 intro a d i c g f;simp only[execOp,f.ev j];simp[Instr.loadAt,Instr.sureAddr,RZ k h,Result.andThen]
theorem Kb{T T':TypeId}{x y:Operand}{a b:Int}(j:ev e x=some (.int .i64 a))(k:ev e y=some (.int .i64 b))(f : -9223372036854775808<=a+b/\a+b<=9223372036854775807) :
  D6 P n e (.binOp .add T x y T') ty w (.int .i64 (a+b)) w:=by
 intro l h i c g d;simp only[execOp,d.ev j,d.ev k];simp[eqGuard,binOp,Op.intArith,IntWalk.i64_in _ f]
theorem y0c{T T':TypeId}{x y:Operand}{a b:Int}(j:ev e x=some (.int .i64 a))(k:ev e y=some (.int .i64 b))(f : -9223372036854775808<=a-b/\a-b<=9223372036854775807) :
  D6 P n e (.binOp .sub T x y T') ty w (.int .i64 (a-b)) w:=by
 intro l h i c g d;simp only[execOp,d.ev j,d.ev k];simp[eqGuard,binOp,Op.intArith,IntWalk.i64_in _ f]
theorem y0g{T T':TypeId}{x y:Operand}{a b:Int}(j:ev e x=some (.int .i64 a))(k:ev e y=some (.int .i64 b))(f : -9223372036854775808<=a*b/\a*b<=9223372036854775807) :
  D6 P n e (.binOp .mul T x y T') ty w (.int .i64 (a*b)) w:=by
 intro l h i c g d;simp only[execOp,d.ev j,d.ev k];simp[eqGuard,binOp,Op.intArith,IntWalk.i64_in _ f]
theorem VA{T T':TypeId}{x y:Operand}{s t:ByteArray}(h:ev e x=some (.string s))(i:ev e y=some (.string t))(j:s.size+t.size<=9223372036854775807) :
  D6 P n e (.binOp .add T x y T') ty w (.string (s++t)) w:=by
 intro k d f a g c;have b:¬(9223372036854775807:Int) < (s.size:Int)+(t.size:Int):=by omega
 simp only[execOp,c.ev h,c.ev i];simp[eqGuard,binOp,Op.stringOp,b]
theorem Be{T E:TypeId}{x:Operand}{p:Option Addr}{len b:Nat}[h:I6 P T E](j:ev e x=some (.slice p len b)) :
  D6 P n e (.call ⟨.builtin .len,[x].toArray,#[T]⟩) ty w (.int .i64 (len:Int)) w:=by
 intro a d i c g f;have:([x].toArray.map a.eval)=#[.slice p len b]:=by simp[f.ev j]
 simp only[execOp,resolve,this];simp[invoke,builtin,Builtin.len_,run_underlying h.h,goInt,Result.andThen]
theorem Sb{f:Nat}[h:C7 P f](a:Array Value):(callFunc f a).run P w=.ok (.enter f a) w:=by
 have b:=h.h;unfold BX at b;split at b
 ·rename_i i d;simp only[ba,Bool.not_eq_true',Option.isSome_iff_exists] at b;obtain⟨e,c,j⟩:=b;have g:(program).run P w=.ok P w:=rfl;unfold callFunc
  simp_all
 grind
theorem V6{f:Nat}{xs:List Operand}{vs:List Value}{b:Array TypeId}[C7 P f](i:evl e xs=some vs)(k:Nat.blt d n=true)
  (h:Calls P f vs.toArray w (fun en w'=>∃v,en=.returned v/\VO P n ops rest ((d,v) :: e) w' Q)) :
  VO P n ops (⟨some d,.call ⟨.value (.func f),xs.toArray,b⟩,ty,pos,after,none⟩ :: rest) e w Q:=by
 intro a c;refine wpList_plain rfl fun K j=>?_;unfold Oper.wp;have l:xs.toArray.map a.eval=vs.toArray:=by rw[<- c.evl i]; simp
 have:(execOp a.eval ⟨some d,.call ⟨.value (.func f),xs.toArray,b⟩,ty,pos,after,none⟩).run P w=.ok (.enter f vs.toArray) w:=by
  simp only[execOp,resolve,l];simp[Act.eval,Deferred.ofValue,invoke,Sb]
 rw[this];refine Calls.mono h ?_;rintro en w' ⟨v,rfl,g⟩;exact j _ _ (g _ (c.put d k v))
end
class M4(P:Program):Prop where h:P.follows .mixedOrders=true
def VQ(P:Program)(n:Nat)(ops:Array Oper)(w0:World)(l:List Oper)(e:y9)(Q:Exit->Act->World->Prop):Prop :=
 ∀a,Agree n e a->wpQuiet P ops (Ext w0) (fun a'=>∀w',Ext w0 w'->Q .normal a' w') l a
section
variable {P:Program} {n:Nat} {e:y9} {w:World} {Q:Exit->Act->World->Prop} {ops:Array Oper} {rest:List Oper}
 {d:Nat} {ty:TypeId} {pos:String} {after:Array Edge}
end
class Rep(α:Type) where
 sz:Nat
 pos:0<sz
 rep:Nat->Nat->World->List Value->α->Prop
 len:∀{lo hi w cs x},rep lo hi w cs x->cs.length=sz
 same:∀{lo hi w w' cs x},rep lo hi w cs x->(∀k,lo<=k->k<hi->k<w.heap.size->w'.heap[k]?=w.heap[k]?)->rep lo hi w' cs x
 wide:∀{lo hi lo' hi' w cs x},rep lo hi w cs x->lo'<=lo->hi<=hi'->rep lo' hi' w cs x
def R9(x:Int):Prop := -9223372036854775808<=x/\x<=9223372036854775807
instance:Rep Int where
 sz:=1
 pos:=Nat.one_pos
 rep _ _ _ cs x:=cs=[.int .i64 x]/\R9 x
 len h:=by grind
 same h _:=h
 wide h _ _:=h
instance:Rep Bool where
 sz:=1
 pos:=Nat.one_pos
 rep _ _ _ cs x:=cs=[.bool x]
 len h:=by grind
 same h _:=h
 wide h _ _:=h
instance:Rep ByteArray where
 sz:=1
 pos:=Nat.one_pos
 rep _ _ _ cs x:=cs=[.string x]/\x.size<=9223372036854775807
 len h:=by grind
 same h _:=h
 wide h _ _:=h
section
variable {α:Type} [Rep α]
def All(lo hi:Nat)(w:World):List Value->List α->Prop
 | cs,[]=>cs=[]
 | cs,x :: r=>∃c d,cs=c++d/\Rep.rep lo hi w c x/\All lo hi w d r
theorem All.len{lo hi:Nat}{w:World}:∀{cs:List Value} {xs:List α},All lo hi w cs xs->cs.length=xs.length*Rep.sz α
 | cs,[],h=>by rw[show cs=[] from h]; simp
 | cs,x :: r,h=>by
   obtain⟨c,d,rfl,a,b⟩:=h;rw[List.length_append,Rep.len a,All.len b,List.length_cons,Nat.add_mul]; omega
theorem All.same{lo hi:Nat}{w w':World}(k:∀k,lo<=k->k<hi->k<w.heap.size->w'.heap[k]?=w.heap[k]?):∀{cs:List Value} {xs:List α},All lo hi w cs xs->All lo hi w' cs xs
 | _,[],h=>h
 | _,_ :: _,h=>by
   obtain⟨c,d,rfl,a,b⟩:=h;exact⟨c,d,rfl,Rep.same a k,All.same k b⟩
theorem All.wide{lo hi b a:Nat}{w:World}(f:b<=lo)(e:hi<=a):∀{cs:List Value} {xs:List α},All lo hi w cs xs->All b a w cs xs
 | _,[],h=>h
 | _,_ :: _,h=>by
   obtain⟨c,d,rfl,g,i⟩:=h;exact⟨c,d,rfl,Rep.wide g f e,All.wide f e i⟩
theorem All.app{lo hi:Nat}{w:World}{ds:List Value}{a:List α}(k:All lo hi w ds a):∀{cs:List Value} {xs:List α},All lo hi w cs xs->All lo hi w (cs++ds) (xs++a)
 | cs,[],h=>by rw[show cs=[] from h]; exact k
 | _,_ :: _,h=>by
   obtain⟨c,d,rfl,b,e⟩:=h;exact⟨c,d++ds,by simp,b,All.app k e⟩
theorem All.one{lo hi:Nat}{w:World}{c:List Value}{x:α}(h:Rep.rep lo hi w c x):All lo hi w c [x]:=⟨c,[],by simp,h,rfl⟩
theorem All.get{lo hi:Nat}{w:World}:∀{cs:List Value} {xs:List α} {i:Nat} (_:All lo hi w cs xs) (hi':i<xs.length),
  ∃pre c post,cs=pre++c++post/\pre.length=i*Rep.sz α/\Rep.rep lo hi w c xs[i]
 | _,x :: r,0,h,_=>by
   obtain⟨c,d,rfl,a,b⟩:=h;exact⟨[],c,d,by simp,by simp,a⟩
 | _,x :: r,i+1,h,hi'=>by
   obtain⟨c,d,rfl,a,b⟩:=h;obtain⟨pre,g,post,rfl,e,f⟩:=All.get b (i:=i) (by grind)
   grind[List.length_append,Rep.len,Nat.add_mul]
def SlR(lo hi:Nat)(w:World)(v:Value)(xs:List α):Prop :=
 ∃p cap,v=.slice p xs.length cap/\xs.length<=cap/\cap<=9223372036854775807 /\
  (xs=[]∨∃b o cs,p=some ⟨b,o,none⟩/\lo<=b/\b<hi/\At w b o cs/\All lo hi w cs xs)
theorem SlR.same{lo hi:Nat}{w w':World}{v:Value}{xs:List α}(h:SlR lo hi w v xs)(k:∀k,lo<=k->k<hi->k<w.heap.size->w'.heap[k]?=w.heap[k]?):SlR lo hi w' v xs:=by
 obtain⟨p,a,d,e,f,c⟩:=h;refine⟨p,a,d,e,f,?_⟩;rcases c with c | ⟨b,o,cs,hp,hlo,hhi,hat,hall⟩
 ·grind
 ·exact .inr ⟨b,o,cs,hp,hlo,hhi,hat.same (k b hlo hhi),hall.same k⟩
theorem SlR.wide{lo hi c a:Nat}{w:World}{v:Value}{xs:List α}(h:SlR lo hi w v xs)(i:c<=lo)(g:hi<=a):SlR c a w v xs:=by
 obtain⟨p,d,f,j,k,e⟩:=h;refine⟨p,d,f,j,k,?_⟩;rcases e with e | ⟨b,o,cs,hp,hlo,hhi,hat,hall⟩
 ·grind
 ·exact .inr ⟨b,o,cs,hp,by omega,by omega,hat,hall.wide i g⟩
instance:Rep (List α) where
 sz:=1
 pos:=Nat.one_pos
 rep lo hi w cs xs:=∃v,cs=[v]/\SlR lo hi w v xs
 len:=by grind
 same:=by rintro lo hi w w' cs x ⟨v,rfl,h⟩ k; exact⟨v,rfl,h.same k⟩
 wide:=by rintro lo hi lo' hi' w cs x ⟨v,rfl,h⟩ h1 h2; exact⟨v,rfl,h.wide h1 h2⟩
theorem Rep.up{lo hi:Nat}{w w':World}{cs:List Value}{x:α}(h:Rep.rep lo hi w cs x)(k:Ext w w'):Rep.rep lo hi w' cs x:=Rep.same h (fun i _ _ a=>k.block i a)
theorem Rep.below{lo hi B:Nat}{w w':World}{cs:List Value}{x:α}(h:Rep.rep lo hi w cs x)(k:Below B w w')(b:hi<=B):Rep.rep lo hi w' cs x:=Rep.same h (fun i _ a _=>k.block i (by omega))
theorem SlR.up{lo hi:Nat}{w w':World}{v:Value}{xs:List α}(h:SlR lo hi w v xs)(k:Ext w w'):SlR lo hi w' v xs:=h.same (fun i _ _ a=>k.block i a)
theorem SlR.below{lo hi B:Nat}{w w':World}{v:Value}{xs:List α}(h:SlR lo hi w v xs)(k:Below B w w')(b:hi<=B):SlR lo hi w' v xs:=h.same (fun i _ a _=>k.block i (by omega))
theorem SlR.len{lo hi:Nat}{w:World}{v:Value}{xs:List α}(h:SlR lo hi w v xs):∃p cap,v=.slice p xs.length cap:=by obtain⟨p,cap,a,_⟩:=h; grind
theorem SlR.le{lo hi:Nat}{w:World}{v:Value}{xs:List α}(h:SlR lo hi w v xs):xs.length<=9223372036854775807:=by obtain⟨p,a,b,d,c,_⟩:=h; omega
theorem SlR.nil{lo hi:Nat}{w:World}:SlR lo hi w (.slice none 0 0) ([]:List α):=⟨none,0,rfl,Nat.le_refl _,by omega,.inl rfl⟩
theorem SlR.get{lo hi:Nat}{w:World}{p:Option Addr}{a d:Nat}{xs:List α}(h:SlR lo hi w (.slice p a d) xs){i:Nat}(e:i<xs.length) :
  a=xs.length/\∃b o c,p=some ⟨b,o,none⟩/\lo<=b/\b<hi/\At w b (o+i*Rep.sz α) c/\Rep.rep lo hi w c xs[i]:=by
 obtain⟨s,k,f,q,r,g⟩:=h;simp only[Value.slice.injEq] at f;obtain⟨rfl,rfl,rfl⟩:=f;refine⟨rfl,?_⟩;rcases g with g | ⟨b,o,cs,hp,hlo,hhi,hat,hall⟩
 ·grind
 ·obtain⟨l,c,j,rfl,m,n⟩:=hall.get e;refine⟨b,o,c,hp,hlo,hhi,?_,n⟩;rw[<- m]; exact hat.mid
end
section
variable {P:Program} {n:Nat} {e:y9} {w:World} {Q:Exit->Act->World->Prop} {ops:Array Oper} {rest:List Oper}
 {d:Nat} {ty:TypeId} {pos:String} {after:Array Edge}
theorem OM{T E s y:Nat}{z:Value}{x ix:Operand}{b o c l k:Nat}{u:IntKind}[h:I6 P T E][i:Info P E s y z](F:ev e x=some (.slice (some ⟨b,o,none⟩) c l))(hi:ev e ix=some (.int u (k:Int)))(H:k<c) :
  D6 P n e (.indexAddr T x ix) ty w (.pointer (some ⟨b,o+k*s,none⟩)) w:=by
 intro a t v j g q;obtain⟨G,d,r,Q,V⟩:=i.get;have f:(Addr.mk b o none).add (k*s)=⟨b,o+k*s,none⟩:=by
  unfold Addr.add;split
  ·grind
  ·rfl
 have m:0<=(k:Int)/\(k:Int) < (c:Int):=oo;simp only[execOp,q.ev F,q.ev hi];simp only[Instr.indexAt,asIntOf,Sem.run_bind,run_underlying h.h,Result.andThen,Sem.run_pure,m,and_self,if_true,X3 w d,r,Int.toNat_natCast,f]
variable {α:Type} [Rep α]
theorem Gs{T T':TypeId}{x:Operand}{b i:Nat}{v:Value}{cs:List Value}[K9 P T](c:ev e x=some (.pointer (some ⟨b,i,none⟩)))(g:Blk w b cs T')(a:cs[i]?=some v)(f:Nat.blt d n=true)
  (h:VO P n ops rest ((d,v) :: e) w Q):VO P n ops (⟨some d,.load T x,ty,pos,after,none⟩ :: rest) e w Q :=
 F5 _ (Xc c (by have:=g.at i v a; simpa using this)) f h
theorem C0I{T:TypeId}{x:Operand}{ad:Addr}{v:Value}[K9 P T](b:ev e x=some (.pointer (some ad)))(a:w.cell? ad=some v)(c:Nat.blt d n=true)
 (h:VO P n ops rest ((d,v) :: e) w Q):VO P n ops (⟨some d,.load T x,ty,pos,after,none⟩ :: rest) e w Q:=F5 _ (Xc b a) c h
theorem VD{T:TypeId}{x:Operand}{b o f a:Nat}[x8 P T f a](c:ev e x=some (.pointer (some ⟨b,o,none⟩)))(g:Nat.blt d n=true)
 (h:VO P n ops rest ((d,.pointer (some ⟨b,o+a,none⟩)) :: e) w Q):VO P n ops (⟨some d,.fieldAddr T x f,ty,pos,after,none⟩ :: rest) e w Q:=F5 _ (f0O c) g h
end
def r8(cs:List Value)(o:Nat)(vs:List Value):List Value:=cs.take o++vs++cs.drop (o+vs.length)
def ones:List Value->Bool
 | []=>true
 | v :: r=>v.oneCell'&&ones r
theorem q0K:∀{vs:List Value},ones vs=true->∀v∈vs,v.oneCell'=true
 | [],_,_,h=>by cases h
 | u :: r,h,v,hv=>by
   simp only[ones,ba] at h;rcases List.mem_cons.1 hv with rfl | hv
   ·grind
   ·exact q0K h.2 v hv
theorem Fz(w:World)(g k:Nat)(cs:Array Value)(h:k≠g):(w.setRow g cs).heap[k]?=w.heap[k]?:=by
 grind[World.setRow]
theorem KG(w:World)(g:Nat)(cs:Array Value):Wr g w (w.setRow g cs) :=
 ⟨rfl,rfl,rfl,by simp_all,fun k a=>Fz w g k cs a⟩
def Z3:List Value->Nat->Bool
 | [],0=>true
 | _ :: r,k+1=>Z3 r k
 | _,_=>false
theorem Q6:∀{vs:List Value} {k:Nat},Z3 vs k=true->vs.length=k
 | [],0,_=>rfl
 | _ :: r,k+1,h=>by simp[Q6 (vs:=r) (k:=k) h]
 | [],_+1,h=>by cases h
 | _ :: _,0,h=>by cases h
section
variable {P:Program} {n:Nat} {e:y9} {w:World} {Q:Exit->Act->World->Prop} {ops:Array Oper} {rest:List Oper}
 {d:Nat} {ty:TypeId} {pos:String} {after:Array Edge}
theorem GQ{T T' s y:Nat}{z:Value}{b o:Nat}{cs vs:List Value}{v:Value}[i:Info P T s y z](e:v.cells.toList=vs)(j:vs.length=s)(f:ones vs=true)(l:Blk w b cs T')(h:o+vs.length<=cs.length) :
  (storeVar T ⟨b,o,none⟩ v).run P w=.ok () (w.setRow b (r8 cs o vs).toArray):=by
 obtain⟨c,a,k,m,n⟩:=i.get;have d:v.cells.size=c.size:=by rw[k,<- j,<- e]; simp
 have g:=run_storeCells_at (P:=P) b o T' vs 0 cs.toArray w l (by simpa using h) (q0K f);unfold storeVar;simp only[Sem.run_bind,X3 w a,Result.andThen,d,ne_eq,not_true_eq_false,if_false,e]
 grind[r8]
theorem x0t{T T' s y:Nat}{z:Value}{x v:Operand}{b o:Nat}{cs vs:List Value}{u:Value}[Info P T s y z](m:ev e x=some (.pointer (some ⟨b,o,none⟩)))(j:ev e v=some u)(h:Blk w b cs T')(t:u.cells.toList=vs)
  (r:Z3 vs s=true) (i:ones vs=true) (q:Nat.ble (o+s) cs.length=true)
  (k:∀w',Wr b w w'->Blk w' b (r8 cs o vs) T'->VO P n ops rest e w' Q) :
  VO P n ops (⟨none,.store T x v,ty,pos,after,none⟩ :: rest) e w Q:=by
 have c:=Q6 r;have d:o+vs.length<=cs.length:=by rw[c]; exact Nat.le_of_ble_eq_true q
 refine RW (w':=w.setRow b (r8 cs o vs).toArray) ?_ (k _ (KG _ _ _) ?_)
 ·intro a l pos after g f;simp only[execOp,f.ev m,f.ev j];simp[Instr.storeAt,Instr.sureAddr,GQ t c i h d,Result.andThen]
 ·exact setRow_heap w b cs.toArray _ T' (0,0) h
def BY(place:List (Nat×Nat)):List Value->List (Nat×Value)->Option (List Value)
 | cs,[]=>some cs
 | cs,(i,v) :: r=>match place[i]? with
   | none=>none
   | some p=>bif Z3 v.cells.toList p.2&&Nat.ble (p.1+p.2) cs.length then BY place (r8 cs p.1 v.cells.toList) r else none
theorem x0V(v:Value)(r cs:List Value)(o:Nat)(h:o+(r.length+1)<=cs.length):r8 cs o (v :: r)=r8 (cs.set o v) (o+1) r:=by
 obtain⟨A,C,a,rfl⟩:∃A C:List Value,A.length=o/\cs=A++C:=⟨cs.take o,cs.drop o,by grind,by simp⟩;subst a;cases C with
 | nil=>grind
 | cons x C =>
   simp only[r8,List.length_cons,List.set_append_right _ _ (Nat.le_refl _),Nat.sub_self,List.set_cons_zero];have e:List.take A.length (A++x :: C)=A:=by simp
   have c:List.take (A.length+1) (A++v :: C)=A++[v]:=by
    rw[List.take_append,List.take_of_length_le (by omega)]; simp
   have b:List.drop (A.length+(r.length+1)) (A++x :: C)=List.drop r.length C:=by
    rw[List.drop_append,List.drop_eq_nil_of_le (by omega)]; simp
   have d:List.drop (A.length+1+r.length) (A++v :: C)=List.drop r.length C:=by
    rw[show A.length+1+r.length=A.length+(r.length+1) by omega,List.drop_append,List.drop_eq_nil_of_le (by omega)]; simp
   rw[e,c,b,d]; simp
theorem n0Q(a:Nat):∀(vs:List Value) (j:Nat) (cs:Array Value),a+j+vs.length<=cs.size ->
  ((vs.zipIdx j).foldl (fun cs (c,j)=>cs.setIfInBounds (a+j) c) cs).toList=r8 cs.toList (a+j) vs
 | [],j,cs,h=>by simp[r8]
 | v :: r,j,cs,h=>by
   simp only[List.zipIdx_cons,List.foldl_cons];rw[n0Q a r (j+1) _ (by grind),x0V v r _ _ (by omega)]
   grind
theorem ON(place:List (Nat×Nat)):∀(parts:List (Nat×Value)) (cs ds:List Value),BY place cs parts=some ds->Instr.fill (fun i=>place[i]?) cs.toArray parts=some ds.toArray
 | [],cs,ds,h=>by simp only[BY,oi] at h; subst h; rfl
 | (i,v) :: r,cs,ds,h=>by
   unfold BY at h;split at h
   ·cases h
   ·rename_i p d;cases hb:(Z3 v.cells.toList p.2&&Nat.ble (p.1+p.2) cs.length) with
    | false=>grind
    | true =>
      rw[hb] at h;simp only[cond_true] at h;simp only[ba] at hb;have c:=Q6 hb.1;have b:=Nat.le_of_ble_eq_true hb.2;have a:v.cells.size=p.2:=by rw[<- c]; simp
      have f:=ON place r _ _ h;unfold Instr.fill;simp only[d];rw[if_neg (by simp[a,b])];have e:=n0Q p.1 v.cells.toList 0 cs.toArray (by simp[a,b]);have g:Array.foldl (fun cs (x:Value×Nat)=>cs.setIfInBounds (p.1+x.2) x.1) cs.toArray v.cells.zipIdx=(r8 cs p.1 v.cells.toList).toArray:=by
       rw[<- Array.foldl_toList];apply Array.ext';simpa using e
      exact(congrArg (fun q=>Instr.fill (fun i=>place[i]?) q r) g).trans f
def KH(P:Program)(T:TypeId):Option (List (Nat×Nat)):=match P.underlying T with
 | some (.struct fs)=>some (fs.toList.map fun f=>(f.offset,match P.info? f.type with | some i=>i.size | none=>0))
 | _=>none
def OO(P:Program)(T:TypeId):Bool:=match P.underlying T with
 | some (.struct fs)=>fs.toList.all fun f=>(P.info? f.type).isSome
 | _=>false
class r0S(P:Program)(T:TypeId)(pl:outParam (List (Nat×Nat))):Prop where
 h:KH P T=some pl
 ok:OO P T=true
def evp(e:y9):List (Nat×Operand)->Option (List (Nat×Value))
 | []=>some []
 | (i,x) :: r=>match ev e x,evp e r with | some v,some vs=>some ((i,v) :: vs) | _,_=>none
theorem Agree.evp{a:Act}(h:Agree n e a):∀{xs:List (Nat×Operand)} {vs:List (Nat×Value)},evp e xs=some vs->xs.map (fun(i,x)=>(i,a.eval x))=vs
 | [],vs,hx=>by grind[Sv.evp]
 | (i,x) :: r,vs,hx=>by
   unfold Sv.evp at hx;split at hx
   ·rename_i v d c b;simp at hx; subst hx;simp[h.ev c,Agree.evp h b]
   grind
theorem n0a(w:World):∀(fs:List Field),(fs.all fun f=>(P.info? f.type).isSome)=true ->
  (fs.mapM (fun f=>do Pure.pure (f.offset,<- sizeOf f.type):Field->Sem (Nat×Nat))).run P w=.ok (fs.map fun f=>(f.offset,match P.info? f.type with | some i=>i.size | none=>0)) w
 | [],_=>rfl
 | f :: r,h=>by
   simp only[List.all_cons,ba,Option.isSome_iff_exists] at h;obtain⟨⟨i,hi⟩,a⟩:=h;rw[List.mapM_cons];simp only[Sem.run_bind,X3 w hi,Result.andThen,Sem.run_pure,n0a w r a,List.map_cons,hi]
theorem s0o{T s y:Nat}{z:Value}{pl:List (Nat×Nat)}{b:List (Nat×Operand)}{vs:List (Nat×Value)}{cs:List Value}[i:Info P T s y z][p:r0S P T pl](u:evp e b=some vs)(F:BY pl z.cells.toList vs=some cs) :
  D6 P n e (.build T b.toArray) ty w (.agg cs.toArray) w:=by
 intro a G Q k g E;obtain⟨V,c,W,X,v⟩:=i.get;have j:=p.h;have m:=p.ok;unfold KH at j;unfold OO at m;split at j
 ·rename_i o d;rw[d] at m;simp only[oi] at j;have r:=n0a (P:=P) w o.toList m;rw[j] at r;have q:=ON pl vs z.cells.toList cs F;have H:b.toArray.map (fun(i,x)=>(i,a.eval x))=vs.toArray:=by rw[<- Agree.evp E u]; simp
  have l:(o.mapM (fun f=>do Pure.pure (f.offset,<- sizeOf f.type):Field->Sem (Nat×Nat))).run P w=.ok pl.toArray w:=by
   rw[Array.mapM_eq_mapM_toList];show(Functor.map List.toArray (List.mapM _ o.toList):Sem _).run P w=_;rw[map_eq_pure_bind,Sem.run_bind,r];rfl
  have t:(fun i:Nat=>pl.toArray[i]?)=(fun i:Nat=>pl[i]?):=by funext i; simp
  simp only[execOp,H];simp only[Instr.build,Sem.run_bind,II w c v,Result.andThen,run_underlying d,l,t]
  simp_all
 grind
class Ia(P:Program)(T:TypeId):Prop where h:P.underlying T=some .bool
theorem n0W(c:Nat){T:TypeId}{a b:Bool}[h:Ia P T]:(Op.equalIn (c+1) T (.bool a) (.bool b)).run P w=.ok (a==b) w:=by simp[Op.equalIn,run_underlying h.h]
theorem y0h{T T':TypeId}{x y:Operand}{a b:Bool}[h:Ia P T](j:ev e x=some (.bool a))(k:ev e y=some (.bool b)):D6 P n e (.binOp .eql T x y T') ty w (.bool (a==b)) w:=by
 intro m f i c g d;have l:(Op.equal T (.bool a) (.bool b)).run P w=.ok (a==b) w:=n0W 9999;simp only[execOp,d.ev j,d.ev k];simp[eqGuard,binOp,l,Result.andThen]
theorem y0f{T T':TypeId}{x y:Operand}{a b:Bool}[h:Ia P T](j:ev e x=some (.bool a))(k:ev e y=some (.bool b)):D6 P n e (.binOp .neq T x y T') ty w (.bool (!(a==b))) w:=by
 intro m f i c g d;have l:(Op.equal T (.bool a) (.bool b)).run P w=.ok (a==b) w:=n0W 9999;simp only[execOp,d.ev j,d.ev k];simp[eqGuard,binOp,l,Result.andThen]
theorem Bf{T T' s y b:Nat}{z:Value}{x:Operand}{cs:List Value}[M5 P T][Info P T s y z](c:ev e x=some (.pointer (some ⟨b,0,none⟩)))(g:Blk w b cs T')(a:Z3 cs s=true)(f:Nat.blt d n=true)
 (h:VO P n ops rest ((d,.agg cs.toArray) :: e) w Q):VO P n ops (⟨some d,.load T x,ty,pos,after,none⟩ :: rest) e w Q:=F5 _ (CI c (Q6 a) g.at) f h
theorem m0r{T s y b o:Nat}{z:Value}{x:Operand}{cs:List Value}[M5 P T][Info P T s y z](f:ev e x=some (.pointer (some ⟨b,o,none⟩)))(a:At w b o cs)(c:Z3 cs s=true)(g:Nat.blt d n=true)
 (h:VO P n ops rest ((d,.agg cs.toArray) :: e) w Q):VO P n ops (⟨some d,.load T x,ty,pos,after,none⟩ :: rest) e w Q:=F5 _ (CI f (Q6 c) a) g h
def FA(s:Nat):Nat->Nat->List (Nat×Nat)
 | 0,_=>[]
 | k+1,i=>(i*s,s) :: FA s k (i+1)
theorem j0d(s:Nat):∀(k i j:Nat),j<k->(FA s k i)[j]?=some ((i+j)*s,s)
 | 0,_,_,h=>by omega
 | k+1,i,0,_=>by simp[FA]
 | k+1,i,j+1,h=>by
   rw[FA,List.getElem?_cons_succ,j0d s k (i+1) j (by omega)];congr 2; rw[show i+1+j=i+(j+1) by omega]
theorem Sc(f g:Nat->Option (Nat×Nat)):∀(parts:List (Nat×Value)) (cs ds:Array Value),(∀i p,f i=some p->g i=some p)->Instr.fill f cs parts=some ds->Instr.fill g cs parts=some ds
 | [],_,_,_,h=>h
 | (i,v) :: r,cs,ds,hfg,h=>by
   unfold Instr.fill at h ⊢;cases hf:f i with
   | none=>grind
   | some p =>
     rw[hf] at h;rw[hfg i p hf];obtain⟨c,a⟩:=p;simp only at h ⊢;split at h
     ·cases h
     ·rename_i b; rw[if_neg b]; exact Sc f g r _ _ hfg h
def J1:Nat->List Value->List Value
 | 0,_=>[]
 | k+1,z=>z++J1 k z
theorem q0B(z:Value):∀k,J1 k [z]=List.replicate k z
 | 0=>rfl
 | k+1=>by rw[J1,q0B z k]; rfl
theorem t0t(z:Value)(k:Nat):(Array.range k).map (fun i=>#[z][i % #[z].size]!)=(J1 k [z]).toArray:=by
 rw[q0B];apply Array.ext';simp only[Array.toList_map,Array.toList_range];apply List.ext_getElem?;intro j;by_cases a:j<k
 ·simp[a,Nat.mod_one]
 ·simp[a]
theorem l0w{T E y c:Nat}{z:Value}{f:List (Nat×Operand)}{vs:List (Nat×Value)}{cs:List Value}[hT:I6 P T E][i:Info P E 1 y z](hz:z.cells=#[z])(v:evp e f=some vs)(hl:Nat.ble c 16777216=true)
  (X:BY (FA 1 c 0) (J1 c [z]) vs=some cs) (W:Nat.blt d n=true)
  (k:∀b w',OL w b w'->Blk w' b cs E->VO P n ops rest ((d,.slice (some ⟨b,0,none⟩) c c) :: e) w' Q) :
  VO P n ops (⟨some d,.buildSlice T c f.toArray,ty,pos,after,none⟩ :: rest) e w Q:=by
 obtain⟨aA,l,V,h3,F⟩:=i.get;refine F5 (.slice (some ⟨w.heap.size,0,none⟩) c c) (w':=w.alloc (.cells cs.toArray E)) ?_ W (k _ _ (IJ _ _) (by simpa using IK w cs.toArray E));intro a Y pos after g G;have H:=Nat.le_of_ble_eq_true hl;have e1:f.toArray.map (fun(i,x)=>(i,a.eval x))=vs.toArray:=by rw[<- Agree.evp G v]; simp
 have q:=ON (FA 1 c 0) vs (J1 c [z]) cs X;have m:=Sc (fun i:Nat=>(FA 1 c 0)[i]?) (fun i:Nat=>some (i*1,1)) vs _ _ (fun i p t=>by
  by_cases hi:i<c
  ·rw[j0d 1 c 0 i hi] at t; simpa using t
  ·rw[List.getElem?_eq_none (by
    have:∀k j,(FA 1 k j).length=k:=fun k=>by induction k with
     | zero=>intro j; rfl
     | succ k ih=>intro j; simp[FA,ih]
    rw[this]; omega)] at t
   cases t) q
 have s:¬c > 2 ^ 24:=by omega
 have o:Instr.fill (fun i=>some (i,1)) (J1 c [z]).toArray vs=some cs.toArray:=by simpa using m
 have r:∀w:World,(newRow E cs.toArray).run P w=.ok ⟨w.heap.size,0,none⟩ (w.alloc (.cells cs.toArray E)):=fun _=>rfl;simp only[execOp,e1];simp only[Instr.buildSlice,Sem.run_bind,run_underlying hT.h,Result.andThen,X3 w l,V,Nat.mul_one,s,if_false];by_cases u:c=0
 ·subst u;have e2:Array.map (fun x=>(#[]:Array Value)[x % (#[]:Array Value).size]!) (Array.range 0)=(J1 0 [z]).toArray:=by simp[J1]
  simp_all
 ·simp only[u,if_false,Sem.run_bind,Sem.run_pure,Result.andThen,II w l F,hz,t0t z c,o,r]
def H9(s:ByteArray)(k:Nat):Int:=((s.data.toList.getD k 0).toNat:Int)
theorem w0D(s:ByteArray)(k:Nat):0<=H9 s k:=by grind[H9]
theorem w0E(s:ByteArray)(k:Nat):H9 s k<=255:=by unfold H9; have:=(s.data.toList.getD k 0).toNat_lt; omega
theorem s0m{T:TypeId}{x ix:Operand}{s:ByteArray}{k:Nat}{j:IntKind}[h:JY P T](o:ev e x=some (.string s))(hi:ev e ix=some (.int j (k:Int)))(d:k<s.size) :
  D6 P n e (.index T x ix) ty w (.int .u8 (H9 s k)) w:=by
 intro a i m b g c;have l:0<=(k:Int):=by omega
 have f:s[k]?=some s[k]:=by simp[d]
 simp only[execOp,c.ev o,c.ev hi];simp only[Instr.index,asIntOf,Sem.run_bind,Sem.run_pure,Result.andThen,run_underlying h.h,l,if_true,Int.toNat_natCast,f];congr 3;have q:k<s.data.toList.length:=by simpa using d
 have:s[k]=s.data.toList[k]:=rfl
 grind[H9,List.getElem?_eq_getElem]
theorem k0O(w:World)(ad:Addr):(asAddr (.pointer (some ad))).run P w=.ok ad w:=rfl
theorem r0q{f:Func}{R:Ending->World->Prop}{t T T' s y b:Nat}{z:Value}{cs:List Value}[M5 P T][Info P T s y z](i:f.results=#[.cell t T])(k:lk e t=some (.pointer (some ⟨b,0,none⟩)))(l:Blk w b cs T')(j:Z3 cs s=true)
  (h:R (.returned (.agg cs.toArray)) w):J0 n .ret e w (bodyPost P f R):=by
 intro a c;refine⟨c.1,.agg cs.toArray,?_,h⟩;have g:=RZ (P:=P) (T:=T) (Q6 j) l.at;have d:=c.2.2 _ _ k;simp only[Array.getD_eq_getD_getElem?] at d;simp[results,i,d,k0O,g,Result.andThen]
theorem n0T{g:Func}{R:Ending->World->Prop}{t t1 T T' s y b:Nat}{z v1:Value}{cs:List Value}[M5 P T][Info P T s y z](k:g.results=#[.cell t T,.tmp t1])(m:lk e t=some (.pointer (some ⟨b,0,none⟩)))(o:Blk w b cs T')(l:Z3 cs s=true)
  (d:lk e t1=some v1) (h:R (.returned (.tuple #[.agg cs.toArray,v1])) w):J0 n .ret e w (bodyPost P g R):=by
 intro a c;refine⟨c.1,.tuple #[.agg cs.toArray,v1],?_,h⟩;have j:=RZ (P:=P) (T:=T) (Q6 l) o.at;have f:=c.2.2 _ _ m;have i:=c.2.2 _ _ d;simp only[Array.getD_eq_getD_getElem?] at f i;simp[results,k,f,i,k0O,j,Result.andThen]
end
class KI(P:Program)(T:TypeId)(α:Type)[Rep α]:Prop where
 op:∀{H:Type} {enc:TypeId×Value->H} {w:World} {sp:Nat->Bool} {hl:Bool} {fuel:Nat} {cs:List Value} {x:DataW H×List MemPlace},
  DataW.trod enc P w 0 sp hl fuel T cs=some x->∃y:α,Rep.rep 0 w.heap.size w cs y
class Re(P:Program)(T:TypeId):Prop where h:P.underlying T=some (.int .i64)
class NU(P:Program)(T:TypeId):Prop where h:P.underlying T=some (.int .u8)
instance:Rep UInt8 where
 sz:=1
 pos:=Nat.one_pos
 rep _ _ _ cs x:=cs=[.int .u8 (x.toNat:Int)]
 len h:=by grind
 same h _:=h
 wide h _ _:=h
instance {P:Program}{T:TypeId}[hT:Re P T]:KI P T Int where
 op:=by
  intro H enc w sp hl fuel cs x h;obtain⟨n,rfl,_,hw⟩:=DataW.trod_int hT.h h;refine⟨n,rfl,?_⟩;simp only[Lit.wf,ba,dq] at hw;have h1:IntKind.i64.min = -9223372036854775808:=rfl;have h2:IntKind.i64.max=9223372036854775807:=rfl;rw[h1,h2] at hw;exact hw
instance {P:Program}{T:TypeId}[hT:NU P T]:KI P T UInt8 where
 op:=by
  intro H enc w sp hl fuel cs x h;obtain⟨n,rfl,_,hw⟩:=DataW.trod_int hT.h h;simp only[Lit.wf,ba,dq] at hw;have h1:IntKind.u8.min=0:=rfl;have h2:IntKind.u8.max=255:=rfl;rw[h1,h2] at hw;refine⟨UInt8.ofNat n.toNat,?_⟩;show [Value.int .u8 n]=[Value.int .u8 _];have:(UInt8.ofNat n.toNat).toNat=n.toNat:=by simp; omega
  grind
instance {P:Program}{T:TypeId}[hT:Ia P T]:KI P T Bool where
 op:=by
  intro H enc w sp hl fuel cs x h;obtain⟨b,rfl,_⟩:=DataW.trod_bool hT.h h;exact⟨b,rfl⟩
instance {P:Program}{T:TypeId}[hT:JY P T]:KI P T ByteArray where
 op:=by
  intro H enc w sp hl fuel cs x h;obtain⟨s,rfl,_,hs⟩:=DataW.trod_string hT.h h;exact⟨s,rfl,by grind[maxLen]⟩
theorem KJ{w:World}{c:Nat}{a:Addr}{n:Nat}{cs:List Value}(g:0<n)(h:w.cells? c a n=some cs):a=⟨a.block,a.off,none⟩/\cs.length=n/\At w a.block a.off cs:=by
 obtain⟨_,f,j⟩:=World.cells?_some h;obtain⟨b,o,sp⟩:=a;have d:sp=none:=by
  have e:=j 0 g;have k:(Addr.mk b o sp).add 0=⟨b,o,sp⟩:=by simp[Addr.add]
  rw[k,List.getElem?_eq_getElem (by omega)] at e;cases sp with
  | none=>rfl
  | some q =>
    grind[World.cell?]
 subst d;refine⟨rfl,f,fun i u l=>?_⟩
 grind[Nat.lt_or_ge,List.getElem?_eq_none,Addr.add]
theorem At.app{w:World}{b o:Nat}{cs ds:List Value}(h:At w b o cs)(k:At w b (o+cs.length) ds):At w b o (cs++ds):=by
 intro i u a;rcases Nat.lt_or_ge i cs.length with hi | hi
 ·rw[List.getElem?_append_left hi] at a; exact h i u a
 ·rw[List.getElem?_append_right hi] at a;have:=k (i-cs.length) u a
  grind
theorem Sd{w:World}{b o:Nat}:At w b o []:=fun i u a=>by grind
instance {P:Program}{T E:TypeId}{α:Type}[Rep α][hT:I6 P T E][hE:KI P E α]:KI P T (List α) where
 op:=by
  intro H enc w sp hl fuel cs x h;rcases DataW.trod_slice hT.h h with ⟨rfl,_⟩ | ⟨a,len,cap,elems,rest,n,rfl,rfl,_,_,hlc,hcm,hel,hat,_,_⟩
  ·exact⟨[],_,rfl,SlR.nil⟩
  ·have hcap:cap<=9223372036854775807:=by unfold maxLen at hcm; omega
   -- each element's cells and what they read as
   have each:∀i,i<len->∃c:List Value,w.cells? 0 (a.add (i*P.cellsOf E)) (P.cellsOf E)=some c/\∃y:α,Rep.rep 0 w.heap.size w c y:=by
    intro i hi;have hi':=hat i hi;rw[List.getElem?_eq_getElem (by omega)] at hi';cases hc:w.cells? 0 (a.add (i*P.cellsOf E)) (P.cellsOf E) with
    | none=>rw[hc] at hi'; cases hi'
    | some c =>
      rw[hc] at hi';simp only[Option.bind_some] at hi';exact⟨c,rfl,hE.op hi'⟩
   by_cases h0:len=0
   ·subst h0;exact⟨[],_,rfl,some a,cap,rfl,Nat.zero_le _,hcap,.inl rfl⟩
   ·have hs:P.cellsOf E=Rep.sz α:=by
     obtain⟨c,hc,y,hy⟩:=each 0 (by omega);have:=(World.cells?_some hc).2.1;rw[<- this]; exact Rep.len hy
    have hsp:0<P.cellsOf E:=by rw[hs]; exact Rep.pos
    obtain⟨b,o,rfl⟩:∃b o,a=⟨b,o,none⟩:=by
     obtain⟨c,hc,_⟩:=each 0 (by omega);have e0:a.add (0*P.cellsOf E)=a:=by simp[Addr.add]
     rw[e0] at hc;exact⟨a.block,a.off,(KJ hsp hc).1⟩
    have hb:b<w.heap.size:=by
     obtain⟨c,hc,_⟩:=each 0 (by omega);have e0:(Addr.mk b o none).add (0*P.cellsOf E)=⟨b,o,none⟩:=by simp[Addr.add]
     rw[e0] at hc;have h1:=KJ hsp hc;exact h1.2.2.lt (by rw[h1.2.1]; exact hsp)
    have build:∀k,k<=len->∃(cs:List Value) (xs:List α),xs.length=k/\At w b o cs/\All 0 w.heap.size w cs xs:=by
     intro k
     induction k with
     | zero=>exact fun _=>⟨[],[],rfl,Sd,rfl⟩
     | succ k ih =>
       intro hk;obtain⟨cs,xs,h1,h2,h3⟩:=ih (by omega);obtain⟨c,hc,y,hy⟩:=each k (by omega);have hadd:(Addr.mk b o none).add (k*P.cellsOf E)=⟨b,o+k*P.cellsOf E,none⟩:=by
        unfold Addr.add;split
        ·rename_i h0; rw[h0]; rfl
        ·rfl
       rw[hadd] at hc;have h4:=(KJ hsp hc).2.2;refine⟨cs++c,xs++[y],by simp[h1],h2.app ?_,All.app (All.one hy) h3⟩;have:cs.length=k*P.cellsOf E:=by rw[h3.len,h1,hs]
       rw[this]; exact h4
    obtain⟨cs,xs,h1,h2,h3⟩:=build len (Nat.le_refl _);subst h1;exact⟨xs,_,rfl,some ⟨b,o,none⟩,cap,rfl,hlc,hcap,.inr ⟨b,o,cs,rfl,Nat.zero_le _,hb,h2,h3⟩⟩
theorem n0m{P:Program}{T:TypeId}{H:Type}{enc:TypeId×Value->H}{w:World}{sp:Nat->Bool}{b:Bool}{a:Nat}{cs:List Value}{x:DataW H×List MemPlace}{c:Array Field}
  (d:P.underlying T=some (.struct c)) (h:DataW.trod enc P w 0 sp b a T cs=some x) :
  cs.length=P.cellsOf T/\∀(i:Nat) (f:Field),c[i]?=some f->∃n y,DataW.trod enc P w 0 sp b n f.type ((cs.drop f.offset).take (P.cellsOf f.type))=some y:=by
 obtain⟨k,n,_,_,e,g,j⟩:=DataW.trod_struct d h
 grind
theorem g0s{H:Type}{enc:TypeId×Value->H}{P:Program}(g:laidOutB P=true){W i:World}(e:Below W.heap.size W i) :
  ∀{ts:List TypeId} {vs:List Value} {ds:List (DataW H)} {ps:List MemPlace},(ts.all fun t=>P.readableRec t&&decide (t<P.types.size))=true ->
   DataW.TrodAll enc P W 0 (fun _=>true) true ts vs ds ps->DataW.TrodAll enc P i 0 (fun b=>decide (b<W.heap.size)) true ts vs ds ps
 | [],[],[],_,_,h=>h
 | t :: ts,v :: vs,d :: ds,ps,hr,h=>by
   obtain⟨p,q,c,j,rfl⟩:=h;simp only[List.all_cons,ba,dq] at hr;have a:∀x∈p,x.block<W.heap.size:=by
    obtain⟨f,k⟩:=c;exact DataW.trod_lt f t _ _ k
   exact⟨p,q,Below.trod g hr.1.1 hr.1.2 c e a,g0s g e (by grind) j,rfl⟩
 | [],[],_ :: _,_,_,h=>h.elim
 | [],_ :: _,_,_,_,h=>h.elim
 | _ :: _,[],_,_,_,h=>h.elim
 | _ :: _,_ :: _,[],_,_,h=>h.elim
def VH(P:Program)(n:Nat)(ops:Array Oper)(w0:World)(fuel:Nat)(listed:Array Bool)(e:y9)(w:World)(Q:Exit->Act->World->Prop):Prop :=
 Ext w0 w/\∀a,Agree n e a->wpAnyH P .any ops (NoPanic Q) (Ext w0) fuel listed a w
def BZ:List Oper->Nat->Option Oper
 | [],_=>none
 | o :: _,0=>some o
 | _ :: r,i+1=>BZ r i
theorem v0m:∀(l:List Oper) (i:Nat),BZ l i=l[i]?
 | [],_=>by simp[BZ]
 | _ :: _,0=>by simp[BZ]
 | _ :: r,i+1=>by simp[BZ,v0m r i]
theorem OP{l:List Oper}{i:Nat}{o:Oper}(h:BZ l i=some o):l.toArray[i]?=some o:=by grind[v0m]
section
variable {P:Program} {n:Nat} {e:y9} {w w0:World} {Q:Exit->Act->World->Prop} {l:List Oper} {fuel:Nat} {listed:Array Bool}
 {d:Nat} {op:Op} {ty:TypeId} {pos:String} {after:Array Edge}
theorem Rh{id:Nat}[b:M4 P](h:∀w',Ext w w'->VH P n l.toArray w' l.length (Array.replicate l.length false) e w' Q):VS P n (.region id l.toArray true) e w Q:=by
 intro a c;refine wp_region_noPanic (wp_region_held (S:=Ext w.drew) b.h ?_);have:=(h w.drew ((Below.refl _ _).drew)).2 a c
 simp_all
theorem r4(i:Nat){v:Value}(hi:BZ l i=some ⟨some d,op,ty,pos,after,none⟩)(g:∀w',Ext w0 w'->D6 P n e op ty w' v w')(k:Nat.blt d n=true)
  (f:Region.noSelect l.toArray=true) (o:Region.free .any l.toArray listed i=true) (j:(Region.ready .any l.toArray listed).contains i=true)
  (h:VH P n l.toArray w0 fuel (listed.setIfInBounds i true) ((d,v) :: e) w Q):VH P n l.toArray w0 (fuel+1) listed e w Q:=by
 refine⟨h.1,fun a c=>wpAnyH_take (v:=v) (OP hi) f o j (fun _ _ _ m=>m) (.inl ⟨by simp[Region.wanted],fun w' b=>g w' b a _ _ _ _ c⟩) h.1 (h.2 _ (c.put d k v))⟩
theorem C0L(i:Nat){v:Value}(hi:BZ l i=some ⟨some d,op,ty,pos,after,none⟩)(f:Region.ready .any l.toArray listed=[i])(c:D6 P n e op ty w v w)(g:Nat.blt d n=true)
  (h:VH P n l.toArray w0 fuel (listed.setIfInBounds i true) ((d,v) :: e) w Q):VH P n l.toArray w0 (fuel+1) listed e w Q:=by
 refine⟨h.1,fun a b=>wpAnyH_all f (by simp) fun j k=>?_⟩;obtain rfl:j=i:=by grind
 unfold wpOp;simp only[OP hi,Region.wanted,if_true,Oper.wp];rw[c a _ _ _ _ b];exact .inl ⟨h.1,h.2 _ (b.put d g v)⟩
theorem Y3(b:Region.ready .any l.toArray listed=[])(h:J0 n .normal e w Q)(d:Ext w0 w):VH P n l.toArray w0 fuel listed e w Q :=
 ⟨d,fun a c=>wpAnyH_done b (NoPanic.normal (h a c)) fuel⟩
end
section
variable {P:Program} {n:Nat} {e:y9} {w:World} {Q:Exit->Act->World->Prop} {ops:Array Oper} {rest:List Oper}
 {d:Nat} {ty:TypeId} {pos:String} {after:Array Edge}
theorem u0x{a b:Int}(f:R9 a)(c:0<b) : -9223372036854775808<=a.tdiv b/\a.tdiv b<=9223372036854775807:=by
 unfold R9 at f;rcases Int.le_total 0 a with d | d
 ·have e:=Int.tdiv_nonneg d (Int.le_of_lt c);have h:(a.tdiv b).natAbs=a.natAbs / b.natAbs:=Int.natAbs_tdiv a b;have g:=Nat.div_le_self a.natAbs b.natAbs;omega
 ·have e:=Int.tdiv_nonneg (show 0 <= -a by omega) (Int.le_of_lt c);rw[Int.neg_tdiv] at e;have h:(a.tdiv b).natAbs=a.natAbs / b.natAbs:=Int.natAbs_tdiv a b;have g:=Nat.div_le_self a.natAbs b.natAbs;omega
theorem q0x{T T':TypeId}{x y:Operand}{a b:Int}(l:ev e x=some (.int .i64 a))(m:ev e y=some (.int .i64 b))(d:R9 a)(h:0<b) :
  D6 P n e (.binOp .quo T x y T') ty w (.int .i64 (a.tdiv b)) w:=by
 intro o i k c g f;have j:¬b=0:=by omega
 simp only[execOp,f.ev l,f.ev m];simp[eqGuard,binOp,Op.intDiv,j,IntWalk.i64_in _ (u0x d h)]
theorem Rf{T T':TypeId}{x y:Operand}{a b:Int}(j:ev e x=some (.int .i64 a))(k:ev e y=some (.int .i64 b))(f:b≠0) :
  D6 P n e (.binOp .rem T x y T') ty w (.int .i64 (a.tmod b)) w:=by
 intro l h i c g d;simp only[execOp,d.ev j,d.ev k];simp[eqGuard,binOp,Op.intDiv,f]
theorem y0e{T:TypeId}{x:Operand}{a:Int}(i:ev e x=some (.int .i64 a))(c : -9223372036854775808 <= -a /\ -a<=9223372036854775807) :
  D6 P n e (.unOp .neg T x) ty w (.int .i64 (-a)) w:=by
 intro j d h b g f;simp only[execOp,f.ev i];simp[Op.unary,Op.intArith,IntWalk.i64_in _ c]
theorem o0S{T T':TypeId}{x:Operand}{k:IntKind}{a:Int}[f:NU P T'][hi:Re P T](j:ev e x=some (.int k a)) :
  D6 P n e (.convert T T' x) ty w (.int .u8 (a % 256)) w:=by
 intro l c i b g d;simp only[execOp,d.ev j];simp[convert,run_underlying f.h,run_underlying hi.h,Conv.intToInt,IntKind.wrap_u8,Result.andThen]
theorem k0M{T T' E:TypeId}{x:Operand}{b o a m:Nat}{ms:List Int}[f:I6 P T E][j:NU P E][q:JY P T'](t:ev e x=some (.slice (some ⟨b,o,none⟩) m a))(r:ms.length=m)(d:At w b o (ms.map (Value.int .u8))) :
  D6 P n e (.convert T T' x) ty w (.string (strOfNums ms)) w:=by
 intro u k s c g l;have h:=run_convert_bytes_arg (P:=P) w T E f.h j.h b o m a ms r (fun i hi=>d i _ (by grind)) T' q.h;simp only[execOp,l.ev t]
 simp_all
theorem q0C(z:List Value):∀k,(J1 k z).length=k*z.length
 | 0=>by simp[J1]
 | k+1=>by rw[J1,List.length_append,q0C z k,Nat.add_mul]; omega
theorem q0D(z:List Value):∀(k j:Nat),j<k*z.length->(J1 k z)[j]?=z[j % z.length]?
 | 0,j,h=>by omega
 | k+1,j,h=>by
   have b:j<k*z.length+z.length:=by rwa [Nat.add_mul,Nat.one_mul] at h
   rw[J1];rcases Nat.lt_or_ge j z.length with a | a
   ·rw[List.getElem?_append_left a,Nat.mod_eq_of_lt a]
   ·rw[List.getElem?_append_right a,q0D z k (j-z.length) (by omega)]
    grind[Nat.mod_eq_sub_mod]
theorem j0Z(z:Array Value)(k:Nat)(hz:0<z.size):madeCells z (k*z.size)=(J1 k z.toList).toArray:=by
 apply Array.ext';apply List.ext_getElem?;intro j;unfold madeCells;by_cases b:j<k*z.size
 ·have a:j % z.size<z.size:=Nat.mod_lt _ hz;rw[show(J1 k z.toList).toArray.toList=J1 k z.toList by simp,q0D z.toList k j (by omega)]
  grind
 grind[List.getElem?_eq_none,q0C]
theorem m0Z{T E s y:Nat}{z:Value}{x q:Operand}{m:Nat}{zs:List Value}[V:I6 P T E][i:Info P E s y z](v:ev e x=some (.int .i64 (m:Int)))(j:ev e q=some (.int .i64 (m:Int)))(hz:z.cells.toList=zs)(X:Z3 zs s=true)(u:Nat.blt 0 s=true)
  (hm:m*y<=281474976710656) (Q:m<=9223372036854775807) :
  D6 P n e (.makeSlice T x q) ty w (.slice (some ⟨w.heap.size,0,none⟩) m m) (w.alloc (.cells (J1 m zs).toArray E)):=by
 intro a H W k g o;obtain⟨c,b,G,Y,F⟩:=i.get;subst hz;have l:=Q6 X;have d:z.cells.size=s:=by simpa using l
 have t:(c.bytes:Int)*(m:Int)<=281474976710656:=by
  have h:((c.bytes*m:Nat):Int)<=281474976710656:=by rw[Y,Nat.mul_comm]; omega
  rwa [Int.natCast_mul] at h
 have h:=run_make (P:=P) w T E c z V.h b F .i64 .i64 m m (by omega) (Int.le_refl _) t (by omega);simp only[Int.toNat_natCast] at h;have f:0<z.cells.size:=by rw[d]; simpa using u
 have r:=j0Z z.cells m f;rw[G] at h;rw[d] at r;rw[r] at h;simp only[execOp,o.ev v,o.ev j]
 simp_all
variable {w0:World} {l:List Oper} {fuel:Nat} {listed:Array Bool}
def IL(P:Program)(n:Nat)(l:List Oper)(w0:World)(fuel:Nat)(listed:Array Bool)(e:y9)(w:World)(Q:Exit->Act->World->Prop)(i:Nat):Prop :=
 ∀a,Agree n e a->wpOp P l.toArray (NoPanic Q) i (fun a' w'=>Ext w0 w'/\wpAnyH P .any l.toArray (NoPanic Q) (Ext w0) fuel (listed.setIfInBounds i true) a' w') a w
theorem BM(i j:Nat)(f:Region.ready .any l.toArray listed=[i,j])(hi:IL P n l w0 fuel listed e w Q i)(d:IL P n l w0 fuel listed e w Q j)(g:Ext w0 w):VH P n l.toArray w0 (fuel+1) listed e w Q :=
 ⟨g,fun a c=>wpAnyH_all f (by simp) fun k b=>by
   rcases List.mem_cons.1 b with rfl | b
   ·exact hi a c
   ·rcases List.mem_cons.1 b with rfl | b
    ·exact d a c
    grind⟩
theorem B9(i:Nat)(c:Region.ready .any l.toArray listed=[i])(hi:IL P n l w0 fuel listed e w Q i)(f:Ext w0 w):VH P n l.toArray w0 (fuel+1) listed e w Q :=
 ⟨f,fun a d=>wpAnyH_all c (by simp) fun k b=>by
   rcases List.mem_cons.1 b with rfl | b
   ·exact hi a d
   grind⟩
theorem C0K{i:Nat}{c:Op}{v:Value}{w':World}(hi:BZ l i=some ⟨some d,c,ty,pos,after,none⟩)(f:D6 P n e c ty w v w')(g:Nat.blt d n=true)
  (h:VH P n l.toArray w0 fuel (listed.setIfInBounds i true) ((d,v) :: e) w' Q):IL P n l w0 fuel listed e w Q i:=by
 intro a b;unfold wpOp;simp only[OP hi,Region.wanted,if_true,Oper.wp];rw[f a _ _ _ _ b];exact .inl ⟨h.1,h.2 _ (b.put d g v)⟩
theorem C5{i f:Nat}{xs:List Operand}{vs:List Value}{b:Array TypeId}[C7 P f](hi:BZ l i=some ⟨some d,.call ⟨.value (.func f),xs.toArray,b⟩,ty,pos,after,none⟩)
  (j:evl e xs=some vs) (k:Nat.blt d n=true)
  (h:Calls P f vs.toArray w (fun en w'=>∃v,en=.returned v/\VH P n l.toArray w0 fuel (listed.setIfInBounds i true) ((d,v) :: e) w' Q)):IL P n l w0 fuel listed e w Q i:=by
 intro a g;unfold wpOp;simp only[OP hi,Region.wanted,if_true,Oper.wp];have m:xs.toArray.map a.eval=vs.toArray:=by rw[<- g.evl j]; simp
 have:(execOp a.eval ⟨some d,.call ⟨.value (.func f),xs.toArray,b⟩,ty,pos,after,none⟩).run P w=.ok (.enter f vs.toArray) w:=by
  simp only[execOp,resolve,m];simp[Act.eval,Deferred.ofValue,invoke,Sb]
 rw[this];refine .inl (Calls.mono h ?_);rintro en w' ⟨v,rfl,c⟩;exact⟨c.1,c.2 _ (g.put d k v)⟩
end
structure WE(g:Option Nat)(w w':World):Prop where
 os:w'.os=w.os
 tape:w'.tape=w.tape
 output:w'.output=w.output
 size:w.heap.size<=w'.heap.size
 block:∀k,k<w.heap.size->g≠some k->w'.heap[k]?=w.heap[k]?
theorem WE.of_ext{g:Option Nat}{w w':World}(h:Ext w w'):WE g w w':=⟨h.os,h.tape,h.output,h.size,fun k a _=>h.block k a⟩
theorem WE.of_wr{b:Nat}{w w':World}(h:Wr b w w'):WE (some b) w w':=⟨h.os,h.tape,h.output,by rw[h.size]; exact Nat.le_refl _,fun k _ c=>h.block k (fun a=>c (by rw[a]))⟩
theorem WE.refl{g:Option Nat}(w:World):WE g w w:=⟨rfl,rfl,rfl,Nat.le_refl _,fun _ _ _=>rfl⟩
theorem WE.trans{g:Option Nat}{a b c:World}(h:WE g a b)(k:WE g b c):WE g a c :=
 ⟨k.os.trans h.os,k.tape.trans h.tape,k.output.trans h.output,Nat.le_trans h.size k.size,fun i hi d=>(k.block i (Nat.lt_of_lt_of_le hi h.size) d).trans (h.block i hi d)⟩
theorem WE.below{g:Option Nat}{w w':World}{B:Nat}(h:WE g w w')(a:∀k,g=some k->B<=k)(b:B<=w.heap.size):Below B w w' :=
 ⟨h.os,h.tape,h.output,h.size,fun k c=>h.block k (by omega) (fun e=>by grind)⟩
theorem WE.ext{w w':World}(h:WE none w w'):Ext w w':=h.below (fun _ e=>by cases e) (Nat.le_refl _)
theorem Blk.we{g:Option Nat}{w w':World}{b:Nat}{cs:List Value}{T:TypeId}(h:Blk w b cs T)(k:WE g w w')(a:∀i,g=some i->b≠i):Blk w' b cs T:=by
 unfold Blk; rw[k.block b h.lt (fun e=>a b e rfl)]; exact h
theorem At.we{g:Option Nat}{w w':World}{b o:Nat}{cs:List Value}(h:At w b o cs)(k:WE g w w')(c:∀i,g=some i->b≠i):At w' b o cs:=h.same (fun a=>k.block b a (fun e=>c b e rfl))
theorem SlR.we{a:Type}[Rep a]{g:Option Nat}{lo hi:Nat}{w w':World}{v:Value}{xs:List a}(h:SlR lo hi w v xs)(k:WE g w w')(d:∀i,g=some i->i<lo∨hi<=i):SlR lo hi w' v xs :=
 h.same (fun i c f b=>k.block i b (fun e=>by grind))
theorem Rep.rep.we{a:Type}[Rep a]{g:Option Nat}{lo hi:Nat}{w w':World}{cs:List Value}{x:a}(h:Rep.rep lo hi w cs x)(k:WE g w w')(d:∀i,g=some i->i<lo∨hi<=i):Rep.rep lo hi w' cs x :=
 Rep.same h (fun i c f b=>k.block i b (fun e=>by grind))
theorem Rep.rep.up{a:Type}[Rep a]{lo hi:Nat}{w w':World}{cs:List Value}{x:a}(h:Rep.rep lo hi w cs x)(k:Ext w w'):Rep.rep lo hi w' cs x:=Rep.up h k
theorem Rep.rep.wide{c:Type}[Rep c]{lo hi b a:Nat}{w:World}{cs:List Value}{x:c}(h:Rep.rep lo hi w cs x)(d:b<=lo)(e:hi<=a):Rep.rep b a w cs x:=Rep.wide h d e
def Own(w:World)(E:TypeId)(s:Nat)(g:Option Nat)(v:Value)(n:Nat)(cs:List Value):Prop :=
 (g=none/\n=0/\cs=[]/\∃p,v=.slice p 0 0) ∨
 ∃b o cap cur,g=some b/\v=.slice (some ⟨b,o,none⟩) n cap/\w.heap[b]?=some (.cells cur E (0,0))/\n<=cap/\cap<=maxLen/\cur.size=o+cap*s/\(cur.toList.drop o).take (n*s)=cs
theorem Own.nil{w:World}{E s:Nat}{p:Option Addr}:Own w E s none (.slice p 0 0) 0 []:=.inl ⟨rfl,rfl,rfl,p,rfl⟩
theorem Own.len{w:World}{E:TypeId}{s:Nat}{g:Option Nat}{v:Value}{n:Nat}{cs:List Value}(h:Own w E s g v n cs):∃p c,v=.slice p n c:=by
 rcases h with ⟨_,rfl,_,p,rfl⟩ | ⟨b,o,cap,cur,_,rfl,_⟩
 ·grind
 grind
theorem Own.clen{w:World}{E:TypeId}{s:Nat}{g:Option Nat}{v:Value}{n:Nat}{cs:List Value}(h:Own w E s g v n cs):cs.length=n*s:=by
 rcases h with ⟨_,rfl,rfl,_⟩ | ⟨b,o,cap,cur,_,rfl,_,h2,_,h4,rfl⟩
 ·simp
 simp_all
theorem Own.lt{w:World}{E:TypeId}{s:Nat}{g:Option Nat}{v:Value}{n:Nat}{cs:List Value}(h:Own w E s g v n cs):∀k,g=some k->k<w.heap.size:=by
 intro k a;rcases h with ⟨rfl,_⟩ | ⟨b,o,cap,cur,rfl,rfl,h1,_⟩
 ·cases a
 grind
theorem Own.we{g':Option Nat}{w w':World}{E:TypeId}{s:Nat}{g:Option Nat}{v:Value}{n:Nat}{cs:List Value}(h:Own w E s g v n cs)(k:WE g' w w')(c:∀i,g'=some i->g≠some i):Own w' E s g v n cs:=by
 have a:=h.lt;rcases h with h | ⟨b,o,cap,cur,rfl,rfl,h1,h2⟩
 ·exact .inl h
 ·refine .inr ⟨b,o,cap,cur,rfl,rfl,?_,h2⟩;rw[k.block b (a b rfl) (fun e=>c b e rfl)]; exact h1
theorem Own.up{w w':World}{E:TypeId}{s:Nat}{g:Option Nat}{v:Value}{n:Nat}{cs:List Value}(h:Own w E s g v n cs)(k:Ext w w'):Own w' E s g v n cs:=h.we (g':=none) (WE.of_ext k) (fun _ e=>by cases e)
theorem Own.at{w:World}{E:TypeId}{s:Nat}{b n:Nat}{v:Value}{cs:List Value}(h:Own w E s (some b) v n cs):∃o cap,v=.slice (some ⟨b,o,none⟩) n cap/\At w b o cs:=by
 rcases h with ⟨h,_⟩ | ⟨b',o,cap,cur,hb,rfl,h1,h2,h3,h4,rfl⟩
 ·cases h
 ·cases hb;refine⟨o,cap,rfl,fun i u a=>?_⟩;unfold World.cell?
  grind
section
variable {P:Program} {n:Nat} {e:y9} {w:World} {Q:Exit->Act->World->Prop} {ops:Array Oper} {rest:List Oper}
 {d:Nat} {ty:TypeId} {pos:String} {after:Array Edge}
theorem u0U{T E s y:Nat}{z:Value}[Y:I6 P T E][i:Info P E s y z](_:0<s)(hz:z.cells.size=s){g:Option Nat}{v:Value}{a m c F G:Nat}{p2:Option Addr}{cs d:List Value}(h:Own w E s g v a cs)
  (hp:m=0∨p2=some ⟨F,G,none⟩) (hl:d.length=m*s) (hA:At w F G d) (h1:∀u∈d,u.oneCell'=true) (aH:a+m<=9223372036854775807) (hb:(a+m)*y<=140737488355328) :
  ∃v' w' g',(Builtin.append_ #[T,T] ty #[v,.slice p2 m c]).run P w=.ok v' w'/\Own w' E s g' v' (a+m) (cs++d)/\WE g w w'/\(g'=g∨g'=some w.heap.size):=by
 obtain⟨x,l,h2,h3,h4⟩:=i.get;by_cases hm:m=0
 ·subst hm;have hn:d=[]:=List.eq_nil_of_length_eq_zero (by omega);subst hn;have W:∃p f,v=.slice p a f/\a<=f:=by
   rcases h with ⟨_,rfl,_,p,rfl⟩ | ⟨b,o,f,cur,_,rfl,_,h2,_⟩
   ·grind
   ·grind
  obtain⟨p,f,rfl,aD⟩:=W;refine⟨_,w,g,?_,by simpa using h,WE.refl _,.inl rfl⟩;cases p <;> cases p2 <;> simp[Builtin.append_,run_underlying Y.h,sizeOf,typeInfo,l,Builtin.lenOf,Builtin.firstCells,loadCells,loadCellsFrom,storeCells,aD]
 ·rcases hp with hp | rfl
  ·exact(hm hp).elim
  have n:∀j u,d[j]?=some u->w.cell? ((⟨F,G,none⟩:Addr).add j)=some u:=fun j u hj=>by
   have t:(Addr.mk F G none).add j=⟨F,G+j,none⟩:=by unfold Addr.add; split <;> simp_all
   rw[t]; exact hA j u hj
  have aA:m*x.bytes<=140737488355328:=by
   rw[h3];exact Nat.le_trans (Nat.mul_le_mul_right y (Nat.le_add_left m a)) hb
  have V:∀q,Own (w.drew.alloc (.cells (cs.toArray++d.toArray++Builtin.zeroCells z.cells (grownCap w (a+m) q E-(a+m))) E)) E s (some w.heap.size) (.slice (some ⟨w.heap.size,0,none⟩) (a+m) (grownCap w (a+m) q E)) (a+m) (cs++d):=fun q=>by
   have aB:=grownCap_ge w (a+m) q E;have Q:=h.clen;refine .inr ⟨w.heap.size,0,_,_,rfl,rfl,_root_.Go.heap_alloc_new w.drew _,aB,grownCap_le_maxLen w (a+m) q E (by grind[maxLen]),?_,?_⟩
   ·simp only[Array.size_append,List.size_toArray,size_zeroCells,hz,hl,Q,<- Nat.add_mul,Nat.zero_add]
    grind
   grind[Array.toList_append,List.length_append,Nat.add_mul,List.take_left]
  have aC:∀(g:Option Nat) q,WE g w (w.drew.alloc (.cells (cs.toArray++d.toArray++Builtin.zeroCells z.cells (grownCap w (a+m) q E-(a+m))) E)):=fun g q=>⟨rfl,rfl,rfl,by simp,fun k hk _=>_root_.Go.heap_alloc_old w.drew _ hk⟩;have Q:=h.clen;rcases h with ⟨rfl,rfl,rfl,p,rfl⟩ | ⟨b,o,f,cur,rfl,rfl,g1,g2,g3,g4,g5⟩
  ·have g:=V 0;have hw:=aC none 0;simp only[Nat.zero_add,List.nil_append,Array.empty_append] at g hw;cases p with
   | none =>
     have H:=run_append_nil (P:=P) w T ty E x z Y.h l h4 ⟨F,G,none⟩ m c d (by grind) n (by omega) (by omega) (by omega);exact⟨_,_,_,H,by simpa using g,hw,.inr rfl⟩
   | some a0 =>
     have H:=run_append_grow (P:=P) w T ty E x z Y.h l h4 a0 0 0 [] (by simp) (fun j v hj=>by grind) ⟨F,G,none⟩ m c d (by grind) n (by omega) (by omega) (growslice_fits (by omega) (by grind));simp only[Nat.zero_add,Array.empty_append] at H;exact⟨_,_,_,H,by simpa using g,hw,.inr rfl⟩
  ·by_cases r:a+m<=f
   ·have aG:o+a*s+d.length<=cur.size:=by
     have:=Nat.mul_le_mul_right s r;rw[Nat.add_mul] at this;rw[hl,g4]; omega
    have hf:=run_firstCells_some (P:=P) w x.size m ⟨F,G,none⟩ m c d (by grind) n;have X:=run_storeCells_at P b (o+a*s) E d 0 cur w g1 (by omega) h1;simp only[Nat.add_zero] at X;have H:(Builtin.append_ #[T,T] ty #[.slice (some ⟨b,o,none⟩) a f,.slice (some ⟨F,G,none⟩) m c]).run P w=.ok (.slice (some ⟨b,o,none⟩) (a+m) f) (w.setRow b (cur.toList.take (o+a*s)++d++cur.toList.drop (o+a*s+d.length)).toArray):=by
     rw[h2] at hf;simp[Builtin.append_,run_underlying Y.h,sizeOf,typeInfo,l,Builtin.lenOf,r,hf,Addr.add_lit,X,h2]
    refine⟨_,_,some b,H,.inr ⟨b,o,f,_,rfl,rfl,setRow_heap w b cur _ E _ g1,r,g3,?_,?_⟩,⟨rfl,rfl,rfl,by simp[World.setRow],fun k _ hk=>Fz w b k _ (fun e=>hk (by rw[e]))⟩,.inl rfl⟩
    ·simp only[List.size_toArray,List.length_append,List.length_take,List.length_drop,Array.length_toList];omega
    ·show(List.drop o (cur.toList.take (o+a*s)++d++cur.toList.drop (o+a*s+d.length))).take ((a+m)*s)=cs++d;have e1:(cur.toList.take (o+a*s)).length=o+a*s:=by rw[List.length_take,Array.length_toList]; omega
     rw[List.append_assoc,List.drop_append_of_le_length (by omega),List.drop_take,show o+a*s-o=a*s by omega,g5,<- List.append_assoc];rw[show(a+m)*s=(cs++d).length by rw[List.length_append,Q,hl,Nat.add_mul]];exact List.take_left
   ·have Vz:∀j u,cs[j]?=some u->w.cell? ((⟨b,o,none⟩:Addr).add j)=some u:=fun j u hu=>by
     have t:(Addr.mk b o none).add j=⟨b,o+j,none⟩:=by unfold Addr.add; split <;> simp_all
     rw[t];obtain⟨o0,c0,e0,aF⟩:=Own.at (.inr ⟨b,o,f,cur,rfl,rfl,g1,g2,g3,g4,g5⟩:Own w E s (some b) (.slice (some ⟨b,o,none⟩) a f) a cs);cases e0;exact aF j u hu
    have H:=run_append_grow (P:=P) w T ty E x z Y.h l h4 ⟨b,o,none⟩ a f cs (by grind) Vz ⟨F,G,none⟩ m c d (by grind) n (by omega) (by omega) (growslice_fits (by omega) (by grind))
    grind
theorem l0B{x:Operand}{ad:Addr}(h:ev e x=some (.pointer (some ad))):D6 P n e (.nilCheck x) ty w (.pointer (some ad)) w:=by
 intro a c f b g d;simp only[execOp,d.ev h];simp
end
end Go.Proofs.Sv
end
section
namespace Go.Proofs.Xv
open Go Go.RowKit Go.Proofs.Sv
inductive Ty
 | int (k:IntKind) | bool | str | sl (e:Ty) | pt (e:Ty) | pr (a b:Ty)
 deriving DecidableEq
@[reducible] def c7:Ty->Type
  | .int _=>Int
  | .bool=>Bool
  | .str=>ByteArray
  | .sl e=>List (c7 e)
  | .pt e=>c7 e
  | .pr a b=>c7 a×c7 b
def sz:Ty->Nat
 | .pr a b=>sz a+sz b
 | _=>1
theorem GP:∀t,0<sz t
 | .int _ | .bool | .str | .sl _ | .pt _=>Nat.one_pos
 | .pr a b=>by have:=GP a; grind[sz]
def a6:(t:Ty)->c7 t
 | .int _=>(0:Int)
 | .bool=>false
 | .str=>(⟨#[]⟩:ByteArray)
 | .sl _=>[]
 | .pt e=>a6 e
 | .pr a b=>(a6 a,a6 b)
def lo:IntKind->Int
 | .i8 => -128 | .i16 => -32768 | .i32 => -2147483648 | .i64 => -9223372036854775808 | _=>0
def hi:IntKind->Int
 | .i8=>127 | .i16=>32767 | .i32=>2147483647 | .i64=>9223372036854775807 | .u8=>255 | .u16=>65535 | .u32=>4294967295 | .u64=>18446744073709551615
def wf:(t:Ty)->c7 t->Prop
 | .int k,x=>lo k<=x/\x<=hi k
 | .bool,_=>True
 | .str,s=>s.size<=9223372036854775807
 | .sl e,xs=>xs.length<=9223372036854775807/\∀x∈xs,wf e x
 | .pt e,x=>wf e x
 | .pr a b,x=>wf a x.1/\wf b x.2
def UF(w:World)(k:Nat):Prop:=∃c T,w.heap[k]?=some (.cells c T (0,0))
theorem UF.lt{w:World}{k:Nat}(h:UF w k):k<w.heap.size:=by
 obtain⟨c,T,h⟩:=h
 grind
theorem UF.same{w w':World}{k:Nat}(h:UF w k)(e:w'.heap[k]?=w.heap[k]?):UF w' k:=by
 obtain⟨c,T,h⟩:=h;exact⟨c,T,e.trans h⟩
def UFg(w:World)(n k:Nat):Prop:=k<w.heap.size/\(n<=k->UF w k)
theorem UFg.lt{w:World}{n k:Nat}(h:UFg w n k):k<w.heap.size:=h.1
theorem UFg.same{w w':World}{n k:Nat}(h:UFg w n k)(a:w.heap.size<=w'.heap.size)(e:w'.heap[k]?=w.heap[k]?):UFg w' n k:=⟨Nat.lt_of_lt_of_le h.1 a,fun b=>(h.2 b).same e⟩
theorem UF.g{w:World}{n k:Nat}(h:UF w k):UFg w n k:=⟨h.lt,fun _=>h⟩
theorem GR{w:World}{E s:Nat}{b:Nat}{v:Value}{n:Nat}{cs:List Value}(h:Own w E s (some b) v n cs):UF w b:=by
 rcases h with ⟨h,_⟩ | ⟨b',o,cap,cur,hb,_,h,_⟩
 ·cases h
 ·cases hb; exact⟨_,_,h⟩
theorem Xe{w:World}{b:Nat}{cs:List Value}{T:TypeId}(h:Blk w b cs T):UF w b:=⟨_,_,h⟩
def AllR{α:Type}(R:List Value->α->Prop):List Value->List α->Prop
 | cs,[]=>cs=[]
 | cs,x :: r=>∃c d,cs=c++d/\R c x/\AllR R d r
def RT(K:Nat->Prop)(w:World):(t:Ty)->List Value->c7 t->Prop
 | .int k,cs,x=>cs=[.int k x]/\(lo k<=x/\x<=hi k)
 | .bool,cs,x=>cs=[.bool x]
 | .str,cs,s=>cs=[.string s]/\s.size<=9223372036854775807
 | .sl e,cs,xs=>∃p cap,cs=[.slice p xs.length cap]/\xs.length<=cap/\cap<=9223372036854775807 /\
    (xs=[]∨∃b o ds,p=some ⟨b,o,none⟩/\K b/\At w b o ds/\AllR (RT K w e) ds xs)
 | .pt e,cs,x=>∃b o ds,cs=[.pointer (some ⟨b,o,none⟩)]/\K b/\At w b o ds/\RT K w e ds x
 | .pr a b,cs,x=>∃c d,cs=c++d/\RT K w a c x.1/\RT K w b d x.2
theorem AllR.mapR{a:Type}{R R':List Value->a->Prop}(h:∀c x,R c x->R' c x):∀{cs:List Value} {xs:List a},AllR R cs xs->AllR R' cs xs
 | _,[],k=>k
 | _,_ :: _,⟨c,d,e,k1,k2⟩=>⟨c,d,e,h _ _ k1,AllR.mapR h k2⟩
theorem AllR.mem{a:Type}{R:List Value->a->Prop}:∀{cs:List Value} {xs:List a},AllR R cs xs->∀x∈xs,∃c,R c x
 | _,[],_,x,hx=>by cases hx
 | _,_ :: _,⟨c,d,e,k1,k2⟩,x,hx=>by
   rcases List.mem_cons.1 hx with rfl | hx
   ·grind
   ·exact AllR.mem k2 x hx
theorem AllR.len{b:Type}{R:List Value->b->Prop}{s:Nat}(a:∀c x,R c x->c.length=s):∀{cs:List Value} {xs:List b},AllR R cs xs->cs.length=xs.length*s
 | cs,[],h=>by rw[show cs=[] from h]; simp
 | cs,x :: r,⟨c,d,e,k1,k2⟩=>by
   subst e;rw[List.length_append,a _ _ k1,AllR.len a k2,List.length_cons,Nat.add_mul]; omega
theorem AllR.app{a:Type}{R:List Value->a->Prop}{ds:List Value}{b:List a}(k:AllR R ds b):∀{cs:List Value} {xs:List a},AllR R cs xs->AllR R (cs++ds) (xs++b)
 | cs,[],h=>by rw[show cs=[] from h]; exact k
 | _,_ :: _,⟨c,d,e,h1,h2⟩=>⟨c,d++ds,by rw[e]; simp,h1,AllR.app k h2⟩
theorem AllR.one{a:Type}{R:List Value->a->Prop}{c:List Value}{x:a}(h:R c x):AllR R c [x]:=⟨c,[],by simp,h,rfl⟩
theorem AllR.get{a:Type}{R:List Value->a->Prop}{s:Nat}(b:∀c x,R c x->c.length=s):∀{cs:List Value} {xs:List a} {i:Nat} (_:AllR R cs xs) (hi:i<xs.length),
  ∃pre c post,cs=pre++c++post/\pre.length=i*s/\R c xs[i]
 | _,x :: r,0,⟨c,d,e,h1,h2⟩,_=>⟨[],c,d,by simp[e],by simp,h1⟩
 | _,x :: r,i+1,⟨c,d,e,h1,h2⟩,hi=>by
   obtain⟨pre,j,post,g,f,h⟩:=AllR.get b h2 (i:=i) (by grind)
   grind
theorem AllR.set{b:Type}{R:List Value->b->Prop}{s:Nat}(f:∀c x,R c x->c.length=s){a:List Value}{y:b}(h:R a y):∀{cs:List Value} {xs:List b} {i:Nat} (_:AllR R cs xs) (_:i<xs.length),
  AllR R (cs.take (i*s)++a++cs.drop ((i+1)*s)) (xs.set i y)
 | _,x :: r,0,⟨c,d,e,h1,h2⟩,_=>by
   subst e;refine⟨a,d,?_,h,h2⟩
   grind
 | _,x :: r,i+1,⟨c,d,e,h1,h2⟩,hi=>by
   subst e;have g:=f _ _ h1;refine⟨c,d.take (i*s)++a++d.drop ((i+1)*s),?_,h1,AllR.set f h h2 (by simpa using hi)⟩;have k:(i+1)*s=c.length+i*s:=by rw[g,Nat.add_mul]; omega
   have j:(i+1+1)*s=c.length+(i+1)*s:=by rw[g,Nat.add_mul (i+1)]; omega
   rw[j,List.drop_length_add_append,k,List.take_length_add_append];simp
theorem RT.len{K:Nat->Prop}{w:World}:∀{t:Ty} {cs:List Value} {x:c7 t},RT K w t cs x->cs.length=sz t
 | .int _,_,_,h=>by rw[h.1]; rfl
 | .bool,_,_,h=>by rw[show _=_ from h]; rfl
 | .str,_,_,h=>by rw[h.1]; rfl
 | .sl _,_,_,⟨_,_,h,_⟩=>by rw[h]; rfl
 | .pt _,_,_,⟨_,_,_,h,_⟩=>by rw[h]; rfl
 | .pr a b,_,_,⟨c,d,h,h1,h2⟩=>by rw[h,List.length_append,RT.len h1,RT.len h2]; rfl
theorem RT.same{K K':Nat->Prop}{w w':World}(g:∀k,K k->k<w.heap.size->K' k/\w'.heap[k]?=w.heap[k]?):∀{t:Ty} {cs:List Value} {x:c7 t},RT K w t cs x->RT K' w' t cs x
 | .int _,_,_,h=>h
 | .bool,_,_,h=>h
 | .str,_,_,h=>h
 | .sl e,_,xs,⟨p,cap,h1,h2,h3,i⟩=>by
   refine⟨p,cap,h1,h2,h3,?_⟩;rcases i with i | ⟨b,o,ds,hp,hb,hat,hall⟩
   ·grind
   ·rcases Nat.eq_zero_or_pos ds.length with hz | hz
    ·left;have:=hall.len (fun c x h=>RT.len h)
     grind[Nat.mul_eq_zero,List.eq_nil_of_length_eq_zero,GP]
    ·have f:=hat.lt hz;exact .inr ⟨b,o,ds,hp,(g b hb f).1,hat.same (fun _=>(g b hb f).2),hall.mapR (fun c x h=>RT.same g h)⟩
 | .pt e,_,x,⟨b,o,ds,h1,hb,hat,h2⟩=>by
   have hz:0<ds.length:=by rw[RT.len h2]; exact GP e
   have f:=hat.lt hz;exact⟨b,o,ds,h1,(g b hb f).1,hat.same (fun _=>(g b hb f).2),RT.same g h2⟩
 | .pr a b,_,x,⟨c,d,h,h1,h2⟩=>⟨c,d,h,RT.same g h1,RT.same g h2⟩
def D8:Ty->Bool
 | .int _ | .bool | .str=>true
 | .sl _ | .pt _=>false
 | .pr a b=>D8 a&&D8 b
theorem RT.free{K K':Nat->Prop}{w w':World}:∀{t:Ty} {cs:List Value} {x:c7 t},D8 t=true->RT K w t cs x->RT K' w' t cs x
 | .int _,_,_,_,h=>h
 | .bool,_,_,_,h=>h
 | .str,_,_,_,h=>h
 | .pr a b,_,x,hk,⟨c,d,h,h1,h2⟩=>by
   simp only[D8,ba] at hk;exact⟨c,d,h,RT.free hk.1 h1,RT.free hk.2 h2⟩
theorem RT.up{K K':Nat->Prop}{w:World}{t:Ty}{cs:List Value}{x:c7 t}(h:RT K w t cs x)(b:∀k,K k->K' k):RT K' w t cs x:=RT.same (fun k a _=>⟨b k a,rfl⟩) h
theorem RT.wf{K:Nat->Prop}{w:World}:∀{t:Ty} {cs:List Value} {x:c7 t},RT K w t cs x->Xv.wf t x
 | .int _,_,_,h=>h.2
 | .bool,_,_,_=>trivial
 | .str,_,_,h=>h.2
 | .sl e,_,xs,⟨p,cap,h1,h2,h3,h4⟩=>by
   refine⟨by omega,fun x f=>?_⟩;rcases h4 with rfl | ⟨b,o,ds,hp,hb,hat,hall⟩
   ·cases f
   ·obtain⟨c,g⟩:=hall.mem x f;exact RT.wf g
 | .pt e,_,x,⟨b,o,ds,h1,hb,hat,h2⟩=>RT.wf (t:=e) h2
 | .pr a b,_,x,⟨c,d,h,h1,h2⟩=>⟨RT.wf h1,RT.wf h2⟩
theorem RT.one{K:Nat->Prop}{w:World}:∀{t:Ty} {cs:List Value} {x:c7 t},RT K w t cs x->∀u∈cs,u.oneCell'=true
 | .int _,_,_,h,u,e=>by rw[h.1] at e; cases List.mem_singleton.1 e; rfl
 | .bool,_,_,h,u,e=>by rw[show _=_ from h] at e; cases List.mem_singleton.1 e; rfl
 | .str,_,_,h,u,e=>by rw[h.1] at e; cases List.mem_singleton.1 e; rfl
 | .sl _,_,_,⟨_,_,h,_⟩,u,e=>by rw[h] at e; cases List.mem_singleton.1 e; rfl
 | .pt _,_,_,⟨_,_,_,h,_⟩,u,e=>by rw[h] at e; cases List.mem_singleton.1 e; rfl
 | .pr a b,_,_,⟨c,d,h,h1,h2⟩,u,e=>by
   rw[h] at e;rcases List.mem_append.1 e with e | e
   ·exact RT.one h1 u e
   ·exact RT.one h2 u e
theorem RT.get{K:Nat->Prop}{w:World}{e:Ty}{p:Option Addr}{n a:Nat}{xs:List (c7 e)}(h:RT K w (.sl e) [.slice p n a] xs){i:Nat}(hi:i<xs.length) :
  n=xs.length/\∃b o c,p=some ⟨b,o,none⟩/\K b/\At w b (o+i*sz e) c/\RT K w e c xs[i]:=by
 obtain⟨s,j,d,q,r,f⟩:=h;simp only[List.cons.injEq,Value.slice.injEq,and_true] at d;obtain⟨rfl,rfl,rfl⟩:=d;refine⟨rfl,?_⟩;rcases f with f | ⟨b,o,ds,hp,hb,hat,hall⟩
 ·grind
 ·obtain⟨k,c,g,rfl,l,m⟩:=hall.get (fun c x h=>RT.len h) hi;refine⟨b,o,c,hp,hb,?_,m⟩;rw[<- l]; exact hat.mid
structure Fac(P:Program)(W:World):Prop where
 pow : ∀ g, P.globalNamed "internal/strconv.uint64pow10" = some g → Lib.TabIs P W "internal/strconv.uint64pow10" .u64 Lib.pow10Tab
 err : ∀ g, P.globalNamed "strconv.ErrSyntax" = some g → ∃ e, W.cell? ⟨g, 0, none⟩ = some e ∧ (e = .nilIface ∨ ∃ u v, e = .iface u v)
 rng : ∀ g, P.globalNamed "strconv.ErrRange" = some g → ∃ e, W.cell? ⟨g, 0, none⟩ = some e ∧ (e = .nilIface ∨ ∃ u v, e = .iface u v)
 mx : ∀ f g, P.funcNamed "strings.Split" = some f → P.globalNamed "internal/bytealg.MaxLen" = some g → ∃ m, W.cell? ⟨g, 0, none⟩ = some (.int .i64 m)
theorem Xf{W a:World}(k:Ext W a){g:Nat}{v:Value}(h:W.cell? ⟨g,0,none⟩=some v):a.cell? ⟨g,0,none⟩=some v:=by
 rw[<- h]; exact World.cell?_of_block (w:=W) (k.block g (World.block_lt_of_cell? W _ h))
theorem I0i{P:Program}{W d:World}{a:String}{k:IntKind}{zs:List Int}(h:Lib.TabIs P W a k zs)(e:Ext W d):Lib.TabIs P d a k zs:=by
 unfold Lib.TabIs World.var? at *
 cases hg:P.globalNamed a with
 | none=>simp[hg] at h
 | some g =>
   simp only[hg,Option.bind_some] at h ⊢;have c:g<W.heap.size:=by
    rcases Nat.lt_or_ge g W.heap.size with b | b
    ·exact b
    ·rw[Array.getElem?_eq_none b] at h; simp at h
   rw[e.block g c];exact h
theorem Fac.up{P:Program}{W c:World}(h:Fac P W)(k:Ext W c):Fac P c :=
 ⟨fun g e=>I0i (h.pow g e) k,fun g e=>by obtain⟨u,a,b⟩:=h.err g e; exact⟨u,Xf k a,b⟩,fun g e=>by obtain⟨u,a,b⟩:=h.rng g e; exact⟨u,Xf k a,b⟩,fun f g d e=>by obtain⟨u,a⟩:=h.mx f g d e; exact⟨u,Xf k a⟩⟩
def WK(P:Program)(w:World)(io:Nat->Prop):Prop:=∃W0:World,Fac P W0/\Ext W0 w/\∀k,io k->W0.heap.size<=k
theorem WK.fac{P:Program}{w:World}{a:Nat->Prop}:WK P w a->Fac P w:=fun⟨_,h,k,_⟩=>h.up k
theorem WK.sub{P:Program}{w:World}{b a:Nat->Prop}(c:∀k,a k->b k):WK P w b->WK P w a:=fun⟨W0,h,k,l⟩=>⟨W0,h,k,fun i hi=>l i (c i hi)⟩
inductive AV
 | v (x:Value)
 | d (fr:Bool) (t:Ty) (x:c7 t)
 | agg (xs:List AV)
 | tup (xs:List AV)
 | ptr (id off:Nat)
 | pel (id ver k s off:Nat)
 | os (id ver:Nat)
 | fn (f:FuncId) (caps:List AV)
 | ow (T:TypeId) (fr:Bool) (t:Ty) (xs:List (c7 t))
 | gel (id k:Nat)
 | og (id:Nat)
 | ob (T:TypeId) (cs:List AV)
inductive Ob
 | box (T:TypeId) (cs:List AV)
 | arr (T:TypeId) (fr:Bool) (t:Ty) (xs:List (c7 t)) (ver:Nat)
 | grd (T Te:TypeId) (fr:Bool) (t:Ty) (xs:List (List (c7 t))) (hole:Option Nat)
def a8{β:Type}:List (Nat×β)->Nat->Option β
 | [],_=>none
 | (d,v) :: e,t=>bif Nat.beq d t then some v else a8 e t
theorem lK{a:Type}(d:Nat)(v:a)(e:List (Nat×a))(t:Nat):a8 ((d,v) :: e) t=if d=t then some v else a8 e t:=by
 show(bif Nat.beq d t then some v else a8 e t)=_
 simp_all
structure Gh where
 ρ:Nat->Value
 γ:Nat->Option Nat
 K:Nat->Prop
 w:World
 o:List (Nat×Ob)
 B:Nat
 δ:Nat->Nat->Prop
def rg(G:Gh)(fr:Bool)(k:Nat):Prop:=G.K k/\(fr=true->G.B<=k)
mutual
def AVR(G:Gh):AV->Value->Prop
 | .v x,u=>u=x
 | .d fr t x,u=>RT (rg G fr) G.w t [u] x
 | .agg xs,u=>∃us:List Value,u=.agg us.toArray/\AVRs G xs us
 | .tup xs,u=>∃us:List Value,u=.tuple us.toArray/\AVRs G xs us
 | .ptr id off,u=>(∃T cs,a8 G.o id=some (.box T cs))/\∃b,G.ρ id=.pointer (some ⟨b,0,none⟩)/\u=.pointer (some ⟨b,off,none⟩)
 | .pel id ver k s off,u=>u.oneCell'=true/\∃T fr t xs ver',a8 G.o id=some (.arr T fr t xs ver')/\ver<=ver'/\(ver=ver'->∃b o n c,G.ρ id=.slice (some ⟨b,o,none⟩) n c/\u=.pointer (some ⟨b,o+(k*s+off),none⟩))
 | .os id ver,u=>u.oneCell'=true/\∃T fr t xs ver',a8 G.o id=some (.arr T fr t xs ver')/\ver<=ver'/\(ver=ver'->u=G.ρ id)
 | .fn f caps,u=>∃us:List Value,u=.func (.func f) #[] us.toArray/\AVRs G caps us
 | .ow ..,_=>False
 | .ob ..,_=>False
 | .gel id k,u=>(∃T Te fr t xs hole,a8 G.o id=some (.grd T Te fr t xs hole))/\∃b o n c,G.ρ id=.slice (some ⟨b,o,none⟩) n c/\u=.pointer (some ⟨b,o+k,none⟩)
 | .og id,u=>u.oneCell'=true/\(∃T Te fr t xs hole,a8 G.o id=some (.grd T Te fr t xs hole))/\u=G.ρ id
def AVRs(G:Gh):List AV->List Value->Prop
 | [],us=>us=[]
 | a :: r,us=>∃u us',us=u :: us'/\AVR G a u/\AVRs G r us'
end
theorem AVRs.len{G:Gh}:∀{as:List AV} {us:List Value},AVRs G as us->us.length=as.length
 | [],us,h=>by rw[show us=[] from h]; rfl
 | a :: r,us,⟨u,us',e,_,h⟩=>by rw[e]; simp[AVRs.len h]
theorem AVRs.app{G:Gh}{b:List AV}{vs:List Value}(k:AVRs G b vs):∀{as:List AV} {us:List Value},AVRs G as us->AVRs G (as++b) (us++vs)
 | [],us,h=>by rw[show us=[] from h]; exact k
 | a :: r,us,⟨u,us',e,h1,h2⟩=>⟨u,us'++vs,by rw[e]; rfl,h1,AVRs.app k h2⟩
theorem AVRs.split{G:Gh}{b:List AV}:∀{as:List AV} {us:List Value},AVRs G (as++b) us->∃us1 us2,us=us1++us2/\AVRs G as us1/\AVRs G b us2
 | [],us,h=>⟨[],us,rfl,rfl,h⟩
 | a :: r,us,⟨u,us',e,h1,h2⟩=>by
   obtain⟨c,d,i,f,g⟩:=AVRs.split h2;exact⟨u :: c,d,by grind,⟨u,c,rfl,h1,f⟩,g⟩
theorem AVRs.take{G:Gh}{a:List AV}{us:List Value}(h:AVRs G a us)(k:Nat):AVRs G (a.take k) (us.take k)/\AVRs G (a.drop k) (us.drop k):=by
 rw[<- List.take_append_drop k a] at h;obtain⟨i,f,e,b,d⟩:=h.split;have g:=b.len;have c:=d.len
 grind[List.length_take,List.drop_eq_nil_of_le,List.take_of_length_le]
theorem AVRs.get{G:Gh}:∀{as:List AV} {us:List Value} {i:Nat} {a:AV},AVRs G as us->as[i]?=some a->∃u,us[i]?=some u/\AVR G a u
 | a :: r,us,0,x,⟨u,us',e,h1,h2⟩,hx=>by
   grind
 | a :: r,us,i+1,x,⟨u,us',e,h1,h2⟩,hx=>by
   obtain⟨v,b,c⟩:=AVRs.get h2 (i:=i) (by simpa using hx)
   grind
def Se:AV->Bool
 | .v x=>x.oneCell'
 | .d _ t _=>match t with | .pr _ _=>false | _=>true
 | .agg _ | .tup _ | .ow .. | .ob ..=>false
 | _=>true
theorem AVR.one{G:Gh}:∀{a:AV} {u:Value},AVR G a u->Se a=true->u.oneCell'=true
 | .v x,u,h,ho=>by rw[show u=x from h]; exact ho
 | .d _ t x,u,h,_=>RT.one h u (List.mem_singleton.2 rfl)
 | .ptr _ _,u,⟨_,_,_,h⟩,_=>by rw[h]; rfl
 | .pel ..,u,h,_=>h.1
 | .os ..,u,h,_=>h.1
 | .fn ..,u,⟨_,h,_⟩,_=>by rw[h]; rfl
 | .gel ..,u,⟨_,_,_,_,_,_,h⟩,_=>by rw[h]; rfl
 | .og ..,u,h,_=>h.1
 | .ow ..,_,h,_=>h.elim
 | .ob ..,_,h,_=>h.elim
structure Rows(G:Gh)(id:Nat)(Te:TypeId)(fr:Bool)(t:Ty)(xs:List (List (c7 t)))(hole:Option Nat)(vs:List Value)(bs:Nat->Option Nat):Prop where
 len:vs.length=xs.length
 blk:∀b,G.δ id b↔∃k,k<xs.length/\hole≠some k/\bs k=some b
 inj:∀k k' b,k<xs.length->k'<xs.length->hole≠some k->hole≠some k'->bs k=some b->bs k'=some b->k=k'
 row:∀k,k<xs.length->hole≠some k->∃cs,Own G.w Te (sz t) (bs k) (vs.getD k (.bool false)) (xs.getD k []).length cs/\AllR (RT (rg G fr) G.w t) cs (xs.getD k [])/\∀b,bs k=some b->G.B<=b
 one:∀v∈vs,v.oneCell'=true
def ObR(G:Gh)(id:Nat):Ob->Prop
 | .box T cs=>∃b us,G.γ id=some b/\G.ρ id=.pointer (some ⟨b,0,none⟩)/\Blk G.w b us T/\AVRs G cs us
 | .arr T fr t xs _=>∃cs,Own G.w T (sz t) (G.γ id) (G.ρ id) xs.length cs/\AllR (RT (rg G fr) G.w t) cs xs/\∀b,G.γ id=some b->G.B<=b
 | .grd T Te fr t xs hole=>∃vs bs,Own G.w T 1 (G.γ id) (G.ρ id) xs.length vs/\Rows G id Te fr t xs hole vs bs/\∀b,G.γ id=some b->G.B<=b
def J3:Option Ob->Bool
 | some (.grd ..)=>true
 | _=>false
structure Cx where
 P:Program
 n:Nat
 w0:World
 io:Nat->Prop
 K0:Nat->Prop
 pin:Nat->Value->Prop
 base:Nat
structure Sat(X:Cx)(G:Gh):Prop where
 base:G.B=X.base/\X.base<=X.w0.heap.size/\WK X.P X.w0 X.io
 os:G.w.os=X.w0.os
 tape:G.w.tape=X.w0.tape
 output:G.w.output=X.w0.output
 size:X.w0.heap.size<=G.w.heap.size
 block:∀k,k<X.w0.heap.size->¬X.io k->G.w.heap[k]?=X.w0.heap[k]?
 obs:∀id o,a8 G.o id=some o->ObR G id o
 inj:∀id id' o o' b,a8 G.o id=some o->a8 G.o id'=some o'->G.γ id=some b->G.γ id'=some b->id=id'
 imm:∀id o b,a8 G.o id=some o->G.γ id=some b->¬G.K b
 own:∀id o b,a8 G.o id=some o->G.γ id=some b->X.w0.heap.size<=b∨X.io b
 klt:∀k,G.K k->UFg G.w X.w0.heap.size k
 kfrom:∀k,G.K k->X.K0 k∨X.base<=k
 sep:∀id b,G.δ id b->J3 (a8 G.o id)=true->(X.w0.heap.size<=b∨X.io b)/\¬G.K b/\(∀i o,a8 G.o i=some o->G.γ i≠some b)/\∀i,G.δ i b->J3 (a8 G.o i)=true->id=i
 pin:∀i v,X.pin i v->AVR G (.ptr (500000+i) 0) v
theorem Sat.le{X:Cx}{G:Gh}(S:Sat X G):G.B<=X.w0.heap.size:=by
 rw[S.base.1]; exact S.base.2.1
theorem Sat.wk{X:Cx}{G:Gh}(S:Sat X G):WK X.P G.w (fun k=>X.w0.heap.size<=k∨X.io k):=by
 obtain⟨W0,h,k,l⟩:=S.base.2.2;refine⟨W0,h,⟨S.os.trans k.os,S.tape.trans k.tape,S.output.trans k.output,Nat.le_trans k.size S.size,fun i hi=>?_⟩,fun i hi=>?_⟩
 ·exact(S.block i (Nat.lt_of_lt_of_le hi k.size) (fun e=>absurd (l i e) (Nat.not_le.2 hi))).trans (k.block i hi)
 ·rcases hi with hi | hi
  ·exact Nat.le_trans k.size hi
  ·exact l i hi
structure GLe(G G':Gh):Prop where
 hB:G'.B=G.B
 hK:∀k,G.K k->k<G.w.heap.size->G'.K k/\G'.w.heap[k]?=G.w.heap[k]?
 hbox:∀id T cs,a8 G.o id=some (.box T cs)->G'.ρ id=G.ρ id/\∃T' cs',a8 G'.o id=some (.box T' cs')
 hgrd:∀id T Te fr t xs hole,a8 G.o id=some (.grd T Te fr t xs hole)->G'.ρ id=G.ρ id/\∃T' Te' fr' t' xs' hole',a8 G'.o id=some (.grd T' Te' fr' t' xs' hole')
 harr:∀id T fr t xs ver,a8 G.o id=some (.arr T fr t xs ver)->∃T' fr' t' xs' ver',a8 G'.o id=some (.arr T' fr' t' xs' ver')/\ver<=ver'/\(ver=ver'->G'.ρ id=G.ρ id)
theorem GLe.hR{G a:Gh}(h:GLe G a){fr:Bool}:∀k,rg G fr k->k<G.w.heap.size->rg a fr k/\a.w.heap[k]?=G.w.heap[k]?:=fun k ⟨b,d⟩ c=>⟨⟨(h.hK k b c).1,fun e=>by rw[h.hB]; exact d e⟩,(h.hK k b c).2⟩
mutual
theorem AVR.mono{G r:Gh}(h:GLe G r):∀{a:AV} {u:Value},AVR G a u->AVR r a u
 | .v _,_,k=>k
 | .d _ _ _,_,k=>RT.same h.hR k
 | .agg _,_,⟨us,e,k⟩=>⟨us,e,AVRs.mono h k⟩
 | .tup _,_,⟨us,e,k⟩=>⟨us,e,AVRs.mono h k⟩
 | .ptr id off,u,⟨⟨T,cs,h1⟩,b,h2,h3⟩=>by
   obtain⟨e,j⟩:=h.hbox id T cs h1;exact⟨j,b,by grind,h3⟩
 | .pel id ver k s off,u,⟨h0,T,fr,t,xs,ver',h1,h2,h3⟩=>by
   obtain⟨l,g,m,i,f,q,x,w⟩:=h.harr id T fr t xs ver' h1;refine⟨h0,l,g,m,i,f,q,by omega,fun e=>?_⟩
   grind
 | .os id ver,u,⟨h0,T,fr,t,xs,ver',h1,h2,h3⟩=>by
   obtain⟨l,g,m,i,f,q,x,w⟩:=h.harr id T fr t xs ver' h1;exact⟨h0,l,g,m,i,f,q,by omega,fun e=>by grind⟩
 | .fn _ _,_,⟨us,e,k⟩=>⟨us,e,AVRs.mono h k⟩
 | .ow ..,_,k=>k
 | .ob ..,_,k=>k
 | .gel id k,u,⟨⟨T,Te,fr,t,xs,hole,h1⟩,b,o,n,c,h2,h3⟩=>by
   obtain⟨e,j⟩:=h.hgrd id T Te fr t xs hole h1;exact⟨j,b,o,n,c,by grind,h3⟩
 | .og id,u,⟨h0,⟨T,Te,fr,t,xs,hole,h1⟩,h2⟩=>by
   obtain⟨e,j⟩:=h.hgrd id T Te fr t xs hole h1;exact⟨h0,j,by grind⟩
theorem AVRs.mono{G a:Gh}(h:GLe G a):∀{as:List AV} {us:List Value},AVRs G as us->AVRs a as us
 | [],_,k=>k
 | _ :: _,_,⟨u,us',e,k1,k2⟩=>⟨u,us',e,AVR.mono h k1,AVRs.mono h k2⟩
end
theorem GLe.refl(G:Gh):GLe G G:=⟨rfl,fun _ h _=>⟨h,rfl⟩,fun _ _ _ h=>⟨rfl,_,_,h⟩,fun _ _ _ _ _ _ _ h=>⟨rfl,_,_,_,_,_,_,h⟩,fun _ _ _ _ _ _ h=>⟨_,_,_,_,_,h,Nat.le_refl _,fun _=>rfl⟩⟩
theorem GLe.trans{A B C:Gh}(h:GLe A B)(k:GLe B C)(F:A.w.heap.size<=B.w.heap.size):GLe A C:=by
 refine⟨k.hB.trans h.hB,fun i hi z=>?_,fun i T E hi=>?_,fun i T x m t o e hi=>?_,fun i T m t o n hi=>?_⟩
 ·obtain⟨j,g⟩:=h.hK i hi z;obtain⟨s,r⟩:=k.hK i j (by omega)
  grind
 ·obtain⟨j,f,q,g⟩:=h.hbox i T E hi;obtain⟨s,r⟩:=k.hbox i f q g
  grind
 ·obtain⟨j,f,Te',b,l,c,a,g⟩:=h.hgrd i T x m t o e hi;obtain⟨s,r⟩:=k.hgrd i f Te' b l c a g
  grind
 ·obtain⟨f,b,l,c,d,j,g,P⟩:=h.harr i T m t o n hi;obtain⟨H,v,G,y,u,s,r,k3⟩:=k.harr i f b l c d j
  grind
theorem Rows.up{G f:Gh}{id:Nat}{Te:TypeId}{fr:Bool}{t:Ty}{xs:List (List (c7 t))}{a:Option Nat}{vs:List Value}{n:Nat->Option Nat}(h:Rows G id Te fr t xs a vs n)(d:GLe G f)(g:∀b,f.δ id b↔G.δ id b){go:Option Nat}(y:WE go G.w f.w)(i:∀b,G.δ id b->go≠some b):Rows f id Te fr t xs a vs n:=by
 refine⟨h.len,fun b=>(g b).trans (h.blk b),h.inj,fun k l m=>?_,h.one⟩;obtain⟨s,o,u,v⟩:=h.row k l m;exact⟨s,o.we y (fun j r e=>i j ((h.blk j).2 ⟨k,l,m,e⟩) r),u.mapR (fun c x q=>RT.same (w:=G.w) d.hR q),by rw[d.hB]; exact v⟩
theorem OQ{o:Option Ob}(h:J3 o=true):∃T Te fr t xs hole,o=some (.grd T Te fr t xs hole):=by
 unfold J3 at h
 grind
theorem Sat.dlt{X:Cx}{G:Gh}(S:Sat X G){id b:Nat}(h:G.δ id b)(g:J3 (a8 G.o id)=true):b<G.w.heap.size:=by
 obtain⟨T,m,q,t,s,c,j⟩:=OQ g;obtain⟨l,r,_,a,_⟩:=S.obs id _ j;obtain⟨k,f,i,d⟩:=(a.blk b).1 h;obtain⟨n,e,_⟩:=a.row k f i;exact e.lt b d
theorem Sat.duf{X:Cx}{G:Gh}(S:Sat X G){id b:Nat}(h:G.δ id b)(e:J3 (a8 G.o id)=true):UF G.w b:=by
 obtain⟨T,m,q,t,s,c,g⟩:=OQ e;obtain⟨l,r,_,a,_⟩:=S.obs id _ g;obtain⟨k,d,f,i⟩:=(a.blk b).1 h;obtain⟨n,j,_⟩:=a.row k d f
 grind[GR]
theorem Sat.ext{X:Cx}{G:Gh}(S:Sat X G){w':World}(h:Ext G.w w'):Sat X { G with w:=w' }/\GLe G { G with w:=w' }:=by
 have a:GLe G { G with w:=w' }:=⟨rfl,fun k d u=>⟨d,h.block k u⟩,fun _ _ _ h=>⟨rfl,_,_,h⟩,fun _ _ _ _ _ _ _ h=>⟨rfl,_,_,_,_,_,_,h⟩,fun _ _ _ _ _ _ h=>⟨_,_,_,_,_,h,Nat.le_refl _,fun _=>rfl⟩⟩;refine⟨⟨S.base,h.os.trans S.os,h.tape.trans S.tape,h.output.trans S.output,Nat.le_trans S.size h.size,fun k d hi=>(h.block k (Nat.lt_of_lt_of_le d S.size)).trans (S.block k d hi),?_,S.inj,S.imm,S.own,fun k d=>(S.klt k d).same h.size (a.hK k d (S.klt k d).lt).2,S.kfrom,S.sep,fun i v h=>(S.pin i v h).mono a⟩,a⟩;intro id o s;have:=S.obs id o s;cases o with
 | box T m =>
   obtain⟨b,q,f,g,j,F⟩:=this;exact⟨b,q,f,g,j.ext h,AVRs.mono a F⟩
 | arr T y t H z =>
   obtain⟨m,f,g,j⟩:=this;exact⟨m,f.up h,g.mapR (fun c x n=>RT.same (w:=G.w) a.hR n),j⟩
 | grd T P y t H l =>
   obtain⟨r,E,f,g,j⟩:=this;exact⟨r,E,f.up h,g.up a (fun _=>Iff.rfl) (go:=none) (WE.of_ext h) (fun _ _ e=>by cases e),j⟩
def Gh.put(G:Gh)(id:Nat)(ob:Ob)(r:Value)(g:Option Nat)(w':World):Gh :=
 ⟨fun i=>if i=id then r else G.ρ i,fun i=>if i=id then g else G.γ i,G.K,w',(id,ob) :: G.o,G.B,fun i b=>i≠id/\G.δ i b⟩
def x0a(G:Gh)(id:Nat)(ob:Ob)(r:Value):Prop :=
 (∀T cs,a8 G.o id=some (.box T cs)->r=G.ρ id/\∃T' cs',ob=.box T' cs') /\
 (∀T fr t xs ver,a8 G.o id=some (.arr T fr t xs ver)->∃T' fr' t' xs' ver',ob=.arr T' fr' t' xs' ver'/\ver<=ver'/\(ver=ver'->r=G.ρ id))/\J3 (a8 G.o id)=false
theorem Sat.put{X:Cx}{G:Gh}(S:Sat X G){id:Nat}{ob:Ob}{r:Value}{g:Option Nat}{w':World}{go:Option Nat}
  (V:x0a G id ob r) (y:∀b,go=some b->(∃o,a8 G.o id=some o)/\G.γ id=some b) (f:WE go G.w w') (Y:∀b,g=some b->go=some b∨G.w.heap.size<=b)
  (aJ:GLe G (G.put id ob r g w')->ObR (G.put id ob r g w') id ob):Sat X (G.put id ob r g w')/\GLe G (G.put id ob r g w'):=by
 have n:∀i,a8 (G.put id ob r g w').o i=if id=i then some ob else a8 G.o i:=fun i=>lK _ _ _ _
 have aF:∀k,G.K k->go≠some k:=fun k q e=>by
  obtain⟨⟨o,d⟩,l⟩:=y k e;exact S.imm id o k d l q
 have s:GLe G (G.put id ob r g w'):=by
  refine⟨rfl,fun k q hl=>⟨q,f.block k hl (aF k q)⟩,fun i T cs hi=>?_,fun i T Te fr t xs E hi=>?_,fun i T fr t xs aA hi=>?_⟩
  ·rw[n];by_cases e:id=i
   ·subst e;obtain⟨u,T',aN,P⟩:=V.1 T cs hi
    grind[Gh.put]
   grind[Gh.put]
  ·rw[n];by_cases e:id=i
   ·subst e;have:=V.2.2;rw[hi] at this;cases this
   grind[Gh.put]
  ·rw[n];by_cases e:id=i
   ·subst e;obtain⟨T',aL,t',aM,aG,u,P,h3⟩:=V.2.1 T fr t xs aA hi;simp only[Gh.put,if_true]
    grind
   ·simp only[Gh.put,if_neg e,if_neg (Ne.symm e)]
    grind
 have F:∀i o b,i≠id->a8 G.o i=some o->G.γ i=some b->go≠some b:=fun i o b hi d a e=>by
  obtain⟨⟨Q,m⟩,l⟩:=y b e;exact hi (S.inj i id o Q b d m a l)
 have aK:∀i o b,a8 G.o i=some o->G.γ i=some b->b<G.w.heap.size:=fun i o b d a=>by
  have:=S.obs i o d;cases o with
  | box T cs=>obtain⟨b',us,u,P,h3,h4⟩:=this; rw[a] at u; cases u; exact h3.lt
  | arr T fr t xs aA=>obtain⟨cs,u,P,_⟩:=this; exact u.lt b a
  | grd T Te fr t xs E=>obtain⟨vs,bs,u,_⟩:=this; exact u.lt b a
 have aB:∀b,g=some b->∀i o,i≠id->a8 G.o i=some o->G.γ i≠some b:=fun b a i o hi d e=>by
  grind
 have aP:=Y;refine⟨⟨S.base,f.os.trans S.os,f.tape.trans S.tape,f.output.trans S.output,Nat.le_trans S.size f.size,fun k q hi=>?_,?_,?_,?_,?_,fun k q=>(S.klt k q).same f.size (s.hK k q (S.klt k q).lt).2,S.kfrom,?_,fun i v h=>(S.pin i v h).mono s⟩,s⟩
 ·refine(f.block k (Nat.lt_of_lt_of_le q S.size) (fun e=>?_)).trans (S.block k q hi);obtain⟨⟨o,d⟩,l⟩:=y k e;rcases S.own id o k d l with h | h
  ·omega
  grind
 ·intro i o d;rw[n] at d;by_cases e:id=i
  ·grind
  ·rw[if_neg e] at d;have:=S.obs i o d;cases o with
   | box T cs =>
     obtain⟨b,us,u,P,h3,h4⟩:=this;refine⟨b,us,?_,?_,?_,AVRs.mono s h4⟩
     ·grind[Gh.put]
     ·grind[Gh.put]
     ·exact h3.we f (fun j H z=>by grind)
   | arr T fr t xs aA =>
     obtain⟨cs,u,P,h3⟩:=this;refine⟨cs,?_,?_,by grind[Gh.put]⟩
     ·simp only[Gh.put,if_neg (Ne.symm e)];exact u.we f (fun j H z=>F i _ j (Ne.symm e) d z H)
     ·exact P.mapR (fun c x hr=>RT.same (w:=G.w) s.hR hr)
   | grd T Te fr t xs E =>
     obtain⟨vs,bs,u,P,h3⟩:=this;refine⟨vs,bs,?_,?_,by grind[Gh.put]⟩
     ·simp only[Gh.put,if_neg (Ne.symm e)];exact u.we f (fun j H z=>F i _ j (Ne.symm e) d z H)
     ·refine P.up s (fun b=>⟨fun h=>h.2,fun h=>⟨Ne.symm e,h⟩⟩) f (fun b a aC=>?_);obtain⟨⟨Q,m⟩,l⟩:=y b aC;exact(S.sep i b a (by rw[d]; rfl)).2.2.1 id Q m l
 ·intro i i' o Q b d m a W;rw[n] at d m;simp only[Gh.put] at a W;by_cases e:i=id
  ·grind
  ·rw[if_neg e] at a;rw[if_neg (Ne.symm e)] at d;by_cases e':i'=id
   ·grind
   ·rw[if_neg e'] at W;rw[if_neg (Ne.symm e')] at m;exact S.inj i i' o Q b d m a W
 ·intro i o b d a q;rw[n] at d;simp only[Gh.put] at a q;by_cases e:i=id
  ·rw[if_pos e] at a;rcases Y b a with h | h
   ·grind
   ·have:=(S.klt b q).lt; omega
  ·rw[if_neg e] at a;rw[if_neg (Ne.symm e)] at d;exact S.imm i o b d a q
 ·intro i o b d a;rw[n] at d;simp only[Gh.put] at a;by_cases e:i=id
  ·rw[if_pos e] at a;rcases Y b a with h | h
   ·obtain⟨⟨Q,m⟩,l⟩:=y b h;exact S.own id Q b m l
   ·exact .inl (Nat.le_trans S.size h)
  ·rw[if_neg e] at a;rw[if_neg (Ne.symm e)] at d;exact S.own i o b d a
 ·intro i b a Y;obtain⟨aD,a⟩:=a;rw[n,if_neg (Ne.symm aD)] at Y;obtain⟨s1,s2,s3,s4⟩:=S.sep i b a Y;have aI:=S.dlt a Y;refine⟨s1,s2,fun j o d H=>?_,fun j H aO=>?_⟩
  ·grind[Gh.put]
  ·obtain⟨aH,H⟩:=H
   grind
def Gh.grd(G:Gh)(id:Nat)(ob:Ob)(D:Nat->Prop)(w':World):Gh :=
 ⟨G.ρ,G.γ,G.K,w',(id,ob) :: G.o,G.B,fun i b=>(i=id/\D b)∨(i≠id/\G.δ i b)⟩
theorem Sat.grd{X:Cx}{G:Gh}(S:Sat X G){id:Nat}{T Te T' Te':TypeId}{fr fr':Bool}{t t':Ty}{xs:List (List (c7 t))}{xs':List (List (c7 t'))}{H hole':Option Nat}{D:Nat->Prop}{w':World}{go:Option Nat}
  (P:a8 G.o id=some (.grd T Te fr t xs H)) (r:∀b,go=some b->G.γ id=some b) (d:WE go G.w w')
  (hD:∀b,D b->(X.w0.heap.size<=b∨X.io b)/\¬G.K b/\(∀i o,a8 G.o i=some o->G.γ i≠some b)/\∀i,i≠id->G.δ i b->J3 (a8 G.o i)=true->False)
  (aC:GLe G (G.grd id (.grd T' Te' fr' t' xs' hole') D w')->ObR (G.grd id (.grd T' Te' fr' t' xs' hole') D w') id (.grd T' Te' fr' t' xs' hole')) :
  Sat X (G.grd id (.grd T' Te' fr' t' xs' hole') D w')/\GLe G (G.grd id (.grd T' Te' fr' t' xs' hole') D w'):=by
 have z:∀i,a8 (G.grd id (.grd T' Te' fr' t' xs' hole') D w').o i=if id=i then some (.grd T' Te' fr' t' xs' hole') else a8 G.o i:=fun i=>lK _ _ _ _
 have a:∀i o,a8 (G.grd id (.grd T' Te' fr' t' xs' hole') D w').o i=some o->∃V,a8 G.o i=some V:=fun i o h=>by
  grind
 have n:∀i,J3 (a8 (G.grd id (.grd T' Te' fr' t' xs' hole') D w').o i)=J3 (a8 G.o i):=fun i=>by
  rw[z];by_cases e:id=i
  ·subst e; rw[if_pos rfl,P]; rfl
  grind
 have aB:∀k,G.K k->go≠some k:=fun k q e=>S.imm id _ k P (r k e) q;have m:GLe G (G.grd id (.grd T' Te' fr' t' xs' hole') D w'):=by
  refine⟨rfl,fun k q hl=>⟨q,d.block k hl (aB k q)⟩,fun i T0 cs hi=>⟨rfl,?_⟩,fun i T0 Te0 f0 t0 x0 h0 hi=>⟨rfl,?_⟩,fun i T0 f0 t0 x0 aA hi=>?_⟩
  ·grind
  ·grind
  ·rw[z];by_cases e:id=i
   ·grind
   ·rw[if_neg e]; exact⟨_,_,_,_,_,hi,Nat.le_refl _,fun _=>rfl⟩
 have y:∀i o b,i≠id->a8 G.o i=some o->G.γ i=some b->go≠some b:=fun i o b hi h f e=>hi (S.inj i id o _ b h P f (r b e));refine⟨⟨S.base,d.os.trans S.os,d.tape.trans S.tape,d.output.trans S.output,Nat.le_trans S.size d.size,fun k q hi=>?_,?_,?_,?_,?_,fun k q=>(S.klt k q).same d.size (m.hK k q (S.klt k q).lt).2,S.kfrom,?_,fun i v h=>(S.pin i v h).mono m⟩,m⟩
 ·refine(d.block k (Nat.lt_of_lt_of_le q S.size) (fun e=>?_)).trans (S.block k q hi);rcases S.own id _ k P (r k e) with h | h
  ·omega
  grind
 ·intro i o hi;rw[z] at hi;by_cases e:id=i
  ·grind
  ·rw[if_neg e] at hi;have:=S.obs i o hi;cases o with
   | box T cs =>
     obtain⟨b,us,l,E,Q,h4⟩:=this;exact⟨b,us,l,E,Q.we d (fun j g u=>by grind),h4.mono m⟩
   | arr T fr t xs aA =>
     obtain⟨cs,l,E,Q⟩:=this;exact⟨cs,l.we d (fun j g u=>y i _ j (Ne.symm e) hi u g),E.mapR (fun c x hr=>RT.same (w:=G.w) m.hR hr),Q⟩
   | grd T0 Te0 f0 t0 x0 h0 =>
     obtain⟨vs,bs,l,E,Q⟩:=this;refine⟨vs,bs,l.we d (fun j g u=>y i _ j (Ne.symm e) hi u g),E.up m (fun b=>⟨fun h=>?_,fun h=>.inr ⟨Ne.symm e,h⟩⟩) d (fun b f n=>?_),Q⟩
     ·rcases h with ⟨h,_⟩ | ⟨_,h⟩
      ·omega
      omega
     ·exact(S.sep i b f (by rw[hi]; rfl)).2.2.1 id _ P (r b n)
 ·intro i i' o V b h h' f Y;obtain⟨s,l⟩:=a i o h;obtain⟨o2,E⟩:=a i' V h';exact S.inj i i' s o2 b l E f Y
 ·intro i o b h f;obtain⟨s,l⟩:=a i o h;exact S.imm i s b l f
 ·intro i o b h f;obtain⟨s,l⟩:=a i o h;exact S.own i s b l f
 ·intro i b f hg;rw[n] at hg;rcases f with ⟨rfl,f⟩ | ⟨hne,f⟩
  ·obtain⟨s1,s2,W,s4⟩:=hD b f;refine⟨s1,s2,fun j o h g=>?_,fun j g F=>?_⟩
   ·obtain⟨s,l⟩:=a j o h;exact W j s l g
   ·rw[n] at F;rcases g with ⟨e,_⟩ | ⟨e,g⟩
    ·omega
    grind
  ·obtain⟨s1,s2,W,s4⟩:=S.sep i b f hg;refine⟨s1,s2,fun j o h g=>?_,fun j g F=>?_⟩
   ·obtain⟨s,l⟩:=a j o h;exact W j s l g
   ·rw[n] at F;rcases g with ⟨rfl,g⟩ | ⟨e,g⟩
    ·grind
    grind
def Z4(t t':Ty)(x:c7 t):Option (c7 t'):=if h:t=t' then some (h ▸ x) else none
theorem FB{t t':Ty}{x:c7 t}{y:c7 t'}(h:Z4 t t' x=some y):∃e:t=t',y=e ▸ x:=by
 unfold Z4 at h
 grind
def Bl(o:List (Nat×Ob))(rec:(t:Ty)->List AV->Option (c7 t×List Nat×Bool)):(t:Ty)->AV->Option (c7 t×List Nat×Bool)
 | t,.d fr t' x=>match Z4 t' t x with
   | some y=>some (y,[],fr||D8 t)
   | none=>none
 | .sl _,.v (.slice none 0 0)=>some ([],[],true)
 | .sl e,.os id ver=>match a8 o id with
   | some (.arr _ fr e' xs ver')=>bif Nat.beq ver ver' then(match Z4 (.sl e') (.sl e) xs with
     | some y=>some (y,[id],fr||D8 e)
     | none=>none) else none
   | _=>none
 | .pt e,.ptr id off=>match a8 o id with
   | some (.box _ cs)=>match rec e ((cs.drop off).take (sz e)) with
     | some (x,l,_)=>some (x,id :: l,false)
     | none=>none
   | _=>none
 | _,_=>none
def H7(o:List (Nat×Ob)):Nat->(t:Ty)->List AV->Option (c7 t×List Nat×Bool)
 | 0,_,_=>none
 | n+1,.pr a b,cs=>match H7 o n a (cs.take (sz a)) with
   | some (x,l,f)=>match H7 o n b (cs.drop (sz a)) with
     | some (y,m,g)=>some ((x,y),l++m,f&&g)
     | none=>none
   | none=>none
 | n+1,t,cs=>match cs with
   | [c]=>Bl o (H7 o n) t c
   | _=>none
def rk(G:Gh)(K':Nat->Prop)(fl:Bool)(k:Nat):Prop:=K' k/\(fl=true->G.B<=k)
theorem s0I{X:Cx}{G:Gh}(S:Sat X G){K':Nat->Prop}(V:∀k,G.K k->K' k){n:(t:Ty)->List AV->Option (c7 t×List Nat×Bool)}
  (q:∀{t:Ty} {cs:List AV} {us:List Value} {x:c7 t} {l:List Nat} {r:Bool},n t cs=some (x,l,r)->(∀id∈l,∀b,G.γ id=some b->K' b)->AVRs G cs us->RT (rk G K' r) G.w t us x)
  {t:Ty} {c:AV} {u:Value} {x:c7 t} {l:List Nat} {r:Bool} (h:Bl G.o n t c=some (x,l,r)) (P:∀id∈l,∀b,G.γ id=some b->K' b) (d:AVR G c u):RT (rk G K' r) G.w t [u] x:=by
 unfold Bl at h;split at h
 ·rename_i t0 fr t' x0;split at h
  ·rename_i y Q;simp only[oi,pj] at h;obtain⟨rfl,rfl,rfl⟩:=h;obtain⟨e,rfl⟩:=FB Q;subst e;by_cases hf:D8 t'=true
   ·exact RT.free hf d
   ·exact RT.up d (fun k f=>⟨V k f.1,fun e=>f.2 (by grind)⟩)
  grind
 ·simp only[oi,pj] at h;obtain⟨rfl,rfl,rfl⟩:=h;have:u=_:=d;subst this;exact⟨none,0,rfl,Nat.le_refl _,by omega,.inl rfl⟩
 ·rename_i e id aC;split at h
  ·rename_i T fr e' xs W F;rw[ce] at h;split at h
   ·rename_i H;split at h
    ·rename_i y Q;simp only[oi,pj] at h;obtain⟨rfl,rfl,rfl⟩:=h;obtain⟨z,rfl⟩:=FB Q;cases z;obtain⟨_,T1,aF,t1,aB,aA,E,h2,h3⟩:=d;rw[F] at E;cases E;have d:=h3 (nb H);subst d;obtain⟨cs,m,hA,hB⟩:=S.obs id _ F;have a:AllR (RT (rk G K' (fr||D8 e)) G.w e) cs xs:=hA.mapR (fun c x hr=>by
      by_cases hf:D8 e=true
      ·grind[RT.free]
      ·exact RT.up hr (fun k f=>⟨V k f.1,fun e'=>f.2 (by grind)⟩))
     cases hg:G.γ id with
     | none =>
       rw[hg] at m;rcases m with ⟨_,hn,_,p,hp⟩ | ⟨b,_,_,_,s,_⟩
       ·have:xs=[]:=List.eq_nil_of_length_eq_zero hn;subst this;exact⟨p,0,by grind,Nat.le_refl _,by omega,.inl rfl⟩
       grind
     | some b =>
       rw[hg] at m;obtain⟨o0,c0,z,g⟩:=m.at;rcases m with ⟨h,_⟩ | ⟨b',o1,cap,cur,s,hv2,k1,k2,k3,k4,k5⟩
       ·cases h
       ·cases s;rw[hv2] at z; cases z;exact⟨_,c0,by rw[hv2],k2,(by grind[maxLen]),.inr ⟨b,o0,cs,rfl,⟨P id (by simp) b hg,fun _=>hB b hg⟩,g,a⟩⟩
    grind
   grind
  grind
 ·rename_i e id j;split at h
  ·rename_i T aD F;split at h
   ·rename_i x1 l1 f1 E;simp only[oi,pj] at h;obtain⟨rfl,rfl,rfl⟩:=h;obtain⟨_,b,s,rfl⟩:=d;obtain⟨b',us,g1,g2,g3,g4⟩:=S.obs id _ F;rw[s] at g2;cases g2;have a:=((g4.take j).2.take (sz e)).1;have hR:=q E (fun i hi=>P i (by grind)) a;refine⟨b,j,_,rfl,⟨P id (by simp) b g1,(fun e=>by cases e)⟩,?_,RT.up hR (fun k f=>⟨f.1,(fun e=>by cases e)⟩)⟩;have g:=g3.at;intro i v H;have hi:i<sz e:=by
     rcases Nat.lt_or_ge i (sz e) with Y | Y
     ·exact Y
     ·grind
    rw[List.getElem?_take_of_lt hi,List.getElem?_drop] at H;have:=g (j+i) v H
    grind
   grind
  grind
 grind
theorem DH{X:Cx}{G:Gh}(S:Sat X G){K':Nat->Prop}(P:∀k,G.K k->K' k):∀(n:Nat) {t:Ty} {cs:List AV} {us:List Value} {x:c7 t} {l:List Nat} {fl:Bool},
  H7 G.o n t cs=some (x,l,fl)->(∀id∈l,∀b,G.γ id=some b->K' b)->AVRs G cs us->RT (rk G K' fl) G.w t us x:=by
 intro n
 induction n with
 | zero=>grind[H7]
 | succ n y =>
   intro t cs us x l fl h v s;have m:∀(t:Ty) (x:c7 t) (r:Option (c7 t×List Nat×Bool)),r=some (x,l,fl)->r=(match(generalizing:=false) cs with | [c]=>Bl G.o (H7 G.o n) t c | _=>none)->RT (rk G K' fl) G.w t us x:=by
    intro t x r q d;rw[q] at d;have h:=d.symm;split at h
    ·rename_i c;obtain⟨u,i,rfl,V,z⟩:=s;have:i=[]:=z
     grind[s0I]
    ·cases h
   cases t with
   | pr a b =>
     unfold H7 at h;split at h
     ·rename_i T Y Q F;split at h
      ·rename_i W H g1 E;simp only[oi,pj] at h;obtain⟨rfl,rfl,rfl⟩:=h;have f:=AVRs.take s (sz a);refine⟨us.take (sz a),us.drop (sz a),(List.take_append_drop _ _).symm,RT.up (y F (fun id j=>v id (by grind)) f.1) (fun k g=>⟨g.1,fun e=>g.2 ?_⟩),RT.up (y E (fun id j=>v id (by grind)) f.2) (fun k g=>⟨g.1,fun e=>g.2 ?_⟩)⟩
       ·grind
       grind
      grind
     grind
   | _=>exact m _ _ _ h rfl
theorem Xg{X:Cx}{G:Gh}(S:Sat X G){n:Nat}{t:Ty}{cs:List AV}{us:List Value}{x:c7 t}{a:Bool}(h:H7 G.o n t cs=some (x,[],a))(b:AVRs G cs us):RT (rg G a) G.w t us x :=
 DH S (K':=G.K) (fun _ h=>h) n h (fun _ h=>by cases h) b
def A7(fr:Bool):(t:Ty)->c7 t->List AV
 | .pr a b,x=>A7 fr a x.1++A7 fr b x.2
 | .int k,x=>[.d fr (.int k) x]
 | .bool,x=>[.d fr .bool x]
 | .str,x=>[.d fr .str x]
 | .sl e,x=>[.d fr (.sl e) x]
 | .pt e,x=>[.d fr (.pt e) x]
theorem Bm{G:Gh}{fr:Bool}:∀{t:Ty} {us:List Value} {x:c7 t},RT (rg G fr) G.w t us x->AVRs G (A7 fr t x) us
 | .pr a b,_,x,⟨c,d,e,h1,h2⟩=>by rw[e]; exact AVRs.app (Bm h2) (Bm h1)
 | .int _,us,x,h=>⟨_,[],h.1,⟨rfl,h.2⟩,rfl⟩
 | .bool,us,x,h=>⟨_,[],(show us=_ from h),rfl,rfl⟩
 | .str,us,x,h=>⟨_,[],h.1,⟨rfl,h.2⟩,rfl⟩
 | .sl e,us,x,⟨p,cap,h1,h⟩=>⟨_,[],h1,⟨p,cap,rfl,h⟩,rfl⟩
 | .pt e,us,x,⟨b,o,ds,h1,h⟩=>⟨_,[],h1,⟨b,o,ds,rfl,h⟩,rfl⟩
def GS(fr:Bool):(t:Ty)->c7 t->Nat->Option AV
 | t,x,0=>some (.d fr (.pt t) x)
 | .pr a b,x,off=>bif Nat.ble (sz a) off then GS fr b x.2 (off-sz a) else GS fr a x.1 off
 | _,_,_=>none
theorem p0x{G:Gh}{fr:Bool}{b:Nat}(k:rg G fr b):∀{t:Ty} {x:c7 t} {off o:Nat} {ds:List Value} {a:AV},GS fr t x off=some a->At G.w b o ds->RT (rg G fr) G.w t ds x->AVR G a (.pointer (some ⟨b,o+off,none⟩)):=by
 intro t
 induction t with
 | pr q r i m =>
   intro x off o ds a h e f;cases off with
   | zero=>simp only[GS,oi] at h; subst h; exact⟨b,o,ds,rfl,k,e,f⟩
   | succ off =>
     simp only[GS,ce] at h;split at h
     ·rename_i g;have g:=Nat.le_of_ble_eq_true g;obtain⟨c,d,rfl,j,n⟩:=f;have l:At G.w b (o+c.length) d:=At.mid (pre:=c) (c:=d) (post:=[]) (by grind)
      grind[RT.len,sz]
     ·obtain⟨c,d,rfl,j,n⟩:=f;exact i h (At.mid (pre:=[]) (c:=c) (post:=d) (by grind)) j
 | _ =>
   intro x off o ds a h e f;cases off with
   | zero=>simp only[GS,oi] at h; subst h; exact⟨b,o,ds,rfl,k,e,f⟩
   | succ off=>grind[GS]
abbrev Pa:=List (Nat×Bool)
structure Sl where
 p:Pa
 a:AV
structure St where
 e:List (Nat×Sl)
 o:List (Nat×Ob)
def Sf(p q:Pa):Bool:=p.all fun x=>q.any fun y=>Nat.beq x.1 y.1&&(x.2==y.2)
def PathP(p:Pa)(a:Act):Prop:=∀x∈p,a.tmps.getD x.1 undef=.bool x.2
theorem PathP.sub{p q:Pa}{a:Act}(h:PathP q a)(c:Sf p q=true):PathP p a:=by
 intro x d;simp only[Sf,List.all_eq_true,List.any_eq_true,ba,beq_iff_eq] at c;obtain⟨y,f,b,e⟩:=c x d;have b:=nb b;rw[b,e]; exact h y f
structure EnvR(n:Nat)(G:Gh)(e:List (Nat×Sl))(a:Act):Prop where
 defers:a.defers=[]
 size:a.tmps.size=n
 val:∀t s,a8 e t=some s->(PathP s.p a->AVR G s.a (a.tmps.getD t undef))/\(¬PathP s.p a->a.tmps.getD t undef=undef)
theorem EnvR.mono{n:Nat}{G b:Gh}{e:List (Nat×Sl)}{a:Act}(h:EnvR n G e a)(f:GLe G b):EnvR n b e a :=
 ⟨h.defers,h.size,fun t s c=>⟨fun d=>((h.val t s c).1 d).mono f,(h.val t s c).2⟩⟩
def OR:Value->Option AV
 | .int k n=>bif decide (lo k<=n)&&decide (n<=hi k) then some (.d true (.int k) n) else none
 | .bool b=>some (.d true .bool b)
 | .string s=>bif decide (s.size<=9223372036854775807) then some (.d true .str s) else none
 | .agg _=>none
 | .tuple _=>none
 | u=>some (.v u)
def Bn:List Value->Option (List AV)
 | []=>some []
 | u :: r=>match OR u with
   | some a=>match Bn r with
     | some l=>some (a :: l)
     | none=>none
   | none=>none
theorem l0l{G:Gh}{u:Value}{a:AV}(h:OR u=some a):AVR G a u:=by
 unfold OR at h;split at h
 ·rw[ce] at h;split at h
  ·rename_i b;simp only[ba,dq] at b;simp only[oi] at h; subst h; exact⟨rfl,b⟩
  grind
 ·simp only[oi] at h; subst h; exact rfl
 ·rw[ce] at h;split at h
  ·rename_i b;simp only[dq] at b;simp only[oi] at h; subst h; exact⟨rfl,b⟩
  grind
 ·cases h
 ·cases h
 ·simp only[oi] at h; subst h; exact rfl
theorem KK{G:Gh}:∀{us:List Value} {as:List AV},Bn us=some as->AVRs G as us
 | [],as,h=>by simp[Bn] at h; subst h; exact rfl
 | u :: r,as,h=>by
   unfold Bn at h;split at h
   ·rename_i a b;split at h
    ·rename_i l c;simp at h; subst h; exact⟨u,r,rfl,l0l b,KK c⟩
    grind
   grind
def Sg:Value->Option AV
 | .agg cs=>match Bn cs.toList with
   | some l=>some (.agg l)
   | none=>none
 | u=>OR u
theorem s0N{G:Gh}{u:Value}{a:AV}(h:Sg u=some a):AVR G a u:=by
 unfold Sg at h;split at h
 ·rename_i b;split at h
  ·rename_i l c;simp at h; subst h; exact⟨b.toList,by simp,KK c⟩
  grind
 grind[l0l]
def rd(st:St)(p:Pa):Operand->Option AV
 | .tmp t=>match a8 st.e t with
   | some s=>bif Sf s.p p then some s.a else none
   | none=>none
 | .const v=>Sg v
 | .func f=>some (.fn f [])
 | .global g=>some (.v (.pointer (some ⟨g,0,none⟩)))
theorem D9{n:Nat}{G:Gh}{st:St}{a:Act}{p:Pa}(f:EnvR n G st.e a)(d:PathP p a){x:Operand}{v:AV}(h:rd st p x=some v):AVR G v (a.eval x):=by
 unfold rd at h;split at h
 ·rename_i t;split at h
  ·rename_i s c;rw[ce] at h;split at h
   ·rename_i b;simp at h; subst h;exact(f.val t s c).1 (d.sub b)
   grind
  grind
 ·exact s0N h
 ·simp at h; subst h; exact⟨[],rfl,rfl⟩
 ·simp at h; subst h; exact rfl
def N6(st:St)(p:Pa):List Operand->Option (List AV)
 | []=>some []
 | x :: r=>match rd st p x with
   | some a=>match N6 st p r with
     | some l=>some (a :: l)
     | none=>none
   | none=>none
theorem Ca{n:Nat}{G:Gh}{st:St}{a:Act}{p:Pa}(d:EnvR n G st.e a)(c:PathP p a):∀{xs:List Operand} {vs:List AV},N6 st p xs=some vs->AVRs G vs (xs.map a.eval)
 | [],vs,h=>by simp[N6] at h; subst h; exact rfl
 | x :: r,vs,h=>by
   unfold N6 at h;split at h
   ·rename_i b f;split at h
    ·rename_i l g;simp at h; subst h; exact⟨_,_,rfl,D9 d c f,Ca d c g⟩
    grind
   grind
inductive Kd
 | agg (pl:List (Nat×Nat)) (e:Bool) (ag:List Bool) | sl (E:TypeId) | arr (m:Nat) (E:TypeId) | str | bool | int (k:IntKind) | oth | ptr
structure TI where
 size:Nat
 bytes:Nat
 zero:Value
 kd:Kd
 ty:Ty
def Si(P:Program)(T:TypeId):Nat->List (Nat×Nat)->Prop
 | _,[]=>True
 | k,(off,_) :: r=>OK P T k=some (off,true)/\Si P T (k+1) r
def O0e(P:Program)(t:TypeId):Bool:=match P.underlying t with
 | some (.int _)=>true
 | _=>false
def Sj(P:Program):Nat->List Field->Bool
 | _,[]=>true
 | k, f :: r => decide (f.name ≠ "_") && Nat.beq f.offset k && O0e P f.type && Sj P (k + 1) r
def Xh(P:Program)(T:TypeId):Bool:=match P.underlying T with
 | some (.struct fs)=>!P.stoodInHeld T&&!P.eqGuardType P.depth T&&Sj P 0 fs.toList
 | _=>false
def Xi(P:Program)(T:TypeId):Option (List (Bool×Bool)):=match P.underlying T with
 | some (.struct fs)=>some (fs.toList.map fun f=>(BW P f.type,Z2 P f.type))
 | _=>none
def Sk(P:Program)(T:TypeId):Kd->Prop
 | .agg pl e ag=>BW P T=true/\KH P T=some pl/\OO P T=true/\Si P T 0 pl/\(e=true->Xh P T=true)/\Xi P T=some (ag.map fun b=>(b,!b))
 | .arr m E=>BW P T=true/\P.underlying T=some (.array m E)
 | .sl E=>Z2 P T=true/\P.underlying T=some (.slice E)
 | .str=>Z2 P T=true/\P.underlying T=some .string
 | .bool=>Z2 P T=true/\P.underlying T=some .bool
 | .int k=>Z2 P T=true/\P.underlying T=some (.int k)
 | .oth=>Z2 P T=true
 | .ptr=>Z2 P T=true/\P.underlying T=some (.pointer (P.pointee T))
def IM(P:Program)(T:TypeId)(ti:TI):Prop :=
 RY P T=some (ti.size,ti.bytes,some ti.zero)/\Z3 ti.zero.cells.toList ti.size=true/\Nat.blt 0 ti.size=true/\ones ti.zero.cells.toList=true/\Sk P T ti.kd
abbrev p9:=List (Nat×TI)
def B6(P:Program)(Γ:p9):Prop:=∀T ti,a8 Γ T=some ti->IM P T ti
theorem h0M{P:Program}{T:TypeId}:∀{pl:List (Nat×Nat)} {j k:Nat} {x:Nat×Nat},Si P T j pl->pl[k]?=some x->OK P T (j+k)=some (x.1,true)
 | (off,s) :: r,j,0,x,h,hx=>by simp at hx; subst hx; exact h.1
 | (off,s) :: r,j,k+1,x,h,hx=>by
   have:=h0M (j:=j+1) (k:=k) h.2 (by simpa using hx);rw[show j+(k+1)=j+1+k by omega]; exact this
def isAgg:Kd->Bool
 | .agg .. | .arr ..=>true
 | _=>false
theorem C0q{P:Program}{T:TypeId}{a:Kd}(h:Sk P T a):(isAgg a=true->BW P T=true)/\(isAgg a=false->Z2 P T=true):=by
 cases a with
 | agg c e b=>exact⟨fun _=>h.1,(fun e=>by cases e)⟩
 | arr m E=>exact⟨fun _=>h.1,(fun e=>by cases e)⟩
 | oth=>exact⟨(fun e=>by cases e),fun _=>h⟩
 | _=>exact⟨(fun e=>by cases e),fun _=>h.1⟩
def F2(a:Act):List Operand->y9
 | []=>[]
 | .tmp t :: r=>(t,a.tmps.getD t undef) :: F2 a r
 | _ :: r=>F2 a r
theorem OS{a:Act}{t:Nat}{v:Value}:∀{xs:List Operand},lk (F2 a xs) t=some v->a.tmps.getD t undef=v
 | [],h=>by cases h
 | .tmp s :: r,h=>by
   rw[F2,CU] at h;by_cases e:s=t
   ·grind
   ·rw[if_neg e] at h; exact OS h
 | .const _ :: r,h=>OS (xs:=r) h
 | .global _ :: r,h=>OS (xs:=r) h
 | .func _ :: r,h=>OS (xs:=r) h
theorem Xj{n:Nat}{G:Gh}{e:List (Nat×Sl)}{a:Act}(h:EnvR n G e a)(xs:List Operand):Agree n (F2 a xs) a:=⟨h.defers,h.size,fun _ _ b=>OS b⟩
theorem r0G{a:Act}{t:Nat}:∀{xs:List Operand},.tmp t∈xs->lk (F2 a xs) t=some (a.tmps.getD t undef)
 | y :: r,h=>by
   have d:Operand.tmp t∈r->lk (F2 a (y :: r)) t=some (a.tmps.getD t undef):=fun c=>by
    have b:=r0G (a:=a) c;cases y with
    | tmp s =>
      rw[F2,CU];by_cases e:s=t
      ·subst e; simp
      ·rw[if_neg e]; exact b
    | _=>exact b
   grind[F2,CU]
theorem K7{a:Act}{xs:List Operand}{x:Operand}(h:x∈xs):ev (F2 a xs) x=some (a.eval x):=by
 cases x with
 | tmp t=>exact r0G h
 | _=>rfl
def N7(X:Cx)(G:Gh)(a:Act)(op:Op)(ty:TypeId)(av:AV):Prop :=
 ∃v,(∀dst pos after g,(execOp a.eval ⟨dst,op,ty,pos,after,g⟩).run X.P G.w=.ok (.value v) G.w)/\AVR G av v
theorem C2{X:Cx}{G:Gh}{a:Act}{st:St}{f:Op}{ty:TypeId}{av:AV}{v:Value}(j:EnvR X.n G st.e a)(xs:List Operand)(h:D6 X.P X.n (F2 a xs) f ty G.w v G.w)(i:AVR G av v):N7 X G a f ty av :=
 ⟨v,fun c d b g=>h a c d b g (Xj j xs),i⟩
def CV:AV->Option (List AV)
 | .agg xs=>bif xs.all Se then some xs else none
 | a=>bif Se a then some [a] else none
theorem Q7:∀{us:List Value},(∀u∈us,u.oneCell'=true)->ones us=true
 | [],_=>rfl
 | u :: r,h=>by
   have a:=h u (by simp);have b:=Q7 (us:=r) (fun v c=>h v (by grind))
   grind[ones,Value.oneCell']
theorem AVRs.ones{G:Gh}:∀{as:List AV} {us:List Value},AVRs G as us->as.all Se=true->∀u∈us,u.oneCell'=true
 | [],us,h,_,u,hu=>by rw[show us=[] from h] at hu; cases hu
 | a :: r,us,⟨u,us',e,h1,h2⟩,ho,x,hx=>by
   simp only[List.all_cons,ba] at ho;rw[e] at hx;rcases List.mem_cons.1 hx with rfl | hx
   ·exact h1.one ho.1
   ·exact AVRs.ones h2 ho.2 x hx
theorem w0A{u:Value}(h:u.oneCell'=true):u.cells.toList=[u]:=by cases u <;> first | rfl | cases h
theorem KL{G:Gh}{a:AV}{cs:List AV}{u:Value}(h:CV a=some cs)(d:AVR G a u):AVRs G cs u.cells.toList/\ones u.cells.toList=true:=by
 unfold CV at h;split at h
 ·rename_i g;rw[ce] at h;split at h
  ·rename_i c;simp at h; subst h;obtain⟨f,rfl,b⟩:=d;simp only[Value.cells,List.toList_toArray];exact⟨b,Q7 (b.ones c)⟩
  grind
 ·rw[ce] at h;split at h
  ·rename_i c;simp at h; subst h;have b:=d.one c;rw[w0A b];exact⟨⟨u,[],rfl,d,rfl⟩,Q7 (fun v e=>by grind)⟩
  grind
def KM(ti:TI)(cs:List AV):Option AV :=
 bif isAgg ti.kd then(bif Nat.ble ti.size cs.length then some (.agg (cs.take ti.size)) else none)
 else match cs with
  | c :: _=>some c
  | []=>none
theorem Xk{w:World}{b o:Nat}{us:List Value}(h:At w b o us)(k:Nat):At w b o (us.take k):=by
 intro i u a;rcases Nat.lt_or_ge i k with c | c
 ·rw[List.getElem?_take_of_lt c] at a; exact h i u a
 grind
theorem Xm{w:World}{b o:Nat}{us:List Value}(h:At w b o us)(k:Nat):At w b (o+k) (us.drop k):=by
 intro i u a;rw[List.getElem?_drop] at a;have:=h (k+i) u a
 grind
theorem r0g{X:Cx}{G:Gh}{a:Act}{st:St}{T:TypeId}{d:TI}{x:Operand}{b o:Nat}{us:List Value}{cs:List AV}{av:AV}{ty:TypeId}(q:EnvR X.n G st.e a)(l:IM X.P T d)
  (y:a.eval x=.pointer (some ⟨b,o,none⟩)) (i:At G.w b o us) (k:AVRs G cs us) (h:KM d cs=some av):N7 X G a (.load T x) ty av:=by
 obtain⟨hi,z,_,_,j⟩:=l;have j:=C0q j;have f:ev (F2 a [x]) x=some (.pointer (some ⟨b,o,none⟩)):=by grind[K7]
 unfold KM at h;rw[ce] at h;split at h
 ·rename_i m;rw[ce] at h;split at h
  ·rename_i g;simp at h; subst h;have g:=Nat.le_of_ble_eq_true g
   haveI:M5 X.P T:=⟨j.1 m⟩
   haveI:Info X.P T d.size d.bytes d.zero:=⟨hi⟩
   have s:=k.len;exact C2 q [x] (CI f (by grind) (Xk i d.size)) ⟨us.take d.size,rfl,(k.take _).1⟩
  grind
 ·rename_i m;split at h
  ·rename_i c r;simp at h; subst h
   haveI:K9 X.P T:=⟨j.2 (by grind)⟩
   obtain⟨u,v,rfl,t,_⟩:=k;exact C2 q [x] (Xc f (by simpa using i 0 u rfl)) t
  grind
def Xn(a b:Operand)(x y z:Bool):Bool:=match b with
 | .const (.bool false)=>x&&y
 | _=>match a with
   | .const (.bool true)=>x||z
   | _=>bif x then y else z
theorem evB{st:St}{p:Pa}{v:Bool}{f:Bool}{y:Bool}(h:rd st p (.const (.bool v))=some (.d f .bool y)):y=v:=by
 grind[rd,Sg,OR]
theorem v0E{st:St}{p q:Pa}{a b:Operand}{f g x y z:Bool}(e:rd st p a=some (.d f .bool y))(c:rd st q b=some (.d g .bool z)):Xn a b x y z=bif x then y else z:=by
 unfold Xn
 grind[evB]
def FC(k:IntKind)(r:Int):Prop:=lo k<=r/\r<=hi k
def DI(k k':IntKind)(r:Bool):Option (Prop×AV):=bif decide (k=k') then some (True,.d true .bool r) else none
def Sm(a b:Int):Bool:=a==b
def neI(a b:Int):Bool:=a != b
def ltI(a b:Int):Bool:=decide (a<b)
def leI(a b:Int):Bool:=decide (a<=b)
def O0o(a b:Int):Option (Prop×AV):=some (FC .i64 (a+b),.d true (.int .i64) (a+b))
def M0w(a b:Int):Option (Prop×AV):=some (FC .i64 (a-b),.d true (.int .i64) (a-b))
def N0Z(a b:Int):Option (Prop×AV):=some (FC .i64 (a*b),.d true (.int .i64) (a*b))
def M0Q(a b:Int):Option (Prop×AV):=some (0<b,.d true (.int .i64) (a.tdiv b))
def M0A(a b:Int):Option (Prop×AV):=some (0<b,.d true (.int .i64) (a.tmod b))
def M0x(a b:Int):Option (Prop×AV):=some ((0<=b/\b<=62)/\FC .i64 (a*2 ^ b.toNat),.d true (.int .i64) (a*2 ^ b.toNat))
def Sn(k:IntKind)(a b:Int):Option (Prop×AV):=some ((0<=b/\b<=62)/\FC k (a.fdiv (2 ^ b.toNat)),.d true (.int k) (a.fdiv (2 ^ b.toNat)))
def So(a b:ByteArray):Bool:=decide (a=b)
def O0l(a b:ByteArray):Option (Prop×AV):=some (a.size+b.size<=9223372036854775807,.d true .str (a++b))
def IN:List AV->List AV->Option Bool
 | [],[]=>some true
 | .d _ (.int k) a :: r,.d _ (.int k') b :: s=>bif decide (k=k') then(match IN r s with | some e=>some (Sm a b&&e) | none=>none) else none
 | _,_=>none
def Sq(ti:Option TI)(xs ys:List AV):Option Bool:=match ti with
 | some ⟨_,_,_,.agg pl true _,_⟩=>bif Nat.beq pl.length xs.length then IN xs ys else none
 | _=>none
def Sr(k:IntKind)(a b:Int):Option (Prop×AV):=some (0<=a/\0<=b,.d true (.int k) ((a.toNat &&& b.toNat:Nat):Int))
def OT(ti:Option TI):BinOp->AV->AV->Option (Prop×AV)
 | .eql,.d _ (.int k) a,.d _ (.int k') b=>DI k k' (Sm a b)
 | .neq,.d _ (.int k) a,.d _ (.int k') b=>DI k k' (neI a b)
 | .lss,.d _ (.int k) a,.d _ (.int k') b=>DI k k' (ltI a b)
 | .leq,.d _ (.int k) a,.d _ (.int k') b=>DI k k' (leI a b)
 | .gtr,.d _ (.int k) a,.d _ (.int k') b=>DI k k' (ltI b a)
 | .geq,.d _ (.int k) a,.d _ (.int k') b=>DI k k' (leI b a)
 | .add,.d _ (.int .i64) a,.d _ (.int .i64) b=>O0o a b
 | .sub,.d _ (.int .i64) a,.d _ (.int .i64) b=>M0w a b
 | .mul,.d _ (.int .i64) a,.d _ (.int .i64) b=>N0Z a b
 | .quo,.d _ (.int .i64) a,.d _ (.int .i64) b=>M0Q a b
 | .rem,.d _ (.int .i64) a,.d _ (.int .i64) b=>M0A a b
 | .eql,.d _ .str a,.d _ .str b=>some (True,.d true .bool (So a b))
 | .neq,.d _ .str a,.d _ .str b=>some (True,.d true .bool (!So a b))
 | .add,.d _ .str a,.d _ .str b=>O0l a b
 | .eql,.d _ .bool a,.d _ .bool b=>match ti with
   | some ⟨_,_,_,.bool,_⟩=>some (True,.d true .bool (a==b))
   | _=>none
 | .neq,.d _ .bool a,.d _ .bool b=>match ti with
   | some ⟨_,_,_,.bool,_⟩=>some (True,.d true .bool (!(a==b)))
   | _=>none
 | .shl,.d _ (.int .i64) a,.d _ (.int _) b=>M0x a b
 | .shr,.d _ (.int .i64) a,.d _ (.int _) b=>Sn .i64 a b
 | .shr,.d _ (.int .u64) a,.d _ (.int _) b=>Sn .u64 a b
 | .eql,.agg xs,.agg ys=>match Sq ti xs ys with
   | some e=>some (True,.d true .bool e)
   | none=>none
 | .neq,.agg xs,.agg ys=>match Sq ti xs ys with
   | some e=>some (True,.d true .bool (!e))
   | none=>none
 | .add,.d _ (.int .u8) a,.d _ (.int .u8) b=>some (FC .u8 (a+b),.d true (.int .u8) (a+b))
 | .sub,.d _ (.int .u8) a,.d _ (.int .u8) b=>some (FC .u8 (a-b),.d true (.int .u8) (a-b))
 | .eql,.d _ (.pt _) _,.v (.pointer none)=>match ti with
   | some ⟨_,_,_,.ptr,_⟩=>some (True,.d true .bool false)
   | _=>none
 | .neq,.d _ (.pt _) _,.v (.pointer none)=>match ti with
   | some ⟨_,_,_,.ptr,_⟩=>some (True,.d true .bool true)
   | _=>none
 | .eql,.v (.pointer none),.v (.pointer none)=>match ti with
   | some ⟨_,_,_,.ptr,_⟩=>some (True,.d true .bool true)
   | _=>none
 | .neq,.v (.pointer none),.v (.pointer none)=>match ti with
   | some ⟨_,_,_,.ptr,_⟩=>some (True,.d true .bool false)
   | _=>none
 | .and,.d _ (.int .i64) a,.d _ (.int .i64) b=>Sr .i64 a b
 | .and,.d _ (.int .u64) a,.d _ (.int .u64) b=>Sr .u64 a b
 | .add,.d _ (.int .u64) a,.d _ (.int .u64) b=>some (True,.d true (.int .u64) ((a+b) % 18446744073709551616))
 | .mul,.d _ (.int .u64) a,.d _ (.int .u64) b=>some (True,.d true (.int .u64) ((a*b) % 18446744073709551616))
 | _,_,_=>none
theorem F7{G:Gh}{fr:Bool}{k:IntKind}{x:Int}{u:Value}(h:AVR G (.d fr (.int k) x) u):u=.int k x/\lo k<=x/\x<=hi k:=⟨by have:=h.1; simpa using this,h.2⟩
theorem FD{G:Gh}{fr:Bool}{x:Bool}{u:Value}(h:AVR G (.d fr .bool x) u):u=.bool x:=by have:[u]=_:=h; simpa using this
theorem Ss{G:Gh}{fr:Bool}{s:ByteArray}{u:Value}(h:AVR G (.d fr .str s) u):u=.string s/\s.size<=9223372036854775807:=⟨by have:=h.1; simpa using this,h.2⟩
theorem D0O{i j:Int}(c:R9 j)(a:0<j):R9 (i.tmod j):=by
 have b:=Int.tmod_lt_of_pos i a;have d : -j<i.tmod j:=by
  have:=Int.tmod_lt_of_pos (-i) a;rw[Int.neg_tmod] at this; omega
 grind[R9]
theorem Su(k:IntKind){n:Int}(h:lo k<=n/\n<=hi k):k.wrap n=n:=by
 cases k <;> simp only[lo,hi] at h
 ·grind[IntWalk.i8_in]
 ·grind[IntWalk.i16_in]
 ·grind[IntWalk.i32_in]
 ·grind[IntWalk.i64_in]
 ·grind[IntWalk.u8_in]
 ·grind[IntWalk.u16_in]
 ·grind[IntWalk.u32_in]
 grind[IntWalk.u64_in]
theorem y0d{P:Program}{n:Nat}{e:y9}{w:World}{T T' ty:TypeId}{x y:Operand}{k:IntKind}{a b:Int}(j:ev e x=some (.int .i64 a))(l:ev e y=some (.int k b))(o:0<=b/\b<=62)(h:lo .i64<=a*2 ^ b.toNat/\a*2 ^ b.toNat<=hi .i64) :
  D6 P n e (.binOp .shl T x y T') ty w (.int .i64 (a*2 ^ b.toNat)) w:=by
 intro r f i c g d;have q:¬b<0:=by omega
 have m:min b.toNat IntKind.i64.bits=b.toNat:=Nat.min_eq_left (by show b.toNat<=64; omega);simp only[execOp,d.ev j,d.ev l];simp[eqGuard,binOp,Su .i64 h]
theorem q0w{P:Program}{n:Nat}{e:y9}{w:World}{T T' ty:TypeId}{x y:Operand}{k c:IntKind}{a b:Int}(m:ev e x=some (.int c a))(o:ev e y=some (.int k b))(q:0<=b/\b<=62)(r:64<=c.bits) :
  D6 P n e (.binOp .shr T x y T') ty w (.int c (a.fdiv (2 ^ b.toNat))) w:=by
 intro s i l d g f;have j:¬b<0:=by omega
 have h:min b.toNat c.bits=b.toNat:=Nat.min_eq_left (by omega);simp only[execOp,f.ev m,f.ev o];simp[eqGuard,binOp,Op.shift,j,h]
theorem u0T{P:Program}{n:Nat}{e:y9}{w:World}{T T' ty:TypeId}{x y:Operand}{a b r:Int}{d:BinOp}(l:ev e x=some (.int .u8 a))(o:ev e y=some (.int .u8 b))(m:(d=.add/\r=a+b)∨(d=.sub/\r=a-b))(i:lo .u8<=r/\r<=hi .u8) :
  D6 P n e (.binOp d T x y T') ty w (.int .u8 r) w:=by
 intro q j k c g f;simp only[execOp,f.ev l,f.ev o];have h:=Su .u8 i;rcases m with ⟨rfl,rfl⟩ | ⟨rfl,rfl⟩
 ·simp[eqGuard,binOp,Op.intArith,h]
 ·simp[eqGuard,binOp,Op.intArith,h]
theorem q0y{P:Program}{n:Nat}{e:y9}{w:World}{T T' ty:TypeId}{x y:Operand}{k:IntKind}{a b:Int}(f:k=.i64∨k=.u64)(z:ev e x=some (.int k a))(F:ev e y=some (.int k b))(q:0<=a/\a<=hi k)(l:0<=b/\b<=hi k) :
  D6 P n e (.binOp .and T x y T') ty w (.int k ((a.toNat &&& b.toNat:Nat):Int)) w/\0<=((a.toNat &&& b.toNat:Nat):Int)/\((a.toNat &&& b.toNat:Nat):Int)<=hi k:=by
 have E:((a.toNat &&& b.toNat:Nat):Int)<=a:=by
  have:=Nat.and_le_left (n:=a.toNat) (m:=b.toNat);omega
 have u:(0:Int)<=((a.toNat &&& b.toNat:Nat):Int):=Int.natCast_nonneg _;have c:∀x:Int,x<=hi k->x<18446744073709551616:=fun x h=>by
  rcases f with rfl | rfl
  ·have:hi .i64=9223372036854775807:=rfl;omega
  ·have:hi .u64=18446744073709551615:=rfl;omega
 have j:lo k<=((a.toNat &&& b.toNat:Nat):Int):=by
  rcases f with rfl | rfl
  ·have:lo .i64 = -9223372036854775808:=rfl;omega
  ·have:lo .u64=0:=rfl;omega
 have r:=Su k ⟨j,(by omega:((a.toNat &&& b.toNat:Nat):Int)<=hi k)⟩;refine⟨?_,u,by omega⟩;intro G t v i g d;simp only[execOp,d.ev z,d.ev F];have s:a % 18446744073709551616=a:=Int.emod_eq_of_lt q.1 (c a q.2);have o:b % 18446744073709551616=b:=Int.emod_eq_of_lt l.1 (c b l.2);rcases f with rfl | rfl
 ·simp[eqGuard,binOp,Op.intBits,show IntKind.bits .i64=64 from rfl,s,o,r]
 ·simp[eqGuard,binOp,Op.intBits,show IntKind.bits .u64=64 from rfl,s,o,r]
theorem q0v{P:Program}{n:Nat}{e:y9}{w:World}{T T' ty:TypeId}{x y:Operand}{a b r:Int}{d:BinOp}(k:ev e x=some (.int .u64 a))(m:ev e y=some (.int .u64 b))(l:(d=.add/\r=a+b)∨(d=.mul/\r=a*b)) :
  D6 P n e (.binOp d T x y T') ty w (.int .u64 (r % 18446744073709551616)) w:=by
 intro o i j c g f;simp only[execOp,f.ev k,f.ev m];have h:IntKind.wrap .u64 r=r % 18446744073709551616:=by
  unfold IntKind.wrap;simp[IntKind.signed,IntKind.bits]
 rcases l with ⟨rfl,rfl⟩ | ⟨rfl,rfl⟩
 ·simp[eqGuard,binOp,Op.intArith,h]
 ·simp[eqGuard,binOp,Op.intArith,h]
theorem w0k{P:Program}{w:World}{G:Gh}{d:Nat}{xs c:Array Value}:∀{fs:List Field} {k:Nat} {as bs:List AV} {e:Bool},Sj P k fs=true->fs.length=as.length->IN as bs=some e->AVRs G as (xs.toList.drop k)->AVRs G bs (c.toList.drop k) ->
  (Op.eqFields (d+1) xs c fs).run P w=.ok e w
 | [],k,[],bs,e,_,_,h,_,_=>by
   cases bs with
   | nil=>simp only[IN,oi] at h; subst h; simp[Op.eqFields]
   | cons b r=>grind[IN]
 | f :: r,k,a :: as,bs,e,hf,hl,h,hx,hy=>by
   unfold IN at h;split at h
   ·grind
   ·rename_i g q x H g' Y y Q e1;cases e1;rw[ce] at h;split at h
    ·rename_i s;have s:q=Y:=by simpa using s
     subst s;split at h
     ·rename_i e' n;simp only[oi] at h; subst h;simp only[Sj,ba,dq] at hf;obtain⟨⟨⟨hn,j⟩,hi⟩,F⟩:=hf;have j:=nb j;obtain⟨u,t,E,V,m⟩:=hx;obtain⟨v,z,ev,hv,o⟩:=hy;obtain⟨rfl,_⟩:=F7 V;obtain⟨rfl,_⟩:=F7 hv;have X:xs[f.offset]?=some (.int q x):=by
       have:(xs.toList.drop k)[0]?=some (.int q x):=by rw[E]; rfl
       rw[List.getElem?_drop] at this;rw[j]; simpa using this
      have gy:c[f.offset]?=some (.int q y):=by
       have:(c.toList.drop k)[0]?=some (.int q y):=by rw[ev]; rfl
       rw[List.getElem?_drop] at this;rw[j]; simpa using this
      have T:t=xs.toList.drop (k+1):=by
       have:(xs.toList.drop k).drop 1=t:=by rw[E]; rfl
       rw[List.drop_drop] at this; exact this.symm
      have dy:z=c.toList.drop (k+1):=by
       have:(c.toList.drop k).drop 1=z:=by rw[ev]; rfl
       rw[List.drop_drop] at this; exact this.symm
      subst T; subst dy;have ih:=w0k (w:=w) (d:=d) F (by simpa using hl) n m o;unfold O0e at hi;split at hi
      ·rename_i W i;have p1:(part f.type xs f.offset).run P w=.ok (.int q x) w:=by simp[part,Go.isAgg,run_underlying i,X]
       have p2:(part f.type c f.offset).run P w=.ok (.int q y) w:=by simp[part,Go.isAgg,run_underlying i,gy]
       have p3:=run_equalIn_int w d f.type q W x y i;simp only[Op.eqFields,hn,ne_eq,not_false_eq_true,if_true,Sem.run_bind,p1,p2,p3,Result.andThen_ok];by_cases l:x=y
       ·grind[Sm]
       ·simp[Sm,l]
      grind
     grind
    grind
   grind
theorem y0i{P:Program}{n:Nat}{l:y9}{w:World}{G:Gh}{T T' ty:TypeId}{x y:Operand}{us vs:List Value}{j s:List AV}{e:Bool}{pl:List (Nat×Nat)}(r:ev l x=some (.agg us.toArray))(z:ev l y=some (.agg vs.toArray))
  (H:AVRs G j us) (E:AVRs G s vs) {F:List Bool} (W:Sk P T (.agg pl true F)) (X:pl.length=j.length) (h:IN j s=some e) :
  D6 P n l (.binOp .eql T x y T') ty w (.bool e) w/\D6 P n l (.binOp .neq T x y T') ty w (.bool (!e)) w:=by
 obtain⟨_,k,_,_,c,_⟩:=W;have c:=c rfl;unfold Xh at c;split at c
 ·rename_i v t;simp only[ba,Bool.not_eq_true'] at c;obtain⟨⟨Y,u⟩,Q⟩:=c;have m:P.fieldsOf T=v:=by unfold Program.fieldsOf; rw[t]
  have f:v.toList.length=j.length:=by
   unfold KH at k;rw[t] at k;simp only[oi] at k;rw[<- X,<- k,List.length_map]
  have i:(Op.equalIn 10000 T (.agg us.toArray) (.agg vs.toArray)).run P w=.ok e w:=by
   rw[run_equalIn_struct w 9999 T _ _ (by grind) Y,m];exact w0k (d:=9998) Q f h H E
  constructor
  ·intro V o q b g a;simp only[execOp,a.ev r,a.ev z];simp[run_eqGuard_agg w .eql T x y us.toArray vs.toArray u,run_eql_struct,i]
  ·intro V o q b g a;simp only[execOp,a.ev r,a.ev z];simp[run_eqGuard_agg w .neq T x y us.toArray vs.toArray u,run_neq_struct,i]
 grind
theorem l0g{X:Cx}{G:Gh}{a:Act}{st:St}{T T' ty:TypeId}{g:Option TI}{x y:Operand}{i k:List AV}{e:Bool}(j:EnvR X.n G st.e a)(f:∀t,g=some t->IM X.P T t)
  (r:AVR G (.agg i) (a.eval x)) (m:AVR G (.agg k) (a.eval y)) (h:Sq g i k=some e):N7 X G a (.binOp .eql T x y T') ty (.d true .bool e)/\N7 X G a (.binOp .neq T x y T') ty (.d true .bool (!e)):=by
 have b:ev (F2 a [x,y]) x=some (a.eval x):=K7 (by simp);have c:ev (F2 a [x,y]) y=some (a.eval y):=K7 (by simp);unfold Sq at h;split at h
 ·rw[ce] at h;split at h
  ·rename_i q;obtain⟨E,v,l⟩:=r;obtain⟨F,o,s⟩:=m;rw[v] at b;rw[o] at c;obtain⟨u,z⟩:=y0i (P:=X.P) (n:=X.n) (w:=G.w) (T':=T') (ty:=ty) b c l s (f _ rfl).2.2.2.2 (nb q) h;exact⟨C2 j [x,y] u rfl,C2 j [x,y] z rfl⟩
  grind
 grind
theorem k0N{P:Program}{n:Nat}{e:y9}{ty:TypeId}{w:World}{T T':TypeId}{x y:Operand}{q:Option Addr}(f:P.underlying T=some (.pointer (P.pointee T)))(i:Sv.ev e x=some (.pointer q))(j:Sv.ev e y=some (.pointer none)) :
  D6 P n e (.binOp .eql T x y T') ty w (.bool q.isNone) w:=by
 intro a d h b g c;have:=run_eql_pointer_nil w T q f;simp only[execOp,c.ev i,c.ev j];simp[eqGuard,this,Result.andThen]
theorem Vo{P:Program}{n:Nat}{e:y9}{ty:TypeId}{w:World}{T T':TypeId}{x y:Operand}{q:Option Addr}(f:P.underlying T=some (.pointer (P.pointee T)))(i:Sv.ev e x=some (.pointer q))(j:Sv.ev e y=some (.pointer none)) :
  D6 P n e (.binOp .neq T x y T') ty w (.bool (!q.isNone)) w:=by
 intro a d h b g c;have:=run_neq_pointer_nil w T q f;simp only[execOp,c.ev i,c.ev j];simp[eqGuard,this,Result.andThen]
theorem s0Q{X:Cx}{G:Gh}{a:Act}{st:St}{op:BinOp}{T T' ty:TypeId}{ti:Option TI}{x y:Operand}{u v r:AV}{q:Prop}(z:EnvR X.n G st.e a)(Q:∀t,ti=some t->IM X.P T t)
  (F:AVR G u (a.eval x)) (H:AVR G v (a.eval y)) (h:OT ti op u v=some (q,r)) (E:q):N7 X G a (.binOp op T x y T') ty r:=by
 have c:ev (F2 a [x,y]) x=some (a.eval x):=K7 (by simp);have l:ev (F2 a [x,y]) y=some (a.eval y):=K7 (by simp);have V:∀{o:BinOp} {f g:Bool} {k k':IntKind} {i j:Int} {aA:Bool} {q':Prop} {r':AV},u=.d f (.int k) i->v=.d g (.int k') j->DI k k' aA=some (q',r')->Xb o i j=some aA->op=o->r'=r ->
   N7 X G a (.binOp op T x y T') ty r:=by
  intro o f g k k' i j aA q' r' e1 e2 hb hc ho hr;subst e1; subst e2;unfold DI at hb;rw[ce] at hb;split at hb
  ·rename_i hk;have hk:k=k':=by simpa using hk
   subst hk;simp only[oi,pj] at hb;obtain⟨_,rfl⟩:=hb;obtain⟨m,_⟩:=F7 F;obtain⟨s,_⟩:=F7 H;rw[m] at c;rw[s] at l;refine C2 z [x,y] (v:=.bool aA) (q6 ?_) ?_
   ·grind[AM,OJ]
   ·rw[<- hr]; exact rfl
  ·cases hb
 have ar:∀{f g:Bool} {i j:Int},u=.d f (.int .i64) i->v=.d g (.int .i64) j->ev (F2 a [x,y]) x=some (.int .i64 i)/\ev (F2 a [x,y]) y=some (.int .i64 j)/\R9 i/\R9 j:=by
  intro f g i j e1 e2;subst e1; subst e2;obtain⟨m,Y⟩:=F7 F;obtain⟨s,W⟩:=F7 H;rw[m] at c;rw[s] at l;exact⟨c,l,Y,W⟩
 have sr:∀{f g:Bool} {i j:ByteArray},u=.d f .str i->v=.d g .str j->ev (F2 a [x,y]) x=some (.string i)/\ev (F2 a [x,y]) y=some (.string j):=by
  intro f g i j e1 e2;subst e1; subst e2;rw[(Ss F).1] at c;rw[(Ss H).1] at l;exact⟨c,l⟩
 have br:∀{f g i j:Bool},u=.d f .bool i->v=.d g .bool j->ev (F2 a [x,y]) x=some (.bool i)/\ev (F2 a [x,y]) y=some (.bool j):=by
  intro f g i j e1 e2;subst e1; subst e2;rw[FD F] at c;rw[FD H] at l;exact⟨c,l⟩
 unfold OT at h;split at h
 ·exact V rfl rfl h rfl rfl rfl
 ·exact V rfl rfl h rfl rfl rfl
 ·exact V rfl rfl h rfl rfl rfl
 ·exact V rfl rfl h rfl rfl rfl
 ·exact V rfl rfl h rfl rfl rfl
 ·exact V rfl rfl h rfl rfl rfl
 ·simp only[O0o,oi,pj] at h;obtain⟨rfl,rfl⟩:=h;obtain⟨m,s,_⟩:=ar rfl rfl;exact C2 z [x,y] (Kb m s E) ⟨rfl,E⟩
 ·simp only[M0w,oi,pj] at h;obtain⟨rfl,rfl⟩:=h;obtain⟨m,s,_⟩:=ar rfl rfl;exact C2 z [x,y] (y0c m s E) ⟨rfl,E⟩
 ·simp only[N0Z,oi,pj] at h;obtain⟨rfl,rfl⟩:=h;obtain⟨m,s,_⟩:=ar rfl rfl;exact C2 z [x,y] (y0g m s E) ⟨rfl,E⟩
 ·simp only[M0Q,oi,pj] at h;obtain⟨rfl,rfl⟩:=h;obtain⟨m,s,h3,_⟩:=ar rfl rfl;exact C2 z [x,y] (q0x m s h3 E) ⟨rfl,u0x h3 E⟩
 ·simp only[M0A,oi,pj] at h;obtain⟨rfl,rfl⟩:=h;obtain⟨m,s,h3,h4⟩:=ar rfl rfl;exact C2 z [x,y] (Rf m s (by omega)) ⟨rfl,D0O h4 E⟩
 ·simp only[oi,pj] at h;obtain⟨rfl,rfl⟩:=h;obtain⟨m,s⟩:=sr rfl rfl;exact C2 z [x,y] (q6 (by grind[AM,OJ,RX,So])) rfl
 ·simp only[oi,pj] at h;obtain⟨rfl,rfl⟩:=h;obtain⟨m,s⟩:=sr rfl rfl;exact C2 z [x,y] (q6 (by grind[AM,OJ,RX,So])) rfl
 ·simp only[O0l,oi,pj] at h;obtain⟨rfl,rfl⟩:=h;obtain⟨m,s⟩:=sr rfl rfl;exact C2 z [x,y] (VA m s E) ⟨rfl,by grind⟩
 ·split at h
  ·simp only[oi,pj] at h;obtain⟨rfl,rfl⟩:=h;obtain⟨m,s⟩:=br rfl rfl
   haveI:Ia X.P T:=⟨(Q _ rfl).2.2.2.2.2⟩
   exact C2 z [x,y] (y0h m s) rfl
  grind
 ·split at h
  ·simp only[oi,pj] at h;obtain⟨rfl,rfl⟩:=h;obtain⟨m,s⟩:=br rfl rfl
   haveI:Ia X.P T:=⟨(Q _ rfl).2.2.2.2.2⟩
   exact C2 z [x,y] (y0f m s) rfl
  grind
 ·simp only[M0x,oi,pj] at h;obtain⟨rfl,rfl⟩:=h;obtain⟨m,_⟩:=F7 F;obtain⟨s,_⟩:=F7 H;rw[m] at c;rw[s] at l;exact C2 z [x,y] (y0d c l E.1 E.2) ⟨rfl,E.2⟩
 ·simp only[Sn,oi,pj] at h;obtain⟨rfl,rfl⟩:=h;obtain⟨m,_⟩:=F7 F;obtain⟨s,_⟩:=F7 H;rw[m] at c;rw[s] at l;exact C2 z [x,y] (q0w c l E.1 (Nat.le_refl 64)) ⟨rfl,E.2⟩
 ·simp only[Sn,oi,pj] at h;obtain⟨rfl,rfl⟩:=h;obtain⟨m,_⟩:=F7 F;obtain⟨s,_⟩:=F7 H;rw[m] at c;rw[s] at l;exact C2 z [x,y] (q0w c l E.1 (Nat.le_refl 64)) ⟨rfl,E.2⟩
 ·grind[oi,pj,l0g]
 ·split at h
  ·rename_i he;simp only[oi,pj] at h;obtain⟨rfl,rfl⟩:=h;exact(l0g z Q F H he).2
  grind
 ·simp only[oi,pj] at h;obtain⟨rfl,rfl⟩:=h;obtain⟨m,_⟩:=F7 F;obtain⟨s,_⟩:=F7 H;rw[m] at c;rw[s] at l;exact C2 z [x,y] (u0T c l (.inl ⟨rfl,rfl⟩) E) ⟨rfl,E⟩
 ·simp only[oi,pj] at h;obtain⟨rfl,rfl⟩:=h;obtain⟨m,_⟩:=F7 F;obtain⟨s,_⟩:=F7 H;rw[m] at c;rw[s] at l;exact C2 z [x,y] (u0T c l (.inr ⟨rfl,rfl⟩) E) ⟨rfl,E⟩
 ·split at h
  ·simp only[oi,pj] at h;obtain⟨rfl,rfl⟩:=h;obtain⟨b,o,ds,m,_⟩:=F;simp only[List.cons.injEq,and_true] at m;have s:a.eval y=.pointer none:=H;rw[m] at c;rw[s] at l;exact C2 z [x,y] (k0N (Q _ rfl).2.2.2.2.2 c l) rfl
  grind
 ·split at h
  ·simp only[oi,pj] at h;obtain⟨rfl,rfl⟩:=h;obtain⟨b,o,ds,m,_⟩:=F;simp only[List.cons.injEq,and_true] at m;have s:a.eval y=.pointer none:=H;rw[m] at c;rw[s] at l;exact C2 z [x,y] (Vo (Q _ rfl).2.2.2.2.2 c l) rfl
  grind
 ·split at h
  ·simp only[oi,pj] at h;obtain⟨rfl,rfl⟩:=h;have m:a.eval x=.pointer none:=F;have s:a.eval y=.pointer none:=H;rw[m] at c;rw[s] at l;exact C2 z [x,y] (k0N (Q _ rfl).2.2.2.2.2 c l) rfl
  grind
 ·split at h
  ·simp only[oi,pj] at h;obtain⟨rfl,rfl⟩:=h;have m:a.eval x=.pointer none:=F;have s:a.eval y=.pointer none:=H;rw[m] at c;rw[s] at l;exact C2 z [x,y] (Vo (Q _ rfl).2.2.2.2.2 c l) rfl
  grind
 ·simp only[Sr,oi,pj] at h;obtain⟨rfl,rfl⟩:=h;obtain⟨m,Y⟩:=F7 F;obtain⟨s,W⟩:=F7 H;rw[m] at c;rw[s] at l;obtain⟨hr,aC,aB⟩:=q0y (P:=X.P) (n:=X.n) (w:=G.w) (T:=T) (T':=T') (ty:=ty) (.inl rfl) c l ⟨E.1,Y.2⟩ ⟨E.2,W.2⟩;have h0:lo .i64<=0:=by decide
  exact C2 z [x,y] hr ⟨rfl,Int.le_trans h0 aC,aB⟩
 ·simp only[Sr,oi,pj] at h;obtain⟨rfl,rfl⟩:=h;obtain⟨m,Y⟩:=F7 F;obtain⟨s,W⟩:=F7 H;rw[m] at c;rw[s] at l;obtain⟨hr,aC,aB⟩:=q0y (P:=X.P) (n:=X.n) (w:=G.w) (T:=T) (T':=T') (ty:=ty) (.inr rfl) c l ⟨E.1,Y.2⟩ ⟨E.2,W.2⟩;have h0:lo .u64<=0:=by decide
  exact C2 z [x,y] hr ⟨rfl,Int.le_trans h0 aC,aB⟩
 ·simp only[oi,pj] at h;obtain⟨rfl,rfl⟩:=h;obtain⟨m,_⟩:=F7 F;obtain⟨s,_⟩:=F7 H;rw[m] at c;rw[s] at l;exact C2 z [x,y] (q0v c l (.inl ⟨rfl,rfl⟩)) ⟨rfl,Int.emod_nonneg _ (by decide),Int.le_of_lt_add_one (Int.emod_lt_of_pos _ (by decide))⟩
 ·simp only[oi,pj] at h;obtain⟨rfl,rfl⟩:=h;obtain⟨m,_⟩:=F7 F;obtain⟨s,_⟩:=F7 H;rw[m] at c;rw[s] at l;exact C2 z [x,y] (q0v c l (.inr ⟨rfl,rfl⟩)) ⟨rfl,Int.emod_nonneg _ (by decide),Int.le_of_lt_add_one (Int.emod_lt_of_pos _ (by decide))⟩
 grind
def I4{β:Type}:List β->Nat->Option β
 | [],_=>none
 | x :: _,0=>some x
 | _ :: r,n+1=>I4 r n
theorem AN{a:Type}:∀(l:List a) (n:Nat),I4 l n=l[n]?
 | [],_=>by simp[I4]
 | _ :: _,0=>by simp[I4]
 | _ :: r,n+1=>by simp[I4,AN r n]
def Z5(o:List (Nat×Ob)):AV->Option (List AV×List Nat)
 | .ptr id off=>match a8 o id with
   | some (.box _ cs)=>some (cs.drop off,[id])
   | _=>none
 | .pel id ver k s off=>match a8 o id with
   | some (.arr _ fr t xs ver')=>bif Nat.beq ver ver'&&Nat.beq s (sz t) then some ((A7 fr t (xs.getD k (a6 t))).drop off,[id]) else none
   | _=>none
 | .d fr (.pt t) x=>some (A7 fr t x,[])
 | _=>none
def CW(o:List (Nat×Ob)):AV->Prop
 | .pel id _ k _ _=>match a8 o id with
   | some (.arr _ _ _ xs _)=>k<xs.length
   | _=>True
 | _=>True
theorem v0f{w:World}{T:TypeId}{s n b f o i j:Nat}{v:Value}{cs:List Value}(h:Own w T s (some b) v n cs)(g:v=.slice (some ⟨f,o,none⟩) i j){k:Nat}{c pre post:List Value}(e:cs=pre++c++post)(l:pre.length=k*s):b=f/\At w b (o+k*s) c:=by
 obtain⟨m,q,d,a⟩:=h.at;rw[g] at d;cases d;rw[e] at a;have:=a.mid
 grind
theorem Xo{X:Cx}{G:Gh}(S:Sat X G){p:AV}{u:Value}{cs:List AV}{l:List Nat}(h:Z5 G.o p=some (cs,l))(hq:CW G.o p)(q:AVR G p u):∃b o us,u=.pointer (some ⟨b,o,none⟩)/\At G.w b o us/\AVRs G cs us:=by
 unfold Z5 at h;split at h
 ·rename_i id a;split at h
  ·rename_i T aD d;simp only[oi,pj] at h;obtain⟨rfl,rfl⟩:=h;obtain⟨_,b,j,rfl⟩:=q;obtain⟨r,us,g1,W,g3,g4⟩:=S.obs id _ d;rw[j] at W;cases W;exact⟨b,a,us.drop a,rfl,by simpa using Xm g3.at a,(g4.take a).2⟩
  grind
 ·rename_i id aC k s a;split at h
  ·rename_i T fr t v H d;rw[ce] at h;split at h
   ·rename_i E;simp only[ba] at E;have z:=nb E.1;have m:=nb E.2;subst z; subst m;simp only[oi,pj] at h;obtain⟨rfl,rfl⟩:=h;have V:k<v.length:=by simpa only[CW,d] using hq
    obtain⟨_,T1,aF,t1,aA,Y,i,h2,h3⟩:=q;rw[d] at i;cases i;obtain⟨b,o,n,c,hr,rfl⟩:=h3 rfl;obtain⟨cs,g,hA,aB⟩:=S.obs id _ d;obtain⟨aG,c',Q,e,hp,P⟩:=hA.get (fun c x h=>RT.len h) V;cases hg:G.γ id with
    | none =>
      rw[hg] at g;rcases g with ⟨_,hn,_⟩ | ⟨r,_,_,_,j,_⟩
      ·omega
      grind
    | some r =>
      rw[hg] at g;obtain⟨F,f⟩:=v0f g hr e hp;subst F;have hD:=Bm P;have y:v.getD k (a6 t)=v[k]:=by simp[V]
      rw[y];exact⟨r,o+(k*sz t+a),c'.drop a,rfl,by rw[<- Nat.add_assoc]; exact Xm f a,(hD.take a).2⟩
   grind
  grind
 ·rename_i fr t x;simp only[oi,pj] at h;obtain⟨rfl,rfl⟩:=h;obtain⟨b,o,ds,i,j,f,P⟩:=q;simp only[List.cons.injEq,and_true] at i
  grind[Bm]
 grind
def Sw:AV->Nat->Option AV
 | .ptr id off,k=>some (.ptr id (off+k))
 | .pel id ver i s off,k=>some (.pel id ver i s (off+k))
 | .d fr (.pt t) x,k=>GS fr t x k
 | _,_=>none
theorem s0y{X:Cx}{G:Gh}(_:Sat X G){p r:AV}{u:Value}{k:Nat}{cs:List AV}{l:List Nat}(q:Z5 G.o p=some (cs,l))(h:Sw p k=some r)(f:AVR G p u):∃b o,u=.pointer (some ⟨b,o,none⟩)/\AVR G r (.pointer (some ⟨b,o+k,none⟩)):=by
 unfold Sw at h;split at h
 ·simp at h; subst h;obtain⟨y,b,m,rfl⟩:=f;exact⟨b,_,rfl,y,b,m,rfl⟩
 ·rename_i id E i s T;simp at h; subst h;obtain⟨Y,F,j,H,e,a,d,z,Q⟩:=f;simp only[Z5,d,ce] at q;split at q
  ·rename_i v;simp only[ba] at v;have g:=nb v.1;obtain⟨b,o,n,c,w,rfl⟩:=Q g;exact⟨b,_,rfl,rfl,F,j,H,e,a,d,z,fun _=>⟨b,o,n,c,w,by grind⟩⟩
  grind
 ·rename_i W t x;obtain⟨b,o,ds,d,m,P,V⟩:=f;simp only[List.cons.injEq,and_true] at d
  grind[p0x]
 grind
def KN(n:Int)(len:Nat):Prop:=0<=n/\n < (len:Int)
def KO(Γ:p9)(o:List (Nat×Ob))(T:TypeId)(v:AV)(n:Int):Option (Prop×AV×List Nat):=match v,a8 Γ T with
 | .d fr (.sl t) xs,some ⟨_,_,_,.sl E,_⟩=>match a8 Γ E with
   | some te=>bif Nat.beq te.size (sz t) then some (KN n xs.length,.d fr (.pt t) (xs.getD n.toNat (a6 t)),[]) else none
   | none=>none
 | .os id ver,some ⟨_,_,_,.sl E,_⟩=>match a8 Γ E,a8 o id with
   | some te,some (.arr _ _ t xs ver')=>bif Nat.beq ver ver'&&Nat.beq te.size (sz t) then some (KN n xs.length,.pel id ver n.toNat (sz t) 0,[id]) else none
   | _,_=>none
 | .ptr id off,some ⟨_,_,_,.arr m E,_⟩=>match a8 Γ E with
   | some te=>some (KN n m,.ptr id (off+n.toNat*te.size),[])
   | none=>none
 | .og id,some ⟨_,_,_,.sl E,_⟩=>match a8 Γ E,a8 o id with
   | some te,some (.grd _ _ _ _ xs _)=>bif Nat.beq te.size 1 then some (KN n xs.length,.gel id n.toNat,[id]) else none
   | _,_=>none
 | _,_=>none
theorem o0T{P:Program}{n:Nat}{e:y9}{ty:TypeId}{w:World}{T E s y m k b o:Nat}{z:Value}{x ix:Operand}{t:IntKind}(h:P.underlying T=some (.array m E))[i:Info P E s y z](v:ev e x=some (.pointer (some ⟨b,o,none⟩)))(hi:ev e ix=some (.int t (k:Int)))(G:k<m) :
  D6 P n e (.indexAddr T x ix) ty w (.pointer (some ⟨b,o+k*s,none⟩)) w:=by
 intro a r u f g l;obtain⟨F,c,q,H,Q⟩:=i.get;have d:(Addr.mk b o none).add (k*s)=⟨b,o+k*s,none⟩:=by
  unfold Addr.add;split
  ·grind
  ·rfl
 have j:0<=(k:Int)/\(k:Int) < (m:Int):=oo;simp only[execOp,l.ev v,l.ev hi];simp only[Instr.indexAt,asIntOf,Sem.run_bind,run_underlying h,Instr.sureAddr,Result.andThen,Sem.run_pure,j,and_self,if_true,X3 w c,q,Int.toNat_natCast,d]
theorem v0V{X:Cx}{G:Gh}{a:Act}{st:St}{Γ:p9}(g:B6 X.P Γ)(S:Sat X G)(hE:EnvR X.n G st.e a){T ty:TypeId}{x ix:Operand}{v r:AV}{n:Int}{f:Bool}{k:IntKind}{q:Prop}{l:List Nat}
  (Y:AVR G v (a.eval x)) (hn:AVR G (.d f (.int k) n) (a.eval ix)) (h:KO Γ G.o T v n=some (q,r,l)) (F:q):N7 X G a (.indexAddr T x ix) ty r:=by
 have j:ev (F2 a [x,ix]) x=some (a.eval x):=K7 (by simp);have y:ev (F2 a [x,ix]) ix=some (a.eval ix):=K7 (by simp);rw[(F7 hn).1] at y;unfold KO at h;split at h
 ·rename_i fr t xs s0 y0 z0 E Q H;split at h
  ·rename_i s u;rw[ce] at h;split at h
   ·rename_i w;have w:=nb w;simp only[oi,pj] at h;obtain⟨rfl,rfl,rfl⟩:=h
    haveI:I6 X.P T E:=⟨(g T _ H).2.2.2.2.2⟩
    haveI:Info X.P E s.size s.bytes s.zero:=⟨(g E _ u).1⟩
    obtain⟨i,rfl⟩:=Int.eq_ofNat_of_zero_le F.1;have hi:i<xs.length:=by have:=F.2; omega
    obtain⟨p,aB,z,_⟩:=id Y;simp only[List.cons.injEq,and_true] at z;have aA:=Y;rw[z] at aA j;obtain⟨_,b,o,c,rfl,W,aM,hR⟩:=RT.get aA hi;refine C2 hE [x,ix] (OM j y hi) ?_;simp only[Int.toNat_natCast,gq,List.getElem?_eq_getElem hi,Option.getD_some];exact⟨b,o+i*s.size,c,rfl,W,by grind,hR⟩
   grind
  grind
 ·rename_i id aJ s0 y0 z0 E Q H;split at h
  ·rename_i s T' fr t xs aF u V;rw[ce] at h;split at h
   ·rename_i w;simp only[ba] at w;have aD:=nb w.1;have aL:=nb w.2;clear w;subst aD;simp only[oi,pj] at h;obtain⟨rfl,rfl,rfl⟩:=h
    haveI:I6 X.P T E:=⟨(g T _ H).2.2.2.2.2⟩
    haveI:Info X.P E s.size s.bytes s.zero:=⟨(g E _ u).1⟩
    obtain⟨i,rfl⟩:=Int.eq_ofNat_of_zero_le F.1;have hi:i<xs.length:=by have:=F.2; omega
    obtain⟨_,T1,aK,t1,aI,aH,h1,h2,h3⟩:=Y;rw[V] at h1;cases h1;have hu:=h3 rfl;obtain⟨cs,hO,hA,aO⟩:=S.obs id _ V;rcases hO with ⟨_,hn,_⟩ | ⟨b,o,aB,cur,W,z,_⟩
    ·omega
    ·rw[hu,z] at j;refine C2 hE [x,ix] (OM j y hi) ?_;simp only[Int.toNat_natCast];exact⟨rfl,_,_,_,_,_,V,Nat.le_refl _,fun _=>⟨b,o,_,_,z,by grind⟩⟩
   grind
  grind
 ·rename_i id aN s0 y0 z0 m E Q H;split at h
  ·rename_i s u;simp only[oi,pj] at h;obtain⟨rfl,rfl,rfl⟩:=h
   haveI:Info X.P E s.size s.bytes s.zero:=⟨(g E _ u).1⟩
   obtain⟨i,rfl⟩:=Int.eq_ofNat_of_zero_le F.1;have hi:i<m:=by have:=F.2; omega
   obtain⟨aC,b,W,z⟩:=Y;rw[z] at j;refine C2 hE [x,ix] (o0T (g T _ H).2.2.2.2.2 j y hi) ?_;simp only[Int.toNat_natCast];exact⟨aC,b,W,rfl⟩
  grind
 ·rename_i id s0 y0 z0 E Q H;split at h
  ·rename_i s T' Te fr t xs aG u V;rw[ce] at h;split at h
   ·rename_i w;have w:=nb w;simp only[oi,pj] at h;obtain⟨rfl,rfl,rfl⟩:=h
    haveI:I6 X.P T E:=⟨(g T _ H).2.2.2.2.2⟩
    haveI:Info X.P E s.size s.bytes s.zero:=⟨(g E _ u).1⟩
    obtain⟨i,rfl⟩:=Int.eq_ofNat_of_zero_le F.1;have hi:i<xs.length:=by have:=F.2; omega
    obtain⟨_,_,hu⟩:=Y;obtain⟨vs,bs,hO,_,_⟩:=S.obs id _ V;rcases hO with ⟨_,hn,_⟩ | ⟨b,o,aB,cur,W,z,_⟩
    ·omega
    ·rw[hu,z] at j;refine C2 hE [x,ix] (OM j y hi) ?_;simp only[Int.toNat_natCast,w,Nat.mul_one];exact⟨⟨_,_,_,_,_,_,V⟩,b,o,_,_,z,rfl⟩
   grind
  grind
 grind
def GU(cs:List AV)(o:Nat)(vs:List AV):List AV:=cs.take o++vs++cs.drop (o+vs.length)
theorem Xp{G:Gh}{cs vs:List AV}{us a:List Value}{o:Nat}(h:AVRs G cs us)(k:AVRs G vs a)(_:o+vs.length<=cs.length):AVRs G (GU cs o vs) (r8 us o a):=by
 unfold GU r8;rw[k.len];exact AVRs.app (h.take _).2 (AVRs.app k (h.take o).1)
def Bo(st:St)(p:Pa)(pl:List (Nat×Nat)):List AV->List (Nat×Operand)->Option (List AV)
 | cs,[]=>some cs
 | cs,(i,x) :: r=>match I4 pl i with
   | some (off,s)=>match rd st p x with
     | some v=>match CV v with
       | some vs=>bif Nat.beq vs.length s&&Nat.ble (off+vs.length) cs.length then Bo st p pl (GU cs off vs) r else none
       | none=>none
     | none=>none
   | none=>none
theorem Xq:∀{us:List Value} {k:Nat},us.length=k->Z3 us k=true
 | [],0,_=>rfl
 | _ :: r,k+1,h=>Xq (us:=r) (by grind)
 | [],_+1,h=>by grind
 | _ :: _,0,h=>by grind
theorem Xr{a:Act}{xs:List Operand}:∀{ps:List (Nat×Operand)},(∀q∈ps,q.2∈xs)->evp (F2 a xs) ps=some (ps.map fun q=>(q.1,a.eval q.2))
 | [],_=>rfl
 | (i,x) :: r,h=>by
   have b:=K7 (a:=a) (h (i,x) (by simp));have c:=Xr (a:=a) (ps:=r) (fun q d=>h q (by grind))
   grind[evp]
theorem Xs{n:Nat}{G:Gh}{a:Act}{st:St}{p:Pa}{pl:List (Nat×Nat)}(m:EnvR n G st.e a)(k:PathP p a):∀{ps:List (Nat×Operand)} {cs r:List AV} {us:List Value},Bo st p pl cs ps=some r->AVRs G cs us ->
  ∃ws,BY pl us (ps.map fun q=>(q.1,a.eval q.2))=some ws/\AVRs G r ws
 | [],cs,r,us,h,hA=>by simp[Bo] at h; subst h; exact⟨us,rfl,hA⟩
 | (i,x) :: q,cs,r,us,h,hA=>by
   unfold Bo at h;split at h
   ·rename_i g s hi;split at h
    ·rename_i v o;split at h
     ·rename_i z b;rw[ce] at h;split at h
      ·rename_i f;simp only[ba] at f;have u:=nb f.1;have d:=Nat.le_of_ble_eq_true f.2;have t:=D9 m k o;obtain⟨j,_⟩:=KL b t;have l:=j.len;have c:=hA.len;obtain⟨ws,E,w⟩:=Xs m k h (Xp hA j d);refine⟨ws,?_,w⟩;simp only[List.map_cons];unfold BY;rw[AN] at hi;simp only[hi];have y:(Z3 (a.eval x).cells.toList s&&Nat.ble (g+s) us.length)=true:=by
        rw[ba];exact⟨Xq (by omega),Nat.ble_eq_true_of_le (by omega)⟩
       grind
      grind
     grind
    grind
   grind
end Go.Proofs.Xv
end
section
namespace Go.Proofs.Sv
open Go Go.RowKit
section
variable {P:Program} {n:Nat} {e:y9} {w:World} {Q:Exit->Act->World->Prop} {l:List Oper} {fuel:Nat} {listed:Array Bool} {S:World->Prop} {ops:Array Oper} {rest:List Oper}
 {d:Nat} {op:Op} {ty:TypeId} {pos:String} {after:Array Edge}
end
section
variable {P:Program} {ops:Array Oper} {Q:Exit->Act->World->Prop} {S:World->Prop} {st:Nat}
end
section
variable {P:Program} {n:Nat} {e:y9} {w:World} {Q:Exit->Act->World->Prop} {l:List Oper} {fuel:Nat} {listed:Array Bool} {S:World->Prop} {st:Nat}
 {d:Nat} {op:Op} {ty:TypeId} {pos:String} {after:Array Edge}
end
theorem Own.set{w w':World}{E s:Nat}{g g' n l c k o:Nat}{v:Value}{cs vs:List Value}(h:Own w E s (some g) v n cs)(d:v=.slice (some ⟨g',o,none⟩) l c)(r:k<n)(i:vs.length=s)(q:∀cur:Array Value,w.heap[g]?=some (.cells cur E (0,0))->w'.heap[g]?=some (.cells (r8 cur.toList (o+k*s) vs).toArray E (0,0))) :
  Own w' E s (some g) v n (r8 cs (k*s) vs):=by
 rcases h with ⟨h,_⟩ | ⟨b,o',cap,cur,hb,hv2,h1,h2,h3,h4,rfl⟩
 ·cases h
 ·cases hb;rw[d] at hv2;cases hv2;refine .inr ⟨g,o,c,_,rfl,d,q cur h1,h2,h3,?_,?_⟩
  ·have a:(k+1)*s<=c*s:=Nat.mul_le_mul_right s (by omega);rw[Nat.add_mul] at a;simp only[r8,List.size_toArray,List.length_append,List.length_take,List.length_drop,Array.length_toList];omega
  ·have a:(k+1)*s<=n*s:=Nat.mul_le_mul_right s (by omega);have f:n*s<=c*s:=Nat.mul_le_mul_right s h2;rw[Nat.add_mul] at a;have m:List.drop o (r8 cur.toList (o+k*s) vs)=r8 (cur.toList.drop o) (k*s) vs:=by
    unfold r8;rw[List.append_assoc,List.append_assoc,List.drop_append,List.drop_take,List.length_take,List.drop_drop,Array.length_toList];rw[show o+k*s-o=k*s by omega,show o-min (o+k*s) cur.size=0 by omega,List.drop_zero,Nat.add_assoc]
   show(List.drop o (r8 cur.toList (o+k*s) vs)).take (n*s)=_;rw[m];have j:(cur.toList.drop o).length=c*s:=by rw[List.length_drop,Array.length_toList]; omega
   generalize cur.toList.drop o=C at j;simp only[r8];have e:(List.take (k*s) C).length=k*s:=by rw[List.length_take]; omega
   rw[List.append_assoc,List.take_append,List.take_append,e,i,List.append_assoc];congr 1
   ·rw[List.take_of_length_le (by rw[e]; omega),List.take_take]; congr 1; omega
   ·congr 1
    ·rw[List.take_of_length_le (by omega)]
    ·rw[List.drop_take]; congr 1; omega
end Go.Proofs.Sv
end
section
namespace Go.Proofs.Sv
open Go
section
open Go.RowKit
variable {P:Program} {n:Nat} {e:y9} {w:World} {Q:Exit->Act->World->Prop} {ops:Array Oper} {rest:List Oper}
 {d:Nat} {ty:TypeId} {pos:String} {after:Array Edge}
end
end Go.Proofs.Sv
end
section
namespace Go.Proofs.Sv
open Go Go.RowKit
def OwnI(w:World)(E:TypeId)(g:Option Nat)(v:Value)(xs:List Int):Prop:=Own w E 1 g v xs.length (xs.map (Value.int .i64))/\∀x∈xs,R9 x
theorem OwnI.up{w w':World}{E:TypeId}{g:Option Nat}{v:Value}{xs:List Int}(h:OwnI w E g v xs)(k:Ext w w'):OwnI w' E g v xs:=⟨h.1.up k,h.2⟩
theorem OwnI.we{g':Option Nat}{w w':World}{E:TypeId}{g:Option Nat}{v:Value}{xs:List Int}(h:OwnI w E g v xs)(k:WE g' w w')(a:∀i,g'=some i->g≠some i):OwnI w' E g v xs:=⟨h.1.we k a,h.2⟩
theorem OwnI.lt{w:World}{E:TypeId}{g:Option Nat}{v:Value}{xs:List Int}(h:OwnI w E g v xs):∀k,g=some k->k<w.heap.size:=h.1.lt
theorem OwnI.len{w:World}{E:TypeId}{g:Option Nat}{v:Value}{xs:List Int}(h:OwnI w E g v xs):∃p c,v=.slice p xs.length c:=h.1.len
theorem All.ints{lo hi:Nat}{w:World}:∀{cs:List Value} {xs:List Int},All lo hi w cs xs->cs=xs.map (Value.int .i64)
 | _,[],h=>h
 | _,x :: r,h=>by
   obtain⟨c,d,rfl,a,b⟩:=h;rw[a.1,All.ints b]; rfl
theorem SlR.src{lo hi:Nat}{w:World}{v:Value}{xs:List Int}(h:SlR lo hi w v xs):∃p cap b o,v=.slice p xs.length cap/\(xs.length=0∨p=some ⟨b,o,none⟩)/\At w b o (xs.map (Value.int .i64)):=by
 obtain⟨p,cap,rfl,_,_,c⟩:=h;rcases c with rfl | ⟨b,o,cs,rfl,_,_,hat,hall⟩
 ·exact⟨p,cap,0,0,rfl,.inl rfl,fun i u a=>by simp at a⟩
 ·rw[hall.ints] at hat;exact⟨_,cap,b,o,rfl,.inr rfl,hat⟩
theorem WE.then{g g':Option Nat}{w a b:World}(h:WE g w a)(k:WE g' a b)(d:∀i,g'=some i->w.heap.size<=i∨g=some i):WE g w b :=
 ⟨k.os.trans h.os,k.tape.trans h.tape,k.output.trans h.output,Nat.le_trans h.size k.size,fun i hi c=>(k.block i (Nat.lt_of_lt_of_le hi h.size) (fun e=>by
   grind)).trans (h.block i hi c)⟩
section
variable {P:Program} {n:Nat} {e:y9} {w:World} {ty:TypeId}
end
theorem At.tail{w:World}{b o:Nat}{c:Value}{cs:List Value}(h:At w b o (c :: cs)):At w b (o+1) cs:=by
 intro i u a;have:=h (i+1) u (by grind)
 grind
theorem SlR.tail{lo hi:Nat}{w:World}{p:Option Addr}{e a:Nat}{xs:List Int}(h:SlR lo hi w (.slice p e a) xs)(q:1<=e):SlR lo hi w (.slice (if a=1 then p else p.map (·.add (1*1))) (e-1) (a-1)) xs.tail:=by
 obtain⟨t,k,l,m,j,i⟩:=h;cases l;cases xs with
 | nil=>grind
 | cons x r =>
   refine⟨if a=1 then p else p.map (·.add (1*1)),a-1,rfl,by grind,by omega,?_⟩;by_cases s:a=1
   ·grind
   ·right;rcases i with i | ⟨b,o,cs,rfl,hlo,hhi,hat,hall⟩
    ·cases i
    ·obtain⟨c,d,rfl,g,n⟩:=hall;have f:=g.1;subst f;refine⟨b,o+1,d,?_,hlo,hhi,hat.tail,n⟩
     grind[Addr.add]
end Go.Proofs.Sv
end
section
namespace Go.Proofs.Xv
open Go Go.RowKit Go.Proofs.Sv
def J0a:IntKind->IntKind->Int->Option Int
 | .i64,.i64,n=>some n
 | .u8,.u8,n=>some n
 | .u8,.i64,n=>some n
 | .i64,.u8,n=>some (n % 256)
 | _,_,_=>none
def Xt(k k':IntKind)(n:Int):Prop×Int:=match J0a k k' n with
 | some m=>(True,m)
 | none=>(FC k' n,n)
def IP(a b:Int):Int:=min a b
def IQ(a b:Int):Int:=max a b
def OU(l h:Int)(n:Nat):Prop:=0<=l/\l<=h/\h<=(n:Int)
def V0(st:St)(p:Pa):Option Operand->Option (Option Int)
 | none=>some none
 | some x=>match rd st p x with
   | some (.d _ (.int _) n)=>some (some n)
   | _=>none
def IS{α:Type}(xs:List α):Option Int->Option Int->List α
 | none,none=>xs
 | some l,none=>xs.drop l.toNat
 | none,some h=>xs.take h.toNat
 | some l,some h=>(xs.take h.toNat).drop l.toNat
def DJ:Nat->Nat->Nat->List (Nat×Nat)
 | 0,_,_=>[]
 | m+1,k,s=>(k*s,s) :: DJ m (k+1) s
theorem n0i{s:Nat}:∀{m k i:Nat} {q:Nat×Nat},(DJ m k s)[i]?=some q->q=((k+i)*s,s)
 | 0,k,i,q,h=>by grind[DJ]
 | m+1,k,0,q,h=>by grind[DJ,List.getElem?_cons_zero,oi]
 | m+1,k,i+1,q,h=>by
   simp only[DJ,List.getElem?_cons_succ] at h;have:=n0i h
   grind
theorem l0D{P:Program}{n:Nat}{e:y9}{ty:TypeId}{w:World}{T E s y k r m:Nat}{z Q:Value}{b:List (Nat×Operand)}{vs:List (Nat×Value)}{cs:List Value}(F:P.underlying T=some (.array m E))[i:Info P T s y z][j:Info P E k r Q](t:evp e b=some vs)(G:BY (DJ m 0 k) z.cells.toList vs=some cs) :
  D6 P n e (.build T b.toArray) ty w (.agg cs.toArray) w:=by
 intro a H X l g v;obtain⟨Y,f,h2,h3,u⟩:=i.get;obtain⟨q,d,o,_,_⟩:=j.get;have h:=ON (DJ m 0 k) vs z.cells.toList cs G;have c:=Sc (fun i:Nat=>(DJ m 0 k)[i]?) (fun i:Nat=>some (i*k,k)) vs _ _ (fun i p V=>by rw[n0i V,Nat.zero_add]) h;have W:b.toArray.map (fun(i,x)=>(i,a.eval x))=vs.toArray:=by rw[<- Agree.evp v t]; simp
 simp only[execOp,W];simp only[Instr.build,Sem.run_bind,II w f u,Result.andThen,run_underlying F,X3 w d,o];rw[show z.cells=z.cells.toList.toArray by simp];simp only[c];rfl
def Xu(ti:TI)(cs:List AV)(f:Nat):Option AV:=match ti.kd with
 | .agg pl _ ag=>match I4 pl f,I4 ag f with
   | some (off,s),some true=>bif Nat.ble (off+s) cs.length then some (.agg ((cs.drop off).take s)) else none
   | some (off,_),some false=>I4 cs off
   | _,_=>none
 | _=>none
def J4(Γ:p9)(st:St)(p:Pa):Op->Option (Prop×AV×List Nat)
 | .move x | .assign x=>match rd st p x with
   | some a=>some (True,a,[])
   | none=>none
 | .nilCheck x=>match rd st p x with
   | some v=>match Z5 st.o v with
     | some (_,l)=>some (CW st.o v,v,l)
     | none=>none
   | none=>none
 | .pick c a b=>match c with
   | .tmp s=>match rd st p (.tmp s),rd st ((s,true) :: p) a,rd st ((s,false) :: p) b with
     | some (.d _ .bool x),some (.d _ .bool y),some (.d _ .bool z)=>some (True,.d true .bool (Xn a b x y z),[])
     | _,_,_=>none
   | _=>none
 | .binOp op T x y _=>match rd st p x,rd st p y with
   | some u,some v=>match OT (a8 Γ T) op u v with
     | some (q,r)=>some (q,r,[])
     | none=>none
   | _,_=>none
 | .unOp .not _ x=>match rd st p x with
   | some (.d _ .bool b)=>some (True,.d true .bool (!b),[])
   | _=>none
 | .unOp .neg _ x=>match rd st p x with
   | some (.d _ (.int .i64) n)=>some (FC .i64 (-n),.d true (.int .i64) (-n),[])
   | _=>none
 | .convert S T x=>match rd st p x,a8 Γ S,a8 Γ T with
   | some (.d _ (.int k) n),some ⟨_,_,_,.int _,_⟩,some ⟨_,_,_,.int k',_⟩=>match Xt k k' n with
     | (q,m)=>some (q,.d true (.int k') m,[])
   | some (.os id ver),some ⟨_,_,_,.sl E,_⟩,some ⟨_,_,_,.str,_⟩=>match a8 st.o id,a8 Γ E with
     | some (.arr _ _ (.int .u8) xs ver'),some ⟨_,_,_,.int .u8,_⟩=>bif Nat.beq ver ver' then some (0<xs.length,.d true .str (strOfNums xs),[id]) else none
     | _,_=>none
   | _,_,_=>none
 | .fieldAddr T x f=>match rd st p x,a8 Γ T with
   | some v,some ⟨_,_,_,.agg pl _ _,_⟩=>match I4 pl f,Z5 st.o v with
     | some (off,_),some (_,l)=>match Sw v off with
       | some r=>some (True,r,l)
       | none=>none
     | _,_=>none
   | _,_=>none
 | .load T x=>match rd st p x,a8 Γ T with
   | some v,some ti=>match Z5 st.o v with
     | some (cs,l)=>match KM ti cs with
       | some r=>some (CW st.o v,r,l)
       | none=>none
     | none=>none
   | _,_=>none
 | .indexAddr T x i=>match rd st p x,rd st p i with
   | some v,some (.d _ (.int _) n)=>KO Γ st.o T v n
   | _,_=>none
 | .index T x i=>match rd st p x,rd st p i,a8 Γ T with
   | some (.d _ .str s),some (.d _ (.int _) n),some ⟨_,_,_,.str,_⟩=>some (KN n s.size,.d true (.int .u8) (H9 s n.toNat),[])
   | _,_,_=>none
 | .extract x i=>match rd st p x with
   | some (.tup l)=>match I4 l i with
     | some r=>some (True,r,[])
     | none=>none
   | _=>none
 | .field T x f=>match rd st p x,a8 Γ T with
   | some (.agg cs),some ti=>match Xu ti cs f with
     | some r=>some (True,r,[])
     | none=>none
   | _,_=>none
 | .makeFunc (.func f) first cap=>match first.toList,N6 st p cap.toList with
   | [],some l=>some (True,.fn f l,[])
   | _,_=>none
 | .build T parts=>match a8 Γ T with
   | some ⟨_,_,z,.agg pl _ _,_⟩=>match Bn z.cells.toList with
     | some cs=>match Bo st p pl cs parts.toList with
       | some r=>some (True,.agg r,[])
       | none=>none
     | none=>none
   | some ⟨_,_,z,.arr m E,_⟩=>match a8 Γ E,Bn z.cells.toList with
     | some te,some cs=>match Bo st p (DJ m 0 te.size) cs parts.toList with
       | some r=>some (True,.agg r,[])
       | none=>none
     | _,_=>none
   | _=>none
 | .slice T x l h none=>match rd st p x,V0 st p l,V0 st p h,a8 Γ T with
   | some (.d fr (.sl t) xs),some lo,some hi,some ⟨_,_,_,.sl E,_⟩=>match a8 Γ E with
     | some te=>bif Nat.beq te.size (sz t) then some (OU (lo.getD 0) (hi.getD xs.length) xs.length,.d fr (.sl t) (IS xs lo hi),[]) else none
     | none=>none
   | _,_,_,_=>none
 | .call ⟨.builtin .len,xs,Ts⟩=>match N6 st p xs.toList,Ts.toList with
   | some [.d _ (.sl _) l],[T]=>match a8 Γ T with
     | some ⟨_,_,_,.sl _,_⟩=>some (True,.d true (.int .i64) (l.length:Int),[])
     | _=>none
   | some [.os id ver],[T]=>match a8 Γ T,a8 st.o id with
     | some ⟨_,_,_,.sl _,_⟩,some (.arr _ _ _ l ver')=>bif Nat.beq ver ver' then some (True,.d true (.int .i64) (l.length:Int),[id]) else none
     | _,_=>none
   | some [.v (.slice none 0 0)],[T]=>match a8 Γ T with
     | some ⟨_,_,_,.sl _,_⟩=>some (True,.d true (.int .i64) (0:Int),[])
     | _=>none
   | some [.d _ .str s],[T]=>match a8 Γ T with
     | some ⟨_,_,_,.str,_⟩=>some (True,.d true (.int .i64) (s.size:Int),[])
     | _=>none
   | _,_=>none
 | .call ⟨.builtin .min,xs,_⟩=>match N6 st p xs.toList with
   | some [.d _ (.int .i64) a,.d _ (.int .i64) b]=>some (True,.d true (.int .i64) (IP a b),[])
   | _=>none
 | .call ⟨.builtin .max,xs,_⟩=>match N6 st p xs.toList with
   | some [.d _ (.int .i64) a,.d _ (.int .i64) b]=>some (True,.d true (.int .i64) (IQ a b),[])
   | _=>none
 | _=>none
theorem AllR.takeD{a:Type}{R:List Value->a->Prop}{s:Nat}(b:∀c x,R c x->c.length=s):∀{cs:List Value} {xs:List a} (k:Nat),AllR R cs xs->AllR R (cs.take (k*s)) (xs.take k)/\AllR R (cs.drop (k*s)) (xs.drop k)
 | cs,xs,0,h=>by simpa using (⟨rfl,h⟩:AllR R [] ([]:List a)/\AllR R cs xs)
 | cs,[],k+1,h=>by rw[show cs=[] from h]; simpa using (⟨rfl,rfl⟩:AllR R [] ([]:List a)/\AllR R [] ([]:List a))
 | _,x :: r,k+1,⟨c,d,e,h1,h2⟩=>by
   subst e;have g:=b _ _ h1;have i:(k+1)*s=c.length+k*s:=by rw[g,Nat.add_mul]; omega
   rw[i,List.take_length_add_append,List.drop_length_add_append];have f:=AllR.takeD b k h2;exact⟨⟨c,_,rfl,h1,f.1⟩,f.2⟩
theorem AllR.cut{b:Type}{R:List Value->b->Prop}{s:Nat}(a:∀c x,R c x->c.length=s){cs:List Value}{xs:List b}{l h:Nat}(d:AllR R cs xs)(_:l<=h)(_:h<=xs.length):AllR R ((cs.take (h*s)).drop (l*s)) ((xs.take h).drop l) :=
 (AllR.takeD a l (AllR.takeD a h d).1).2
theorem b7{n:Int}(h : -9223372036854775808<=n/\n<=9223372036854775807):lo .i64<=n/\n<=hi .i64:=h
theorem v0B{a b:Int}(h:R9 a)(k:R9 b):R9 (IP a b)/\R9 (IQ a b):=by grind[R9,IP,IQ]
theorem D0X(a b:Int):(if b<a then b else a)=IP a b:=by grind[IP]
theorem E0c(a b:Int):(if b > a then b else a)=IQ a b:=by grind[IQ]
section
variable {X:Cx} {G:Gh} {a:Act} {st:St} {Γ:p9} {p:Pa}
theorem Sx(d:EnvR X.n G st.e a)(b:PathP p a){o:Option Operand}{r:Option Int}(h:V0 st p o=some r):(o=none/\r=none)∨∃x n k,o=some x/\r=some n/\a.eval x=.int k n:=by
 unfold V0 at h;split at h
 ·grind
 ·rename_i x;split at h
  ·rename_i k n c;simp at h;exact .inr ⟨x,n,k,rfl,h.symm,(F7 (D9 d b c)).1⟩
  grind
theorem w0u{a:Type}(xs:List a)(lo hi:Option Int)(h:OU (lo.getD 0) (hi.getD xs.length) xs.length):IS xs lo hi=(xs.take (hi.getD xs.length).toNat).drop (lo.getD 0).toNat:=by
 cases lo <;> cases hi <;> simp[IS]
theorem o0Q(v:B6 X.P Γ)(hE:EnvR X.n G st.e a)(hp:PathP p a){T E ty:TypeId}{s0 y0:Nat}{z0:Value}{aD:Ty}{x:Operand}{l h:Option Operand}{lo hi:Option Int}{fr:Bool}{t:Ty}{xs:List (c7 t)}{u:TI}
  (hT:a8 Γ T=some ⟨s0,y0,z0,.sl E,aD⟩) (aA:a8 Γ E=some u) (hs:u.size=sz t) (hx:AVR G (.d fr (.sl t) xs) (a.eval x)) (hl:V0 st p l=some lo) (hh:V0 st p h=some hi) (hq:OU (lo.getD 0) (hi.getD xs.length) xs.length) :
  N7 X G a (.slice T x l h none) ty (.d fr (.sl t) (IS xs lo hi)):=by
 obtain⟨pp,m,F,aG,aF,h4⟩:=id hx;simp only[List.cons.injEq,and_true] at F;have W:=(v T _ hT).2.2.2.2.2;have hI:Info X.P E u.size u.bytes u.zero:=⟨(v E _ aA).1⟩;obtain⟨aH,i,Y,h3,h5⟩:=hI.get;rw[w0u xs lo hi hq];obtain⟨q1,q2,q3⟩:=hq;have aC:(∃n k,l=some n/\a.eval n=.int k (lo.getD 0))∨(l=none/\lo.getD 0=0):=by
  rcases Sx hE hp hl with ⟨q,s⟩ | ⟨y,n,k,q,s,e3⟩
  ·grind
  ·grind
 have aB:(∃n k,h=some n/\a.eval n=.int k (hi.getD xs.length))∨(h=none/\hi.getD xs.length=(xs.length:Int)):=by
  rcases Sx hE hp hh with ⟨q,s⟩ | ⟨y,n,k,q,s,e3⟩
  ·grind
  ·grind
 generalize lo.getD 0=l0 at *
 generalize hi.getD xs.length=h0 at *
 have r1:∀(y:Nat) (f:BoundsCode) (k:IntKind),h0<=y->(Instr.sliceBound (.int k h0) y f).run X.P G.w=.ok h0.toNat G.w:=fun y f k V=>run_sliceBound (P:=X.P) (w:=G.w) k h0 y f (by omega) V;have r2:∀(y:Nat) (f:BoundsCode) (k:IntKind),l0<=y->(Instr.sliceBound (.int k l0) y f).run X.P G.w=.ok l0.toNat G.w:=fun y f k V=>run_sliceBound (P:=X.P) (w:=G.w) k l0 y f q1 V;have Q:∀z H j g,(execOp a.eval ⟨z,.slice T x l h none,ty,H,j,g⟩).run X.P G.w=.ok (.value (.slice (if m=l0.toNat then pp else pp.map (·.add (l0.toNat*u.size))) (h0.toNat-l0.toNat) (m-l0.toNat))) G.w:=by
  intro z H j g;rcases aC with ⟨n1,k1,rfl,q⟩ | ⟨rfl,q⟩ <;> rcases aB with ⟨n2,k2,rfl,s⟩ | ⟨rfl,s⟩
  ·simp[execOp,F,Instr.sliceAt,Instr.slice,Instr.sliceBounds,run_underlying W,Result.andThen,X3 G.w i,Y,q,s,r1 m .sliceAcap k2 (by omega),r2 h0.toNat .sliceB k1 (by omega)]
  ·have:h0.toNat=xs.length:=by omega
   simp[execOp,F,Instr.sliceAt,Instr.slice,Instr.sliceBounds,run_underlying W,Result.andThen,X3 G.w i,Y,q,this,r2 xs.length .sliceB k1 (by omega)]
  ·simp[execOp,F,Instr.sliceAt,Instr.slice,Instr.sliceBounds,run_underlying W,Result.andThen,X3 G.w i,Y,q,s,r1 m .sliceAcap k2 (by omega)]
  ·have:h0.toNat=xs.length:=by omega
   simp[execOp,F,Instr.sliceAt,Instr.slice,Instr.sliceBounds,run_underlying W,Result.andThen,X3 G.w i,Y,q,this]
 refine⟨_,Q,?_⟩;have r:((xs.take h0.toNat).drop l0.toNat).length=h0.toNat-l0.toNat:=by rw[List.length_drop,List.length_take]; omega
 rw[<- r];refine⟨_,_,rfl,by rw[r]; omega,by omega,?_⟩;by_cases hc:m=l0.toNat
 ·grind
 ·rcases h4 with h4 | ⟨b,o,ds,rfl,hb,hat,hall⟩
  ·grind
  ·right;have hR:=fun(c:List Value) (y:c7 t) (V:RT (rg G fr) G.w t c y)=>RT.len V;refine⟨b,o+l0.toNat*u.size,(ds.take (h0.toNat*sz t)).drop (l0.toNat*sz t),?_,hb,?_,?_⟩
   ·grind[Addr.add]
   ·grind[Xm,Xk]
   grind[AllR.cut]
theorem p0n(l:EnvR X.n G st.e a){T ty:TypeId}{x ix:Operand}{s:ByteArray}{n:Int}{f g:Bool}{k:IntKind}(o:X.P.underlying T=some .string)(j:AVR G (.d f .str s) (a.eval x))(m:AVR G (.d g (.int k) n) (a.eval ix))(h:KN n s.size) :
  N7 X G a (.index T x ix) ty (.d true (.int .u8) (H9 s n.toNat)):=by
 haveI:JY X.P T:=⟨o⟩
 have b:ev (F2 a [x,ix]) x=some (a.eval x):=K7 (by simp);have c:ev (F2 a [x,ix]) ix=some (a.eval ix):=K7 (by simp);rw[(Ss j).1] at b;rw[(F7 m).1] at c;obtain⟨i,rfl⟩:=Int.eq_ofNat_of_zero_le h.1;have hi:i<s.size:=by have:=h.2; omega
 exact C2 l [x,ix] (s0m b c hi) ⟨rfl,w0D _ _,w0E _ _⟩
theorem s0M(_:EnvR X.n G st.e a){S T ty:TypeId}{x:Operand}{f:Bool}{k w b:IntKind}{n m:Int}(s:X.P.underlying S=some (.int w))(y:X.P.underlying T=some (.int b))(v:AVR G (.d f (.int k) n) (a.eval x)){q:Prop}(h:Xt k b n=(q,m))(l:q) :
  N7 X G a (.convert S T x) ty (.d true (.int b) m):=by
 obtain⟨o,c⟩:=F7 v;have j:b.wrap n=m/\lo b<=m/\m<=hi b:=by
  unfold Xt at h;split at h
  case h_2 =>
   simp only[pj] at h;obtain⟨rfl,rfl⟩:=h;exact⟨Su _ l,l⟩
  rename_i z t;simp only[pj] at h;obtain⟨_,rfl⟩:=h;have h:=t;unfold J0a at h;split at h <;> simp only[oi,reduceCtorEq] at h
  ·subst h; exact⟨IntWalk.i64_in _ c,c⟩
  ·subst h; exact⟨IntWalk.u8_in _ c,c⟩
  ·grind[lo,hi,IntWalk.i64_in]
  ·grind[lo,hi,IntKind.wrap_u8]
 refine⟨.int b m,fun r u i g=>?_,rfl,j.2⟩;rw[<- j.1];simp[execOp,o,convert,run_underlying y,run_underlying s,Conv.intToInt,Result.andThen]
theorem o0M(S:Sat X G)(F:EnvR X.n G st.e a){t T E ty T':TypeId}{x:Operand}{id ver:Nat}{fr:Bool}{xs:List Int}(W:X.P.underlying t=some (.slice E))(l:X.P.underlying E=some (.int .u8))(Y:X.P.underlying T=some .string)(u:AVR G (.os id ver) (a.eval x))(y:a8 G.o id=some (.arr T' fr (.int .u8) xs ver))(hq:0<xs.length) :
  N7 X G a (.convert t T x) ty (.d true .str (strOfNums xs)):=by
 obtain⟨_,T2,H,t2,aA,v,z,g2,Q⟩:=u;rw[y] at z;cases z;have u:=Q rfl;obtain⟨i,V,hA,_⟩:=S.obs id _ y;have f:∀{xs:List Int} {i:List Value},AllR (RT (rg G fr) G.w (.int .u8)) i xs->i=xs.map (Value.int .u8):=by
  intro xs
  induction xs with
  | nil=>intro i h; exact h
  | cons x r ih =>
    rintro i ⟨c,d,e,k,j⟩;rw[e,k.1,ih j]; rfl
 have f:=f hA;subst f
 haveI:I6 X.P t E:=⟨W⟩
 haveI:NU X.P E:=⟨l⟩
 haveI:JY X.P T:=⟨Y⟩
 rcases V with ⟨_,h0,_⟩ | ⟨b,o,cap,cur,hb,hv,k,j,h3,h4,h5⟩
 ·omega
 ·have m:Own G.w T' 1 (some b) (G.ρ id) xs.length (xs.map (Value.int .u8)):=.inr ⟨b,o,cap,cur,rfl,hv,k,j,h3,h4,h5⟩;obtain⟨o2,g,e2,q⟩:=m.at;have s:ev (F2 a [x]) x=some (.slice (some ⟨b,o2,none⟩) xs.length g):=by grind[K7]
  refine C2 F [x] (k0M s rfl q) ⟨rfl,?_⟩;rw[strOfNums_size];have:cap<=9223372036854775807:=h3;omega
theorem j0z(d:B6 X.P Γ)(S:Sat X G)(q:EnvR X.n G st.e a){T ty:TypeId}{x:Operand}{f c z s u:Nat}{H:Value}{i:Ty}{pl:List (Nat×Nat)}{w:Bool}{g:List Bool}{v r:AV}{cs:List AV}{l:List Nat}
  (E:a8 Γ T=some ⟨z,s,H,.agg pl w g,i⟩) (j:I4 pl f=some (c,u)) (m:AVR G v (a.eval x)) (y:Z5 G.o v=some (cs,l)) (t:Sw v c=some r):N7 X G a (.fieldAddr T x f) ty r:=by
 obtain⟨b,o,Q,k⟩:=s0y S y t m;have F:=(d T _ E).2.2.2.2.2.2.2.1;rw[AN] at j
 haveI:x8 X.P T f c:=⟨by have:=h0M F j; simpa using this⟩
 have h:ev (F2 a [x]) x=some (.pointer (some ⟨b,o,none⟩)):=by grind[K7]
 exact C2 q [x] (f0O h) k
theorem n0c{P:Program}{w:World}{T:TypeId}{i:TypeInfo}{xs:Array Value}{a:Nat}(c:BW P T=true)(hi:P.info? T=some i):(part T xs a).run P w=.ok (.agg (xs.extract a (a+i.size))) w:=by
 unfold BW at c;split at c
 ·rename_i b;simp[part,Go.isAgg,run_underlying b,X3 w hi,Result.andThen]
 ·rename_i b;simp[part,Go.isAgg,run_underlying b,X3 w hi,Result.andThen]
 grind
theorem n0b{P:Program}{w:World}{T:TypeId}{xs:Array Value}{a:Nat}{v:Value}(b:Z2 P T=true)(c:xs[a]?=some v):(part T xs a).run P w=.ok v w:=by
 unfold Z2 at b;cases hu:P.underlying T with
 | none=>grind
 | some d=>cases d <;> simp[hu] at b <;> simp[part,Go.isAgg,run_underlying hu,c]
theorem p0s(hE:EnvR X.n G st.e a){T ty:TypeId}{Y:TI}{x:Operand}{f:Nat}{cs:List AV}{r:AV}(hT:IM X.P T Y)(hx:AVR G (.agg cs) (a.eval x))(h:Xu Y cs f=some r):N7 X G a (.field T x f) ty r:=by
 obtain⟨_,_,_,_,hk⟩:=hT;obtain⟨w,eu,hA⟩:=hx;unfold Xu at h;split at h
 ·rename_i pl e ag z;rw[z] at hk;obtain⟨_,t,h3,_,_,W⟩:=hk;unfold KH at t;unfold OO at h3;unfold Xi at W;split at t
  ·rename_i V F;simp only[F,oi] at t h3 W;have m:∀{d s:Nat} {b:Bool},I4 pl f=some (d,s)->I4 ag f=some b->∃c i,V[f]?=some c/\X.P.info? c.type=some i/\d=c.offset/\s=i.size/\BW X.P c.type=b/\Z2 X.P c.type=!b:=by
    intro d s b j l;rw[AN] at j l;rw[<- t,List.getElem?_map] at j;have g3:(V.toList.map fun f=>(BW X.P f.type,Z2 X.P f.type))[f]?=some (b,!b):=by rw[W,List.getElem?_map,l]; rfl
    rw[List.getElem?_map] at g3;cases o:V.toList[f]? with
    | none=>rw[o] at j; cases j
    | some c =>
      grind
   have q:ev (F2 a [x]) x=some (.agg w.toArray):=by grind[K7]
   split at h
   ·rename_i d s j l;obtain⟨c,i,o,hi,rfl,rfl,y,_⟩:=m j l;rw[ce] at h;split at h
    ·simp only[oi] at h; subst h;refine C2 hE [x] (v:=.agg (w.toArray.extract c.offset (c.offset+i.size))) ?_ ⟨(w.drop c.offset).take i.size,?_,?_⟩
     ·intro ac H Q k g E;simp only[execOp,E.ev q];simp[Instr.field,run_underlying F,o,asAgg,n0c y hi]
     ·grind
     ·exact((hA.take c.offset).2.take i.size).1
    grind
   ·rename_i d s j l;obtain⟨c,i,o,hi,rfl,rfl,_,y⟩:=m j l;rw[AN] at h;obtain⟨u,aA,hr⟩:=hA.get h;refine C2 hE [x] (v:=u) ?_ hr;intro ac H Q k g E;simp only[execOp,E.ev q];simp[Instr.field,run_underlying F,o,asAgg,n0b y (show w.toArray[c.offset]?=some u by grind)]
   grind
  grind
 grind
theorem o0j(c:B6 X.P Γ)(j:EnvR X.n G st.e a)(u:PathP p a){T ty:TypeId}{l k:Nat}{h:Value}{f:Ty}{pl:List (Nat×Nat)}{s:Bool}{d:List Bool}{b:Array (Nat×Operand)}{cs r:List AV}
  (y:a8 Γ T=some ⟨l,k,h,.agg pl s d,f⟩) (hz:Bn h.cells.toList=some cs) (m:Bo st p pl cs b.toList=some r):N7 X G a (.build T b) ty (.agg r):=by
 obtain⟨v,t,o⟩:=Xs j u m (KK (G:=G) hz);have g:=(c T _ y)
 haveI:Info X.P T l k h:=⟨g.1⟩
 haveI:r0S X.P T pl:=⟨g.2.2.2.2.2.1,g.2.2.2.2.2.2.1⟩
 have z:=Xr (a:=a) (xs:=b.toList.map (·.2)) (ps:=b.toList) (fun q x=>List.mem_map_of_mem x);have i:=s0o (P:=X.P) (T:=T) (n:=X.n) (w:=G.w) (ty:=ty) z t;rw[Array.toArray_toList] at i;exact C2 j _ i ⟨v,rfl,o⟩
theorem k0c(c:B6 X.P Γ)(k:EnvR X.n G st.e a)(u:PathP p a){T E ty:TypeId}{l j m:Nat}{h:Value}{f:Ty}{d:TI}{b:Array (Nat×Operand)}{cs r:List AV}
  (o:a8 Γ T=some ⟨l,j,h,.arr m E,f⟩) (g:a8 Γ E=some d) (hz:Bn h.cells.toList=some cs) (s:Bo st p (DJ m 0 d.size) cs b.toList=some r):N7 X G a (.build T b) ty (.agg r):=by
 obtain⟨x,t,v⟩:=Xs k u s (KK (G:=G) hz)
 haveI:Info X.P T l j h:=⟨(c T _ o).1⟩
 haveI:Info X.P E d.size d.bytes d.zero:=⟨(c E _ g).1⟩
 have y:=Xr (a:=a) (xs:=b.toList.map (·.2)) (ps:=b.toList) (fun q z=>List.mem_map_of_mem z);have i:=l0D (P:=X.P) (T:=T) (n:=X.n) (w:=G.w) (ty:=ty) (c T _ o).2.2.2.2.2 y t;rw[Array.toArray_toList] at i;exact C2 k _ i ⟨x,rfl,v⟩
theorem j0Y(m:EnvR X.n G st.e a)(k:PathP p a){f:FuncId}{first b:Array Operand}{ty:TypeId}{l:List AV}(r:first.toList=[])(o:N6 st p b.toList=some l):N7 X G a (.makeFunc (.func f) first b) ty (.fn f l):=by
 have d:=Ca m k o;refine⟨.func (.func f) #[] (b.toList.map a.eval).toArray,fun h j c g=>?_,_,rfl,d⟩;have q:first=#[]:=by cases first; simp_all
 have i:b.map a.eval=(b.toList.map a.eval).toArray:=by grind
 subst q;simp only[execOp,Instr.makeFunc,i];simp
theorem C0v{xs:Array Operand}{u:Value}(h:xs.toList.map a.eval=[u]):xs.map a.eval=#[u]:=by
 grind
theorem Xw{T ty:TypeId}{E:TypeId}{xs:Array Operand}{e:Array TypeId}{k:Option Addr}{m c:Nat}(n:X.P.underlying T=some (.slice E))(l:xs.toList.map a.eval=[.slice k m c])(i:e.toList=[T])(q:m<=9223372036854775807) :
  N7 X G a (.call ⟨.builtin .len,xs,e⟩) ty (.d true (.int .i64) (m:Int)):=by
 have o:=C0v l;have h:e=#[T]:=Array.ext' (by omega);subst h;refine⟨.int .i64 m,fun f j b g=>?_,rfl,b7 (by omega)⟩;simp only[execOp,resolve,o];simp[invoke,builtin,Builtin.len_,run_underlying n,goInt,Result.andThen]
theorem s0C{T ty:TypeId}{xs:Array Operand}{c:Array TypeId}{s:ByteArray}(k:X.P.underlying T=some .string)(j:xs.toList.map a.eval=[.string s])(h:c.toList=[T])(m:s.size<=9223372036854775807) :
  N7 X G a (.call ⟨.builtin .len,xs,c⟩) ty (.d true (.int .i64) (s.size:Int)):=by
 have l:=C0v j;have f:c=#[T]:=Array.ext' (by omega);subst f;refine⟨.int .i64 s.size,fun e i b g=>?_,rfl,b7 (by omega)⟩;simp only[execOp,resolve,l];simp[invoke,builtin,Builtin.len_,run_underlying k,goInt,Result.andThen]
theorem h0K{ty:TypeId}{xs:Array Operand}{j:Array TypeId}{u v:Int}(k:xs.toList.map a.eval=[.int .i64 u,.int .i64 v])(h:R9 u)(f:R9 v) :
  N7 X G a (.call ⟨.builtin .min,xs,j⟩) ty (.d true (.int .i64) (IP u v))/\N7 X G a (.call ⟨.builtin .max,xs,j⟩) ty (.d true (.int .i64) (IQ u v)):=by
 have i:xs.map a.eval=#[.int .i64 u,.int .i64 v]:=by apply Array.ext'; simpa using k
 refine⟨⟨.int .i64 (IP u v),fun c e b g=>?_,rfl,(v0B h f).1⟩,⟨.int .i64 (IQ u v),fun c e b g=>?_,rfl,(v0B h f).2⟩⟩
 ·rw[<- D0X];simp only[execOp,resolve,i];simp[invoke,builtin,Builtin.min_,Builtin.min2]
 ·rw[<- E0c];simp only[execOp,resolve,i];simp[invoke,builtin,Builtin.max_,Builtin.max2]
end
theorem s0U{X:Cx}{G:Gh}{a:Act}{st:St}{Γ:p9}{p:Pa}(w:B6 X.P Γ)(S:Sat X G)(ho:G.o=st.o)(d:EnvR X.n G st.e a)(H:PathP p a){op:Op}{ty:TypeId}{q:Prop}{r:AV}{l:List Nat}
  (h:J4 Γ st p op=some (q,r,l)) (hq:q):N7 X G a op ty r:=by
 unfold J4 at h;split at h
 ·rename_i x;split at h
  ·rename_i v Q;simp only[oi,pj] at h;obtain⟨_,rfl,_⟩:=h;exact C2 d [x] (q6 (by grind[AM,K7])) (D9 d H Q)
  grind
 ·rename_i x;split at h
  ·rename_i v Q;simp only[oi,pj] at h;obtain⟨_,rfl,_⟩:=h;exact C2 d [x] (q6 (by grind[AM,K7])) (D9 d H Q)
  grind
 ·rename_i x;split at h
  ·rename_i v Q;split at h
   ·rename_i cs l' hd;simp only[oi,pj] at h;obtain⟨rfl,rfl,_⟩:=h;rw[<- ho] at hd hq;have hx:=D9 d H Q;obtain⟨b,o,us,e,_⟩:=Xo S hd hq hx;have aB:ev (F2 a [x]) x=some (.pointer (some ⟨b,o,none⟩)):=by grind[K7]
    rw[e] at hx;exact C2 d [x] (l0B aB) hx
   grind
  grind
 ·rename_i c x y;split at h
  ·rename_i s;split at h
   ·rename_i f1 vx f2 vy f3 vz j F V;simp only[oi,pj] at h;obtain⟨_,rfl,_⟩:=h;have e1:=FD (D9 d H j);rw[v0E F V];have hc:ev (F2 a [.tmp s,x,y]) (.tmp s)=some (.bool vx):=by grind[K7]
    cases vx with
    | true =>
      have aD:PathP ((s,true) :: p) a:=by
       intro z hz;rcases List.mem_cons.1 hz with rfl | hz
       ·exact e1
       ·exact H z hz
      have e2:=FD (D9 d aD F);exact C2 d [.tmp s,x,y] (v:=.bool vy) (q6 (by grind[AM,K7])) rfl
    | false =>
      have aD:PathP ((s,false) :: p) a:=by
       intro z hz;rcases List.mem_cons.1 hz with rfl | hz
       ·exact e1
       ·exact H z hz
      have e2:=FD (D9 d aD V);exact C2 d [.tmp s,x,y] (v:=.bool vz) (q6 (by grind[AM,K7])) rfl
   grind
  grind
 ·split at h
  ·rename_i u v j F;split at h
   ·rename_i q' r' hb;simp only[oi,pj] at h;obtain⟨rfl,rfl,_⟩:=h;exact s0Q d (fun t ht=>w _ t ht) (D9 d H j) (D9 d H F) hb hq
   grind
  grind
 ·rename_i x;split at h
  ·rename_i f b j;simp only[oi,pj] at h;obtain⟨_,rfl,_⟩:=h;have e1:=FD (D9 d H j);have aB:ev (F2 a [x]) x=some (.bool b):=by grind[K7]
   exact C2 d [x] (q6 (by grind[AM])) rfl
  grind
 ·rename_i x;split at h
  ·rename_i f n j;simp only[oi,pj] at h;obtain⟨rfl,rfl,_⟩:=h;have e1:=(F7 (D9 d H j)).1;have aB:ev (F2 a [x]) x=some (.int .i64 n):=by grind[K7]
   exact C2 d [x] (y0e aB hq) ⟨rfl,hq⟩
  grind
 ·split at h
  ·rename_i f k n _ _ _ k0 _ _ _ _ k' _ j F V;split at h;rename_i q' m hm;simp only[oi,pj] at h;obtain⟨rfl,rfl,_⟩:=h;exact s0M d (w _ _ F).2.2.2.2.2 (w _ _ V).2.2.2.2.2 (D9 d H j) hm hq
  ·rename_i id aJ _ _ _ E _ _ _ _ _ j F V;split at h
   ·rename_i E' fr xs aF _ _ _ _ h4 h5;rw[ce] at h;split at h
    ·rename_i Q;have Q:=nb Q;subst Q;simp only[oi,pj] at h;obtain⟨rfl,rfl,_⟩:=h;exact o0M S d (w _ _ F).2.2.2.2.2 (w _ _ h5).2.2.2.2.2 (w _ _ V).2.2.2.2.2 (D9 d H j) (by rw[ho]; exact h4) hq
    grind
   grind
  grind
 ·split at h
  ·rename_i v _ _ _ pl _ j F;split at h
   ·rename_i aP s1 cs l' hf hd;split at h
    ·rename_i r' hm;simp only[oi,pj] at h;obtain⟨_,rfl,_⟩:=h;rw[<- ho] at hd;exact j0z w S d F hf (D9 d H j) hd hm
    grind
   grind
  grind
 ·split at h
  ·rename_i v ti j F;split at h
   ·rename_i cs l' hd;split at h
    ·rename_i r' hm;simp only[oi,pj] at h;obtain⟨rfl,rfl,_⟩:=h;rw[<- ho] at hd hq;obtain⟨b,o,us,e,aL,hA⟩:=Xo S hd hq (D9 d H j);exact r0g d (w _ _ F) e aL hA hm
    grind
   grind
  grind
 ·split at h
  ·rename_i v f k n j F;rw[<- ho] at h;exact v0V w S d (D9 d H j) (D9 d H F) h hq
  grind
 ·split at h
  ·rename_i f s g k n _ _ _ _ j F V;simp only[oi,pj] at h;obtain⟨rfl,rfl,_⟩:=h;exact p0n d (w _ _ V).2.2.2.2.2 (D9 d H j) (D9 d H F) hq
  grind
 ·rename_i x i;split at h
  ·rename_i l' j;split at h
   ·rename_i r' F;simp only[oi,pj] at h;obtain⟨_,rfl,_⟩:=h;obtain⟨us,e,hA⟩:=D9 d H j;rw[AN] at F;obtain⟨u,W,hr⟩:=hA.get F;have aB:ev (F2 a [x]) x=some (.tuple us.toArray):=by grind[K7]
    exact C2 d [x] (q6 (by grind[AM])) hr
   grind
  grind
 ·split at h
  ·rename_i cs ti j F;split at h
   ·rename_i r' V;simp only[oi,pj] at h;obtain⟨_,rfl,_⟩:=h;exact p0s d (w _ _ F) (D9 d H j) V
   grind
  grind
 ·grind[oi,pj,j0Y]
 ·grind[oi,pj,o0j,k0c]
 ·split at h
  ·rename_i j F V h4;split at h
   ·rename_i te h5;rw[ce] at h
    grind[oi,pj,o0Q,nb,D9]
   grind
  grind
 ·rename_i xs Ts;split at h
  ·rename_i f t l' T j F;split at h
   ·rename_i V;simp only[oi,pj] at h;obtain⟨_,rfl,_⟩:=h;obtain⟨u,Y,e,W,hr⟩:=Ca d H j;have:Y=[]:=hr;subst this;obtain⟨p0,aK,Q,aH,aA,_⟩:=W;simp only[List.cons.injEq,and_true] at Q;rw[Q] at e;exact Xw (w _ _ V).2.2.2.2.2 e F (by omega)
   grind
  ·rename_i id aJ T j F;split at h
   ·rename_i _ _ _ _ T' fr t l' aF V h4;rw[ce] at h;split at h
    ·rename_i Q;have Q:=nb Q;simp only[oi,pj] at h;obtain⟨_,rfl,_⟩:=h;obtain⟨u,Y,e,W,hr⟩:=Ca d H j;have:Y=[]:=hr;subst this;obtain⟨_,T1,aO,t1,aN,aM,g1,g2,g3⟩:=W;rw[<- ho] at h4;rw[h4] at g1;cases g1;have W:=g3 Q;obtain⟨cs,hO,_,_⟩:=S.obs id _ h4;have aA:l'.length<=9223372036854775807:=by
      rcases hO with ⟨_,hn,_⟩ | ⟨b,o,aK,cur,_,_,_,aH,aA,_⟩
      ·omega
      ·grind[maxLen]
     obtain⟨p0,c0,aG⟩:=hO.len;rw[W,aG] at e;exact Xw (w _ _ V).2.2.2.2.2 e F aA
    grind
   grind
  ·rename_i T j F;split at h
   ·rename_i V;simp only[oi,pj] at h;obtain⟨_,rfl,_⟩:=h;obtain⟨u,Y,e,W,hr⟩:=Ca d H j;have:Y=[]:=hr;subst this;have W:u=_:=W;rw[W] at e;exact Xw (w _ _ V).2.2.2.2.2 e F (Nat.zero_le _)
   grind
  ·rename_i f s T j F;split at h
   ·rename_i V;simp only[oi,pj] at h;obtain⟨_,rfl,_⟩:=h;obtain⟨u,Y,e,W,hr⟩:=Ca d H j;have:Y=[]:=hr;subst this;obtain⟨Q,hm⟩:=Ss W;rw[Q] at e;exact s0C (w _ _ V).2.2.2.2.2 e F hm
   grind
  grind
 ·rename_i xs Ts;split at h
  ·rename_i f u g v j;simp only[oi,pj] at h;obtain⟨_,rfl,_⟩:=h;obtain⟨x1,aI,e1,W,x2,aC,e2,Q,e3⟩:=Ca d H j;have e3:aC=[]:=e3;subst e3; subst e2;obtain⟨g1,g2⟩:=F7 W;obtain⟨g3,g4⟩:=F7 Q;rw[g1,g3] at e1;exact(h0K e1 g2 g4).1
  grind
 ·rename_i xs Ts;split at h
  ·rename_i f u g v j;simp only[oi,pj] at h;obtain⟨_,rfl,_⟩:=h;obtain⟨x1,aI,e1,W,x2,aC,e2,Q,e3⟩:=Ca d H j;have e3:aC=[]:=e3;subst e3; subst e2;obtain⟨g1,g2⟩:=F7 W;obtain⟨g3,g4⟩:=F7 Q;rw[g1,g3] at e1;exact(h0K e1 g2 g4).2
  grind
 grind
def DK(o:List (Nat×Ob)):AV->Option ((t:Ty)×List (c7 t)×List Nat×Bool)
 | .d fr (.sl t) xs=>some ⟨t,xs,[],fr||D8 t⟩
 | .os id ver=>match a8 o id with
   | some (.arr _ fr t xs ver')=>bif Nat.beq ver ver' then some ⟨t,xs,[id],fr||D8 t⟩ else none
   | _=>none
 | _=>none
def Sy(n m y:Nat):Prop:=n+m<=9223372036854775807/\(n+m)*y<=140737488355328
def Sz(n n':Int)(y:Nat):Prop:=0<=n/\n'=n/\n.toNat*y<=281474976710656/\n<=9223372036854775807
def FE(st:St)(p:Pa)(t:Ty):Nat->List (Nat×Operand)->Option (List (c7 t)×Bool)
 | _,[]=>some ([],true)
 | k,(i,x) :: r=>bif Nat.beq i k then(match rd st p x with
   | some v=>match CV v with
     | some cs=>match H7 st.o 24 t cs with
       | some (y,[],f)=>match FE st p t (k+1) r with
         | some (ys,g)=>some (y :: ys,f&&g)
         | none=>none
       | _=>none
     | none=>none
   | none=>none) else none
def AO(o:List (Nat×Ob))(d:Nat):Bool:=match a8 o d with
 | none=>true
 | some _=>false
def SA:TI->Option (TypeId×Ty)
 | ⟨1,_,.slice none 0 0,.sl Te,.sl t⟩=>some (Te,t)
 | _=>none
def Bp(Γ:p9)(st:St)(p:Pa)(d:Nat):Op->Option (Prop×AV×(Nat×Ob)×List Nat)
 | .alloc T=>match a8 Γ T with
   | some ti=>match Bn ti.zero.cells.toList with
     | some cs=>bif AO st.o d then some (True,.ptr d 0,(d,.box T cs),[d]) else none
     | none=>none
   | none=>none
 | .box T x=>match rd st p x with
   | some v=>match CV v with
     | some cs=>bif AO st.o d then some (True,.ptr d 0,(d,.box T cs),[d]) else none
     | none=>none
   | none=>none
 | .makeSlice T l c=>match rd st p l,rd st p c,a8 Γ T with
   | some (.d _ (.int .i64) n),some (.d _ (.int .i64) n'),some ⟨_,_,_,.sl E,_⟩=>match a8 Γ E with
     | some te=>match SA te with
       | some (Te,t)=>bif AO st.o d then some (Sz n n' te.bytes,.og d,(d,.grd E Te true t (List.replicate n.toNat []) none),[d]) else none
       | none=>match Bn te.zero.cells.toList with
         | some cs=>match H7 st.o 24 te.ty cs with
           | some (z,[],f)=>bif AO st.o d&&Nat.beq te.size (sz te.ty) then some (Sz n n' te.bytes,.os d 0,(d,.arr E f te.ty (List.replicate n.toNat z) 0),[d]) else none
           | _=>none
         | none=>none
     | none=>none
   | _,_,_=>none
 | .buildSlice T n parts=>match a8 Γ T with
   | some ⟨_,_,_,.sl E,_⟩=>match a8 Γ E with
     | some te=>match FE st p te.ty 0 parts.toList with
       | some (xs,f)=>bif AO st.o d&&Nat.beq te.size (sz te.ty)&&Nat.beq parts.toList.length n&&Nat.ble (n*te.size) 16777216 then some (True,.os d 0,(d,.arr E f te.ty xs 0),[d]) else none
       | none=>none
     | none=>none
   | _=>none
 | .call ⟨.builtin .append,xs,Ts⟩=>match N6 st p xs.toList,Ts.toList with
   | some [.os id ver,v],[T,T2]=>match a8 Γ T,a8 st.o id,DK st.o v with
     | some ⟨_,_,_,.sl E,_⟩,some (.arr E' fr t l ver'),some ⟨t',m,ids,f⟩=>match a8 Γ E,Z4 (.sl t') (.sl t) m with
       | some te,some m'=>bif Nat.beq ver ver'&&Nat.beq E E'&&Nat.beq te.size (sz t)&&Nat.beq T T2 then some (Sy l.length m'.length te.bytes,.os id (ver+1),(id,.arr E (fr&&f) t (l++m') (ver+1)),id :: ids) else none
       | _,_=>none
     | _,_,_=>none
   | some [.v (.slice none 0 0),v],[T,T2]=>match a8 Γ T,DK st.o v with
     | some ⟨_,_,_,.sl E,_⟩,some ⟨t,m,ids,f⟩=>match a8 Γ E with
       | some te=>bif AO st.o d&&Nat.beq te.size (sz t)&&Nat.beq T T2 then some (Sy 0 m.length te.bytes,.os d 0,(d,.arr E f t m 0),d :: ids) else none
       | none=>none
     | _,_=>none
   | _,_=>none
 | _=>none
def CX(Γ:p9)(st:St)(p:Pa):Op->Option (Prop×(Nat×Ob)×List Nat)
 | .store T x y=>match rd st p x,rd st p y,a8 Γ T with
   | some (.ptr id off),some v,some ti=>match a8 st.o id,CV v with
     | some (.box T' cs),some vs=>bif Nat.beq vs.length ti.size&&Nat.ble (off+vs.length) cs.length then some (True,(id,.box T' (GU cs off vs)),[id]) else none
     | _,_=>none
   | some (.pel id ver k s off),some v,some ti=>match a8 st.o id,CV v with
     | some (.arr E fr t l ver'),some vs=>match H7 st.o 24 t (GU (A7 fr t (l.getD k (a6 t))) off vs) with
       | some (y,[],f)=>bif Nat.beq ver ver'&&Nat.beq s (sz t)&&Nat.beq vs.length ti.size&&Nat.ble (off+vs.length) (sz t) then some (k<l.length,(id,.arr E (fr&&f) t (l.set k y) ver'),[id]) else none
       | _=>none
     | _,_=>none
   | _,_,_=>none
 | _=>none
def Mk(X:Cx)(G:Gh)(a:Act)(op:Op)(ty:TypeId)(av:AV)(w:Nat×Ob):Prop :=
 ∃v G',(∀dst pos after g,(execOp a.eval ⟨dst,op,ty,pos,after,g⟩).run X.P G.w=.ok (.value v) G'.w)/\Sat X G'/\GLe G G'/\G'.o=w :: G.o/\AVR G' av v
theorem FF{o:List (Nat×Ob)}{d:Nat}(h:AO o d=true):a8 o d=none:=by
 grind[AO]
section
variable {X:Cx} {G:Gh} {a:Act} {st:St} {Γ:p9} {p:Pa}
theorem SB{d:Nat}{ob:Ob}{r:Value}(h:a8 G.o d=none):x0a G d ob r:=⟨(fun _ _ a=>by grind),(fun _ _ _ _ _ a=>by grind),by rw[h]; rfl⟩
theorem Xx(S:Sat X G){d:Nat}{T:TypeId}{cs:List AV}{us:Array Value}(f:a8 G.o d=none)(c:AVRs G cs us.toList) :
  ∃G',G'.w=G.w.alloc (.cells us T)/\Sat X G'/\GLe G G'/\G'.o=(d,.box T cs) :: G.o/\AVR G' (.ptr d 0) (.pointer (some ⟨G.w.heap.size,0,none⟩)):=by
 have i:=IJ G.w (.cells us T);have j:=IK G.w us T;have h:=S.put (id:=d) (ob:=.box T cs) (r:=.pointer (some ⟨G.w.heap.size,0,none⟩)) (g:=some G.w.heap.size) (w':=G.w.alloc (.cells us T)) (go:=none) (SB f) (fun _ e=>by cases e) (WE.of_ext i.ext) (fun b e=>by cases e; exact .inr (Nat.le_refl _))
  (fun a=>⟨G.w.heap.size,us.toList,by simp[Gh.put],by simp[Gh.put],j,c.mono a⟩)
 exact⟨_,rfl,h.1,h.2,rfl,⟨T,cs,by rw[show(Gh.put G d (.box T cs) _ _ _).o=(d,.box T cs) :: G.o from rfl,lK]; simp⟩,_,by simp[Gh.put],rfl⟩
theorem C0n(S:Sat X G){d:Nat}{E:TypeId}{fr:Bool}{t:Ty}{xs:List (c7 t)}{us:Array Value}(k:a8 G.o d=none)(i:AllR (RT (rg G fr) G.w t) us.toList xs)(n:xs.length<=9223372036854775807) :
  ∃G',G'.w=G.w.alloc (.cells us E)/\Sat X G'/\GLe G G'/\G'.o=(d,.arr E fr t xs 0) :: G.o/\AVR G' (.os d 0) (.slice (some ⟨G.w.heap.size,0,none⟩) xs.length xs.length):=by
 have l:=IJ G.w (.cells us E);have m:=IK G.w us E;have a:=i.len (fun c x h=>RT.len h);have h:=S.put (id:=d) (ob:=.arr E fr t xs 0) (r:=.slice (some ⟨G.w.heap.size,0,none⟩) xs.length xs.length) (g:=some G.w.heap.size) (w':=G.w.alloc (.cells us E)) (go:=none) (SB k) (fun _ e=>by cases e) (WE.of_ext l.ext) (fun b e=>by grind)
  (fun f=>⟨us.toList,by
    simp only[Gh.put,if_true];exact .inr ⟨G.w.heap.size,0,xs.length,us,rfl,rfl,by simpa [Blk] using m,Nat.le_refl _,by simp only[maxLen]; omega,by simpa using a,by rw[List.drop_zero,<- a,List.take_length]⟩,i.mapR (fun c x j=>RT.same (w:=G.w) f.hR j),fun b e=>by simp only[Gh.put,if_true] at e ⊢; cases e; exact Nat.le_trans S.le S.size⟩)
 exact⟨_,rfl,h.1,h.2,rfl,rfl,E,fr,t,xs,0,by rw[show(Gh.put G d (.arr E fr t xs 0) _ _ _).o=(d,.arr E fr t xs 0) :: G.o from rfl,lK]; simp,Nat.le_refl _,fun _=>by simp[Gh.put]⟩
theorem I0O(S:Sat X G){d n:Nat}{E Te:TypeId}{t:Ty}(m:a8 G.o d=none)(l:n<=9223372036854775807) :
  ∃G',G'.w=G.w.alloc (.cells (J1 n [.slice none 0 0]).toArray E)/\Sat X G'/\GLe G G'/\G'.o=(d,.grd E Te true t (List.replicate n []) none) :: G.o/\AVR G' (.og d) (.slice (some ⟨G.w.heap.size,0,none⟩) n n):=by
 have c:=IJ G.w (.cells (J1 n [.slice none 0 0]).toArray E);have f:=IK G.w (J1 n [.slice none 0 0]).toArray E;have q:J1 n [Value.slice none 0 0]=List.replicate n (.slice none 0 0):=by
  clear c f l
  induction n with
  | zero=>rfl
  | succ n s=>grind[J1]
 have h:=S.put (id:=d) (ob:=.grd E Te true t (List.replicate n []) none) (r:=.slice (some ⟨G.w.heap.size,0,none⟩) n n) (g:=some G.w.heap.size) (w':=G.w.alloc (.cells (J1 n [.slice none 0 0]).toArray E)) (go:=none) (SB m) (fun _ e=>by cases e) (WE.of_ext c.ext) (fun b e=>by grind)
  (fun j=>⟨List.replicate n (.slice none 0 0),fun _=>none,by
    simp only[Gh.put,if_true,List.length_replicate];exact .inr ⟨G.w.heap.size,0,n,_,rfl,rfl,by simpa [Blk] using f,Nat.le_refl _,by grind[maxLen],by grind,by grind⟩,⟨by simp,fun b=>⟨fun h=>(h.1 rfl).elim,fun⟨_,_,_,h⟩=>by cases h⟩,(fun _ _ _ _ _ _ _ h=>by cases h),fun k a _=>by
     rw[List.length_replicate] at a;refine⟨[],?_,?_,(fun _ h=>by cases h)⟩
     ·simp only[gq,List.getElem?_replicate,a,if_true,Option.getD_some];exact Own.nil
     ·simp only[gq,List.getElem?_replicate,a,if_true,Option.getD_some];rfl,fun v i=>by rw[(List.mem_replicate.1 i).2]; rfl⟩,fun b e=>by simp only[Gh.put,if_true] at e ⊢; cases e; exact Nat.le_trans S.le S.size⟩)
 exact⟨_,rfl,h.1,h.2,rfl,rfl,⟨E,Te,true,t,List.replicate n [],none,by rw[show(Gh.put G d (.grd E Te true t (List.replicate n []) none) _ _ _).o=(d,.grd E Te true t (List.replicate n []) none) :: G.o from rfl,lK]; simp⟩,by simp[Gh.put]⟩
theorem z0f{a:TI}{Te:TypeId}{t:Ty}(h:SA a=some (Te,t)):a.size=1/\a.zero=.slice none 0 0/\a.ty=.sl t:=by
 unfold SA at h
 grind
theorem j0X(j:B6 X.P Γ)(S:Sat X G)(k:EnvR X.n G st.e a)(y:PathP p a){d T E ty s0 V Te:Nat}{z0:Value}{v t:Ty}{l c:Operand}{n z:Int}{i:TI}{f g:Bool}
  (hl:rd st p l=some (.d f (.int .i64) n)) (Y:rd st p c=some (.d g (.int .i64) z)) (hT:a8 Γ T=some ⟨s0,V,z0,.sl E,v⟩) (q:a8 Γ E=some i) (W:SA i=some (Te,t))
  (hd:a8 G.o d=none) (hq:Sz n z i.bytes):Mk X G a (.makeSlice T l c) ty (.og d) (d,.grd E Te true t (List.replicate n.toNat []) none):=by
 obtain⟨F,rfl,x,q3⟩:=hq;obtain⟨m,rfl⟩:=Int.eq_ofNat_of_zero_le F;simp only[Int.toNat_natCast] at x ⊢;have b:=j E _ q
 haveI:I6 X.P T E:=⟨(j T _ hT).2.2.2.2.2⟩
 haveI:Info X.P E i.size i.bytes i.zero:=⟨b.1⟩
 obtain⟨_,e0,_⟩:=z0f W;obtain⟨Q,h1,h2,h3,H,h5⟩:=I0O S (E:=E) (Te:=Te) (t:=t) (d:=d) (n:=m) hd (by omega);have e1:=(F7 (D9 k y hl)).1;have e2:=(F7 (D9 k y Y)).1;have s:ev (F2 a [l,c]) l=some (.int .i64 (m:Int)):=by grind[K7]
 have r:ev (F2 a [l,c]) c=some (.int .i64 (m:Int)):=by grind[K7]
 refine⟨_,Q,fun u w h g=>?_,h2,h3,H,h5⟩;rw[h1];have hz:i.zero.cells.toList=[.slice none 0 0]:=by rw[e0]; rfl
 exact m0Z (P:=X.P) (n:=X.n) s r hz (by rw[<- hz]; exact b.2.1) b.2.2.1 x (by omega) a u w h g (Xj k _)
theorem p0I(f:B6 X.P Γ)(S:Sat X G){d T ty:Nat}{c:TI}{cs:List AV}(m:a8 Γ T=some c)(hz:Bn c.zero.cells.toList=some cs)(q:a8 G.o d=none):Mk X G a (.alloc T) ty (.ptr d 0) (d,.box T cs):=by
 obtain⟨u,h,n,r,t,s⟩:=Xx S (T:=T) q (KK (G:=G) hz);have l:Info X.P T c.size c.bytes c.zero:=⟨(f T _ m).1⟩;obtain⟨k,b,v,x,k3⟩:=l.get;refine⟨_,u,fun i j e g=>?_,n,r,t,s⟩;have hz:=II G.w b k3;simp only[execOp,Instr.alloc,Sem.run_bind,hz,Result.andThen,h];rfl
theorem w0F(S:Sat X G)(l:EnvR X.n G st.e a)(j:PathP p a){d T ty:Nat}{x:Operand}{v:AV}{cs:List AV}(k:rd st p x=some v)(m:CV v=some cs)(t:a8 G.o d=none):Mk X G a (.box T x) ty (.ptr d 0) (d,.box T cs):=by
 obtain⟨c,_⟩:=KL m (D9 l j k);obtain⟨w,f,q,r,u,s⟩:=Xx S (T:=T) (us:=(a.eval x).cells) t c;refine⟨_,w,fun h i b g=>?_,q,r,u,s⟩;simp only[execOp,f];rfl
theorem o0p{a:Type}{R:List Value->a->Prop}{zs:List Value}{z:a}(h:R zs z):∀k,AllR R (J1 k zs) (List.replicate k z)
 | 0=>rfl
 | k+1=>⟨zs,J1 k zs,rfl,h,o0p h k⟩
theorem j0k(j:B6 X.P Γ)(S:Sat X G)(k:EnvR X.n G st.e a)(H:PathP p a){d T E ty s0 y0:Nat}{z0:Value}{v:Ty}{l c:Operand}{n Q:Int}{b:TI}{cs:List AV}{z:c7 b.ty}{f g y:Bool}
  (hl:rd st p l=some (.d f (.int .i64) n)) (hc:rd st p c=some (.d g (.int .i64) Q)) (hT:a8 Γ T=some ⟨s0,y0,z0,.sl E,v⟩) (q:a8 Γ E=some b) (hz:Bn b.zero.cells.toList=some cs) (hn:H7 G.o 24 b.ty cs=some (z,[],y))
  (hd:a8 G.o d=none) (_:b.size=sz b.ty) (hq:Sz n Q b.bytes):Mk X G a (.makeSlice T l c) ty (.os d 0) (d,.arr E y b.ty (List.replicate n.toNat z) 0):=by
 obtain⟨W,rfl,F,q3⟩:=hq;obtain⟨m,rfl⟩:=Int.eq_ofNat_of_zero_le W;simp only[Int.toNat_natCast] at F ⊢;have h:=j E _ q
 haveI:I6 X.P T E:=⟨(j T _ hT).2.2.2.2.2⟩
 haveI:Info X.P E b.size b.bytes b.zero:=⟨h.1⟩
 have r:=Xg S hn (KK (G:=G) hz);have hA:=o0p (R:=RT (rg G y) G.w b.ty) r m;obtain⟨G',h1,h2,h3,Y,V⟩:=C0n S (E:=E) (d:=d) (us:=(J1 m b.zero.cells.toList).toArray) hd (by omega) (by grind);rw[List.length_replicate] at V;have e1:=(F7 (D9 k H hl)).1;have e2:=(F7 (D9 k H hc)).1;have t:ev (F2 a [l,c]) l=some (.int .i64 (m:Int)):=by grind[K7]
 have s:ev (F2 a [l,c]) c=some (.int .i64 (m:Int)):=by grind[K7]
 refine⟨_,G',fun u x i g=>?_,h2,h3,Y,V⟩;rw[h1];exact m0Z (P:=X.P) (n:=X.n) t s rfl h.2.1 h.2.2.1 F (by omega) a u x i g (Xj k _)
theorem u0J(pre post c:List Value)(k:Nat)(h:pre.length=k):r8 (pre++post) k c=pre++(c++post.drop c.length):=by
 unfold r8;subst h
 simp_all
theorem k0R(S:Sat X G)(E:G.o=st.o)(z:EnvR X.n G st.e a)(u:PathP p a){t:Ty}{place:List (Nat×Nat)}:∀{ps:List (Nat×Operand)} {k:Nat} {ys:List (c7 t)} {fl:Bool} {pre post:List Value},FE st p t k ps=some (ys,fl)->pre.length=k*sz t->post.length=ps.length*sz t ->
  (∀i,i<k+ps.length->place[i]?=some (i*sz t,sz t))->∃ws,BY place (pre++post) (ps.map fun q=>(q.1,a.eval q.2))=some (pre++ws)/\AllR (RT (rg G fl) G.w t) ws ys/\ys.length=ps.length
 | [],k,ys,fl,pre,post,h,h1,h2,hpl=>by
   simp only[FE,oi,pj] at h; obtain⟨rfl,rfl⟩:=h;have:post=[]:=List.eq_nil_of_length_eq_zero (by grind);subst this;exact⟨[],by simp[BY],rfl,rfl⟩
 | (i,x) :: r,k,ys,fl,pre,post,h,h1,h2,hpl=>by
   unfold FE at h;rw[ce] at h;split at h
   ·rename_i hi;have hi:=nb hi;subst hi;split at h
    ·rename_i v Q;split at h
     ·rename_i cs l;split at h
      ·rename_i y f F;split at h
       ·rename_i V g m;simp only[oi,pj] at h; obtain⟨rfl,rfl⟩:=h;obtain⟨P,_⟩:=KL l (D9 z u Q);rw[<- E] at F;have s:=Xg S F P;have d:=RT.len s;rw[List.length_cons,Nat.add_mul] at h2;obtain⟨ws,g1,T,Y⟩:=k0R S E z u (k:=i+1) (pre:=pre++(a.eval x).cells.toList) (post:=post.drop (sz t)) m (by grind) (by grind) (fun j W=>hpl j (by grind));refine⟨(a.eval x).cells.toList++ws,?_,⟨_,ws,rfl,RT.up s (fun k b=>⟨b.1,fun e=>b.2 (by grind)⟩),T.mapR (fun c x h=>RT.up h (fun k b=>⟨b.1,fun e=>b.2 (by grind)⟩))⟩,by grind⟩;simp only[List.map_cons];unfold BY;rw[hpl i (by grind)];have H:(Z3 (a.eval x).cells.toList (sz t)&&Nat.ble (i*sz t+sz t) (pre++post).length)=true:=by
         rw[ba];exact⟨Xq d,Nat.ble_eq_true_of_le (by grind)⟩
        simp only[H,cond_true]
        grind[u0J,List.append_assoc]
       grind
      grind
     grind
    grind
   grind
theorem h0V(r:B6 X.P Γ)(S:Sat X G)(ho:G.o=st.o)(hE:EnvR X.n G st.e a)(hp:PathP p a){d T E ty s0 y0 n:Nat}{z0:Value}{aC:Ty}{f:Array (Nat×Operand)}{b:TI}{xs:List (c7 b.ty)}{fr:Bool}
  (hT:a8 Γ T=some ⟨s0,y0,z0,.sl E,aC⟩) (Q:a8 Γ E=some b) (F:FE st p b.ty 0 f.toList=some (xs,fr)) (hd:a8 G.o d=none) (hs:b.size=sz b.ty) (hn:f.toList.length=n) (aG:n*b.size<=16777216) :
  Mk X G a (.buildSlice T n f) ty (.os d 0) (d,.arr E fr b.ty xs 0):=by
 have m:=r E _ Q;have hU:=(r T _ hT).2.2.2.2.2;have hI:Info X.P E b.size b.bytes b.zero:=⟨m.1⟩;obtain⟨aD,j,k1,k2,k3⟩:=hI.get;have Y:=Q6 m.2.1;have hz:b.zero.cells.size=b.size:=by simpa using Y
 have u:0<b.size:=by have:=m.2.2.1; simpa using this
 let place:List (Nat×Nat):=(List.range n).map fun i=>(i*sz b.ty,sz b.ty)
 have k:∀i,i<n->place[i]?=some (i*sz b.ty,sz b.ty):=fun i hi=>by grind
 let zs:=((Array.range (n*b.size)).map (b.zero.cells[· % b.zero.cells.size]!)).toList
 have W:zs.length=n*sz b.ty:=by simp[zs,hs]
 obtain⟨y,g1,g2,g3⟩:=k0R S ho hE hp (place:=place) (pre:=[]) (post:=zs) F (by simp) (by grind) (fun i hi=>k i (by omega));simp only[List.nil_append] at g1;have hf:=ON place _ zs y g1;have s:=Sc (fun i:Nat=>place[i]?) (fun i:Nat=>some (i*b.size,b.size)) _ _ _ (fun i q hi=>by
  grind) hf
 have aF:=g2.len (fun c x h=>RT.len h);obtain⟨G',h1,h2,h3,h4,h5⟩:=C0n S (E:=E) (d:=d) (us:=y.toArray) hd (by omega) (by have:=Nat.le_mul_of_pos_right n u; omega);have aB:xs.length=n:=by omega
 rw[aB] at h5;refine⟨_,G',fun aH aI V g=>?_,h2,h3,h4,h5⟩;rw[h1];have e1:f.map (fun(i,x)=>(i,a.eval x))=(f.toList.map fun q=>(q.1,a.eval q.2)).toArray:=by
  apply Array.ext';simp only[Array.toList_map]
 have t:¬n*b.size > 2 ^ 24:=by omega
 have l:∀w:World,(newRow E y.toArray).run X.P w=.ok ⟨w.heap.size,0,none⟩ (w.alloc (.cells y.toArray E)):=fun _=>rfl;have aA:aD.size=b.size:=k1;simp only[execOp,e1];simp only[Instr.buildSlice,Sem.run_bind,run_underlying hU,Result.andThen,X3 G.w j,aA,t,if_false];by_cases z:n*b.size=0
 ·have H:n=0:=by rcases Nat.mul_eq_zero.1 z with h' | h'; exact h'; omega
  have v:Array.map (fun x=>(#[]:Array Value)[x % (#[]:Array Value).size]!) (Array.range (n*b.size))=zs.toArray:=by
   have:zs.length=0:=by rw[W,H]; simp
   rw[List.eq_nil_of_length_eq_zero this,z];simp
  simp only[z] at v ⊢;simp only[if_true,Sem.run_bind,Sem.run_pure,Result.andThen,v,s,l]
 ·have v:(Array.range (n*b.size)).map (fun x=>b.zero.cells[x % b.zero.cells.size]!)=zs.toArray:=Array.toArray_toList.symm;simp only[z,if_false,Sem.run_bind,Sem.run_pure,Result.andThen,II G.w j k3,v,s,l]
theorem l0i(S:Sat X G){v:AV}{u:Value}{t:Ty}{i:List (c7 t)}{j:List Nat}{z:Bool}(h:DK G.o v=some ⟨t,i,j,z⟩)(l:AVR G v u) :
  ∃p2 c b2 o2 news,u=.slice p2 i.length c/\(i.length=0∨p2=some ⟨b2,o2,none⟩)/\At G.w b2 o2 news/\AllR (RT (rg G z) G.w t) news i:=by
 have g:∀{k:Bool} {t:Ty} {c:List Value} {x:c7 t},RT (rg G k) G.w t c x->RT (rg G (k||D8 t)) G.w t c x:=fun {k t c x} h=>by
  grind[D8,RT.free,RT.up]
 unfold DK at h;split at h
 ·simp only[oi] at h; cases h;obtain⟨p,d,a,h2,h3,H⟩:=l;simp only[List.cons.injEq,and_true] at a;rcases H with rfl | ⟨b,o,ds,q,hb,e,hall⟩
  ·exact⟨p,d,0,0,[],a,.inl rfl,Sd,rfl⟩
  ·exact⟨p,d,b,o,ds,a,.inr q,e,hall.mapR (fun c x h=>g h)⟩
 ·rename_i id V;split at h
  ·rename_i E Q t' xs m r;rw[ce] at h;split at h
   ·rename_i a;have a:=nb a;simp only[oi] at h; cases h;obtain⟨_,T1,W,t1,F,y,s,g2,P⟩:=l;rw[r] at s;cases s;have l:=P a;obtain⟨cs,f,hA,aA⟩:=S.obs id _ r;cases hg:G.γ id with
    | none =>
      rw[hg] at f;rcases f with ⟨_,hn,_,p,q⟩ | ⟨b,_,_,_,hb,_⟩
      ·have:i=[]:=List.eq_nil_of_length_eq_zero hn;subst this;exact⟨p,0,0,0,[],by grind,.inl rfl,Sd,rfl⟩
      grind
    | some b =>
      rw[hg] at f;obtain⟨Y,T,n,e⟩:=f.at;rcases f with ⟨h,_⟩ | ⟨b',o1,d,cur,hb,hv2,_⟩
      ·cases h
      ·cases hb;rw[hv2] at n; cases n;exact⟨_,T,b,Y,cs,by grind,.inr rfl,e,hA.mapR (fun c x h=>g h)⟩
   grind
  grind
 grind
theorem Xy{K:Nat->Prop}{w:World}{t:Ty}:∀{news:List Value} {ys:List (c7 t)},AllR (RT K w t) news ys->∀u∈news,u.oneCell'=true
 | news,[],h,u,a=>by rw[show news=[] from h] at a; cases a
 | _,y :: r,⟨c,d,e,h1,h2⟩,u,a=>by
   rw[e] at a;rcases List.mem_append.1 a with a | a
   ·grind[RT.one]
   ·exact Xy h2 u a
theorem j0M{xs:Array Operand}{b:Array TypeId}{T ty:TypeId}{u v r:Value}{w':World}(e:xs.toList.map a.eval=[u,v])(h:b.toList=[T,T])(c:(Builtin.append_ #[T,T] ty #[u,v]).run X.P G.w=.ok r w') :
  ∀dst pos after g,(execOp a.eval ⟨dst,.call ⟨.builtin .append,xs,b⟩,ty,pos,after,g⟩).run X.P G.w=.ok (.value r) w':=by
 intro dst pos after g;have f:xs.map a.eval=#[u,v]:=by apply Array.ext'; simpa using e
 have d:b=#[T,T]:=Array.ext' (by omega);subst d;simp only[execOp,resolve,f];simp[invoke,builtin,c,Result.andThen]
theorem o0o(j:B6 X.P Γ)(S:Sat X G){T E ty s0 y0 id ver:Nat}{z0:Value}{aA:Ty}{xs:Array Operand}{Ts:Array TypeId}{d:TI}{fr i:Bool}{t:Ty}{l m:List (c7 t)}{H:List Nat}{u w:Value}{v:AV}
  (hT:a8 Γ T=some ⟨s0,y0,z0,.sl E,aA⟩) (Q:a8 Γ E=some d) (s:a8 G.o id=some (.arr E fr t l ver)) (hs:d.size=sz t) (F:Ts.toList=[T,T])
  (hx:xs.toList.map a.eval=[u,w]) (W:AVR G (.os id ver) u) (hv:DK G.o v=some ⟨t,m,H,i⟩) (hw:AVR G v w) (hq:Sy l.length m.length d.bytes) :
  Mk X G a (.call ⟨.builtin .append,xs,Ts⟩) ty (.os id (ver+1)) (id,.arr E (fr&&i) t (l++m) (ver+1)):=by
 have f:=j E _ Q
 haveI:I6 X.P T E:=⟨(j T _ hT).2.2.2.2.2⟩
 haveI:Info X.P E d.size d.bytes d.zero:=⟨f.1⟩
 have hz:d.zero.cells.size=d.size:=by simpa using Q6 f.2.1
 obtain⟨p2,c,b2,o2,n,rfl,y,aC,hN⟩:=l0i S hv hw;obtain⟨_,T1,aK,t1,aH,aG,g1,g2,g3⟩:=W;rw[s] at g1;cases g1;have W:=g3 rfl;obtain⟨cs,hO,hA,aF⟩:=S.obs id _ s;rw[<- hs] at hO;obtain⟨v',w',g',z,aD,Y,aB⟩:=u0U (P:=X.P) (T:=T) (ty:=ty) (c:=c) (by have:=f.2.2.1; simpa using this) hz hO y (by rw[hN.len (fun c x h=>RT.len h),hs]) aC (Xy hN) hq.1 hq.2;have h:=S.put (id:=id) (ob:=.arr E (fr&&i) t (l++m) (ver+1)) (r:=v') (g:=g') (w':=w') (go:=G.γ id) ⟨(fun T cs h=>by grind),(fun T aI t' aJ aL h=>by grind),by rw[s]; rfl⟩
  (fun b hb=>⟨⟨_,s⟩,hb⟩) Y (fun b hb=>by grind)
  (fun V=>⟨cs++n,by grind[Gh.put],((hN.mapR (fun c x h=>RT.up h (fun k q=>⟨q.1,fun e=>q.2 (by grind)⟩))).app (hA.mapR (fun c x h=>RT.up h (fun k q=>⟨q.1,fun e=>q.2 (by grind)⟩)))).mapR (fun c x z=>RT.same (w:=G.w) V.hR z),fun b e=>by
    simp only[Gh.put,if_true] at e ⊢;rcases aB with h | h
    ·exact aF b (h ▸ e)
    ·rw[h] at e; cases e; exact Nat.le_trans S.le S.size⟩)
 rw[W] at hx;refine⟨v',_,j0M hx F z,h.1,h.2,rfl,?_,E,fr&&i,t,l++m,ver+1,by rw[show(Gh.put G id (.arr E (fr&&i) t (l++m) (ver+1)) _ _ _).o=(id,.arr E (fr&&i) t (l++m) (ver+1)) :: G.o from rfl,lK]; simp,Nat.le_refl _,fun _=>by simp[Gh.put]⟩;obtain⟨p,c,e⟩:=aD.len;rw[e]; rfl
theorem h0X(k:B6 X.P Γ)(S:Sat X G){T E ty s0 y0 d:Nat}{z0:Value}{V:Ty}{xs:Array Operand}{Ts:Array TypeId}{f:TI}{j:Bool}{t:Ty}{m:List (c7 t)}{z:List Nat}{w:Value}{v:AV}
  (hT:a8 Γ T=some ⟨s0,y0,z0,.sl E,V⟩) (F:a8 Γ E=some f) (hd:a8 G.o d=none) (hs:f.size=sz t) (y:Ts.toList=[T,T])
  (hx:xs.toList.map a.eval=[.slice none 0 0,w]) (hv:DK G.o v=some ⟨t,m,z,j⟩) (hw:AVR G v w) (hq:Sy 0 m.length f.bytes) :
  Mk X G a (.call ⟨.builtin .append,xs,Ts⟩) ty (.os d 0) (d,.arr E j t m 0):=by
 have i:=k E _ F
 haveI:I6 X.P T E:=⟨(k T _ hT).2.2.2.2.2⟩
 haveI:Info X.P E f.size f.bytes f.zero:=⟨i.1⟩
 have hz:f.zero.cells.size=f.size:=by simpa using Q6 i.2.1
 obtain⟨p2,c,b2,o2,l,rfl,q,Y,hN⟩:=l0i S hv hw;obtain⟨v',w',g',u,n,Q,W⟩:=u0U (P:=X.P) (T:=T) (ty:=ty) (c:=c) (by have:=i.2.2.1; simpa using this) hz (Own.nil (w:=G.w) (E:=E) (s:=f.size) (p:=none)) q (by rw[hN.len (fun c x h=>RT.len h),hs]) Y (Xy hN) hq.1 hq.2;simp only[Nat.zero_add,List.nil_append] at n;have h:=S.put (id:=d) (ob:=.arr E j t m 0) (r:=v') (g:=g') (w':=w') (go:=none) (SB hd) (fun _ e=>by cases e) Q (fun b hb=>by grind)
  (fun H=>⟨l,by grind[Gh.put],hN.mapR (fun c x u=>RT.same (w:=G.w) H.hR u),fun b e=>by
    simp only[Gh.put,if_true] at e ⊢;rcases W with h | h
    ·rw[h] at e; cases e
    ·rw[h] at e; cases e; exact Nat.le_trans S.le S.size⟩)
 refine⟨v',_,j0M hx y u,h.1,h.2,rfl,?_,E,j,t,m,0,by rw[show(Gh.put G d (.arr E j t m 0) _ _ _).o=(d,.arr E j t m 0) :: G.o from rfl,lK]; simp,Nat.le_refl _,fun _=>by simp[Gh.put]⟩;obtain⟨p,c,e⟩:=n.len;rw[e]; rfl
def Us(X:Cx)(G:Gh)(a:Act)(op:Op)(ty:TypeId)(w:Nat×Ob):Prop :=
 ∃G',(∀dst pos after g,(execOp a.eval ⟨dst,op,ty,pos,after,g⟩).run X.P G.w=.ok .skip G'.w)/\Sat X G'/\GLe G G'/\G'.o=w :: G.o
theorem Xz{T ty:TypeId}{x y:Operand}{b o:Nat}{w':World}(c:a.eval x=.pointer (some ⟨b,o,none⟩))(h:(storeVar T ⟨b,o,none⟩ (a.eval y)).run X.P G.w=.ok () w') :
  ∀dst pos after g,(execOp a.eval ⟨dst,.store T x y,ty,pos,after,g⟩).run X.P G.w=.ok .skip w':=by
 intro dst pos after g;simp only[execOp,c];simp[Instr.storeAt,Instr.sureAddr,h,Result.andThen]
theorem m0S(j:B6 X.P Γ)(S:Sat X G){T T' ty id c:Nat}{x y:Operand}{e:TI}{cs vs:List AV}{v:AV}(hT:a8 Γ T=some e)(u:a8 G.o id=some (.box T' cs))(Q:AVR G (.ptr id c) (a.eval x))(hv:AVR G v (a.eval y))(Y:CV v=some vs)
  (hl:vs.length=e.size) (k:c+vs.length<=cs.length):Us X G a (.store T x y) ty (id,.box T' (GU cs c vs)):=by
 haveI:Info X.P T e.size e.bytes e.zero:=⟨(j T _ hT).1⟩
 obtain⟨_,b,H,n⟩:=Q;obtain⟨t,i,g1,F,s,z⟩:=S.obs id _ u;rw[H] at F;cases F;obtain⟨E,h1⟩:=KL Y hv;have q:=E.len;have l:=z.len;have m:=GQ (P:=X.P) (T:=T) (o:=c) (v:=a.eval y) rfl (by omega) h1 s (by omega);have hW:=KG G.w b (r8 i c (a.eval y).cells.toList).toArray;have hB:=setRow_heap G.w b i.toArray (r8 i c (a.eval y).cells.toList).toArray T' (0,0) s;have h:=S.put (id:=id) (ob:=.box T' (GU cs c vs)) (r:=G.ρ id) (g:=some b) (w':=G.w.setRow b (r8 i c (a.eval y).cells.toList).toArray) (go:=some b) ⟨(fun T cs h=>⟨rfl,_,_,rfl⟩),(fun T V t' W aA h=>by grind),by rw[u]; rfl⟩
  (fun t f=>by grind) (WE.of_wr hW) (fun t f=>.inl f) (fun d=>⟨b,_,by simp[Gh.put],by grind[Gh.put],hB,Xp (z.mono d) (E.mono d) k⟩)
 exact⟨_,Xz n m,h.1,h.2,rfl⟩
theorem x0J{a vs:List Value}{o k:Nat}(h:o+vs.length<=k)(c:k<=a.length):(r8 a o vs).take k=r8 (a.take k) o vs:=by
 unfold r8;have b:(List.take o a).length=o:=by rw[List.length_take]; omega
 rw[List.append_assoc,List.take_append,List.take_append,b,List.append_assoc];congr 1
 ·rw[List.take_of_length_le (by rw[b]; omega),List.take_take]; congr 1; omega
 ·congr 1
  ·rw[List.take_of_length_le (by omega)]
  ·rw[List.drop_take]; congr 1; omega
theorem z0p{a vs:List Value}{o k:Nat}(h:o<=a.length):(r8 a (o+k) vs).drop o=r8 (a.drop o) k vs:=by
 grind[r8,List.append_assoc,List.drop_append,List.drop_take,List.length_take,List.drop_drop,min,Nat.add_assoc]
theorem x0U{cs vs:List Value}{o:Nat}(h:o+vs.length<=cs.length):(r8 cs o vs).length=cs.length:=by
 grind[r8,List.length_append,List.length_take,List.length_drop]
theorem m0R(Y:B6 X.P Γ)(S:Sat X G){T E ty id ver k d:Nat}{x y:Operand}{u:TI}{fr V:Bool}{t:Ty}{l:List (c7 t)}{vs:List AV}{v:AV}{z:c7 t}(hT:a8 Γ T=some u)(ho:a8 G.o id=some (.arr E fr t l ver))(hx:AVR G (.pel id ver k (sz t) d) (a.eval x))
  (hv:AVR G v (a.eval y)) (hc:CV v=some vs) (hl:vs.length=u.size) (aP:d+vs.length<=sz t) (j:k<l.length) (hd:H7 G.o 24 t (GU (A7 fr t (l.getD k (a6 t))) d vs)=some (z,[],V)):Us X G a (.store T x y) ty (id,.arr E (fr&&V) t (l.set k z) ver):=by
 haveI:Info X.P T u.size u.bytes u.zero:=⟨(Y T _ hT).1⟩
 obtain⟨_,T1,aS,t1,aN,aM,g1,g2,g3⟩:=hx;rw[ho] at g1;cases g1;obtain⟨b,o,n0,c0,W,aI⟩:=g3 rfl;obtain⟨cs,hO,hA,aO⟩:=S.obs id _ ho;obtain⟨hV,h1⟩:=KL hc hv;have aJ:=hV.len;rcases hO with ⟨_,hn,_⟩ | ⟨b',o',cap,cur,hb,hv2,k1,k2,k3,k4,k5⟩
 ·omega
 have q:b'=b/\o'=o:=by rw[W] at hv2; simp only[Value.slice.injEq,oi,Addr.mk.injEq] at hv2; exact⟨hv2.1.1.symm,hv2.1.2.1.symm⟩
 obtain⟨q,aD⟩:=q;subst q; subst aD;obtain⟨i,c,f,e,hp,hR⟩:=hA.get (fun c x h=>RT.len h) j;have aA:=RT.len hR;have aG:(k+1)*sz t<=l.length*sz t:=Nat.mul_le_mul_right _ j;rw[Nat.add_mul] at aG;have aK:l.length*sz t<=cap*sz t:=Nat.mul_le_mul_right _ k2;have hB:Blk G.w b' cur.toList E:=by unfold Blk; rw[Array.toArray_toList]; exact k1
 have aL:cur.toList.length=o'+cap*sz t:=by omega
 have aC:=GQ (P:=X.P) (T:=T) (o:=o'+(k*sz t+d)) (v:=a.eval y) rfl (by omega) h1 hB (by omega);have hW:=KG G.w b' (r8 cur.toList (o'+(k*sz t+d)) (a.eval y).cells.toList).toArray;have aH:=setRow_heap G.w b' cur (r8 cur.toList (o'+(k*sz t+d)) (a.eval y).cells.toList).toArray E (0,0) k1;have hD:=Bm hR;have aF:l.getD k (a6 t)=l[k]:=by simp[j]
 rw[aF] at hd;have aB:=hD.len;have H:=Xg S hd (Xp hD hV (by omega));have n:=AllR.set (R:=RT (rg G (fr&&V)) G.w t) (s:=sz t) (fun c x h=>RT.len h) (RT.up H (fun k j=>⟨j.1,fun e=>j.2 (by grind)⟩)) (hA.mapR (fun c x h=>RT.up h (fun k j=>⟨j.1,fun e=>j.2 (by grind)⟩))) j;have m:cs.take (k*sz t)++r8 c d (a.eval y).cells.toList++cs.drop ((k+1)*sz t)=((r8 cur.toList (o'+(k*sz t+d)) (a.eval y).cells.toList).drop o').take (l.length*sz t):=by
  rw[z0p (by omega),x0J (by omega) (by rw[List.length_drop]; omega),k5,e];have e1:(i++c++f).take (k*sz t)=i:=by rw[List.append_assoc,<- hp,List.take_left]
  have e2:(i++c++f).drop ((k+1)*sz t)=f:=by
   have:(k+1)*sz t=(i++c).length:=by rw[List.length_append,hp,aA,Nat.add_mul]; omega
   rw[this,List.drop_left]
  rw[e1,e2];unfold r8;rw[<- hp];have f1:List.take (i.length+d) (i++c++f)=i++c.take d:=by
   rw[List.append_assoc,List.take_length_add_append,List.take_append_of_le_length (by omega)]
  have f2:List.drop (i.length+d+(a.eval y).cells.toList.length) (i++c++f)=c.drop (d+(a.eval y).cells.toList.length)++f:=by
   rw[List.append_assoc,Nat.add_assoc,List.drop_length_add_append,List.drop_append_of_le_length (by omega)]
  rw[f1,f2];simp
 rw[m] at n;have h:=S.put (id:=id) (ob:=.arr E (fr&&V) t (l.set k z) ver) (r:=G.ρ id) (g:=some b') (w':=G.w.setRow b' (r8 cur.toList (o'+(k*sz t+d)) (a.eval y).cells.toList).toArray) (go:=some b') ⟨(fun T cs h=>by grind),(fun T aQ t' aR aT h=>by grind),by rw[ho]; rfl⟩
  (fun b2 F=>by grind) (WE.of_wr hW) (fun b2 F=>.inl F)
  (fun Q=>⟨_,by
    simp only[Gh.put,if_true,List.length_set];exact .inr ⟨b',o',cap,_,rfl,hv2,aH,k2,k3,by grind[List.size_toArray,x0U],by grind⟩,n.mapR (fun c x W=>RT.same (w:=G.w) Q.hR W),fun b e=>by grind[Gh.put]⟩)
 exact⟨_,Xz aI aC,h.1,h.2,rfl⟩
theorem s0X(aA:B6 X.P Γ)(S:Sat X G)(ho:G.o=st.o)(W:EnvR X.n G st.e a)(hp:PathP p a){op:Op}{ty:TypeId}{d:Nat}{q:Prop}{r:AV}{w:Nat×Ob}{l:List Nat}
  (h:Bp Γ st p d op=some (q,r,w,l)) (hq:q):Mk X G a op ty r w:=by
 unfold Bp at h;split at h
 ·split at h
  ·rename_i ti hT;split at h
   ·rename_i cs hz;rw[ce] at h
    grind[oi,pj,p0I,FF]
   grind
  grind
 ·split at h
  ·rename_i v hv;split at h
   ·rename_i cs hc;rw[ce] at h
    grind[oi,pj,w0F,FF]
   grind
  grind
 ·split at h
  ·rename_i f n g n' _ _ _ E _ j F Q;split at h
   ·rename_i H h4;split at h
    ·rename_i Te t aC;rw[ce] at h
     grind[oi,pj,j0X,FF]
    ·split at h
     ·rename_i cs h5;split at h
      ·rename_i z V h6;rw[ce] at h;split at h
       ·rename_i b;rw[ba] at b
        grind[oi,pj,j0k,FF,nb]
       grind
      grind
     grind
   grind
  grind
 ·split at h
  ·rename_i j;split at h
   ·rename_i H F;split at h
    ·rename_i xs V Q;rw[ce] at h;split at h
     ·rename_i b;simp only[ba] at b
      grind[oi,pj,h0V,FF,nb,Nat.le_of_ble_eq_true]
     grind
    grind
   grind
  grind
 ·split at h
  ·rename_i id aB v T T2 j F;split at h
   ·rename_i _ _ _ E _ E' fr t l' Y t' m k V Q h4 h5;split at h
    ·rename_i H m' h6 h7;rw[ce] at h;split at h
     ·rename_i b;simp only[ba] at b;simp only[oi,pj] at h;obtain⟨rfl,rfl,rfl,_⟩:=h;obtain⟨e,rfl⟩:=FB h7;cases e;have e1:=nb b.1.1.1;have e2:=nb b.1.1.2;have e3:=nb b.1.2;have x:=nb b.2;subst e1; subst e2; subst x;obtain⟨u,s,e,y,w,c,e',hw,i⟩:=Ca W hp j;have i:c=[]:=i
      grind[o0o]
     grind
    grind
   grind
  ·rename_i v T T2 j F;split at h
   ·rename_i _ _ _ E _ t m k V Q h5;split at h
    ·rename_i H h6;rw[ce] at h;split at h
     ·rename_i b;simp only[ba] at b;simp only[oi,pj] at h;obtain⟨rfl,rfl,rfl,_⟩:=h;have x:=nb b.2;subst x;obtain⟨u,s,e,y,w,c,e',hw,i⟩:=Ca W hp j;have i:c=[]:=i;have y:u=_:=y
      grind[h0X,FF,nb]
     grind
    grind
   grind
  grind
 grind
theorem s0S(c:B6 X.P Γ)(S:Sat X G)(ho:G.o=st.o)(d:EnvR X.n G st.e a)(f:PathP p a){x:Op}{ty:TypeId}{q:Prop}{w:Nat×Ob}{l:List Nat}
  (h:CX Γ st p x=some (q,w,l)) (T:q):Us X G a x ty w:=by
 unfold CX at h;split at h
 ·split at h
  ·rename_i id m v F i g j;split at h
   ·rename_i Y cs W H r;rw[ce] at h;split at h
    ·rename_i b;rw[ba] at b;simp only[oi,pj] at h;obtain⟨_,rfl,_⟩:=h;exact m0S c S j (by grind) (D9 d f i) (D9 d f g) r (nb b.1) (Nat.le_of_ble_eq_true b.2)
    grind
   grind
  ·rename_i id Q k s m v F i g j;split at h
   ·rename_i E fr t l' u W H r;split at h
    ·rename_i z fl h6;rw[ce] at h;split at h
     ·rename_i b;simp only[ba] at b;simp only[oi,pj] at h;obtain⟨rfl,rfl,_⟩:=h;have V:=nb b.1.1.1;have y:=nb b.1.1.2;subst V; subst y;exact m0R c S j (by grind) (D9 d f i) (D9 d f g) r (nb b.1.2) (Nat.le_of_ble_eq_true b.2) T (by grind)
     grind
    grind
   grind
  grind
 grind
end
inductive o6
 | dat (t:Ty)
 | agg (t:Ty)
 | io (T:TypeId) (t:Ty)
 | fn (f:FuncId) (c:Ty)
 | nof (f:FuncId)
 | nil
 | os (E:TypeId) (t:Ty)
@[reducible] def O0k:o6->Type
  | .dat t=>c7 t
  | .agg t=>c7 t
  | .io _ t=>c7 t
  | .fn _ c=>c7 c
  | .nof _=>Unit
  | .nil=>Unit
  | .os _ t=>List (c7 t)
@[reducible] def A4:List o6->Type
  | []=>Unit
  | p :: r=>O0k p×A4 r
@[reducible] def F0:List o6->Type
  | []=>Unit
  | .io _ t :: _=>c7 t
  | _ :: r=>F0 r
structure Res(ps:List o6) where
 q:Prop
 r:AV
 z:F0 ps
structure Ct where
 f:FuncId
 ps:List o6
 res:A4 ps->Res ps
def ArgsR(K:Nat->Prop)(w:World):Option Nat->(ps:List o6)->A4 ps->List Value->Prop
 | go,[],_,vs=>vs=[]/\go=none
 | go,.dat t :: r,x,vs=>∃v us,vs=v :: us/\RT K w t [v] x.1/\ArgsR K w go r x.2 us
 | go,.agg t :: r,x,vs=>∃cs us,vs=.agg cs.toArray :: us/\RT K w t cs x.1/\ArgsR K w go r x.2 us
 | go,.fn f c :: r,x,vs=>∃cs us,vs=.func (.func f) #[] cs.toArray :: us/\RT K w c cs x.1/\ArgsR K w go r x.2 us
 | go,.nof f :: r,x,vs=>∃us,vs=.func (.func f) #[] #[] :: us/\ArgsR K w go r x.2 us
 | go,.nil :: r,x,vs=>∃us,vs=.pointer none :: us/\ArgsR K w go r x.2 us
 | go,.io T t :: r,x,vs=>∃b cs us,vs=.pointer (some ⟨b,0,none⟩) :: us/\go=some b/\¬K b/\Blk w b cs T/\RT K w t cs x.1/\ArgsR K w none r x.2 us
 | go,.os E t :: r,x,vs=>∃v cs us,vs=v :: us/\(∀b,go=some b->¬K b)/\v.oneCell'=true/\Own w E (sz t) go v x.1.length cs/\AllR (RT K w t) cs x.1/\ArgsR K w none r x.2 us
def H8:List o6->Bool
 | []=>false
 | .os _ _ :: _=>true
 | .dat _ :: r=>H8 r
 | .agg _ :: r=>H8 r
 | .fn _ _ :: r=>H8 r
 | .nof _ :: r=>H8 r
 | .nil :: r=>H8 r
 | .io _ _ :: r=>H8 r
def IOR(K:Nat->Prop)(w:World)(go:Option Nat):(ps:List o6)->F0 ps->Prop
 | [],_=>True
 | .io T t :: _,z=>∃b cs,go=some b/\Blk w b cs T/\RT K w t cs z
 | .dat _ :: r,z=>IOR K w go r z
 | .agg _ :: r,z=>IOR K w go r z
 | .fn _ _ :: r,z=>IOR K w go r z
 | .nof _ :: r,z=>IOR K w go r z
 | .nil :: r,z=>IOR K w go r z
 | .os _ _ :: r,z=>IOR K w go r z
/- The result: data lead Au K; each row that is handed over lies in a block of its own of the list, or has no block. -/
mutual
def ResR(K:Bool->Nat->Prop)(w:World):AV->Value->List (Option Nat)->Prop
 | .v x,u,gs=>u=x/\gs=[]
 | .d fr t x,u,gs=>RT (K fr) w t [u] x/\gs=[]
 | .agg xs,u,gs=>∃us:List Value,u=.agg us.toArray/\ResRs K w xs us gs
 | .tup xs,u,gs=>∃us:List Value,u=.tuple us.toArray/\ResRs K w xs us gs
 | .ob T xs,u,gs=>∃b us gs',gs=some b :: gs'/\u=.pointer (some ⟨b,0,none⟩)/\Blk w b us T/\ResRs K w xs us gs'
 | .ow T fr t xs,u,gs=>∃g cs,gs=[g]/\u.oneCell'=true/\Own w T (sz t) g u xs.length cs/\AllR (RT (K fr) w t) cs xs
 | _,_,_=>False
def ResRs(K:Bool->Nat->Prop)(w:World):List AV->List Value->List (Option Nat)->Prop
 | [],us,gs=>us=[]/\gs=[]
 | a :: r,us,gs=>∃u us' g1 g2,us=u :: us'/\gs=g1++g2/\ResR K w a u g1/\ResRs K w r us' g2
end
def Cb:List (Option Nat)->Prop
 | []=>True
 | g :: r=>(∀b,g=some b->some b ∉ r)/\Cb r
def IT(fr:Bool)(K:Nat->Prop)(w w':World)(gs:List (Option Nat))(k:Nat):Prop:=((fr=false/\K k)∨w.heap.size<=k)/\UFg w' w.heap.size k/\some k ∉ gs
def KW(P:Program)(w:World)(go:Option Nat)(K:Nat->Prop):Prop:=(∀k,K k->k<w.heap.size)/\WK P w fun k=>go=some k
def Ok(P:Program)(c:Ct):Prop:=BX P c.f=true/\∀(x:A4 c.ps),(c.res x).q->∀(w:World) (vs:List Value) (go:Option Nat) (K:Nat->Prop),KW P w go K->ArgsR K w go c.ps x vs ->
 Calls P c.f vs.toArray w fun en w'=>∃v gs,en=.returned v/\WE go w w'/\Cb gs/\(∀b,some b∈gs->w.heap.size<=b∨(H8 c.ps=true/\go=some b))/\ResR (fun fr=>IT fr K w w' gs) w' (c.res x).r v gs /\
  IOR (fun k=>(K k∨w.heap.size<=k)/\UFg w' w.heap.size k/\some k ∉ gs/\go≠some k) w' go c.ps (c.res x).z
def CY(o:List (Nat×Ob)):(p:o6)->AV->Option (O0k p×List Nat×Option Nat)
 | .dat t,a=>match H7 o 24 t [a] with
   | some (x,l,_)=>some (x,l,none)
   | none=>none
 | .agg t,.agg cs=>match H7 o 24 t cs with
   | some (x,l,_)=>some (x,l,none)
   | none=>none
 | .fn f c,.fn f' cs=>bif Nat.beq f f' then(match H7 o 24 c cs with
   | some (x,l,_)=>some (x,l,none)
   | none=>none) else none
 | .nof f,.fn f' []=>bif Nat.beq f f' then some ((),[],none) else none
 | .io T t,.ptr id 0=>match a8 o id with
   | some (.box T' cs)=>bif Nat.beq T T' then(match H7 o 24 t cs with
     | some (x,[],_)=>some (x,[],some id)
     | _=>none) else none
   | _=>none
 | .os E t,.os id ver=>match a8 o id with
   | some (.arr E' _ t' xs ver')=>bif Nat.beq E E'&&Nat.beq ver ver' then(match Z4 (.sl t') (.sl t) xs with
     | some x=>some (x,[],some id)
     | none=>none) else none
   | _=>none
 | .nil,.v (.pointer none)=>some ((),[],none)
 | _,_=>none
def M9(o:List (Nat×Ob)):(ps:List o6)->List AV->Option (A4 ps×List Nat×Option Nat)
 | [],[]=>some ((),[],none)
 | p :: r,a :: as'=>match CY o p a with
   | some (x,l,i)=>match M9 o r as' with
     | some (y,m,j)=>match i,j with
       | none,j=>some ((x,y),l++m,j)
       | some i,none=>some ((x,y),l++m,some i)
       | _,_=>none
     | none=>none
   | none=>none
 | _,_=>none
theorem GV{o:List (Nat×Ob)}:∀(n:Nat) {t:Ty} {cs:List AV} {x:c7 t} {l:List Nat} {fl:Bool},H7 o n t cs=some (x,l,fl)->∀id∈l,∃ob,a8 o id=some ob:=by
 intro n
 induction n with
 | zero=>grind[H7]
 | succ n i =>
   intro t cs x l fl h;have g:∀(t:Ty) (c:AV) (x:c7 t),Bl o (H7 o n) t c=some (x,l,fl)->∀id∈l,∃ob,a8 o id=some ob:=by
    intro t c x h;unfold Bl at h;split at h
    ·grind
    ·grind
    ·grind
    ·grind
    ·cases h
   have e:∀(t:Ty) (x:c7 t) (r:Option (c7 t×List Nat×Bool)),r=some (x,l,fl)->r=(match(generalizing:=false) cs with | [c]=>Bl o (H7 o n) t c | _=>none)->∀id∈l,∃ob,a8 o id=some ob:=by
    intro t x r f d;rw[f] at d;have h:=d.symm;split at h
    ·grind
    ·cases h
   cases t with
   | pr a b =>
     unfold H7 at h
     grind
   | _=>exact e _ _ _ h rfl
def Av(G:Gh)(ids:List Nat)(k:Nat):Prop:=G.K k∨∃id∈ids,G.γ id=some k
theorem KP{X:Cx}{G:Gh}(S:Sat X G){all:List Nat}(v:∀id∈all,∃ob,a8 G.o id=some ob):∀{ps:List o6} {as':List AV} {us:List Value} {x:A4 ps} {l:List Nat} {io:Option Nat},M9 G.o ps as'=some (x,l,io)->(∀id∈l,id∈all)->(∀i,io=some i->i ∉ all)->AVRs G as' us ->
  (∀id∈l,∃ob,a8 G.o id=some ob)/\∃go,ArgsR (Av G all) G.w go ps x us/\((io=none/\go=none)∨(∃id b T cs,io=some id/\go=some b/\a8 G.o id=some (.box T cs)/\G.γ id=some b)∨∃id E fr t xs ver,io=some id/\go=G.γ id/\a8 G.o id=some (.arr E fr t xs ver)/\H8 ps=true)
 | [],[],us,x,l,io,h,hl,hio,hA=>by
   simp only[M9,oi,pj] at h;obtain⟨_,rfl,rfl⟩:=h;exact⟨(fun id h=>by cases h),none,⟨hA,rfl⟩,.inl ⟨rfl,rfl⟩⟩
 | [],_ :: _,us,x,l,io,h,hl,hio,hA=>by grind[M9]
 | _ :: _,[],us,x,l,io,h,hl,hio,hA=>by grind[M9]
 | p :: r,a :: as',us,x,l,io,h,hl,hio,hA=>by
   obtain⟨u,n,rfl,z,aC⟩:=hA;have hK:∀k,G.K k->Av G all k:=fun k hk=>.inl hk;simp only[M9] at h;split at h
   ·rename_i x1 l1 i1 d;split at h
    ·rename_i y m j Y;have hx:x=(x1,y)/\l=l1++m/\((i1=none/\io=j)∨(∃i,i1=some i/\j=none/\io=some i)):=by
      split at h
      ·grind
      ·grind
      ·cases h
     obtain⟨rfl,rfl,q⟩:=hx;have aA:∀id∈l1,id∈all:=fun id P=>hl id (by grind);have hm:∀id∈m,id∈all:=fun id P=>hl id (by grind);have hB:∀id∈l1,∀b,G.γ id=some b->Av G all b:=fun id P b Q=>.inr ⟨id,aA id P,Q⟩;obtain⟨aJ,go,V,g⟩:=KP S v Y hm (fun i hi=>by
      grind) aC
     have f:(∀id∈l1,∃ob,a8 G.o id=some ob)->∀id∈l1++m,∃ob,a8 G.o id=some ob:=fun h id P=>by
      grind
     unfold CY at d;split at d
     ·split at d
      ·rename_i x0 l0 f0 F;simp only[oi,pj] at d;obtain⟨rfl,rfl,rfl⟩:=d;refine⟨f (GV 24 F),go,⟨u,n,rfl,RT.up (DH S hK 24 F hB ⟨u,[],rfl,z,rfl⟩) (fun k h=>h.1),V⟩,?_⟩;rcases q with ⟨_,e⟩ | ⟨i',e,_⟩
       ·rw[e]; exact g
       grind
      grind
     ·split at d
      ·rename_i x0 l0 f0 F;simp only[oi,pj] at d;obtain⟨rfl,rfl,rfl⟩:=d;obtain⟨cs,rfl,s⟩:=z;refine⟨f (GV 24 F),go,⟨cs,n,rfl,RT.up (DH S hK 24 F hB s) (fun k h=>h.1),V⟩,?_⟩;rcases q with ⟨_,e⟩ | ⟨i',e,_⟩
       ·rw[e]; exact g
       grind
      grind
     ·rw[ce] at d;split at d
      ·rename_i hf;split at d
       ·rename_i x0 l0 f0 F;simp only[oi,pj] at d;obtain⟨rfl,rfl,rfl⟩:=d;obtain⟨cs,rfl,s⟩:=z;refine⟨f (GV 24 F),go,⟨cs,n,by simp_all,RT.up (DH S hK 24 F hB s) (fun k h=>h.1),V⟩,?_⟩;rcases q with ⟨_,e⟩ | ⟨i',e,_⟩
        ·rw[e]; exact g
        grind
       grind
      grind
     ·rw[ce] at d;split at d
      ·rename_i hf;simp only[oi,pj] at d;obtain⟨_,rfl,rfl⟩:=d;obtain⟨cs,rfl,s⟩:=z;have s:cs=[]:=s;subst s;refine⟨f (fun id h=>by cases h),go,⟨n,by simp_all,V⟩,?_⟩;rcases q with ⟨_,e⟩ | ⟨i',e,_⟩
       ·rw[e]; exact g
       grind
      grind
     ·rename_i T t id _;split at d
      ·rename_i T' cs H;rw[ce] at d;split at d
       ·rename_i hT;have hT:=nb hT;subst hT;split at d
        ·rename_i x0 f0 F;simp only[oi,pj] at d;obtain⟨rfl,rfl,rfl⟩:=d;rcases q with ⟨e,_⟩ | ⟨i',e,rfl,rfl⟩
         ·cases e
         cases e;obtain⟨_,b,Q,rfl⟩:=z;obtain⟨b',vs,W,g2,g3,g4⟩:=S.obs id _ H;rw[Q] at g2;cases g2;rcases g with ⟨_,rfl⟩ | ⟨_,_,_,_,e,_⟩ | ⟨_,_,_,_,_,_,e,_⟩
         ·refine⟨f (fun id h=>by cases h),some b,⟨b,vs,n,rfl,rfl,?_,g3,RT.up (DH S hK 24 F hB g4) (fun k h=>h.1),V⟩,.inr (.inl ⟨id,b,T,cs,rfl,rfl,H,W⟩)⟩;rintro(h | ⟨i2,Y,h3⟩)
          ·exact S.imm id _ b H W h
          ·obtain⟨aB,h4⟩:=v i2 Y;have:=S.inj i2 id _ _ b h4 H h3 W
           grind
         ·cases e
         grind
        grind
       grind
      grind
     ·rename_i E t id ver _;split at d
      ·rename_i E' fr t' xs aG H;rw[ce] at d;split at d
       ·rename_i Q;rw[ba] at Q;have e1:=nb Q.1;have e2:=nb Q.2;subst e1; subst e2;split at d
        ·rename_i x0 hc;simp only[oi,pj] at d;obtain⟨rfl,rfl,rfl⟩:=d;rcases q with ⟨e,_⟩ | ⟨i',e,rfl,rfl⟩
         ·cases e
         cases e;obtain⟨et,rfl⟩:=FB hc;cases et;obtain⟨aD,T1,aK,t1,aI,aH,W,g2,g3⟩:=z;rw[H] at W;cases W;have z:=g3 rfl;obtain⟨cs,hO,aF,_⟩:=S.obs id _ H;rcases g with ⟨_,rfl⟩ | ⟨_,_,_,_,e,_⟩ | ⟨_,_,_,_,_,_,e,_⟩
         ·refine⟨f (fun id h=>by cases h),G.γ id,⟨u,cs,n,rfl,?_,aD,by grind,aF.mapR (fun c x h=>RT.up h (fun k hk=>.inl hk.1)),V⟩,.inr (.inr ⟨id,_,fr,_,_,_,rfl,rfl,H,rfl⟩)⟩;intro b hg;rintro(h | ⟨i2,Y,h3⟩)
          ·exact S.imm id _ b H hg h
          ·obtain⟨aB,h4⟩:=v i2 Y;have:=S.inj i2 id _ _ b h4 H h3 hg
           grind
         ·cases e
         grind
        grind
       grind
      grind
     ·simp only[oi,pj] at d;obtain⟨_,rfl,rfl⟩:=d;have z:u=.pointer none:=z;subst z;refine⟨f (fun id h=>by cases h),go,⟨n,rfl,V⟩,?_⟩;rcases q with ⟨_,e⟩ | ⟨i',e,_⟩
      ·rw[e]; exact g
      grind
     grind
    grind
   grind
end Go.Proofs.Xv
end
