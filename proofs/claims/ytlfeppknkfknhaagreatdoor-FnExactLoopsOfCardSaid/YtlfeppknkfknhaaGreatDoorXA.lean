/- A logic of symbolic frames: each step of a function's code is taken by one lemma, the frame is a short list of the slots that are known. Over any program. -/
import Derived.WalkKit
import Derived.Deep.LoopGhost
import Derived.IntWalk
import Derived.Deep.Quiet
import Derived.Laws.CopyRow
import Derived.ProofKit
import Derived.ChangeArms
import Derived.Carry
import Derived.Deep.RegionHeld3
import Derived.Laws.MakeOwn
import Derived.Laws.BytesArg
import Derived.Maps.AppendAt
import Derived.Deep.Upon
import Derived.Lib.LaidTab
import Derived.Lib.ItoaNum
import Derived.Laws.StructEq
import Derived.Laws.Pointers
import Derived.Lib.Join
import Derived.Lib.ItoaLen
import Derived.Laws.Slices
set_option maxHeartbeats 0
namespace Go.Proofs
theorem oi {α:Type _} (a b:α):(some a=some b)=(a=b):=Option.some.injEq a b
theorem pj {α β:Type _} (a:α) (b:β) (c:α) (d:β):((a,b)=(c,d))=(a=c∧b=d):=Prod.mk.injEq a b c d
theorem ba (a b:Bool):((a&&b)=true)=(a=true∧b=true):=Bool.and_eq_true a b
theorem nb {n m:Nat} (h:n.beq m=true):n=m:=Nat.eq_of_beq_eq_true h
theorem ce {α:Sort _} (b:Bool) (t e:α):(bif b then t else e)=if b=true then t else e:=cond_eq_ite b t e
theorem gq {α:Type _} {l:List α} {i:Nat} {a:α}:l.getD i a=l[i]?.getD a:=List.getD_eq_getElem?_getD
theorem dq {p:Prop} [Decidable p]:(decide p=true)=p:=decide_eq_true_eq
theorem oo {a b:Prop} (h:a:=by omega) (k:b:=by omega):a∧b:=⟨h,k⟩
end Go.Proofs
section
namespace Go.Proofs.Sv
open Go Go.RowKit
abbrev Env:=List (Nat×Value)
def lk:Env->Nat->Option Value
 | [],_=>none
 | (d,v) :: e,t=>cond (Nat.beq d t) (some v) (lk e t)
def ev(e:Env):Operand->Option Value
 | .tmp t=>lk e t
 | .const v=>some v
 | .global g=>some (.pointer (some ⟨g,0,none⟩))
 | .func f=>some (.func (.func f) #[] #[])
def evl(e:Env):List Operand->Option (List Value)
 | []=>some []
 | x :: r=>match ev e x,evl e r with | some v,some vs=>some (v :: vs) | _,_=>none
def Agree(n:Nat)(e:Env)(a:Act):Prop:=a.defers=[]/\a.tmps.size=n/\∀t v,lk e t=some v->a.tmps.getD t undef=v
theorem lk_cons(d:Nat)(v:Value)(e:Env)(t:Nat):lk ((d,v) :: e) t=if d=t then some v else lk e t:=by
 show cond (Nat.beq d t) (some v) (lk e t)=_
 simp_all
theorem Agree.ev{n:Nat}{e:Env}{a:Act}(h:Agree n e a){x:Operand}{v:Value}(hx:ev e x=some v):a.eval x=v:=by
 cases x with
 | tmp t=>exact h.2.2 t v hx
 | const u=>grind[Sv.ev,Act.eval]
 | global g=>grind[Sv.ev,Act.eval]
 | func f=>grind[Sv.ev,Act.eval]
theorem Agree.evl{n:Nat}{e:Env}{a:Act}(h:Agree n e a):∀{xs:List Operand} {vs:List Value},evl e xs=some vs->xs.map a.eval=vs
 | [],vs,hx=>by grind[Sv.evl]
 | x :: r,vs,hx=>by
   unfold Sv.evl at hx;split at hx
   ·rename_i v ws hv hws;simp at hx; subst hx;simp[h.ev hv,h.evl hws]
   grind
theorem Agree.put{n:Nat}{e:Env}{a:Act}(h:Agree n e a)(d:Nat)(hd:Nat.blt d n=true)(v:Value):Agree n ((d,v) :: e) (a.put (some d) v):=by
 have hd':d<a.tmps.size:=by rw[h.2.1]; simpa using hd
 refine⟨h.1,?_,fun t u ht=>?_⟩
 ·simp[Act.put,h.2.1]
 ·rw[lk_cons] at ht;by_cases hdt:d=t
  ·subst hdt;simp only[if_true,oi] at ht;subst ht;simp[Act.put,hd']
  ·simp only[hdt,if_false] at ht;have:=h.2.2 t u ht;simp only[Act.put]
   simp_all
def Sub(e' e:Env):Prop:=∀t v,lk e' t=some v->lk e t=some v
theorem Agree.sub{n:Nat}{e e':Env}{a:Act}(h:Agree n e a)(hs:Sub e' e):Agree n e' a:=⟨h.1,h.2.1,fun t v ht=>h.2.2 t v (hs t v ht)⟩
def VS(P:Program)(n:Nat)(c:Code)(e:Env)(w:World)(Q:Exit->Act->World->Prop):Prop:=∀a,Agree n e a->c.wp P Q a w
def VO(P:Program)(n:Nat)(ops:Array Oper)(l:List Oper)(e:Env)(w:World)(Q:Exit->Act->World->Prop):Prop:=∀a,Agree n e a->wpList P ops Q l a w
def FinS(n:Nat)(x:Exit)(e:Env)(w:World)(Q:Exit->Act->World->Prop):Prop:=∀a,Agree n e a->Q x a w
def seqQ(P:Program)(y:Code)(Q:Exit->Act->World->Prop):Exit->Act->World->Prop:=Exit.then (y.wp P Q) Q
def blkQ(id:Nat)(Q:Exit->Act->World->Prop):Exit->Act->World->Prop:=Exit.inBlock id Q
section
variable {P:Program} {n:Nat} {e:Env} {w:World} {Q:Exit->Act->World->Prop}
theorem vs_seq{x y:Code}(h:VS P n x e w (seqQ P y Q)):VS P n (.seq x y) e w Q:=fun a ha=>wp_seq (h a ha)
theorem vs_block{id:Nat}{c:Code}(h:VS P n c e w (blkQ id Q)):VS P n (.block id c) e w Q:=fun a ha=>wp_block (h a ha)
theorem vs_skip(h:FinS n .normal e w Q):VS P n .skip e w Q:=fun a ha=>wp_skip (h a ha)
theorem vs_label{l:Nat}(h:FinS n .normal e w Q):VS P n (.label l) e w Q:=fun a ha=>wp_label (h a ha)
theorem vs_ret(h:FinS n .ret e w Q):VS P n .ret e w Q:=fun a ha=>wp_ret (h a ha)
theorem vs_exit{id:Nat}(h:FinS n (.exit id) e w Q):VS P n (.exit id) e w Q:=fun a ha=>wp_exit (h a ha)
theorem vs_cond_true{c:Operand}{x y:Code}(hc:ev e c=some (.bool true))(h:VS P n x e w Q):VS P n (.cond c x y) e w Q :=
 fun a ha=>wp_cond_true (ha.ev hc) (h a ha)
theorem vs_cond_false{c:Operand}{x y:Code}(hc:ev e c=some (.bool false))(h:VS P n y e w Q):VS P n (.cond c x y) e w Q :=
 fun a ha=>wp_cond_false (ha.ev hc) (h a ha)
theorem vs_cond{c:Operand}{x y:Code}{b:Bool}(hc:ev e c=some (.bool b))(ht:b=true->VS P n x e w Q)(hf:b=false->VS P n y e w Q):VS P n (.cond c x y) e w Q :=
 fun a ha=>wp_cond_split (ha.ev hc) (fun h=>ht h a ha) (fun h=>hf h a ha)
theorem vs_region{id:Nat}{l:List Oper}(h:VO P n l.toArray l e w Q):VS P n (.region id l.toArray false) e w Q:=fun a ha=>wp_region_lit (h a ha)
theorem nQ{y:Code}(h:VS P n y e w Q):FinS n .normal e w (seqQ P y Q):=fun a ha=>h a ha
theorem fin_seq_exit{y:Code}{id:Nat}(h:FinS n (.exit id) e w Q):FinS n (.exit id) e w (seqQ P y Q):=fun a ha=>h a ha
theorem fin_seq_ret{y:Code}(h:FinS n .ret e w Q):FinS n .ret e w (seqQ P y Q):=fun a ha=>h a ha
theorem fin_blk{id:Nat}(h:FinS n .normal e w Q):FinS n .normal e w (blkQ id Q):=fun a ha=>h a ha
theorem fin_blk_ret{id:Nat}(h:FinS n .ret e w Q):FinS n .ret e w (blkQ id Q):=fun a ha=>h a ha
theorem fin_blk_exit{id id':Nat}(hid:Nat.beq id' id=true)(h:FinS n .normal e w Q):FinS n (.exit id') e w (blkQ id Q):=by
 intro a ha;have:id'=id:=by simpa using hid
 show(if id'=id then Q .normal a w else Q (.exit id') a w);rw[if_pos this]; exact h a ha
theorem fin_blk_other{id id':Nat}(hid:Nat.beq id' id=false)(h:FinS n (.exit id') e w Q):FinS n (.exit id') e w (blkQ id Q):=by
 intro a ha;have:¬id'=id:=fun h=>by simp_all
 show(if id'=id then Q .normal a w else Q (.exit id') a w);rw[if_neg this]; exact h a ha
def loopQ(n:Nat){σ:Type}(E:σ->Env)(J:σ->World->Prop)(μ:σ->Nat)(s:σ)(Q:Exit->Act->World->Prop):Exit->Act->World->Prop
 | .normal,a,w=>∃s',J s' w/\μ s'<μ s/\Agree n (E s') a
 | x,a,w=>Q x a w
theorem vs_loop{body:Code}{σ:Type}(E:σ->Env)(J:σ->World->Prop)(μ:σ->Nat)(s0:σ)(h0:J s0 w)(hs0:Sub (E s0) e)
  (round:∀s w,J s w->VS P n body (E s) w (loopQ n E J μ s Q)):VS P n (.loop body) e w Q:=by
 intro a ha;refine wp_loop_ghost (fun m a w=>∃s,μ s=m/\J s w/\Agree n (E s) a) (μ s0) ⟨s0,rfl,h0,ha.sub hs0⟩ ?_;rintro m a w ⟨s,rfl,hJ,hA⟩;refine wp_mono (round s w hJ a hA) ?_;intro x a' w' hq;cases x with
 | normal =>
   obtain⟨s',h1,h2,h3⟩:=hq;exact⟨μ s',h2,s',rfl,h1,h3⟩
 | _=>exact hq
theorem fin_loop{σ:Type}{E:σ->Env}{J:σ->World->Prop}{μ:σ->Nat}{s:σ}(s':σ)(hJ:J s' w)(hμ:μ s'<μ s)(hs:Sub (E s') e):FinS n .normal e w (loopQ n E J μ s Q) :=
 fun _ ha=>⟨s',hJ,hμ,ha.sub hs⟩
theorem fin_loop_exit{σ:Type}{E:σ->Env}{J:σ->World->Prop}{μ:σ->Nat}{s:σ}{id:Nat}(h:FinS n (.exit id) e w Q):FinS n (.exit id) e w (loopQ n E J μ s Q):=fun a ha=>h a ha
theorem fin_loop_ret{σ:Type}{E:σ->Env}{J:σ->World->Prop}{μ:σ->Nat}{s:σ}(h:FinS n .ret e w Q):FinS n .ret e w (loopQ n E J μ s Q):=fun a ha=>h a ha
theorem sub_nil:Sub [] e:=fun _ _ h=>by cases h
theorem sub_cons{d:Nat}{v:Value}{e':Env}(h:lk e d=some v)(hr:Sub e' e):Sub ((d,v) :: e') e:=by
 intro t u ht;rw[lk_cons] at ht;by_cases hdt:d=t
 ·grind
 ·rw[if_neg hdt] at ht; exact hr t u ht
def argEnv:Nat->List Value->Env
 | _,[]=>[]
 | k,v :: r=>(k,v) :: argEnv (k+1) r
theorem lk_argEnv(t:Nat)(v:Value):∀(k:Nat) (vs:List Value),lk (argEnv k vs) t=some v->k<=t/\vs[t-k]?=some v
 | k,[],h=>by cases h
 | k,u :: r,h=>by
   rw[argEnv,lk_cons] at h;by_cases hk:k=t
   ·grind
   ·rw[if_neg hk] at h;have ⟨h1,h2⟩:=lk_argEnv t v (k+1) r h
    grind
theorem calls_vs{f:FuncId}{fn:Func}{c:Code}{vs:List Value}{R:Ending->World->Prop}
  (hf:P.funcs[f]?=some fn) (hn:fn.ntmps=n) (hb:fn.body=some c) (hsz:Nat.ble vs.length n=true)
  (h:VS P n c (argEnv 0 vs) w (bodyPost P fn R)):Calls P f vs.toArray w R:=by
 have hle:vs.length<=n:=Nat.le_of_ble_eq_true hsz;refine calls_of_wp hf hb (h _ ⟨rfl,?_,?_⟩)
 ·grind
 ·intro t v ht;have ⟨_,h2⟩:=lk_argEnv t v 0 vs ht;have hlt:t<vs.length:=by rcases Nat.lt_or_ge t vs.length with h' | h'; exact h'; rw[List.getElem?_eq_none (by omega)] at h2; cases h2
  rw[Array.getD_eq_getD_getElem?,Array.getElem?_append_left (by omega)]
  grind
theorem fin_end1{fn:Func}{R:Ending->World->Prop}{t:Nat}{v:Value}(hr:fn.results=#[.tmp t])(hl:lk e t=some v)(h:R (.returned v) w):FinS n .normal e w (bodyPost P fn R) :=
 fun a ha=>⟨ha.1,v,by rw[results_tmp hr]; rw[ha.2.2 t v hl],h⟩
theorem fin_ret1{fn:Func}{R:Ending->World->Prop}{t:Nat}{v:Value}(hr:fn.results=#[.tmp t])(hl:lk e t=some v)(h:R (.returned v) w):FinS n .ret e w (bodyPost P fn R) :=
 fun a ha=>⟨ha.1,v,by rw[results_tmp hr]; rw[ha.2.2 t v hl],h⟩
theorem fin_ret2{fn:Func}{R:Ending->World->Prop}{t t':Nat}{v v':Value}(hr:fn.results=#[.tmp t,.tmp t'])(hl:lk e t=some v)(hl':lk e t'=some v')(h:R (.returned (.tuple #[v,v'])) w):FinS n .ret e w (bodyPost P fn R) :=
 fun a ha=>⟨ha.1,_,by rw[results_tmp2 hr]; rw[ha.2.2 t v hl,ha.2.2 t' v' hl'],h⟩
end
def RunsOp(P:Program)(n:Nat)(e:Env)(op:Op)(ty:TypeId)(w:World)(v:Value)(w':World):Prop :=
 ∀a dst pos after g,Agree n e a->(execOp a.eval ⟨dst,op,ty,pos,after,g⟩).run P w=.ok (.value v) w'
def RunsU(P:Program)(n:Nat)(e:Env)(op:Op)(ty:TypeId)(w:World)(w':World):Prop :=
 ∀a dst pos after g,Agree n e a->(execOp a.eval ⟨dst,op,ty,pos,after,g⟩).run P w=.ok .skip w'
section
variable {P:Program} {n:Nat} {e:Env} {w:World} {Q:Exit->Act->World->Prop} {ops:Array Oper} {rest:List Oper}
theorem oN(h:FinS n .normal e w Q):VO P n ops [] e w Q:=fun a ha=>wpList_nil (h a ha)
theorem vo_val{d:Nat}{op:Op}{ty:TypeId}{pos:String}{after:Array Edge}{w':World}(v:Value)(hr:RunsOp P n e op ty w v w')(hd:Nat.blt d n=true)
  (h:VO P n ops rest ((d,v) :: e) w' Q):VO P n ops (⟨some d,op,ty,pos,after,none⟩ :: rest) e w Q:=by
 intro a ha;refine wpList_plain rfl fun K hK=>?_;unfold Oper.wp;rw[hr a (some d) pos after none ha];exact hK _ _ (h _ (ha.put d hd v))
theorem vo_unit{op:Op}{ty:TypeId}{pos:String}{after:Array Edge}{w':World}(hr:RunsU P n e op ty w w')
  (h:VO P n ops rest e w' Q):VO P n ops (⟨none,op,ty,pos,after,none⟩ :: rest) e w Q:=by
 intro a ha;refine wpList_plain rfl fun K hK=>?_;unfold Oper.wp;rw[hr a none pos after none ha];exact hK _ _ (h _ ha)
def dstOf:List Oper->Nat->Option Nat
 | [],_=>none
 | o :: _,0=>o.dst
 | _ :: r,j+1=>dstOf r j
def gslot(ops:Array Oper)(j:Nat):Option Nat:=dstOf ops.toList j
theorem dstOf_eq:∀(l:List Oper) (j:Nat),dstOf l j=(l[j]?).bind (·.dst)
 | [],_=>by simp[dstOf]
 | _ :: _,0=>by simp[dstOf]
 | _ :: r,j+1=>by simp[dstOf,dstOf_eq r j]
theorem gslot_eq(ops:Array Oper)(j:Nat):gslot ops j=(ops[j]?).bind (·.dst):=by grind[gslot,dstOf_eq]
theorem yielded_of{a:Act}(ha:Agree n e a){j d:Nat}{b:Bool}(hj:gslot ops j=some d)(hb:lk e d=some (.bool b)):yielded ops a.tmps j=some b:=by
 have h:=ha.2.2 d _ hb;unfold yielded;have e1:((ops[j]?).bind (·.dst))=some d:=by rw[<- gslot_eq]; exact hj
 rw[e1];have hd:d<a.tmps.size:=by
  rcases Nat.lt_or_ge d a.tmps.size with h' | h'
  ·exact h'
  ·rw[Array.getD_eq_getD_getElem?,Array.getElem?_eq_none h'] at h; cases h
 simp_all
theorem vo_guard_take{dst:Option Nat}{op:Op}{ty:TypeId}{pos:String}{after:Array Edge}{j d:Nat}{b:Bool}(hj:gslot ops j=some d)(hb:lk e d=some (.bool b))
  (h:VO P n ops (⟨dst,op,ty,pos,after,none⟩ :: rest) e w Q):VO P n ops (⟨dst,op,ty,pos,after,some (j,b)⟩ :: rest) e w Q:=by
 intro a ha;have h':=h a ha;unfold wpList at h' ⊢;simpa only[Region.wanted,yielded_of ha hj hb,BEq.rfl,if_true,Oper.wp,Oper.asks,execOp,Oper.upon] using h'
theorem vo_guard_skip{d':Nat}{op:Op}{ty:TypeId}{pos:String}{after:Array Edge}{j d:Nat}{b b':Bool}(hj:gslot ops j=some d)(hb:lk e d=some (.bool b))(hne:(b==b')=false)(hd:Nat.blt d' n=true)
  (h:VO P n ops rest ((d',undef) :: e) w Q):VO P n ops (⟨some d',op,ty,pos,after,some (j,b')⟩ :: rest) e w Q:=by
 intro a ha;refine wpList_skip ?_ (h _ (ha.put d' hd undef));simp only[Region.wanted,yielded_of ha hj hb]
 grind
theorem vo_guard_undef{d':Nat}{op:Op}{ty:TypeId}{pos:String}{after:Array Edge}{j d:Nat}{b':Bool}(hj:gslot ops j=some d)(hb:lk e d=some undef)(hd:Nat.blt d' n=true)
  (h:VO P n ops rest ((d',undef) :: e) w Q):VO P n ops (⟨some d',op,ty,pos,after,some (j,b')⟩ :: rest) e w Q:=by
 intro a ha;refine wpList_skip ?_ (h _ (ha.put d' hd undef));have h:=ha.2.2 d _ hb;have e1:((ops[j]?).bind (·.dst))=some d:=by rw[<- gslot_eq]; exact hj
 have:yielded ops a.tmps j=none:=by
  unfold yielded;rw[e1];simp only[Option.bind_some];rw[Array.getD_eq_getD_getElem?] at h;cases h2:a.tmps[d]? with
  | none=>rfl
  | some x=>rw[h2] at h; simp at h; subst h; rfl
 grind[Region.wanted]
def cmpI:BinOp->Int->Int->Option Bool
 | .eql,a,b=>some (a==b)
 | .neq,a,b=>some (a != b)
 | .lss,a,b=>some (decide (a<b))
 | .leq,a,b=>some (decide (a<=b))
 | .gtr,a,b=>some (decide (a > b))
 | .geq,a,b=>some (decide (a≥b))
 | _,_,_=>none
def cmpS:BinOp->ByteArray->ByteArray->Option Bool
 | .eql,a,b=>some (decide (a=b))
 | .neq,a,b=>some (!decide (a=b))
 | _,_,_=>none
def binV:BinOp->Value->Value->Option Value
 | op,.int k a,.int k' b=>if k=k' then(match cmpI op a b with | some r=>some (.bool r) | none=>none) else none
 | op,.string a,.string b=>match cmpS op a b with | some r=>some (.bool r) | none=>none
 | _,_,_=>none
def pureV(e:Env):Op->Option Value
 | .move x=>ev e x
 | .assign x=>ev e x
 | .pick c a b=>match ev e c with
   | some (.bool true)=>ev e a
   | some (.bool false)=>ev e b
   | _=>none
 | .unOp .not _ x=>match ev e x with
   | some (.bool b)=>some (.bool (!b))
   | _=>none
 | .extract x i=>match ev e x with
   | some (.tuple vs)=>vs.toList[i]?
   | _=>none
 | .binOp op _ x y _=>match ev e x,ev e y with
   | some u,some v=>binV op u v
   | _,_=>none
 | .makeFunc fn first cap=>match evl e first.toList,evl e cap.toList with
   | some fs,some cs=>some (.func fn fs.toArray cs.toArray)
   | _,_=>none
 | _=>none
theorem eq_bytes(a b:ByteArray):(a.toList==b.toList)=decide (a=b):=by
 rw[Bool.eq_iff_iff,beq_iff_eq,dq,ByteArray.toList_eq,ByteArray.toList_eq];constructor
 ·intro h; cases a; simp_all
 grind
theorem runs_pure{op:Op}{ty:TypeId}{v:Value}(h:pureV e op=some v):RunsOp P n e op ty w v w:=by
 intro a dst pos after g ha;unfold pureV at h;split at h
 ·simp only[execOp,ha.ev h]; rfl
 ·simp only[execOp,ha.ev h]; rfl
 ·rename_i c x y;split at h
  ·rename_i hc; simp only[execOp,ha.ev hc,<- ha.ev h]; rfl
  ·rename_i hc; simp only[execOp,ha.ev hc,<- ha.ev h]; rfl
  grind
 ·split at h
  ·rename_i hc; simp only[oi] at h; subst h; simp only[execOp,ha.ev hc]; rfl
  grind
 ·split at h
  ·rename_i vs hc; rw[Array.getElem?_toList] at h; simp only[execOp,ha.ev hc,Instr.extract,h]; rfl
  grind
 ·rename_i op T x y T';split at h
  ·rename_i u v' hu hv;unfold binV at h;split at h
   ·rename_i k p k' q;split at h
    ·rename_i hk; subst hk;split at h
     ·rename_i r hr;simp only[oi] at h; subst h;unfold cmpI at hr;split at hr <;> simp only[oi,reduceCtorEq] at hr <;> subst hr <;> simp[execOp,ha.ev hu,ha.ev hv,eqGuard,binOp,Op.intCmp]
     grind
    grind
   ·rename_i p q;split at h
    ·rename_i r hr;simp only[oi] at h; subst h;unfold cmpS at hr;split at hr <;> simp only[oi,reduceCtorEq] at hr <;> subst hr <;> simp[execOp,ha.ev hu,ha.ev hv,eqGuard,binOp,Op.stringOp,eq_bytes]
    grind
   grind
  grind
 ·split at h
  ·rename_i fs cs hfs hcs;simp only[oi] at h; subst h;have h1:=ha.evl hfs;have h2:=ha.evl hcs;have e1:∀(x:Array Operand),x.map a.eval=(x.toList.map a.eval).toArray:=fun x=>by grind
   simp only[execOp,Instr.makeFunc,e1,h1,h2];rfl
  grind
 grind
theorem vo_pure{d:Nat}{op:Op}{ty:TypeId}{pos:String}{after:Array Edge}{v:Value}(h:pureV e op=some v)(hd:Nat.blt d n=true)
 (k:VO P n ops rest ((d,v) :: e) w Q):VO P n ops (⟨some d,op,ty,pos,after,none⟩ :: rest) e w Q:=vo_val v (runs_pure h) hd k
end
def notAggB(P:Program)(T:TypeId):Bool:=match P.underlying T with
 | some (.struct _) | some (.array ..) | none=>false
 | _=>true
class NotAgg(P:Program)(T:TypeId):Prop where h:notAggB P T=true
class SliceOf(P:Program)(T:TypeId)(E:outParam TypeId):Prop where h:P.underlying T=some (.slice E)
class StringT(P:Program)(T:TypeId):Prop where h:P.underlying T=some .string
def infoB(P:Program)(T:TypeId):Option (Nat×Nat×Option Value):=(P.info? T).map fun i=>(i.size,i.bytes,i.zero)
class Info(P:Program)(T:TypeId)(size bytes:outParam Nat)(z:outParam Value):Prop where h:infoB P T=some (size,bytes,some z)
def aggB(P:Program)(T:TypeId):Bool:=match P.underlying T with
 | some (.struct _) | some (.array ..)=>true
 | _=>false
class AggT(P:Program)(T:TypeId):Prop where h:aggB P T=true
def fieldB(P:Program)(T:TypeId)(k:Nat):Option (Nat×Bool):=match P.underlying T with
 | some (.struct fs)=>match fs[k]? with
   | some f=>some (f.offset,match P.info? f.type with | some i=>!(i.size==0) | none=>false)
   | none=>none
 | _=>none
class FieldAt(P:Program)(T:TypeId)(k:Nat)(off:outParam Nat):Prop where h:fieldB P T k=some (off,true)
def enterB(P:Program)(f:Nat):Bool:=match P.funcs[f]? with
 | some fn => !(fn.name == "runtime.NumGoroutine") && fn.body.isSome
 | none=>false
class HasBody(P:Program)(f:Nat):Prop where h:enterB P f=true
theorem run_typeInfo{P:Program}{T:TypeId}{i:TypeInfo}(w:World)(h:P.info? T=some i):(typeInfo T).run P w=.ok i w:=by
 have hp:(program).run P w=.ok P w:=rfl;unfold typeInfo
 simp_all
theorem run_sizeOf'{P:Program}{T:TypeId}{i:TypeInfo}(w:World)(h:P.info? T=some i):(sizeOf T).run P w=.ok i.size w:=by
 unfold sizeOf; rw[Sem.run_bind,run_typeInfo w h]; rfl
theorem run_zeroValue'{P:Program}{T:TypeId}{i:TypeInfo}{z:Value}(w:World)(h:P.info? T=some i)(hz:i.zero=some z):(zeroValue T).run P w=.ok z w:=by
 unfold zeroValue; rw[Sem.run_bind,run_typeInfo w h]; simp_all
theorem Info.get{P:Program}{T s y:Nat}{z:Value}(h:Info P T s y z):∃i,P.info? T=some i/\i.size=s/\i.bytes=y/\i.zero=some z:=by
 have hi:=h.h;unfold infoB at hi
 simp_all
def Blk(w:World)(b:Nat)(cs:List Value)(T:TypeId):Prop:=w.heap[b]?=some (.cells cs.toArray T (0,0))
def At(w:World)(b o:Nat)(cs:List Value):Prop:=∀i u,cs[i]?=some u->w.cell? ⟨b,o+i,none⟩=some u
abbrev Ext(w w':World):Prop:=Below w.heap.size w w'
theorem Ext.refl(w:World):Ext w w:=Below.refl _ _
theorem Ext.trans{a b c:World}(h:Ext a b)(k:Ext b c):Ext a c:=Below.trans h (Below.mono k h.size)
theorem Blk.lt{w:World}{b:Nat}{cs:List Value}{T:TypeId}(h:Blk w b cs T):b<w.heap.size:=by
 grind[Nat.lt_or_ge,Blk,Array.getElem?_eq_none]
theorem Blk.ext{w w':World}{b:Nat}{cs:List Value}{T:TypeId}(h:Blk w b cs T)(k:Ext w w'):Blk w' b cs T:=by
 unfold Blk; rw[k.block b h.lt]; exact h
theorem Blk.up{w w':World}{b:Nat}{cs:List Value}{T:TypeId}(h:Blk w b cs T)(k:Ext w w'):Blk w' b cs T:=h.ext k
theorem Blk.at{w:World}{b:Nat}{cs:List Value}{T:TypeId}(h:Blk w b cs T):At w b 0 cs:=by
 intro i u hu;unfold World.cell?;rw[show(⟨b,0+i,none⟩:Addr).block=b from rfl,h]
 grind
theorem At.lt{w:World}{b o:Nat}{cs:List Value}(h:At w b o cs)(hc:0<cs.length):b<w.heap.size:=by
 have h0:=h 0 cs[0] (by grind);rcases Nat.lt_or_ge b w.heap.size with h' | h'
 ·exact h'
 ·unfold World.cell? at h0; grind
theorem At.same{w w':World}{b o:Nat}{cs:List Value}(h:At w b o cs)(k:b<w.heap.size->w'.heap[b]?=w.heap[b]?):At w' b o cs:=by
 intro i u hu;have hl:0<cs.length:=by rcases Nat.lt_or_ge i cs.length with h' | h'; omega; rw[List.getElem?_eq_none h'] at hu; cases hu
 have:=h i u hu;rw[<- this];exact World.cell?_of_block (w:=w) (k (h.lt hl))
theorem At.ext{w w':World}{b o:Nat}{cs:List Value}(h:At w b o cs)(k:Ext w w'):At w' b o cs:=h.same (fun hb=>k.block b hb)
theorem At.up{w w':World}{b o:Nat}{cs:List Value}(h:At w b o cs)(k:Ext w w'):At w' b o cs:=h.ext k
theorem At.mid{w:World}{b o:Nat}{pre c post:List Value}(h:At w b o (pre++c++post)):At w b (o+pre.length) c:=by
 intro i u hu;have hl:i<c.length:=by rcases Nat.lt_or_ge i c.length with h' | h'; exact h'; rw[List.getElem?_eq_none h'] at hu; cases hu
 have:=h (pre.length+i) u (by grind)
 grind
structure NewB(w:World)(b:Nat)(w':World):Prop where
 eq:w.heap.size=b
 ext:Ext w w'
 size:w'.heap.size=b+1
structure Wr(b:Nat)(w w':World):Prop where
 os:w'.os=w.os
 tape:w'.tape=w.tape
 output:w'.output=w.output
 size:w'.heap.size=w.heap.size
 block:∀k,k≠b->w'.heap[k]?=w.heap[k]?
theorem Wr.below{b B:Nat}{w w':World}(h:Wr b w w')(hb:B<=b):Below B w w':=⟨h.os,h.tape,h.output,by rw[h.size]; exact Nat.le_refl _,fun k hk=>h.block k (by omega)⟩
theorem Blk.wr{w w':World}{b b':Nat}{cs:List Value}{T:TypeId}(h:Blk w b cs T)(k:Wr b' w w')(hb:b≠b'):Blk w' b cs T:=by
 unfold Blk; rw[k.block b hb]; exact h
theorem At.wr{w w':World}{b o b':Nat}{cs:List Value}(h:At w b o cs)(k:Wr b' w w')(hb:b≠b'):At w' b o cs:=h.same (fun _=>k.block b hb)
theorem newB_alloc(w:World)(o:Obj):NewB w w.heap.size (w.alloc o):=⟨rfl,(Below.refl _ _).alloc (Nat.le_refl _) _,by simp⟩
theorem blk_alloc(w:World)(cs:Array Value)(T:TypeId):Blk (w.alloc (.cells cs T)) w.heap.size cs.toList T:=by
 unfold Blk World.alloc; simp
section
variable {P:Program} {n:Nat} {e:Env} {w:World} {Q:Exit->Act->World->Prop} {ops:Array Oper} {rest:List Oper}
 {d:Nat} {ty:TypeId} {pos:String} {after:Array Edge}
theorem vo_box{T:TypeId}{x:Operand}{v:Value}{cs:List Value}(hx:ev e x=some v)(hv:v.cells.toList=cs)(hd:Nat.blt d n=true)
  (k:∀b w',NewB w b w'->Blk w' b cs T->VO P n ops rest ((d,.pointer (some ⟨b,0,none⟩)) :: e) w' Q) :
  VO P n ops (⟨some d,.box T x,ty,pos,after,none⟩ :: rest) e w Q:=by
 subst hv;refine vo_val (.pointer (some ⟨w.heap.size,0,none⟩)) (w':=w.alloc (.cells v.cells T)) ?_ hd (k _ _ (newB_alloc _ _) (blk_alloc _ _ _));intro a dst pos after g ha;simp only[execOp,ha.ev hx]; rfl
theorem vo_alloc{T:TypeId}{s y:Nat}{z:Value}{cs:List Value}[i:Info P T s y z](hv:z.cells.toList=cs)(hd:Nat.blt d n=true)
  (k:∀b w',NewB w b w'->Blk w' b cs T->VO P n ops rest ((d,.pointer (some ⟨b,0,none⟩)) :: e) w' Q) :
  VO P n ops (⟨some d,.alloc T,ty,pos,after,none⟩ :: rest) e w Q:=by
 subst hv;obtain⟨inf,hinfo,h1,h2,h3⟩:=i.get;refine vo_val (.pointer (some ⟨w.heap.size,0,none⟩)) (w':=w.alloc (.cells z.cells T)) ?_ hd (k _ _ (newB_alloc _ _) (blk_alloc _ _ _));intro a dst pos after g ha;have hz:=run_zeroValue' w hinfo h3;simp only[execOp,Instr.alloc,Sem.run_bind,hz,Result.andThen];rfl
theorem runs_fieldAddr{T:TypeId}{x:Operand}{b o f off:Nat}[hf:FieldAt P T f off](hx:ev e x=some (.pointer (some ⟨b,o,none⟩))) :
  RunsOp P n e (.fieldAddr T x f) ty w (.pointer (some ⟨b,o+off,none⟩)) w:=by
 intro a dst pos after g ha;have h:=hf.h;unfold fieldB at h;split at h
 ·rename_i fs hfs;split at h
  ·rename_i fl hfl;simp only[oi,pj] at h;obtain⟨h1,h2⟩:=h;split at h2
   ·rename_i i hi;have hs:¬i.size=0:=by simpa using h2
    have ha0:(Addr.mk b o none).add fl.offset=⟨b,o+off,none⟩:=by
     unfold Addr.add;rw[h1];split
     ·grind
     ·rfl
    simp only[execOp,ha.ev hx];simp[Instr.fieldAt,run_underlying hfs,hfl,Instr.sureAddr,fieldPlace,run_sizeOf' w hi,hs,Result.andThen,ha0]
   grind
  grind
 grind
theorem loadVar_one{T:TypeId}{ad:Addr}{v:Value}[hT:NotAgg P T](h:w.cell? ad=some v):(loadVar T ad).run P w=.ok v w:=by
 have hn:=hT.h;unfold notAggB at hn;split at hn
 ·cases hn
 ·cases hn
 ·cases hn
 ·rename_i h1 h2 h3;cases hu:P.underlying T with
  | none=>grind
  | some dsc =>
    have:(isAgg T).run P w=.ok false w:=by
     unfold isAgg;simp only[Sem.run_bind,run_underlying hu,Result.andThen];cases dsc with
     | struct fs=>grind
     | array a b=>grind
     | _=>rfl
    simp[loadVar,this,h,load,Sem.run,Result.andThen]
theorem runs_load{T:TypeId}{x:Operand}{ad:Addr}{v:Value}[NotAgg P T](hx:ev e x=some (.pointer (some ad)))(h:w.cell? ad=some v):RunsOp P n e (.load T x) ty w v w:=by
 intro a dst pos after g ha;simp only[execOp,ha.ev hx];simp[Instr.loadAt,Instr.sureAddr,loadVar_one h,Result.andThen]
theorem loadVar_agg{T:TypeId}{b o s y:Nat}{z:Value}{cs:List Value}[hT:AggT P T][i:Info P T s y z](hl:cs.length=s)(h:At w b o cs):(loadVar T ⟨b,o,none⟩).run P w=.ok (.agg cs.toArray) w:=by
 have hn:=hT.h;unfold aggB at hn;obtain⟨inf,hinfo,h1,h2,h3⟩:=i.get;have hg:(isAgg T).run P w=.ok true w:=by
  split at hn
  ·rename_i fs hfs; unfold isAgg; simp[run_underlying hfs,Result.andThen]
  ·rename_i a b hfs; unfold isAgg; simp[run_underlying hfs,Result.andThen]
  ·cases hn
 have hc:=run_loadCells_list (P:=P) w ⟨b,o,none⟩ cs (fun j v hv=>by
  have:=h j v hv
  grind[Addr.add])
 rw[hl,<- h1] at hc;simp[loadVar,hg,run_sizeOf' w hinfo,Result.andThen,hc]
theorem runs_loadA{T:TypeId}{x:Operand}{b o s y:Nat}{z:Value}{cs:List Value}[AggT P T][Info P T s y z](hx:ev e x=some (.pointer (some ⟨b,o,none⟩)))(hl:cs.length=s)(h:At w b o cs):RunsOp P n e (.load T x) ty w (.agg cs.toArray) w:=by
 intro a dst pos after g ha;simp only[execOp,ha.ev hx];simp[Instr.loadAt,Instr.sureAddr,loadVar_agg hl h,Result.andThen]
theorem runs_add{T T':TypeId}{x y:Operand}{a b:Int}(hx:ev e x=some (.int .i64 a))(hy:ev e y=some (.int .i64 b))(hr : -9223372036854775808<=a+b/\a+b<=9223372036854775807) :
  RunsOp P n e (.binOp .add T x y T') ty w (.int .i64 (a+b)) w:=by
 intro ac dst pos after g ha;simp only[execOp,ha.ev hx,ha.ev hy];simp[eqGuard,binOp,Op.intArith,IntWalk.i64_in _ hr]
theorem runs_sub{T T':TypeId}{x y:Operand}{a b:Int}(hx:ev e x=some (.int .i64 a))(hy:ev e y=some (.int .i64 b))(hr : -9223372036854775808<=a-b/\a-b<=9223372036854775807) :
  RunsOp P n e (.binOp .sub T x y T') ty w (.int .i64 (a-b)) w:=by
 intro ac dst pos after g ha;simp only[execOp,ha.ev hx,ha.ev hy];simp[eqGuard,binOp,Op.intArith,IntWalk.i64_in _ hr]
theorem runs_mul{T T':TypeId}{x y:Operand}{a b:Int}(hx:ev e x=some (.int .i64 a))(hy:ev e y=some (.int .i64 b))(hr : -9223372036854775808<=a*b/\a*b<=9223372036854775807) :
  RunsOp P n e (.binOp .mul T x y T') ty w (.int .i64 (a*b)) w:=by
 intro ac dst pos after g ha;simp only[execOp,ha.ev hx,ha.ev hy];simp[eqGuard,binOp,Op.intArith,IntWalk.i64_in _ hr]
theorem runs_cat{T T':TypeId}{x y:Operand}{s t:ByteArray}(hx:ev e x=some (.string s))(hy:ev e y=some (.string t))(hr:s.size+t.size<=9223372036854775807) :
  RunsOp P n e (.binOp .add T x y T') ty w (.string (s++t)) w:=by
 intro ac dst pos after g ha;have hm':¬(9223372036854775807:Int) < (s.size:Int)+(t.size:Int):=by omega
 simp only[execOp,ha.ev hx,ha.ev hy];simp[eqGuard,binOp,Op.stringOp,hm']
theorem runs_lenS{T:TypeId}{x:Operand}{s:ByteArray}[h:StringT P T](hx:ev e x=some (.string s)) :
  RunsOp P n e (.call ⟨.builtin .len,[x].toArray,#[T]⟩) ty w (.int .i64 (s.size:Int)) w:=by
 intro a dst pos after g ha;have:([x].toArray.map a.eval)=#[.string s]:=by simp[ha.ev hx]
 simp only[execOp,resolve,this];simp[invoke,builtin,Builtin.len_,run_underlying h.h,goInt,Result.andThen]
theorem runs_lenL{T E:TypeId}{x:Operand}{p:Option Addr}{len cap:Nat}[h:SliceOf P T E](hx:ev e x=some (.slice p len cap)) :
  RunsOp P n e (.call ⟨.builtin .len,[x].toArray,#[T]⟩) ty w (.int .i64 (len:Int)) w:=by
 intro a dst pos after g ha;have:([x].toArray.map a.eval)=#[.slice p len cap]:=by simp[ha.ev hx]
 simp only[execOp,resolve,this];simp[invoke,builtin,Builtin.len_,run_underlying h.h,goInt,Result.andThen]
theorem run_callFunc{f:Nat}[h:HasBody P f](args:Array Value):(callFunc f args).run P w=.ok (.enter f args) w:=by
 have hb:=h.h;unfold enterB at hb;split at hb
 ·rename_i fn hfn;simp only[ba,Bool.not_eq_true',Option.isSome_iff_exists] at hb;obtain⟨h1,c,hc⟩:=hb;have hp:(program).run P w=.ok P w:=rfl;unfold callFunc
  simp_all
 grind
theorem vo_call{f:Nat}{xs:List Operand}{vs:List Value}{tys:Array TypeId}[HasBody P f](hx:evl e xs=some vs)(hd:Nat.blt d n=true)
  (h:Calls P f vs.toArray w (fun en w'=>∃v,en=.returned v/\VO P n ops rest ((d,v) :: e) w' Q)) :
  VO P n ops (⟨some d,.call ⟨.value (.func f),xs.toArray,tys⟩,ty,pos,after,none⟩ :: rest) e w Q:=by
 intro a ha;refine wpList_plain rfl fun K hK=>?_;unfold Oper.wp;have e1:xs.toArray.map a.eval=vs.toArray:=by rw[<- ha.evl hx]; simp
 have:(execOp a.eval ⟨some d,.call ⟨.value (.func f),xs.toArray,tys⟩,ty,pos,after,none⟩).run P w=.ok (.enter f vs.toArray) w:=by
  simp only[execOp,resolve,e1];simp[Act.eval,Deferred.ofValue,invoke,run_callFunc]
 rw[this];refine Calls.mono h ?_;rintro en w' ⟨v,rfl,hv⟩;exact hK _ _ (hv _ (ha.put d hd v))
end
class Mixed(P:Program):Prop where h:P.follows .mixedOrders=true
def VQ(P:Program)(n:Nat)(ops:Array Oper)(w0:World)(l:List Oper)(e:Env)(Q:Exit->Act->World->Prop):Prop :=
 ∀a,Agree n e a->wpQuiet P ops (Ext w0) (fun a'=>∀w',Ext w0 w'->Q .normal a' w') l a
section
variable {P:Program} {n:Nat} {e:Env} {w:World} {Q:Exit->Act->World->Prop} {ops:Array Oper} {rest:List Oper}
 {d:Nat} {ty:TypeId} {pos:String} {after:Array Edge}
theorem vs_drawn{id:Nat}{l:List Oper}[hm:Mixed P](hB:Region.lexB .any l.toArray=true)(h:VQ P n l.toArray w l e Q):VS P n (.region id l.toArray true) e w Q :=
 fun a ha=>wp_region_quiet (C:=Ext w) hm.h hB ((Below.refl _ _).drew) (by simpa using h a ha)
theorem vq_val{op:Op}(v:Value)(hr:∀w',Ext w w'->RunsOp P n e op ty w' v w')(hd:Nat.blt d n=true)
  (h:VQ P n ops w rest ((d,v) :: e) Q):VQ P n ops w (⟨some d,op,ty,pos,after,none⟩ :: rest) e Q:=by
 intro a ha;unfold wpQuiet;simp only[Region.wanted,if_true];refine⟨v,fun w' hw'=>?_,h _ (ha.put d hd v)⟩;unfold Oper.quietAt;rw[hr w' hw' a (some d) pos after none ha];exact⟨rfl,rfl⟩
theorem vq_pure{op:Op}{v:Value}(h:pureV e op=some v)(hd:Nat.blt d n=true)
 (k:VQ P n ops w rest ((d,v) :: e) Q):VQ P n ops w (⟨some d,op,ty,pos,after,none⟩ :: rest) e Q:=vq_val v (fun _ _=>runs_pure h) hd k
theorem vq_guard_take{dst:Option Nat}{op:Op}{j s:Nat}{b:Bool}(hj:gslot ops j=some s)(hb:lk e s=some (.bool b))
  (h:VQ P n ops w (⟨dst,op,ty,pos,after,none⟩ :: rest) e Q):VQ P n ops w (⟨dst,op,ty,pos,after,some (j,b)⟩ :: rest) e Q:=by
 intro a ha;have h':=h a ha;unfold wpQuiet at h' ⊢;simpa only[Region.wanted,yielded_of ha hj hb,BEq.rfl,if_true,Oper.quiet,Oper.quietAt,execOp] using h'
theorem vq_guard_skip{op:Op}{j s:Nat}{b b':Bool}(hj:gslot ops j=some s)(hb:lk e s=some (.bool b))(hne:(b==b')=false)(hd:Nat.blt d n=true)
  (h:VQ P n ops w rest ((d,undef) :: e) Q):VQ P n ops w (⟨some d,op,ty,pos,after,some (j,b')⟩ :: rest) e Q:=by
 intro a ha;unfold wpQuiet;have:Region.wanted ⟨some d,op,ty,pos,after,some (j,b')⟩ (yielded ops a.tmps)=false:=by
  simp only[Region.wanted,yielded_of ha hj hb]; simpa using hne
 rw[this];exact h _ (ha.put d hd undef)
theorem yielded_undef{a:Act}(ha:Agree n e a){j s:Nat}(hj:gslot ops j=some s)(hb:lk e s=some undef):yielded ops a.tmps j=none:=by
 have h:=ha.2.2 s _ hb;have e1:((ops[j]?).bind (·.dst))=some s:=by rw[<- gslot_eq]; exact hj
 unfold yielded;rw[e1];simp only[Option.bind_some];rw[Array.getD_eq_getD_getElem?] at h;cases h2:a.tmps[s]? with
 | none=>rfl
 | some x=>rw[h2] at h; simp at h; subst h; rfl
theorem vq_guard_undef{op:Op}{j s:Nat}{b':Bool}(hj:gslot ops j=some s)(hb:lk e s=some undef)(hd:Nat.blt d n=true)
  (h:VQ P n ops w rest ((d,undef) :: e) Q):VQ P n ops w (⟨some d,op,ty,pos,after,some (j,b')⟩ :: rest) e Q:=by
 intro a ha;unfold wpQuiet;have:Region.wanted ⟨some d,op,ty,pos,after,some (j,b')⟩ (yielded ops a.tmps)=false:=by
  simp[Region.wanted,yielded_undef ha hj hb]
 rw[this];exact h _ (ha.put d hd undef)
end
class Rep(α:Type) where
 sz:Nat
 pos:0<sz
 rep:Nat->Nat->World->List Value->α->Prop
 len:∀{lo hi w cs x},rep lo hi w cs x->cs.length=sz
 same:∀{lo hi w w' cs x},rep lo hi w cs x->(∀k,lo<=k->k<hi->k<w.heap.size->w'.heap[k]?=w.heap[k]?)->rep lo hi w' cs x
 wide:∀{lo hi lo' hi' w cs x},rep lo hi w cs x->lo'<=lo->hi<=hi'->rep lo' hi' w cs x
def InI(x:Int):Prop := -9223372036854775808<=x/\x<=9223372036854775807
instance:Rep Int where
 sz:=1
 pos:=Nat.one_pos
 rep _ _ _ cs x:=cs=[.int .i64 x]/\InI x
 len h:=by grind
 same h _:=h
 wide h _ _:=h
instance:Rep Bool where
 sz:=1
 pos:=Nat.one_pos
 rep _ _ _ cs x:=cs=[.bool x]
 len h:=by grind
 same h _:=h
 wide h _ _:=h
instance:Rep ByteArray where
 sz:=1
 pos:=Nat.one_pos
 rep _ _ _ cs x:=cs=[.string x]/\x.size<=9223372036854775807
 len h:=by grind
 same h _:=h
 wide h _ _:=h
section
variable {α:Type} [Rep α]
def All(lo hi:Nat)(w:World):List Value->List α->Prop
 | cs,[]=>cs=[]
 | cs,x :: r=>∃c d,cs=c++d/\Rep.rep lo hi w c x/\All lo hi w d r
theorem All.len{lo hi:Nat}{w:World}:∀{cs:List Value} {xs:List α},All lo hi w cs xs->cs.length=xs.length*Rep.sz α
 | cs,[],h=>by rw[show cs=[] from h]; simp
 | cs,x :: r,h=>by
   obtain⟨c,d,rfl,h1,h2⟩:=h;rw[List.length_append,Rep.len h1,All.len h2,List.length_cons,Nat.add_mul]; omega
theorem All.same{lo hi:Nat}{w w':World}(k:∀k,lo<=k->k<hi->k<w.heap.size->w'.heap[k]?=w.heap[k]?):∀{cs:List Value} {xs:List α},All lo hi w cs xs->All lo hi w' cs xs
 | _,[],h=>h
 | _,_ :: _,h=>by
   obtain⟨c,d,rfl,h1,h2⟩:=h;exact⟨c,d,rfl,Rep.same h1 k,All.same k h2⟩
theorem All.wide{lo hi lo' hi':Nat}{w:World}(hl:lo'<=lo)(hh:hi<=hi'):∀{cs:List Value} {xs:List α},All lo hi w cs xs->All lo' hi' w cs xs
 | _,[],h=>h
 | _,_ :: _,h=>by
   obtain⟨c,d,rfl,h1,h2⟩:=h;exact⟨c,d,rfl,Rep.wide h1 hl hh,All.wide hl hh h2⟩
theorem All.app{lo hi:Nat}{w:World}{ds:List Value}{ys:List α}(k:All lo hi w ds ys):∀{cs:List Value} {xs:List α},All lo hi w cs xs->All lo hi w (cs++ds) (xs++ys)
 | cs,[],h=>by rw[show cs=[] from h]; exact k
 | _,_ :: _,h=>by
   obtain⟨c,d,rfl,h1,h2⟩:=h;exact⟨c,d++ds,by simp,h1,All.app k h2⟩
theorem All.one{lo hi:Nat}{w:World}{c:List Value}{x:α}(h:Rep.rep lo hi w c x):All lo hi w c [x]:=⟨c,[],by simp,h,rfl⟩
theorem All.get{lo hi:Nat}{w:World}:∀{cs:List Value} {xs:List α} {i:Nat} (_:All lo hi w cs xs) (hi':i<xs.length),
  ∃pre c post,cs=pre++c++post/\pre.length=i*Rep.sz α/\Rep.rep lo hi w c xs[i]
 | _,x :: r,0,h,_=>by
   obtain⟨c,d,rfl,h1,h2⟩:=h;exact⟨[],c,d,by simp,by simp,h1⟩
 | _,x :: r,i+1,h,hi'=>by
   obtain⟨c,d,rfl,h1,h2⟩:=h;obtain⟨pre,c',post,rfl,h3,h4⟩:=All.get h2 (i:=i) (by grind)
   grind[List.length_append,Rep.len,Nat.add_mul]
def SlR(lo hi:Nat)(w:World)(v:Value)(xs:List α):Prop :=
 ∃p cap,v=.slice p xs.length cap/\xs.length<=cap/\cap<=9223372036854775807 /\
  (xs=[]∨∃b o cs,p=some ⟨b,o,none⟩/\lo<=b/\b<hi/\At w b o cs/\All lo hi w cs xs)
theorem SlR.same{lo hi:Nat}{w w':World}{v:Value}{xs:List α}(h:SlR lo hi w v xs)(k:∀k,lo<=k->k<hi->k<w.heap.size->w'.heap[k]?=w.heap[k]?):SlR lo hi w' v xs:=by
 obtain⟨p,cap,h1,h2,h3,h4⟩:=h;refine⟨p,cap,h1,h2,h3,?_⟩;rcases h4 with h4 | ⟨b,o,cs,hp,hlo,hhi,hat,hall⟩
 ·grind
 ·exact .inr ⟨b,o,cs,hp,hlo,hhi,hat.same (k b hlo hhi),hall.same k⟩
theorem SlR.wide{lo hi lo' hi':Nat}{w:World}{v:Value}{xs:List α}(h:SlR lo hi w v xs)(hl:lo'<=lo)(hh:hi<=hi'):SlR lo' hi' w v xs:=by
 obtain⟨p,cap,h1,h2,h3,h4⟩:=h;refine⟨p,cap,h1,h2,h3,?_⟩;rcases h4 with h4 | ⟨b,o,cs,hp,hlo,hhi,hat,hall⟩
 ·grind
 ·exact .inr ⟨b,o,cs,hp,by omega,by omega,hat,hall.wide hl hh⟩
instance:Rep (List α) where
 sz:=1
 pos:=Nat.one_pos
 rep lo hi w cs xs:=∃v,cs=[v]/\SlR lo hi w v xs
 len:=by grind
 same:=by rintro lo hi w w' cs x ⟨v,rfl,h⟩ k; exact⟨v,rfl,h.same k⟩
 wide:=by rintro lo hi lo' hi' w cs x ⟨v,rfl,h⟩ h1 h2; exact⟨v,rfl,h.wide h1 h2⟩
theorem Rep.up{lo hi:Nat}{w w':World}{cs:List Value}{x:α}(h:Rep.rep lo hi w cs x)(k:Ext w w'):Rep.rep lo hi w' cs x:=Rep.same h (fun i _ _ h3=>k.block i h3)
theorem Rep.wr{lo hi b:Nat}{w w':World}{cs:List Value}{x:α}(h:Rep.rep lo hi w cs x)(k:Wr b w w')(hb:b<lo∨hi<=b):Rep.rep lo hi w' cs x:=Rep.same h (fun i h1 h2 _=>k.block i (by omega))
theorem Rep.below{lo hi B:Nat}{w w':World}{cs:List Value}{x:α}(h:Rep.rep lo hi w cs x)(k:Below B w w')(hB:hi<=B):Rep.rep lo hi w' cs x:=Rep.same h (fun i _ h2 _=>k.block i (by omega))
theorem SlR.up{lo hi:Nat}{w w':World}{v:Value}{xs:List α}(h:SlR lo hi w v xs)(k:Ext w w'):SlR lo hi w' v xs:=h.same (fun i _ _ h3=>k.block i h3)
theorem SlR.wr{lo hi b:Nat}{w w':World}{v:Value}{xs:List α}(h:SlR lo hi w v xs)(k:Wr b w w')(hb:b<lo∨hi<=b):SlR lo hi w' v xs:=h.same (fun i h1 h2 _=>k.block i (by omega))
theorem SlR.below{lo hi B:Nat}{w w':World}{v:Value}{xs:List α}(h:SlR lo hi w v xs)(k:Below B w w')(hB:hi<=B):SlR lo hi w' v xs:=h.same (fun i _ h2 _=>k.block i (by omega))
theorem SlR.len{lo hi:Nat}{w:World}{v:Value}{xs:List α}(h:SlR lo hi w v xs):∃p cap,v=.slice p xs.length cap:=by obtain⟨p,cap,h1,_⟩:=h; grind
theorem SlR.le{lo hi:Nat}{w:World}{v:Value}{xs:List α}(h:SlR lo hi w v xs):xs.length<=9223372036854775807:=by obtain⟨p,cap,h1,h2,h3,_⟩:=h; omega
theorem SlR.nil{lo hi:Nat}{w:World}:SlR lo hi w (.slice none 0 0) ([]:List α):=⟨none,0,rfl,Nat.le_refl _,by omega,.inl rfl⟩
theorem SlR.get{lo hi:Nat}{w:World}{p:Option Addr}{len cap:Nat}{xs:List α}(h:SlR lo hi w (.slice p len cap) xs){i:Nat}(hi':i<xs.length) :
  len=xs.length/\∃b o c,p=some ⟨b,o,none⟩/\lo<=b/\b<hi/\At w b (o+i*Rep.sz α) c/\Rep.rep lo hi w c xs[i]:=by
 obtain⟨p',cap',h1,h2,h3,h4⟩:=h;simp only[Value.slice.injEq] at h1;obtain⟨rfl,rfl,rfl⟩:=h1;refine⟨rfl,?_⟩;rcases h4 with h4 | ⟨b,o,cs,hp,hlo,hhi,hat,hall⟩
 ·grind
 ·obtain⟨pre,c,post,rfl,h5,h6⟩:=hall.get hi';refine⟨b,o,c,hp,hlo,hhi,?_,h6⟩;rw[<- h5]; exact hat.mid
end
section
variable {P:Program} {n:Nat} {e:Env} {w:World} {Q:Exit->Act->World->Prop} {ops:Array Oper} {rest:List Oper}
 {d:Nat} {ty:TypeId} {pos:String} {after:Array Edge}
theorem runs_idx{T E s y:Nat}{z:Value}{x ix:Operand}{b o len cap k:Nat}{kk:IntKind}[h:SliceOf P T E][i:Info P E s y z](hx:ev e x=some (.slice (some ⟨b,o,none⟩) len cap))(hi:ev e ix=some (.int kk (k:Int)))(hk:k<len) :
  RunsOp P n e (.indexAddr T x ix) ty w (.pointer (some ⟨b,o+k*s,none⟩)) w:=by
 intro a dst pos after g ha;obtain⟨inf,hinfo,h1,h2,h3⟩:=i.get;have hadd:(Addr.mk b o none).add (k*s)=⟨b,o+k*s,none⟩:=by
  unfold Addr.add;split
  ·grind
  ·rfl
 have hin:0<=(k:Int)/\(k:Int) < (len:Int):=oo;simp only[execOp,ha.ev hx,ha.ev hi];simp only[Instr.indexAt,asIntOf,Sem.run_bind,run_underlying h.h,Result.andThen,Sem.run_pure,hin,and_self,if_true,run_sizeOf' w hinfo,h1,Int.toNat_natCast,hadd]
variable {α:Type} [Rep α]
theorem vq_load{T:TypeId}{x:Operand}{b o:Nat}{v:Value}{cs:List Value}[NotAgg P T](hx:ev e x=some (.pointer (some ⟨b,o,none⟩)))(hc:At w b o cs)(hv:cs[0]?=some v)(hd:Nat.blt d n=true)
  (h:VQ P n ops w rest ((d,v) :: e) Q):VQ P n ops w (⟨some d,.load T x,ty,pos,after,none⟩ :: rest) e Q :=
 vq_val _ (fun _ hw=>runs_load hx ((hc.ext hw) 0 v hv)) hd h
theorem vo_loadB{T T':TypeId}{x:Operand}{b i:Nat}{v:Value}{cs:List Value}[NotAgg P T](hx:ev e x=some (.pointer (some ⟨b,i,none⟩)))(hB:Blk w b cs T')(hv:cs[i]?=some v)(hd:Nat.blt d n=true)
  (h:VO P n ops rest ((d,v) :: e) w Q):VO P n ops (⟨some d,.load T x,ty,pos,after,none⟩ :: rest) e w Q :=
 vo_val _ (runs_load hx (by have:=hB.at i v hv; simpa using this)) hd h
theorem vq_loadB{T T':TypeId}{x:Operand}{b i:Nat}{v:Value}{cs:List Value}[NotAgg P T](hx:ev e x=some (.pointer (some ⟨b,i,none⟩)))(hB:Blk w b cs T')(hv:cs[i]?=some v)(hd:Nat.blt d n=true)
  (h:VQ P n ops w rest ((d,v) :: e) Q):VQ P n ops w (⟨some d,.load T x,ty,pos,after,none⟩ :: rest) e Q :=
 vq_val _ (fun w' hw'=>runs_load hx (by have:=(hB.ext hw').at i v hv; simpa using this)) hd h
theorem vo_load{T:TypeId}{x:Operand}{ad:Addr}{v:Value}[NotAgg P T](hx:ev e x=some (.pointer (some ad)))(hc:w.cell? ad=some v)(hd:Nat.blt d n=true)
 (h:VO P n ops rest ((d,v) :: e) w Q):VO P n ops (⟨some d,.load T x,ty,pos,after,none⟩ :: rest) e w Q:=vo_val _ (runs_load hx hc) hd h
theorem vo_fieldAddr{T:TypeId}{x:Operand}{b o f off:Nat}[FieldAt P T f off](hx:ev e x=some (.pointer (some ⟨b,o,none⟩)))(hd:Nat.blt d n=true)
 (h:VO P n ops rest ((d,.pointer (some ⟨b,o+off,none⟩)) :: e) w Q):VO P n ops (⟨some d,.fieldAddr T x f,ty,pos,after,none⟩ :: rest) e w Q:=vo_val _ (runs_fieldAddr hx) hd h
theorem vq_fieldAddr{T:TypeId}{x:Operand}{b o f off:Nat}[FieldAt P T f off](hx:ev e x=some (.pointer (some ⟨b,o,none⟩)))(hd:Nat.blt d n=true)
 (h:VQ P n ops w rest ((d,.pointer (some ⟨b,o+off,none⟩)) :: e) Q):VQ P n ops w (⟨some d,.fieldAddr T x f,ty,pos,after,none⟩ :: rest) e Q:=vq_val _ (fun _ _=>runs_fieldAddr hx) hd h
end
def spl(cs:List Value)(o:Nat)(vs:List Value):List Value:=cs.take o++vs++cs.drop (o+vs.length)
def ones:List Value->Bool
 | []=>true
 | v :: r=>v.oneCell'&&ones r
theorem ones_mem:∀{vs:List Value},ones vs=true->∀v∈vs,v.oneCell'=true
 | [],_,_,h=>by cases h
 | u :: r,h,v,hv=>by
   simp only[ones,ba] at h;rcases List.mem_cons.1 hv with rfl | hv
   ·grind
   ·exact ones_mem h.2 v hv
theorem heap_setRow_other(w:World)(g k:Nat)(cs:Array Value)(h:k≠g):(w.setRow g cs).heap[k]?=w.heap[k]?:=by
 grind[World.setRow]
theorem wr_setRow(w:World)(g:Nat)(cs:Array Value):Wr g w (w.setRow g cs) :=
 ⟨rfl,rfl,rfl,by simp_all,fun k hk=>heap_setRow_other w g k cs hk⟩
def lenIs:List Value->Nat->Bool
 | [],0=>true
 | _ :: r,k+1=>lenIs r k
 | _,_=>false
theorem lenIs_eq:∀{vs:List Value} {k:Nat},lenIs vs k=true->vs.length=k
 | [],0,_=>rfl
 | _ :: r,k+1,h=>by simp[lenIs_eq (vs:=r) (k:=k) h]
 | [],_+1,h=>by cases h
 | _ :: _,0,h=>by cases h
section
variable {P:Program} {n:Nat} {e:Env} {w:World} {Q:Exit->Act->World->Prop} {ops:Array Oper} {rest:List Oper}
 {d:Nat} {ty:TypeId} {pos:String} {after:Array Edge}
theorem run_storeVar{T T' s y:Nat}{z:Value}{b o:Nat}{cs vs:List Value}{v:Value}[i:Info P T s y z](hv:v.cells.toList=vs)(hl:vs.length=s)(h1:ones vs=true)(hB:Blk w b cs T')(ho:o+vs.length<=cs.length) :
  (storeVar T ⟨b,o,none⟩ v).run P w=.ok () (w.setRow b (spl cs o vs).toArray):=by
 obtain⟨inf,hinfo,h2,h3,h4⟩:=i.get;have hsz:v.cells.size=inf.size:=by rw[h2,<- hl,<- hv]; simp
 have hst:=run_storeCells_at (P:=P) b o T' vs 0 cs.toArray w hB (by simpa using ho) (ones_mem h1);unfold storeVar;simp only[Sem.run_bind,run_sizeOf' w hinfo,Result.andThen,hsz,ne_eq,not_true_eq_false,if_false,hv]
 grind[spl]
theorem vo_store{T T' s y:Nat}{z:Value}{x v:Operand}{b o:Nat}{cs vs:List Value}{u:Value}[Info P T s y z](hx:ev e x=some (.pointer (some ⟨b,o,none⟩)))(hv:ev e v=some u)(hB:Blk w b cs T')(hc:u.cells.toList=vs)
  (hl:lenIs vs s=true) (h1:ones vs=true) (ho:Nat.ble (o+s) cs.length=true)
  (k:∀w',Wr b w w'->Blk w' b (spl cs o vs) T'->VO P n ops rest e w' Q) :
  VO P n ops (⟨none,.store T x v,ty,pos,after,none⟩ :: rest) e w Q:=by
 have hl':=lenIs_eq hl;have ho':o+vs.length<=cs.length:=by rw[hl']; exact Nat.le_of_ble_eq_true ho
 refine vo_unit (w':=w.setRow b (spl cs o vs).toArray) ?_ (k _ (wr_setRow _ _ _) ?_)
 ·intro a dst pos after g ha;simp only[execOp,ha.ev hx,ha.ev hv];simp[Instr.storeAt,Instr.sureAddr,run_storeVar hc hl' h1 hB ho',Result.andThen]
 ·exact setRow_heap w b cs.toArray _ T' (0,0) hB
def fillL(place:List (Nat×Nat)):List Value->List (Nat×Value)->Option (List Value)
 | cs,[]=>some cs
 | cs,(i,v) :: r=>match place[i]? with
   | none=>none
   | some p=>bif lenIs v.cells.toList p.2&&Nat.ble (p.1+p.2) cs.length then fillL place (spl cs p.1 v.cells.toList) r else none
theorem spl_cons(v:Value)(r cs:List Value)(o:Nat)(h:o+(r.length+1)<=cs.length):spl cs o (v :: r)=spl (cs.set o v) (o+1) r:=by
 obtain⟨A,C,hA,rfl⟩:∃A C:List Value,A.length=o/\cs=A++C:=⟨cs.take o,cs.drop o,by grind,by simp⟩;subst hA;cases C with
 | nil=>grind
 | cons x C =>
   simp only[spl,List.length_cons,List.set_append_right _ _ (Nat.le_refl _),Nat.sub_self,List.set_cons_zero];have e1:List.take A.length (A++x :: C)=A:=by simp
   have e2:List.take (A.length+1) (A++v :: C)=A++[v]:=by
    rw[List.take_append,List.take_of_length_le (by omega)]; simp
   have e3:List.drop (A.length+(r.length+1)) (A++x :: C)=List.drop r.length C:=by
    rw[List.drop_append,List.drop_eq_nil_of_le (by omega)]; simp
   have e4:List.drop (A.length+1+r.length) (A++v :: C)=List.drop r.length C:=by
    rw[show A.length+1+r.length=A.length+(r.length+1) by omega,List.drop_append,List.drop_eq_nil_of_le (by omega)]; simp
   rw[e1,e2,e3,e4]; simp
theorem foldl_spl(off:Nat):∀(vs:List Value) (j:Nat) (cs:Array Value),off+j+vs.length<=cs.size ->
  ((vs.zipIdx j).foldl (fun cs (c,j)=>cs.setIfInBounds (off+j) c) cs).toList=spl cs.toList (off+j) vs
 | [],j,cs,h=>by simp[spl]
 | v :: r,j,cs,h=>by
   simp only[List.zipIdx_cons,List.foldl_cons];rw[foldl_spl off r (j+1) _ (by grind),spl_cons v r _ _ (by omega)]
   grind
theorem fill_eq(place:List (Nat×Nat)):∀(parts:List (Nat×Value)) (cs ds:List Value),fillL place cs parts=some ds->Instr.fill (fun i=>place[i]?) cs.toArray parts=some ds.toArray
 | [],cs,ds,h=>by simp only[fillL,oi] at h; subst h; rfl
 | (i,v) :: r,cs,ds,h=>by
   unfold fillL at h;split at h
   ·cases h
   ·rename_i p hp;cases hb:(lenIs v.cells.toList p.2&&Nat.ble (p.1+p.2) cs.length) with
    | false=>grind
    | true =>
      rw[hb] at h;simp only[cond_true] at h;simp only[ba] at hb;have h1:=lenIs_eq hb.1;have h2:=Nat.le_of_ble_eq_true hb.2;have hs:v.cells.size=p.2:=by rw[<- h1]; simp
      have ih:=fill_eq place r _ _ h;unfold Instr.fill;simp only[hp];rw[if_neg (by simp[hs,h2])];have hf:=foldl_spl p.1 v.cells.toList 0 cs.toArray (by simp[hs,h2]);have e1:Array.foldl (fun cs (x:Value×Nat)=>cs.setIfInBounds (p.1+x.2) x.1) cs.toArray v.cells.zipIdx=(spl cs p.1 v.cells.toList).toArray:=by
       rw[<- Array.foldl_toList];apply Array.ext';simpa using hf
      exact(congrArg (fun q=>Instr.fill (fun i=>place[i]?) q r) e1).trans ih
def placesB(P:Program)(T:TypeId):Option (List (Nat×Nat)):=match P.underlying T with
 | some (.struct fs)=>some (fs.toList.map fun f=>(f.offset,match P.info? f.type with | some i=>i.size | none=>0))
 | _=>none
def fieldsOk(P:Program)(T:TypeId):Bool:=match P.underlying T with
 | some (.struct fs)=>fs.toList.all fun f=>(P.info? f.type).isSome
 | _=>false
class PlacesOf(P:Program)(T:TypeId)(pl:outParam (List (Nat×Nat))):Prop where
 h:placesB P T=some pl
 ok:fieldsOk P T=true
def evp(e:Env):List (Nat×Operand)->Option (List (Nat×Value))
 | []=>some []
 | (i,x) :: r=>match ev e x,evp e r with | some v,some vs=>some ((i,v) :: vs) | _,_=>none
theorem Agree.evp{a:Act}(h:Agree n e a):∀{xs:List (Nat×Operand)} {vs:List (Nat×Value)},evp e xs=some vs->xs.map (fun(i,x)=>(i,a.eval x))=vs
 | [],vs,hx=>by grind[Sv.evp]
 | (i,x) :: r,vs,hx=>by
   unfold Sv.evp at hx;split at hx
   ·rename_i v ws hv hws;simp at hx; subst hx;simp[h.ev hv,Agree.evp h hws]
   grind
theorem run_sizes(w:World):∀(fs:List Field),(fs.all fun f=>(P.info? f.type).isSome)=true ->
  (fs.mapM (fun f=>do Pure.pure (f.offset,<- sizeOf f.type):Field->Sem (Nat×Nat))).run P w=.ok (fs.map fun f=>(f.offset,match P.info? f.type with | some i=>i.size | none=>0)) w
 | [],_=>rfl
 | f :: r,h=>by
   simp only[List.all_cons,ba,Option.isSome_iff_exists] at h;obtain⟨⟨i,hi⟩,h2⟩:=h;rw[List.mapM_cons];simp only[Sem.run_bind,run_sizeOf' w hi,Result.andThen,Sem.run_pure,run_sizes w r h2,List.map_cons,hi]
theorem runs_build{T s y:Nat}{z:Value}{pl:List (Nat×Nat)}{parts:List (Nat×Operand)}{vs:List (Nat×Value)}{cs:List Value}[i:Info P T s y z][p:PlacesOf P T pl](hx:evp e parts=some vs)(hf:fillL pl z.cells.toList vs=some cs) :
  RunsOp P n e (.build T parts.toArray) ty w (.agg cs.toArray) w:=by
 intro a dst pos after g ha;obtain⟨inf,hinfo,h2,h3,h4⟩:=i.get;have hp:=p.h;have hk:=p.ok;unfold placesB at hp;unfold fieldsOk at hk;split at hp
 ·rename_i fs hfs;rw[hfs] at hk;simp only[oi] at hp;have hm:=run_sizes (P:=P) w fs.toList hk;rw[hp] at hm;have hfill:=fill_eq pl vs z.cells.toList cs hf;have e1:parts.toArray.map (fun(i,x)=>(i,a.eval x))=vs.toArray:=by rw[<- Agree.evp ha hx]; simp
  have hm':(fs.mapM (fun f=>do Pure.pure (f.offset,<- sizeOf f.type):Field->Sem (Nat×Nat))).run P w=.ok pl.toArray w:=by
   rw[Array.mapM_eq_mapM_toList];show(Functor.map List.toArray (List.mapM _ fs.toList):Sem _).run P w=_;rw[map_eq_pure_bind,Sem.run_bind,hm];rfl
  have e2:(fun i:Nat=>pl.toArray[i]?)=(fun i:Nat=>pl[i]?):=by funext i; simp
  simp only[execOp,e1];simp only[Instr.build,Sem.run_bind,run_zeroValue' w hinfo h4,Result.andThen,run_underlying hfs,hm',e2]
  simp_all
 grind
theorem vo_build{T s y:Nat}{z:Value}{pl:List (Nat×Nat)}{parts:List (Nat×Operand)}{vs:List (Nat×Value)}{cs:List Value}[Info P T s y z][PlacesOf P T pl](hx:evp e parts=some vs)(hf:fillL pl z.cells.toList vs=some cs)(hd:Nat.blt d n=true)
 (h:VO P n ops rest ((d,.agg cs.toArray) :: e) w Q):VO P n ops (⟨some d,.build T parts.toArray,ty,pos,after,none⟩ :: rest) e w Q:=vo_val _ (runs_build hx hf) hd h
theorem vq_build{T s y:Nat}{z:Value}{pl:List (Nat×Nat)}{parts:List (Nat×Operand)}{vs:List (Nat×Value)}{cs:List Value}[Info P T s y z][PlacesOf P T pl](hx:evp e parts=some vs)(hf:fillL pl z.cells.toList vs=some cs)(hd:Nat.blt d n=true)
 (h:VQ P n ops w rest ((d,.agg cs.toArray) :: e) Q):VQ P n ops w (⟨some d,.build T parts.toArray,ty,pos,after,none⟩ :: rest) e Q:=vq_val _ (fun _ _=>runs_build hx hf) hd h
class BoolT(P:Program)(T:TypeId):Prop where h:P.underlying T=some .bool
theorem eqIn_bool(dd:Nat){T:TypeId}{a b:Bool}[h:BoolT P T]:(Op.equalIn (dd+1) T (.bool a) (.bool b)).run P w=.ok (a==b) w:=by simp[Op.equalIn,run_underlying h.h]
theorem runs_eqB{T T':TypeId}{x y:Operand}{a b:Bool}[h:BoolT P T](hx:ev e x=some (.bool a))(hy:ev e y=some (.bool b)):RunsOp P n e (.binOp .eql T x y T') ty w (.bool (a==b)) w:=by
 intro ac dst pos after g ha;have he:(Op.equal T (.bool a) (.bool b)).run P w=.ok (a==b) w:=eqIn_bool 9999;simp only[execOp,ha.ev hx,ha.ev hy];simp[eqGuard,binOp,he,Result.andThen]
theorem runs_neB{T T':TypeId}{x y:Operand}{a b:Bool}[h:BoolT P T](hx:ev e x=some (.bool a))(hy:ev e y=some (.bool b)):RunsOp P n e (.binOp .neq T x y T') ty w (.bool (!(a==b))) w:=by
 intro ac dst pos after g ha;have he:(Op.equal T (.bool a) (.bool b)).run P w=.ok (a==b) w:=eqIn_bool 9999;simp only[execOp,ha.ev hx,ha.ev hy];simp[eqGuard,binOp,he,Result.andThen]
theorem vo_loadA{T T' s y b:Nat}{z:Value}{x:Operand}{cs:List Value}[AggT P T][Info P T s y z](hx:ev e x=some (.pointer (some ⟨b,0,none⟩)))(hB:Blk w b cs T')(hs:lenIs cs s=true)(hd:Nat.blt d n=true)
 (h:VO P n ops rest ((d,.agg cs.toArray) :: e) w Q):VO P n ops (⟨some d,.load T x,ty,pos,after,none⟩ :: rest) e w Q:=vo_val _ (runs_loadA hx (lenIs_eq hs) hB.at) hd h
theorem vq_loadA{T T' s y b:Nat}{z:Value}{x:Operand}{cs:List Value}[AggT P T][Info P T s y z](hx:ev e x=some (.pointer (some ⟨b,0,none⟩)))(hB:Blk w b cs T')(hs:lenIs cs s=true)(hd:Nat.blt d n=true)
 (h:VQ P n ops w rest ((d,.agg cs.toArray) :: e) Q):VQ P n ops w (⟨some d,.load T x,ty,pos,after,none⟩ :: rest) e Q:=vq_val _ (fun _ hw=>runs_loadA hx (lenIs_eq hs) (hB.ext hw).at) hd h
theorem vo_loadAt{T s y b o:Nat}{z:Value}{x:Operand}{cs:List Value}[AggT P T][Info P T s y z](hx:ev e x=some (.pointer (some ⟨b,o,none⟩)))(hA:At w b o cs)(hs:lenIs cs s=true)(hd:Nat.blt d n=true)
 (h:VO P n ops rest ((d,.agg cs.toArray) :: e) w Q):VO P n ops (⟨some d,.load T x,ty,pos,after,none⟩ :: rest) e w Q:=vo_val _ (runs_loadA hx (lenIs_eq hs) hA) hd h
theorem vq_loadAt{T s y b o:Nat}{z:Value}{x:Operand}{cs:List Value}[AggT P T][Info P T s y z](hx:ev e x=some (.pointer (some ⟨b,o,none⟩)))(hA:At w b o cs)(hs:lenIs cs s=true)(hd:Nat.blt d n=true)
 (h:VQ P n ops w rest ((d,.agg cs.toArray) :: e) Q):VQ P n ops w (⟨some d,.load T x,ty,pos,after,none⟩ :: rest) e Q:=vq_val _ (fun _ hw=>runs_loadA hx (lenIs_eq hs) (hA.ext hw)) hd h
def places1(s:Nat):Nat->Nat->List (Nat×Nat)
 | 0,_=>[]
 | k+1,i=>(i*s,s) :: places1 s k (i+1)
theorem places1_get(s:Nat):∀(k i j:Nat),j<k->(places1 s k i)[j]?=some ((i+j)*s,s)
 | 0,_,_,h=>by omega
 | k+1,i,0,_=>by simp[places1]
 | k+1,i,j+1,h=>by
   rw[places1,List.getElem?_cons_succ,places1_get s k (i+1) j (by omega)];congr 2; rw[show i+1+j=i+(j+1) by omega]
theorem fill_mono(f g:Nat->Option (Nat×Nat)):∀(parts:List (Nat×Value)) (cs ds:Array Value),(∀i p,f i=some p->g i=some p)->Instr.fill f cs parts=some ds->Instr.fill g cs parts=some ds
 | [],_,_,_,h=>h
 | (i,v) :: r,cs,ds,hfg,h=>by
   unfold Instr.fill at h ⊢;cases hf:f i with
   | none=>grind
   | some p =>
     rw[hf] at h;rw[hfg i p hf];obtain⟨off,size⟩:=p;simp only at h ⊢;split at h
     ·cases h
     ·rename_i hc; rw[if_neg hc]; exact fill_mono f g r _ _ hfg h
def reps:Nat->List Value->List Value
 | 0,_=>[]
 | k+1,z=>z++reps k z
theorem reps_one(z:Value):∀k,reps k [z]=List.replicate k z
 | 0=>rfl
 | k+1=>by rw[reps,reps_one z k]; rfl
theorem zeros_one(z:Value)(k:Nat):(Array.range k).map (fun i=>#[z][i % #[z].size]!)=(reps k [z]).toArray:=by
 rw[reps_one];apply Array.ext';simp only[Array.toList_map,Array.toList_range];apply List.ext_getElem?;intro j;by_cases hj:j<k
 ·simp[hj,Nat.mod_one]
 ·simp[hj]
theorem vo_buildSlice{T E y len:Nat}{z:Value}{parts:List (Nat×Operand)}{vs:List (Nat×Value)}{cs:List Value}[hT:SliceOf P T E][i:Info P E 1 y z](hz:z.cells=#[z])(hx:evp e parts=some vs)(hl:Nat.ble len 16777216=true)
  (hf:fillL (places1 1 len 0) (reps len [z]) vs=some cs) (hd:Nat.blt d n=true)
  (k:∀b w',NewB w b w'->Blk w' b cs E->VO P n ops rest ((d,.slice (some ⟨b,0,none⟩) len len) :: e) w' Q) :
  VO P n ops (⟨some d,.buildSlice T len parts.toArray,ty,pos,after,none⟩ :: rest) e w Q:=by
 obtain⟨inf,hinfo,h2,h3,h4⟩:=i.get;refine vo_val (.slice (some ⟨w.heap.size,0,none⟩) len len) (w':=w.alloc (.cells cs.toArray E)) ?_ hd (k _ _ (newB_alloc _ _) (by simpa using blk_alloc w cs.toArray E));intro a dst pos after g ha;have hle:=Nat.le_of_ble_eq_true hl;have e1:parts.toArray.map (fun(i,x)=>(i,a.eval x))=vs.toArray:=by rw[<- Agree.evp ha hx]; simp
 have hfill:=fill_eq (places1 1 len 0) vs (reps len [z]) cs hf;have hfill':=fill_mono (fun i:Nat=>(places1 1 len 0)[i]?) (fun i:Nat=>some (i*1,1)) vs _ _ (fun i p hp=>by
  by_cases hi:i<len
  ·rw[places1_get 1 len 0 i hi] at hp; simpa using hp
  ·rw[List.getElem?_eq_none (by
    have:∀k j,(places1 1 k j).length=k:=fun k=>by induction k with
     | zero=>intro j; rfl
     | succ k ih=>intro j; simp[places1,ih]
    rw[this]; omega)] at hp
   cases hp) hfill
 have hnot:¬len > 2 ^ 24:=by omega
 have hfill2:Instr.fill (fun i=>some (i,1)) (reps len [z]).toArray vs=some cs.toArray:=by simpa using hfill'
 have hnew:∀w:World,(newRow E cs.toArray).run P w=.ok ⟨w.heap.size,0,none⟩ (w.alloc (.cells cs.toArray E)):=fun _=>rfl;simp only[execOp,e1];simp only[Instr.buildSlice,Sem.run_bind,run_underlying hT.h,Result.andThen,run_sizeOf' w hinfo,h2,Nat.mul_one,hnot,if_false];by_cases h0:len=0
 ·subst h0;have e2:Array.map (fun x=>(#[]:Array Value)[x % (#[]:Array Value).size]!) (Array.range 0)=(reps 0 [z]).toArray:=by simp[reps]
  simp_all
 ·simp only[h0,if_false,Sem.run_bind,Sem.run_pure,Result.andThen,run_zeroValue' w hinfo h4,hz,zeros_one z len,hfill2,hnew]
def byteAt(s:ByteArray)(k:Nat):Int:=((s.data.toList.getD k 0).toNat:Int)
theorem byteAt_lo(s:ByteArray)(k:Nat):0<=byteAt s k:=by grind[byteAt]
theorem byteAt_hi(s:ByteArray)(k:Nat):byteAt s k<=255:=by unfold byteAt; have:=(s.data.toList.getD k 0).toNat_lt; omega
theorem runs_index{T:TypeId}{x ix:Operand}{s:ByteArray}{k:Nat}{kk:IntKind}[h:StringT P T](hx:ev e x=some (.string s))(hi:ev e ix=some (.int kk (k:Int)))(hk:k<s.size) :
  RunsOp P n e (.index T x ix) ty w (.int .u8 (byteAt s k)) w:=by
 intro a dst pos after g ha;have h0:0<=(k:Int):=by omega
 have hb:s[k]?=some s[k]:=by simp[hk]
 simp only[execOp,ha.ev hx,ha.ev hi];simp only[Instr.index,asIntOf,Sem.run_bind,Sem.run_pure,Result.andThen,run_underlying h.h,h0,if_true,Int.toNat_natCast,hb];congr 3;have hk':k<s.data.toList.length:=by simpa using hk
 have:s[k]=s.data.toList[k]:=rfl
 grind[byteAt,List.getElem?_eq_getElem]
theorem runs_index0{T:TypeId}{x:Operand}{s:ByteArray}{kk:IntKind}[h:StringT P T](hx:ev e x=some (.string s))(hk:0<s.size) :
 RunsOp P n e (.index T x (.const (.int kk 0))) ty w (.int .u8 (byteAt s 0)) w:=runs_index (k:=0) hx rfl hk
theorem run_asAddr(w:World)(ad:Addr):(asAddr (.pointer (some ad))).run P w=.ok ad w:=rfl
theorem fin_retC{fn:Func}{R:Ending->World->Prop}{t T T' s y b:Nat}{z:Value}{cs:List Value}[AggT P T][Info P T s y z](hr:fn.results=#[.cell t T])(hl:lk e t=some (.pointer (some ⟨b,0,none⟩)))(hB:Blk w b cs T')(hs:lenIs cs s=true)
  (h:R (.returned (.agg cs.toArray)) w):FinS n .ret e w (bodyPost P fn R):=by
 intro a ha;refine⟨ha.1,.agg cs.toArray,?_,h⟩;have h1:=loadVar_agg (P:=P) (T:=T) (lenIs_eq hs) hB.at;have g0:=ha.2.2 _ _ hl;simp only[Array.getD_eq_getD_getElem?] at g0;simp[results,hr,g0,run_asAddr,h1,Result.andThen]
theorem fin_retC1{fn:Func}{R:Ending->World->Prop}{t t1 T T' s y b:Nat}{z v1:Value}{cs:List Value}[AggT P T][Info P T s y z](hr:fn.results=#[.cell t T,.tmp t1])(hl:lk e t=some (.pointer (some ⟨b,0,none⟩)))(hB:Blk w b cs T')(hs:lenIs cs s=true)
  (hl1:lk e t1=some v1) (h:R (.returned (.tuple #[.agg cs.toArray,v1])) w):FinS n .ret e w (bodyPost P fn R):=by
 intro a ha;refine⟨ha.1,.tuple #[.agg cs.toArray,v1],?_,h⟩;have h1:=loadVar_agg (P:=P) (T:=T) (lenIs_eq hs) hB.at;have g0:=ha.2.2 _ _ hl;have g1:=ha.2.2 _ _ hl1;simp only[Array.getD_eq_getD_getElem?] at g0 g1;simp[results,hr,g0,g1,run_asAddr,h1,Result.andThen]
end
class Opens(P:Program)(T:TypeId)(α:Type)[Rep α]:Prop where
 op:∀{H:Type} {enc:TypeId×Value->H} {w:World} {sp:Nat->Bool} {hl:Bool} {fuel:Nat} {cs:List Value} {x:DataW H×List MemPlace},
  DataW.trod enc P w 0 sp hl fuel T cs=some x->∃y:α,Rep.rep 0 w.heap.size w cs y
class IntT(P:Program)(T:TypeId):Prop where h:P.underlying T=some (.int .i64)
class ByteT(P:Program)(T:TypeId):Prop where h:P.underlying T=some (.int .u8)
instance:Rep UInt8 where
 sz:=1
 pos:=Nat.one_pos
 rep _ _ _ cs x:=cs=[.int .u8 (x.toNat:Int)]
 len h:=by grind
 same h _:=h
 wide h _ _:=h
instance {P:Program}{T:TypeId}[hT:IntT P T]:Opens P T Int where
 op:=by
  intro H enc w sp hl fuel cs x h;obtain⟨n,rfl,_,hw⟩:=DataW.trod_int hT.h h;refine⟨n,rfl,?_⟩;simp only[Lit.wf,ba,dq] at hw;have h1:IntKind.i64.min = -9223372036854775808:=rfl;have h2:IntKind.i64.max=9223372036854775807:=rfl;rw[h1,h2] at hw;exact hw
instance {P:Program}{T:TypeId}[hT:ByteT P T]:Opens P T UInt8 where
 op:=by
  intro H enc w sp hl fuel cs x h;obtain⟨n,rfl,_,hw⟩:=DataW.trod_int hT.h h;simp only[Lit.wf,ba,dq] at hw;have h1:IntKind.u8.min=0:=rfl;have h2:IntKind.u8.max=255:=rfl;rw[h1,h2] at hw;refine⟨UInt8.ofNat n.toNat,?_⟩;show [Value.int .u8 n]=[Value.int .u8 _];have:(UInt8.ofNat n.toNat).toNat=n.toNat:=by simp; omega
  grind
instance {P:Program}{T:TypeId}[hT:BoolT P T]:Opens P T Bool where
 op:=by
  intro H enc w sp hl fuel cs x h;obtain⟨b,rfl,_⟩:=DataW.trod_bool hT.h h;exact⟨b,rfl⟩
instance {P:Program}{T:TypeId}[hT:StringT P T]:Opens P T ByteArray where
 op:=by
  intro H enc w sp hl fuel cs x h;obtain⟨s,rfl,_,hs⟩:=DataW.trod_string hT.h h;exact⟨s,rfl,by grind[maxLen]⟩
theorem cells_at{w:World}{base:Nat}{a:Addr}{n:Nat}{cs:List Value}(hn:0<n)(h:w.cells? base a n=some cs):a=⟨a.block,a.off,none⟩/\cs.length=n/\At w a.block a.off cs:=by
 obtain⟨_,hl,hc⟩:=World.cells?_some h;obtain⟨b,o,sp⟩:=a;have hsp:sp=none:=by
  have h0:=hc 0 hn;have e0:(Addr.mk b o sp).add 0=⟨b,o,sp⟩:=by simp[Addr.add]
  rw[e0,List.getElem?_eq_getElem (by omega)] at h0;cases sp with
  | none=>rfl
  | some q =>
    grind[World.cell?]
 subst hsp;refine⟨rfl,hl,fun i u hu=>?_⟩
 grind[Nat.lt_or_ge,List.getElem?_eq_none,Addr.add]
theorem At.app{w:World}{b o:Nat}{cs ds:List Value}(h:At w b o cs)(k:At w b (o+cs.length) ds):At w b o (cs++ds):=by
 intro i u hu;rcases Nat.lt_or_ge i cs.length with hi | hi
 ·rw[List.getElem?_append_left hi] at hu; exact h i u hu
 ·rw[List.getElem?_append_right hi] at hu;have:=k (i-cs.length) u hu
  grind
theorem at_nil{w:World}{b o:Nat}:At w b o []:=fun i u hu=>by grind
instance {P:Program}{T E:TypeId}{α:Type}[Rep α][hT:SliceOf P T E][hE:Opens P E α]:Opens P T (List α) where
 op:=by
  intro H enc w sp hl fuel cs x h;rcases DataW.trod_slice hT.h h with ⟨rfl,_⟩ | ⟨a,len,cap,elems,rest,n,rfl,rfl,_,_,hlc,hcm,hel,hat,_,_⟩
  ·exact⟨[],_,rfl,SlR.nil⟩
  ·have hcap:cap<=9223372036854775807:=by unfold maxLen at hcm; omega
   -- each element's cells and what they read as
   have each:∀i,i<len->∃c:List Value,w.cells? 0 (a.add (i*P.cellsOf E)) (P.cellsOf E)=some c/\∃y:α,Rep.rep 0 w.heap.size w c y:=by
    intro i hi;have hi':=hat i hi;rw[List.getElem?_eq_getElem (by omega)] at hi';cases hc:w.cells? 0 (a.add (i*P.cellsOf E)) (P.cellsOf E) with
    | none=>rw[hc] at hi'; cases hi'
    | some c =>
      rw[hc] at hi';simp only[Option.bind_some] at hi';exact⟨c,rfl,hE.op hi'⟩
   by_cases h0:len=0
   ·subst h0;exact⟨[],_,rfl,some a,cap,rfl,Nat.zero_le _,hcap,.inl rfl⟩
   ·have hs:P.cellsOf E=Rep.sz α:=by
     obtain⟨c,hc,y,hy⟩:=each 0 (by omega);have:=(World.cells?_some hc).2.1;rw[<- this]; exact Rep.len hy
    have hsp:0<P.cellsOf E:=by rw[hs]; exact Rep.pos
    obtain⟨b,o,rfl⟩:∃b o,a=⟨b,o,none⟩:=by
     obtain⟨c,hc,_⟩:=each 0 (by omega);have e0:a.add (0*P.cellsOf E)=a:=by simp[Addr.add]
     rw[e0] at hc;exact⟨a.block,a.off,(cells_at hsp hc).1⟩
    have hb:b<w.heap.size:=by
     obtain⟨c,hc,_⟩:=each 0 (by omega);have e0:(Addr.mk b o none).add (0*P.cellsOf E)=⟨b,o,none⟩:=by simp[Addr.add]
     rw[e0] at hc;have h1:=cells_at hsp hc;exact h1.2.2.lt (by rw[h1.2.1]; exact hsp)
    have build:∀k,k<=len->∃(cs:List Value) (xs:List α),xs.length=k/\At w b o cs/\All 0 w.heap.size w cs xs:=by
     intro k
     induction k with
     | zero=>exact fun _=>⟨[],[],rfl,at_nil,rfl⟩
     | succ k ih =>
       intro hk;obtain⟨cs,xs,h1,h2,h3⟩:=ih (by omega);obtain⟨c,hc,y,hy⟩:=each k (by omega);have hadd:(Addr.mk b o none).add (k*P.cellsOf E)=⟨b,o+k*P.cellsOf E,none⟩:=by
        unfold Addr.add;split
        ·rename_i h0; rw[h0]; rfl
        ·rfl
       rw[hadd] at hc;have h4:=(cells_at hsp hc).2.2;refine⟨cs++c,xs++[y],by simp[h1],h2.app ?_,All.app (All.one hy) h3⟩;have:cs.length=k*P.cellsOf E:=by rw[h3.len,h1,hs]
       rw[this]; exact h4
    obtain⟨cs,xs,h1,h2,h3⟩:=build len (Nat.le_refl _);subst h1;exact⟨xs,_,rfl,some ⟨b,o,none⟩,cap,rfl,hlc,hcap,.inr ⟨b,o,cs,rfl,Nat.zero_le _,hb,h2,h3⟩⟩
theorem opens_fields{P:Program}{T:TypeId}{H:Type}{enc:TypeId×Value->H}{w:World}{sp:Nat->Bool}{hl:Bool}{fuel:Nat}{cs:List Value}{x:DataW H×List MemPlace}{fs:Array Field}
  (hT:P.underlying T=some (.struct fs)) (h:DataW.trod enc P w 0 sp hl fuel T cs=some x) :
  cs.length=P.cellsOf T/\∀(i:Nat) (f:Field),fs[i]?=some f->∃n y,DataW.trod enc P w 0 sp hl n f.type ((cs.drop f.offset).take (P.cellsOf f.type))=some y:=by
 obtain⟨xs,n,_,_,h1,h2,h3⟩:=DataW.trod_struct hT h
 grind
theorem trodAll_below{H:Type}{enc:TypeId×Value->H}{P:Program}(hl:laidOutB P=true){W W':World}(hb:Below W.heap.size W W') :
  ∀{ts:List TypeId} {vs:List Value} {ds:List (DataW H)} {ps:List MemPlace},(ts.all fun t=>P.readableRec t&&decide (t<P.types.size))=true ->
   DataW.TrodAll enc P W 0 (fun _=>true) true ts vs ds ps->DataW.TrodAll enc P W' 0 (fun b=>decide (b<W.heap.size)) true ts vs ds ps
 | [],[],[],_,_,h=>h
 | t :: ts,v :: vs,d :: ds,ps,hr,h=>by
   obtain⟨p,q,h1,h2,rfl⟩:=h;simp only[List.all_cons,ba,dq] at hr;have hlt:∀x∈p,x.block<W.heap.size:=by
    obtain⟨f,hf⟩:=h1;exact DataW.trod_lt f t _ _ hf
   exact⟨p,q,Below.trod hl hr.1.1 hr.1.2 h1 hb hlt,trodAll_below hl hb (by grind) h2,rfl⟩
 | [],[],_ :: _,_,_,h=>h.elim
 | [],_ :: _,_,_,_,h=>h.elim
 | _ :: _,[],_,_,_,h=>h.elim
 | _ :: _,_ :: _,[],_,_,h=>h.elim
def VH(P:Program)(n:Nat)(ops:Array Oper)(w0:World)(fuel:Nat)(listed:Array Bool)(e:Env)(w:World)(Q:Exit->Act->World->Prop):Prop :=
 Ext w0 w/\∀a,Agree n e a->wpAnyH P .any ops (NoPanic Q) (Ext w0) fuel listed a w
def nthO:List Oper->Nat->Option Oper
 | [],_=>none
 | o :: _,0=>some o
 | _ :: r,i+1=>nthO r i
theorem nthO_eq:∀(l:List Oper) (i:Nat),nthO l i=l[i]?
 | [],_=>by simp[nthO]
 | _ :: _,0=>by simp[nthO]
 | _ :: r,i+1=>by simp[nthO,nthO_eq r i]
theorem nthO_arr{l:List Oper}{i:Nat}{o:Oper}(h:nthO l i=some o):l.toArray[i]?=some o:=by grind[nthO_eq]
section
variable {P:Program} {n:Nat} {e:Env} {w w0:World} {Q:Exit->Act->World->Prop} {l:List Oper} {fuel:Nat} {listed:Array Bool}
 {d:Nat} {op:Op} {ty:TypeId} {pos:String} {after:Array Edge}
theorem vs_held{id:Nat}[hm:Mixed P](h:∀w',Ext w w'->VH P n l.toArray w' l.length (Array.replicate l.length false) e w' Q):VS P n (.region id l.toArray true) e w Q:=by
 intro a ha;refine wp_region_noPanic (wp_region_held (S:=Ext w.drew) hm.h ?_);have:=(h w.drew ((Below.refl _ _).drew)).2 a ha
 simp_all
theorem vh_take(i:Nat){v:Value}(hi:nthO l i=some ⟨some d,op,ty,pos,after,none⟩)(hr:∀w',Ext w0 w'->RunsOp P n e op ty w' v w')(hd:Nat.blt d n=true)
  (hs:Region.noSelect l.toArray=true) (hf:Region.free .any l.toArray listed i=true) (hc:(Region.ready .any l.toArray listed).contains i=true)
  (h:VH P n l.toArray w0 fuel (listed.setIfInBounds i true) ((d,v) :: e) w Q):VH P n l.toArray w0 (fuel+1) listed e w Q:=by
 refine⟨h.1,fun a ha=>wpAnyH_take (v:=v) (nthO_arr hi) hs hf hc (fun _ _ _ hq=>hq) (.inl ⟨by simp[Region.wanted],fun w' hw'=>hr w' hw' a _ _ _ _ ha⟩) h.1 (h.2 _ (ha.put d hd v))⟩
theorem vh_only(i:Nat){v:Value}(hi:nthO l i=some ⟨some d,op,ty,pos,after,none⟩)(hc:Region.ready .any l.toArray listed=[i])(hr:RunsOp P n e op ty w v w)(hd:Nat.blt d n=true)
  (h:VH P n l.toArray w0 fuel (listed.setIfInBounds i true) ((d,v) :: e) w Q):VH P n l.toArray w0 (fuel+1) listed e w Q:=by
 refine⟨h.1,fun a ha=>wpAnyH_all hc (by simp) fun j hj=>?_⟩;obtain rfl:j=i:=by grind
 unfold wpOp;simp only[nthO_arr hi,Region.wanted,if_true,Oper.wp];rw[hr a _ _ _ _ ha];exact .inl ⟨h.1,h.2 _ (ha.put d hd v)⟩
theorem vh_done(hc:Region.ready .any l.toArray listed=[])(h:FinS n .normal e w Q)(hw:Ext w0 w):VH P n l.toArray w0 fuel listed e w Q :=
 ⟨hw,fun a ha=>wpAnyH_done hc (NoPanic.normal (h a ha)) fuel⟩
end
section
variable {P:Program} {n:Nat} {e:Env} {w:World} {Q:Exit->Act->World->Prop} {ops:Array Oper} {rest:List Oper}
 {d:Nat} {ty:TypeId} {pos:String} {after:Array Edge}
theorem tdiv_in{a b:Int}(ha:InI a)(hb:0<b) : -9223372036854775808<=a.tdiv b/\a.tdiv b<=9223372036854775807:=by
 unfold InI at ha;rcases Int.le_total 0 a with h0 | h0
 ·have h3:=Int.tdiv_nonneg h0 (Int.le_of_lt hb);have h:(a.tdiv b).natAbs=a.natAbs / b.natAbs:=Int.natAbs_tdiv a b;have h2:=Nat.div_le_self a.natAbs b.natAbs;omega
 ·have h3:=Int.tdiv_nonneg (show 0 <= -a by omega) (Int.le_of_lt hb);rw[Int.neg_tdiv] at h3;have h:(a.tdiv b).natAbs=a.natAbs / b.natAbs:=Int.natAbs_tdiv a b;have h2:=Nat.div_le_self a.natAbs b.natAbs;omega
theorem runs_quo{T T':TypeId}{x y:Operand}{a b:Int}(hx:ev e x=some (.int .i64 a))(hy:ev e y=some (.int .i64 b))(ha':InI a)(hb:0<b) :
  RunsOp P n e (.binOp .quo T x y T') ty w (.int .i64 (a.tdiv b)) w:=by
 intro ac dst pos after g ha;have h0:¬b=0:=by omega
 simp only[execOp,ha.ev hx,ha.ev hy];simp[eqGuard,binOp,Op.intDiv,h0,IntWalk.i64_in _ (tdiv_in ha' hb)]
theorem runs_rem{T T':TypeId}{x y:Operand}{a b:Int}(hx:ev e x=some (.int .i64 a))(hy:ev e y=some (.int .i64 b))(hb:b≠0) :
  RunsOp P n e (.binOp .rem T x y T') ty w (.int .i64 (a.tmod b)) w:=by
 intro ac dst pos after g ha;simp only[execOp,ha.ev hx,ha.ev hy];simp[eqGuard,binOp,Op.intDiv,hb]
theorem runs_neg{T:TypeId}{x:Operand}{a:Int}(hx:ev e x=some (.int .i64 a))(hr : -9223372036854775808 <= -a /\ -a<=9223372036854775807) :
  RunsOp P n e (.unOp .neg T x) ty w (.int .i64 (-a)) w:=by
 intro ac dst pos after g ha;simp only[execOp,ha.ev hx];simp[Op.unary,Op.intArith,IntWalk.i64_in _ hr]
theorem runs_toByte{T T':TypeId}{x:Operand}{k:IntKind}{a:Int}[ht:ByteT P T'][hi:IntT P T](hx:ev e x=some (.int k a)) :
  RunsOp P n e (.convert T T' x) ty w (.int .u8 (a % 256)) w:=by
 intro ac dst pos after g ha;simp only[execOp,ha.ev hx];simp[convert,run_underlying ht.h,run_underlying hi.h,Conv.intToInt,IntKind.wrap_u8,Result.andThen]
theorem runs_toStr{T T' E:TypeId}{x:Operand}{b o cap m:Nat}{ms:List Int}[hs:SliceOf P T E][hb:ByteT P E][ht:StringT P T'](hx:ev e x=some (.slice (some ⟨b,o,none⟩) m cap))(hm:ms.length=m)(hA:At w b o (ms.map (Value.int .u8))) :
  RunsOp P n e (.convert T T' x) ty w (.string (strOfNums ms)) w:=by
 intro ac dst pos after g ha;have h:=run_convert_bytes_arg (P:=P) w T E hs.h hb.h b o m cap ms hm (fun i hi=>hA i _ (by grind)) T' ht.h;simp only[execOp,ha.ev hx]
 simp_all
theorem reps_len(z:List Value):∀k,(reps k z).length=k*z.length
 | 0=>by simp[reps]
 | k+1=>by rw[reps,List.length_append,reps_len z k,Nat.add_mul]; omega
theorem reps_get(z:List Value):∀(k j:Nat),j<k*z.length->(reps k z)[j]?=z[j % z.length]?
 | 0,j,h=>by omega
 | k+1,j,h=>by
   have h':j<k*z.length+z.length:=by rwa [Nat.add_mul,Nat.one_mul] at h
   rw[reps];rcases Nat.lt_or_ge j z.length with hj | hj
   ·rw[List.getElem?_append_left hj,Nat.mod_eq_of_lt hj]
   ·rw[List.getElem?_append_right hj,reps_get z k (j-z.length) (by omega)]
    grind[Nat.mod_eq_sub_mod]
theorem madeCells_reps(z:Array Value)(k:Nat)(hz:0<z.size):madeCells z (k*z.size)=(reps k z.toList).toArray:=by
 apply Array.ext';apply List.ext_getElem?;intro j;unfold madeCells;by_cases hj:j<k*z.size
 ·have hlt:j % z.size<z.size:=Nat.mod_lt _ hz;rw[show(reps k z.toList).toArray.toList=reps k z.toList by simp,reps_get z.toList k j (by omega)]
  grind
 grind[List.getElem?_eq_none,reps_len]
theorem runs_make{T E s y:Nat}{z:Value}{x x':Operand}{m:Nat}{zs:List Value}[hT:SliceOf P T E][i:Info P E s y z](hx:ev e x=some (.int .i64 (m:Int)))(hx':ev e x'=some (.int .i64 (m:Int)))(hz:z.cells.toList=zs)(hl:lenIs zs s=true)(hs:Nat.blt 0 s=true)
  (hm:m*y<=281474976710656) (hm':m<=9223372036854775807) :
  RunsOp P n e (.makeSlice T x x') ty w (.slice (some ⟨w.heap.size,0,none⟩) m m) (w.alloc (.cells (reps m zs).toArray E)):=by
 intro a dst pos after g ha;obtain⟨inf,hinfo,h2,h3,h4⟩:=i.get;subst hz;have hl':=lenIs_eq hl;have hsz:z.cells.size=s:=by simpa using hl'
 have hb:(inf.bytes:Int)*(m:Int)<=281474976710656:=by
  have h:((inf.bytes*m:Nat):Int)<=281474976710656:=by rw[h3,Nat.mul_comm]; omega
  rwa [Int.natCast_mul] at h
 have h:=run_make (P:=P) w T E inf z hT.h hinfo h4 .i64 .i64 m m (by omega) (Int.le_refl _) hb (by omega);simp only[Int.toNat_natCast] at h;have hpos:0<z.cells.size:=by rw[hsz]; simpa using hs
 have hc:=madeCells_reps z.cells m hpos;rw[h2] at h;rw[hsz] at hc;rw[hc] at h;simp only[execOp,ha.ev hx,ha.ev hx']
 simp_all
variable {w0:World} {l:List Oper} {fuel:Nat} {listed:Array Bool}
def VHo(P:Program)(n:Nat)(l:List Oper)(w0:World)(fuel:Nat)(listed:Array Bool)(e:Env)(w:World)(Q:Exit->Act->World->Prop)(i:Nat):Prop :=
 ∀a,Agree n e a->wpOp P l.toArray (NoPanic Q) i (fun a' w'=>Ext w0 w'/\wpAnyH P .any l.toArray (NoPanic Q) (Ext w0) fuel (listed.setIfInBounds i true) a' w') a w
theorem vh_one(i:Nat)(hc:Region.ready .any l.toArray listed=[i])(hi:VHo P n l w0 fuel listed e w Q i)(hw:Ext w0 w):VH P n l.toArray w0 (fuel+1) listed e w Q :=
 ⟨hw,fun a ha=>wpAnyH_all hc (by simp) fun k hk=>by
   rcases List.mem_cons.1 hk with rfl | hk
   ·exact hi a ha
   grind⟩
theorem vho_call{i f:Nat}{xs:List Operand}{vs:List Value}{tys:Array TypeId}[HasBody P f](hi:nthO l i=some ⟨some d,.call ⟨.value (.func f),xs.toArray,tys⟩,ty,pos,after,none⟩)
  (hx:evl e xs=some vs) (hd:Nat.blt d n=true)
  (h:Calls P f vs.toArray w (fun en w'=>∃v,en=.returned v/\VH P n l.toArray w0 fuel (listed.setIfInBounds i true) ((d,v) :: e) w' Q)):VHo P n l w0 fuel listed e w Q i:=by
 intro a ha;unfold wpOp;simp only[nthO_arr hi,Region.wanted,if_true,Oper.wp];have e1:xs.toArray.map a.eval=vs.toArray:=by rw[<- ha.evl hx]; simp
 have:(execOp a.eval ⟨some d,.call ⟨.value (.func f),xs.toArray,tys⟩,ty,pos,after,none⟩).run P w=.ok (.enter f vs.toArray) w:=by
  simp only[execOp,resolve,e1];simp[Act.eval,Deferred.ofValue,invoke,run_callFunc]
 rw[this];refine .inl (Calls.mono h ?_);rintro en w' ⟨v,rfl,hv⟩;exact⟨hv.1,hv.2 _ (ha.put d hd v)⟩
end
structure WE(g:Option Nat)(w w':World):Prop where
 os:w'.os=w.os
 tape:w'.tape=w.tape
 output:w'.output=w.output
 size:w.heap.size<=w'.heap.size
 block:∀k,k<w.heap.size->g≠some k->w'.heap[k]?=w.heap[k]?
theorem WE.of_ext{g:Option Nat}{w w':World}(h:Ext w w'):WE g w w':=⟨h.os,h.tape,h.output,h.size,fun k hk _=>h.block k hk⟩
theorem WE.of_wr{b:Nat}{w w':World}(h:Wr b w w'):WE (some b) w w':=⟨h.os,h.tape,h.output,by rw[h.size]; exact Nat.le_refl _,fun k _ hg=>h.block k (fun h'=>hg (by rw[h']))⟩
theorem WE.refl{g:Option Nat}(w:World):WE g w w:=⟨rfl,rfl,rfl,Nat.le_refl _,fun _ _ _=>rfl⟩
theorem WE.trans{g:Option Nat}{a b c:World}(h:WE g a b)(k:WE g b c):WE g a c :=
 ⟨k.os.trans h.os,k.tape.trans h.tape,k.output.trans h.output,Nat.le_trans h.size k.size,fun i hi hg=>(k.block i (Nat.lt_of_lt_of_le hi h.size) hg).trans (h.block i hi hg)⟩
theorem WE.below{g:Option Nat}{w w':World}{B:Nat}(h:WE g w w')(hg:∀k,g=some k->B<=k)(hB:B<=w.heap.size):Below B w w' :=
 ⟨h.os,h.tape,h.output,h.size,fun k hk=>h.block k (by omega) (fun e=>by grind)⟩
theorem WE.ext{w w':World}(h:WE none w w'):Ext w w':=h.below (fun _ e=>by cases e) (Nat.le_refl _)
theorem Blk.we{g:Option Nat}{w w':World}{b:Nat}{cs:List Value}{T:TypeId}(h:Blk w b cs T)(k:WE g w w')(hg:∀i,g=some i->b≠i):Blk w' b cs T:=by
 unfold Blk; rw[k.block b h.lt (fun e=>hg b e rfl)]; exact h
theorem At.we{g:Option Nat}{w w':World}{b o:Nat}{cs:List Value}(h:At w b o cs)(k:WE g w w')(hg:∀i,g=some i->b≠i):At w' b o cs:=h.same (fun hb=>k.block b hb (fun e=>hg b e rfl))
theorem SlR.we{α:Type}[Rep α]{g:Option Nat}{lo hi:Nat}{w w':World}{v:Value}{xs:List α}(h:SlR lo hi w v xs)(k:WE g w w')(hg:∀i,g=some i->i<lo∨hi<=i):SlR lo hi w' v xs :=
 h.same (fun i h1 h2 h3=>k.block i h3 (fun e=>by grind))
theorem Rep.rep.we{α:Type}[Rep α]{g:Option Nat}{lo hi:Nat}{w w':World}{cs:List Value}{x:α}(h:Rep.rep lo hi w cs x)(k:WE g w w')(hg:∀i,g=some i->i<lo∨hi<=i):Rep.rep lo hi w' cs x :=
 Rep.same h (fun i h1 h2 h3=>k.block i h3 (fun e=>by grind))
theorem Rep.rep.up{α:Type}[Rep α]{lo hi:Nat}{w w':World}{cs:List Value}{x:α}(h:Rep.rep lo hi w cs x)(k:Ext w w'):Rep.rep lo hi w' cs x:=Rep.up h k
theorem Rep.rep.wr{α:Type}[Rep α]{lo hi b:Nat}{w w':World}{cs:List Value}{x:α}(h:Rep.rep lo hi w cs x)(k:Wr b w w')(hb:b<lo∨hi<=b):Rep.rep lo hi w' cs x:=Rep.wr h k hb
theorem Rep.rep.wide{α:Type}[Rep α]{lo hi lo' hi':Nat}{w:World}{cs:List Value}{x:α}(h:Rep.rep lo hi w cs x)(h1:lo'<=lo)(h2:hi<=hi'):Rep.rep lo' hi' w cs x:=Rep.wide h h1 h2
def Own(w:World)(E:TypeId)(s:Nat)(g:Option Nat)(v:Value)(n:Nat)(cs:List Value):Prop :=
 (g=none/\n=0/\cs=[]/\∃p,v=.slice p 0 0) ∨
 ∃b o cap cur,g=some b/\v=.slice (some ⟨b,o,none⟩) n cap/\w.heap[b]?=some (.cells cur E (0,0))/\n<=cap/\cap<=maxLen/\cur.size=o+cap*s/\(cur.toList.drop o).take (n*s)=cs
theorem Own.nil{w:World}{E s:Nat}{p:Option Addr}:Own w E s none (.slice p 0 0) 0 []:=.inl ⟨rfl,rfl,rfl,p,rfl⟩
theorem Own.len{w:World}{E:TypeId}{s:Nat}{g:Option Nat}{v:Value}{n:Nat}{cs:List Value}(h:Own w E s g v n cs):∃p c,v=.slice p n c:=by
 rcases h with ⟨_,rfl,_,p,rfl⟩ | ⟨b,o,cap,cur,_,rfl,_⟩
 ·grind
 grind
theorem Own.clen{w:World}{E:TypeId}{s:Nat}{g:Option Nat}{v:Value}{n:Nat}{cs:List Value}(h:Own w E s g v n cs):cs.length=n*s:=by
 rcases h with ⟨_,rfl,rfl,_⟩ | ⟨b,o,cap,cur,_,rfl,_,h2,_,h4,rfl⟩
 ·simp
 simp_all
theorem Own.lt{w:World}{E:TypeId}{s:Nat}{g:Option Nat}{v:Value}{n:Nat}{cs:List Value}(h:Own w E s g v n cs):∀k,g=some k->k<w.heap.size:=by
 intro k hk;rcases h with ⟨rfl,_⟩ | ⟨b,o,cap,cur,rfl,rfl,h1,_⟩
 ·cases hk
 grind
theorem Own.we{g':Option Nat}{w w':World}{E:TypeId}{s:Nat}{g:Option Nat}{v:Value}{n:Nat}{cs:List Value}(h:Own w E s g v n cs)(k:WE g' w w')(hg:∀i,g'=some i->g≠some i):Own w' E s g v n cs:=by
 have hlt:=h.lt;rcases h with h | ⟨b,o,cap,cur,rfl,rfl,h1,h2⟩
 ·exact .inl h
 ·refine .inr ⟨b,o,cap,cur,rfl,rfl,?_,h2⟩;rw[k.block b (hlt b rfl) (fun e=>hg b e rfl)]; exact h1
theorem Own.up{w w':World}{E:TypeId}{s:Nat}{g:Option Nat}{v:Value}{n:Nat}{cs:List Value}(h:Own w E s g v n cs)(k:Ext w w'):Own w' E s g v n cs:=h.we (g':=none) (WE.of_ext k) (fun _ e=>by cases e)
theorem Own.wr{b:Nat}{w w':World}{E:TypeId}{s:Nat}{g:Option Nat}{v:Value}{n:Nat}{cs:List Value}(h:Own w E s g v n cs)(k:Wr b w w')(hb:g≠some b):Own w' E s g v n cs:=h.we (WE.of_wr k) (fun i e=>by grind)
theorem Own.at{w:World}{E:TypeId}{s:Nat}{b n:Nat}{v:Value}{cs:List Value}(h:Own w E s (some b) v n cs):∃o cap,v=.slice (some ⟨b,o,none⟩) n cap/\At w b o cs:=by
 rcases h with ⟨h,_⟩ | ⟨b',o,cap,cur,hb,rfl,h1,h2,h3,h4,rfl⟩
 ·cases h
 ·cases hb;refine⟨o,cap,rfl,fun i u hu=>?_⟩;unfold World.cell?
  grind
section
variable {P:Program} {n:Nat} {e:Env} {w:World} {Q:Exit->Act->World->Prop} {ops:Array Oper} {rest:List Oper}
 {d:Nat} {ty:TypeId} {pos:String} {after:Array Edge}
theorem run_app{T E s y:Nat}{z:Value}[hT:SliceOf P T E][i:Info P E s y z](_:0<s)(hz:z.cells.size=s){g:Option Nat}{v:Value}{len m c b2 o2:Nat}{p2:Option Addr}{cs news:List Value}(h:Own w E s g v len cs)
  (hp:m=0∨p2=some ⟨b2,o2,none⟩) (hl:news.length=m*s) (hA:At w b2 o2 news) (h1:∀u∈news,u.oneCell'=true) (h63:len+m<=9223372036854775807) (hb:(len+m)*y<=140737488355328) :
  ∃v' w' g',(Builtin.append_ #[T,T] ty #[v,.slice p2 m c]).run P w=.ok v' w'/\Own w' E s g' v' (len+m) (cs++news)/\WE g w w'/\(g'=g∨g'=some w.heap.size):=by
 obtain⟨inf,hinfo,h2,h3,h4⟩:=i.get;by_cases hm:m=0
 ·subst hm;have hn:news=[]:=List.eq_nil_of_length_eq_zero (by omega);subst hn;have hcap:∃p cap,v=.slice p len cap/\len<=cap:=by
   rcases h with ⟨_,rfl,_,p,rfl⟩ | ⟨b,o,cap,cur,_,rfl,_,h2,_⟩
   ·grind
   ·grind
  obtain⟨p,cap,rfl,hle⟩:=hcap;refine⟨_,w,g,?_,by simpa using h,WE.refl _,.inl rfl⟩;cases p <;> cases p2 <;> simp[Builtin.append_,run_underlying hT.h,sizeOf,typeInfo,hinfo,Builtin.lenOf,Builtin.firstCells,loadCells,loadCellsFrom,storeCells,hle]
 ·rcases hp with hp | rfl
  ·exact(hm hp).elim
  have hcell:∀j u,news[j]?=some u->w.cell? ((⟨b2,o2,none⟩:Addr).add j)=some u:=fun j u hj=>by
   have hadd:(Addr.mk b2 o2 none).add j=⟨b2,o2+j,none⟩:=by unfold Addr.add; split <;> simp_all
   rw[hadd]; exact hA j u hj
  have hbytes:m*inf.bytes<=140737488355328:=by
   rw[h3];exact Nat.le_trans (Nat.mul_le_mul_right y (Nat.le_add_left m len)) hb
  have grown:∀old,Own (w.drew.alloc (.cells (cs.toArray++news.toArray++Builtin.zeroCells z.cells (grownCap w (len+m) old E-(len+m))) E)) E s (some w.heap.size) (.slice (some ⟨w.heap.size,0,none⟩) (len+m) (grownCap w (len+m) old E)) (len+m) (cs++news):=fun old=>by
   have hge:=grownCap_ge w (len+m) old E;have hcl:=h.clen;refine .inr ⟨w.heap.size,0,_,_,rfl,rfl,_root_.Go.heap_alloc_new w.drew _,hge,grownCap_le_maxLen w (len+m) old E (by grind[maxLen]),?_,?_⟩
   ·simp only[Array.size_append,List.size_toArray,size_zeroCells,hz,hl,hcl,<- Nat.add_mul,Nat.zero_add]
    grind
   grind[Array.toList_append,List.length_append,Nat.add_mul,List.take_left]
  have hwe:∀(g:Option Nat) old,WE g w (w.drew.alloc (.cells (cs.toArray++news.toArray++Builtin.zeroCells z.cells (grownCap w (len+m) old E-(len+m))) E)):=fun g old=>⟨rfl,rfl,rfl,by simp,fun k hk _=>_root_.Go.heap_alloc_old w.drew _ hk⟩;have hcl:=h.clen;rcases h with ⟨rfl,rfl,rfl,p,rfl⟩ | ⟨b,o,cap,cur,rfl,rfl,g1,g2,g3,g4,g5⟩
  ·have g:=grown 0;have hw:=hwe none 0;simp only[Nat.zero_add,List.nil_append,Array.empty_append] at g hw;cases p with
   | none =>
     have hr:=run_append_nil (P:=P) w T ty E inf z hT.h hinfo h4 ⟨b2,o2,none⟩ m c news (by grind) hcell (by omega) (by omega) (by omega);exact⟨_,_,_,hr,by simpa using g,hw,.inr rfl⟩
   | some a0 =>
     have hr:=run_append_grow (P:=P) w T ty E inf z hT.h hinfo h4 a0 0 0 [] (by simp) (fun j v hj=>by grind) ⟨b2,o2,none⟩ m c news (by grind) hcell (by omega) (by omega) (growslice_fits (by omega) (by grind));simp only[Nat.zero_add,Array.empty_append] at hr;exact⟨_,_,_,hr,by simpa using g,hw,.inr rfl⟩
  ·by_cases hroom:len+m<=cap
   ·have hfit:o+len*s+news.length<=cur.size:=by
     have:=Nat.mul_le_mul_right s hroom;rw[Nat.add_mul] at this;rw[hl,g4]; omega
    have hf:=run_firstCells_some (P:=P) w inf.size m ⟨b2,o2,none⟩ m c news (by grind) hcell;have hst:=run_storeCells_at P b (o+len*s) E news 0 cur w g1 (by omega) h1;simp only[Nat.add_zero] at hst;have hr:(Builtin.append_ #[T,T] ty #[.slice (some ⟨b,o,none⟩) len cap,.slice (some ⟨b2,o2,none⟩) m c]).run P w=.ok (.slice (some ⟨b,o,none⟩) (len+m) cap) (w.setRow b (cur.toList.take (o+len*s)++news++cur.toList.drop (o+len*s+news.length)).toArray):=by
     rw[h2] at hf;simp[Builtin.append_,run_underlying hT.h,sizeOf,typeInfo,hinfo,Builtin.lenOf,hroom,hf,Addr.add_lit,hst,h2]
    refine⟨_,_,some b,hr,.inr ⟨b,o,cap,_,rfl,rfl,setRow_heap w b cur _ E _ g1,hroom,g3,?_,?_⟩,⟨rfl,rfl,rfl,by simp[World.setRow],fun k _ hk=>heap_setRow_other w b k _ (fun e=>hk (by rw[e]))⟩,.inl rfl⟩
    ·simp only[List.size_toArray,List.length_append,List.length_take,List.length_drop,Array.length_toList];omega
    ·show(List.drop o (cur.toList.take (o+len*s)++news++cur.toList.drop (o+len*s+news.length))).take ((len+m)*s)=cs++news;have e1:(cur.toList.take (o+len*s)).length=o+len*s:=by rw[List.length_take,Array.length_toList]; omega
     rw[List.append_assoc,List.drop_append_of_le_length (by omega),List.drop_take,show o+len*s-o=len*s by omega,g5,<- List.append_assoc];rw[show(len+m)*s=(cs++news).length by rw[List.length_append,hcl,hl,Nat.add_mul]];exact List.take_left
   ·have holds:∀j u,cs[j]?=some u->w.cell? ((⟨b,o,none⟩:Addr).add j)=some u:=fun j u hu=>by
     have hadd:(Addr.mk b o none).add j=⟨b,o+j,none⟩:=by unfold Addr.add; split <;> simp_all
     rw[hadd];obtain⟨o0,c0,e0,hat⟩:=Own.at (.inr ⟨b,o,cap,cur,rfl,rfl,g1,g2,g3,g4,g5⟩:Own w E s (some b) (.slice (some ⟨b,o,none⟩) len cap) len cs);cases e0;exact hat j u hu
    have hr:=run_append_grow (P:=P) w T ty E inf z hT.h hinfo h4 ⟨b,o,none⟩ len cap cs (by grind) holds ⟨b2,o2,none⟩ m c news (by grind) hcell (by omega) (by omega) (growslice_fits (by omega) (by grind))
    grind
theorem vo_append{T E s y:Nat}{z:Value}{x x2:Operand}[SliceOf P T E][Info P E s y z]{g:Option Nat}{v:Value}{len m c b2 o2:Nat}{p2:Option Addr}{cs news:List Value}(hx:ev e x=some v)(hx2:ev e x2=some (.slice p2 m c))(hd:Nat.blt d n=true)(hs:Nat.blt 0 s=true)(hz:Nat.beq z.cells.size s=true)
  (h:Own w E s g v len cs) (hp:m=0∨p2=some ⟨b2,o2,none⟩) (hl:news.length=m*s) (hA:At w b2 o2 news) (h1:ones news=true) (h63:len+m<=9223372036854775807) (hb:(len+m)*y<=140737488355328)
  (k:∀v' w' g',Own w' E s g' v' (len+m) (cs++news)->WE g w w'->(g'=g∨g'=some w.heap.size)->VO P n ops rest ((d,v') :: e) w' Q) :
  VO P n ops (⟨some d,.call ⟨.builtin .append,[x,x2].toArray,#[T,T]⟩,ty,pos,after,none⟩ :: rest) e w Q:=by
 obtain⟨v',w',g',hr,ho,hw,hg⟩:=run_app (P:=P) (ty:=ty) (T:=T) (E:=E) (c:=c) (w:=w) (by simp_all) (nb hz) h hp hl hA (ones_mem h1) h63 hb;refine vo_val v' ?_ hd (k v' w' g' ho hw hg);intro a dst pos after gd ha;have e1:([x,x2].toArray.map a.eval)=#[v,.slice p2 m c]:=by simp[ha.ev hx,ha.ev hx2]
 simp only[execOp,resolve,e1];simp[invoke,builtin,hr,Result.andThen]
theorem runs_nilCheck{x:Operand}{ad:Addr}(hx:ev e x=some (.pointer (some ad))):RunsOp P n e (.nilCheck x) ty w (.pointer (some ad)) w:=by
 intro a dst pos after g ha;simp only[execOp,ha.ev hx];simp
end
end Go.Proofs.Sv
end
section
namespace Go.Proofs.Xv
open Go Go.RowKit Go.Proofs.Sv
inductive Ty
 | int (k:IntKind) | bool | str | sl (e:Ty) | pt (e:Ty) | pr (a b:Ty)
 deriving DecidableEq
@[reducible] def den:Ty->Type
  | .int _=>Int
  | .bool=>Bool
  | .str=>ByteArray
  | .sl e=>List (den e)
  | .pt e=>den e
  | .pr a b=>den a×den b
def sz:Ty->Nat
 | .pr a b=>sz a+sz b
 | _=>1
theorem sz_pos:∀t,0<sz t
 | .int _ | .bool | .str | .sl _ | .pt _=>Nat.one_pos
 | .pr a b=>by have:=sz_pos a; grind[sz]
def dflt:(t:Ty)->den t
 | .int _=>(0:Int)
 | .bool=>false
 | .str=>(⟨#[]⟩:ByteArray)
 | .sl _=>[]
 | .pt e=>dflt e
 | .pr a b=>(dflt a,dflt b)
def lo:IntKind->Int
 | .i8 => -128 | .i16 => -32768 | .i32 => -2147483648 | .i64 => -9223372036854775808 | _=>0
def hi:IntKind->Int
 | .i8=>127 | .i16=>32767 | .i32=>2147483647 | .i64=>9223372036854775807 | .u8=>255 | .u16=>65535 | .u32=>4294967295 | .u64=>18446744073709551615
def wf:(t:Ty)->den t->Prop
 | .int k,x=>lo k<=x/\x<=hi k
 | .bool,_=>True
 | .str,s=>s.size<=9223372036854775807
 | .sl e,xs=>xs.length<=9223372036854775807/\∀x∈xs,wf e x
 | .pt e,x=>wf e x
 | .pr a b,x=>wf a x.1/\wf b x.2
def UF(w:World)(k:Nat):Prop:=∃c T,w.heap[k]?=some (.cells c T (0,0))
theorem UF.lt{w:World}{k:Nat}(h:UF w k):k<w.heap.size:=by
 obtain⟨c,T,h⟩:=h
 grind
theorem UF.same{w w':World}{k:Nat}(h:UF w k)(e:w'.heap[k]?=w.heap[k]?):UF w' k:=by
 obtain⟨c,T,h⟩:=h;exact⟨c,T,e.trans h⟩
def UFg(w:World)(n k:Nat):Prop:=k<w.heap.size/\(n<=k->UF w k)
theorem UFg.lt{w:World}{n k:Nat}(h:UFg w n k):k<w.heap.size:=h.1
theorem UFg.same{w w':World}{n k:Nat}(h:UFg w n k)(hs:w.heap.size<=w'.heap.size)(e:w'.heap[k]?=w.heap[k]?):UFg w' n k:=⟨Nat.lt_of_lt_of_le h.1 hs,fun hn=>(h.2 hn).same e⟩
theorem UF.g{w:World}{n k:Nat}(h:UF w k):UFg w n k:=⟨h.lt,fun _=>h⟩
theorem own_uf{w:World}{E s:Nat}{b:Nat}{v:Value}{n:Nat}{cs:List Value}(h:Own w E s (some b) v n cs):UF w b:=by
 rcases h with ⟨h,_⟩ | ⟨b',o,cap,cur,hb,_,h,_⟩
 ·cases h
 ·cases hb; exact⟨_,_,h⟩
theorem blk_uf{w:World}{b:Nat}{cs:List Value}{T:TypeId}(h:Blk w b cs T):UF w b:=⟨_,_,h⟩
def AllR{α:Type}(R:List Value->α->Prop):List Value->List α->Prop
 | cs,[]=>cs=[]
 | cs,x :: r=>∃c d,cs=c++d/\R c x/\AllR R d r
def RT(K:Nat->Prop)(w:World):(t:Ty)->List Value->den t->Prop
 | .int k,cs,x=>cs=[.int k x]/\(lo k<=x/\x<=hi k)
 | .bool,cs,x=>cs=[.bool x]
 | .str,cs,s=>cs=[.string s]/\s.size<=9223372036854775807
 | .sl e,cs,xs=>∃p cap,cs=[.slice p xs.length cap]/\xs.length<=cap/\cap<=9223372036854775807 /\
    (xs=[]∨∃b o ds,p=some ⟨b,o,none⟩/\K b/\At w b o ds/\AllR (RT K w e) ds xs)
 | .pt e,cs,x=>∃b o ds,cs=[.pointer (some ⟨b,o,none⟩)]/\K b/\At w b o ds/\RT K w e ds x
 | .pr a b,cs,x=>∃c d,cs=c++d/\RT K w a c x.1/\RT K w b d x.2
theorem AllR.mapR{α:Type}{R R':List Value->α->Prop}(h:∀c x,R c x->R' c x):∀{cs:List Value} {xs:List α},AllR R cs xs->AllR R' cs xs
 | _,[],k=>k
 | _,_ :: _,⟨c,d,e,k1,k2⟩=>⟨c,d,e,h _ _ k1,AllR.mapR h k2⟩
theorem AllR.mem{α:Type}{R:List Value->α->Prop}:∀{cs:List Value} {xs:List α},AllR R cs xs->∀x∈xs,∃c,R c x
 | _,[],_,x,hx=>by cases hx
 | _,_ :: _,⟨c,d,e,k1,k2⟩,x,hx=>by
   rcases List.mem_cons.1 hx with rfl | hx
   ·grind
   ·exact AllR.mem k2 x hx
theorem AllR.len{α:Type}{R:List Value->α->Prop}{s:Nat}(hR:∀c x,R c x->c.length=s):∀{cs:List Value} {xs:List α},AllR R cs xs->cs.length=xs.length*s
 | cs,[],h=>by rw[show cs=[] from h]; simp
 | cs,x :: r,⟨c,d,e,k1,k2⟩=>by
   subst e;rw[List.length_append,hR _ _ k1,AllR.len hR k2,List.length_cons,Nat.add_mul]; omega
theorem AllR.app{α:Type}{R:List Value->α->Prop}{ds:List Value}{ys:List α}(k:AllR R ds ys):∀{cs:List Value} {xs:List α},AllR R cs xs->AllR R (cs++ds) (xs++ys)
 | cs,[],h=>by rw[show cs=[] from h]; exact k
 | _,_ :: _,⟨c,d,e,h1,h2⟩=>⟨c,d++ds,by rw[e]; simp,h1,AllR.app k h2⟩
theorem AllR.one{α:Type}{R:List Value->α->Prop}{c:List Value}{x:α}(h:R c x):AllR R c [x]:=⟨c,[],by simp,h,rfl⟩
theorem AllR.get{α:Type}{R:List Value->α->Prop}{s:Nat}(hR:∀c x,R c x->c.length=s):∀{cs:List Value} {xs:List α} {i:Nat} (_:AllR R cs xs) (hi:i<xs.length),
  ∃pre c post,cs=pre++c++post/\pre.length=i*s/\R c xs[i]
 | _,x :: r,0,⟨c,d,e,h1,h2⟩,_=>⟨[],c,d,by simp[e],by simp,h1⟩
 | _,x :: r,i+1,⟨c,d,e,h1,h2⟩,hi=>by
   obtain⟨pre,c',post,e',h3,h4⟩:=AllR.get hR h2 (i:=i) (by grind)
   grind
theorem AllR.set{α:Type}{R:List Value->α->Prop}{s:Nat}(hR:∀c x,R c x->c.length=s){c':List Value}{y:α}(hy:R c' y):∀{cs:List Value} {xs:List α} {i:Nat} (_:AllR R cs xs) (_:i<xs.length),
  AllR R (cs.take (i*s)++c'++cs.drop ((i+1)*s)) (xs.set i y)
 | _,x :: r,0,⟨c,d,e,h1,h2⟩,_=>by
   subst e;refine⟨c',d,?_,hy,h2⟩
   grind
 | _,x :: r,i+1,⟨c,d,e,h1,h2⟩,hi=>by
   subst e;have hl:=hR _ _ h1;refine⟨c,d.take (i*s)++c'++d.drop ((i+1)*s),?_,h1,AllR.set hR hy h2 (by simpa using hi)⟩;have e1:(i+1)*s=c.length+i*s:=by rw[hl,Nat.add_mul]; omega
   have e2:(i+1+1)*s=c.length+(i+1)*s:=by rw[hl,Nat.add_mul (i+1)]; omega
   rw[e2,List.drop_length_add_append,e1,List.take_length_add_append];simp
theorem RT.len{K:Nat->Prop}{w:World}:∀{t:Ty} {cs:List Value} {x:den t},RT K w t cs x->cs.length=sz t
 | .int _,_,_,h=>by rw[h.1]; rfl
 | .bool,_,_,h=>by rw[show _=_ from h]; rfl
 | .str,_,_,h=>by rw[h.1]; rfl
 | .sl _,_,_,⟨_,_,h,_⟩=>by rw[h]; rfl
 | .pt _,_,_,⟨_,_,_,h,_⟩=>by rw[h]; rfl
 | .pr a b,_,_,⟨c,d,h,h1,h2⟩=>by rw[h,List.length_append,RT.len h1,RT.len h2]; rfl
theorem RT.same{K K':Nat->Prop}{w w':World}(hK:∀k,K k->k<w.heap.size->K' k/\w'.heap[k]?=w.heap[k]?):∀{t:Ty} {cs:List Value} {x:den t},RT K w t cs x->RT K' w' t cs x
 | .int _,_,_,h=>h
 | .bool,_,_,h=>h
 | .str,_,_,h=>h
 | .sl e,_,xs,⟨p,cap,h1,h2,h3,h4⟩=>by
   refine⟨p,cap,h1,h2,h3,?_⟩;rcases h4 with h4 | ⟨b,o,ds,hp,hb,hat,hall⟩
   ·grind
   ·rcases Nat.eq_zero_or_pos ds.length with hz | hz
    ·left;have:=hall.len (fun c x h=>RT.len h)
     grind[Nat.mul_eq_zero,List.eq_nil_of_length_eq_zero,sz_pos]
    ·have hlt:=hat.lt hz;exact .inr ⟨b,o,ds,hp,(hK b hb hlt).1,hat.same (fun _=>(hK b hb hlt).2),hall.mapR (fun c x h=>RT.same hK h)⟩
 | .pt e,_,x,⟨b,o,ds,h1,hb,hat,h2⟩=>by
   have hz:0<ds.length:=by rw[RT.len h2]; exact sz_pos e
   have hlt:=hat.lt hz;exact⟨b,o,ds,h1,(hK b hb hlt).1,hat.same (fun _=>(hK b hb hlt).2),RT.same hK h2⟩
 | .pr a b,_,x,⟨c,d,h,h1,h2⟩=>⟨c,d,h,RT.same hK h1,RT.same hK h2⟩
def kfree:Ty->Bool
 | .int _ | .bool | .str=>true
 | .sl _ | .pt _=>false
 | .pr a b=>kfree a&&kfree b
theorem RT.free{K K':Nat->Prop}{w w':World}:∀{t:Ty} {cs:List Value} {x:den t},kfree t=true->RT K w t cs x->RT K' w' t cs x
 | .int _,_,_,_,h=>h
 | .bool,_,_,_,h=>h
 | .str,_,_,_,h=>h
 | .pr a b,_,x,hk,⟨c,d,h,h1,h2⟩=>by
   simp only[kfree,ba] at hk;exact⟨c,d,h,RT.free hk.1 h1,RT.free hk.2 h2⟩
theorem RT.up{K K':Nat->Prop}{w:World}{t:Ty}{cs:List Value}{x:den t}(h:RT K w t cs x)(hK:∀k,K k->K' k):RT K' w t cs x:=RT.same (fun k hk _=>⟨hK k hk,rfl⟩) h
theorem RT.wf{K:Nat->Prop}{w:World}:∀{t:Ty} {cs:List Value} {x:den t},RT K w t cs x->Xv.wf t x
 | .int _,_,_,h=>h.2
 | .bool,_,_,_=>trivial
 | .str,_,_,h=>h.2
 | .sl e,_,xs,⟨p,cap,h1,h2,h3,h4⟩=>by
   refine⟨by omega,fun x hx=>?_⟩;rcases h4 with rfl | ⟨b,o,ds,hp,hb,hat,hall⟩
   ·cases hx
   ·obtain⟨c,hc⟩:=hall.mem x hx;exact RT.wf hc
 | .pt e,_,x,⟨b,o,ds,h1,hb,hat,h2⟩=>RT.wf (t:=e) h2
 | .pr a b,_,x,⟨c,d,h,h1,h2⟩=>⟨RT.wf h1,RT.wf h2⟩
theorem RT.one{K:Nat->Prop}{w:World}:∀{t:Ty} {cs:List Value} {x:den t},RT K w t cs x->∀u∈cs,u.oneCell'=true
 | .int _,_,_,h,u,hu=>by rw[h.1] at hu; cases List.mem_singleton.1 hu; rfl
 | .bool,_,_,h,u,hu=>by rw[show _=_ from h] at hu; cases List.mem_singleton.1 hu; rfl
 | .str,_,_,h,u,hu=>by rw[h.1] at hu; cases List.mem_singleton.1 hu; rfl
 | .sl _,_,_,⟨_,_,h,_⟩,u,hu=>by rw[h] at hu; cases List.mem_singleton.1 hu; rfl
 | .pt _,_,_,⟨_,_,_,h,_⟩,u,hu=>by rw[h] at hu; cases List.mem_singleton.1 hu; rfl
 | .pr a b,_,_,⟨c,d,h,h1,h2⟩,u,hu=>by
   rw[h] at hu;rcases List.mem_append.1 hu with hu | hu
   ·exact RT.one h1 u hu
   ·exact RT.one h2 u hu
theorem RT.get{K:Nat->Prop}{w:World}{e:Ty}{p:Option Addr}{n cap:Nat}{xs:List (den e)}(h:RT K w (.sl e) [.slice p n cap] xs){i:Nat}(hi:i<xs.length) :
  n=xs.length/\∃b o c,p=some ⟨b,o,none⟩/\K b/\At w b (o+i*sz e) c/\RT K w e c xs[i]:=by
 obtain⟨p',cap',h1,h2,h3,h4⟩:=h;simp only[List.cons.injEq,Value.slice.injEq,and_true] at h1;obtain⟨rfl,rfl,rfl⟩:=h1;refine⟨rfl,?_⟩;rcases h4 with h4 | ⟨b,o,ds,hp,hb,hat,hall⟩
 ·grind
 ·obtain⟨pre,c,post,rfl,h5,h6⟩:=hall.get (fun c x h=>RT.len h) hi;refine⟨b,o,c,hp,hb,?_,h6⟩;rw[<- h5]; exact hat.mid
structure Fac(P:Program)(W:World):Prop where
 pow : ∀ g, P.globalNamed "internal/strconv.uint64pow10" = some g → Lib.TabIs P W "internal/strconv.uint64pow10" .u64 Lib.pow10Tab
 err : ∀ g, P.globalNamed "strconv.ErrSyntax" = some g → ∃ e, W.cell? ⟨g, 0, none⟩ = some e ∧ (e = .nilIface ∨ ∃ u v, e = .iface u v)
 rng : ∀ g, P.globalNamed "strconv.ErrRange" = some g → ∃ e, W.cell? ⟨g, 0, none⟩ = some e ∧ (e = .nilIface ∨ ∃ u v, e = .iface u v)
 mx : ∀ f g, P.funcNamed "strings.Split" = some f → P.globalNamed "internal/bytealg.MaxLen" = some g → ∃ m, W.cell? ⟨g, 0, none⟩ = some (.int .i64 m)
theorem cell_up{W W':World}(k:Ext W W'){g:Nat}{v:Value}(h:W.cell? ⟨g,0,none⟩=some v):W'.cell? ⟨g,0,none⟩=some v:=by
 rw[<- h]; exact World.cell?_of_block (w:=W) (k.block g (World.block_lt_of_cell? W _ h))
theorem tab_up{P:Program}{W W':World}{name:String}{k:IntKind}{zs:List Int}(h:Lib.TabIs P W name k zs)(hb:Ext W W'):Lib.TabIs P W' name k zs:=by
 unfold Lib.TabIs World.var? at *
 cases hg:P.globalNamed name with
 | none=>simp[hg] at h
 | some g =>
   simp only[hg,Option.bind_some] at h ⊢;have hlt:g<W.heap.size:=by
    rcases Nat.lt_or_ge g W.heap.size with h' | h'
    ·exact h'
    ·rw[Array.getElem?_eq_none h'] at h; simp at h
   rw[hb.block g hlt];exact h
theorem Fac.up{P:Program}{W W':World}(h:Fac P W)(k:Ext W W'):Fac P W' :=
 ⟨fun g e=>tab_up (h.pow g e) k,fun g e=>by obtain⟨u,hv,hu⟩:=h.err g e; exact⟨u,cell_up k hv,hu⟩,fun g e=>by obtain⟨u,hv,hu⟩:=h.rng g e; exact⟨u,cell_up k hv,hu⟩,fun f g e' e=>by obtain⟨u,hv⟩:=h.mx f g e' e; exact⟨u,cell_up k hv⟩⟩
def WK(P:Program)(w:World)(io:Nat->Prop):Prop:=∃W0:World,Fac P W0/\Ext W0 w/\∀k,io k->W0.heap.size<=k
theorem WK.fac{P:Program}{w:World}{io:Nat->Prop}:WK P w io->Fac P w:=fun⟨_,h,k,_⟩=>h.up k
theorem WK.sub{P:Program}{w:World}{io io':Nat->Prop}(hs:∀k,io' k->io k):WK P w io->WK P w io':=fun⟨W0,h,k,l⟩=>⟨W0,h,k,fun i hi=>l i (hs i hi)⟩
inductive AV
 | v (x:Value)
 | d (fr:Bool) (t:Ty) (x:den t)
 | agg (xs:List AV)
 | tup (xs:List AV)
 | ptr (id off:Nat)
 | pel (id ver k s off:Nat)
 | os (id ver:Nat)
 | fn (f:FuncId) (caps:List AV)
 | ow (T:TypeId) (fr:Bool) (t:Ty) (xs:List (den t))
 | gel (id k:Nat)
 | og (id:Nat)
 | ob (T:TypeId) (cs:List AV)
inductive Ob
 | box (T:TypeId) (cs:List AV)
 | arr (T:TypeId) (fr:Bool) (t:Ty) (xs:List (den t)) (ver:Nat)
 | grd (T Te:TypeId) (fr:Bool) (t:Ty) (xs:List (List (den t))) (hole:Option Nat)
def lku{β:Type}:List (Nat×β)->Nat->Option β
 | [],_=>none
 | (d,v) :: e,t=>bif Nat.beq d t then some v else lku e t
theorem lK{β:Type}(d:Nat)(v:β)(e:List (Nat×β))(t:Nat):lku ((d,v) :: e) t=if d=t then some v else lku e t:=by
 show(bif Nat.beq d t then some v else lku e t)=_
 simp_all
structure Gh where
 ρ:Nat->Value
 γ:Nat->Option Nat
 K:Nat->Prop
 w:World
 o:List (Nat×Ob)
 B:Nat
 δ:Nat->Nat->Prop
def rg(G:Gh)(fr:Bool)(k:Nat):Prop:=G.K k/\(fr=true->G.B<=k)
mutual
def AVR(G:Gh):AV->Value->Prop
 | .v x,u=>u=x
 | .d fr t x,u=>RT (rg G fr) G.w t [u] x
 | .agg xs,u=>∃us:List Value,u=.agg us.toArray/\AVRs G xs us
 | .tup xs,u=>∃us:List Value,u=.tuple us.toArray/\AVRs G xs us
 | .ptr id off,u=>(∃T cs,lku G.o id=some (.box T cs))/\∃b,G.ρ id=.pointer (some ⟨b,0,none⟩)/\u=.pointer (some ⟨b,off,none⟩)
 | .pel id ver k s off,u=>u.oneCell'=true/\∃T fr t xs ver',lku G.o id=some (.arr T fr t xs ver')/\ver<=ver'/\(ver=ver'->∃b o n c,G.ρ id=.slice (some ⟨b,o,none⟩) n c/\u=.pointer (some ⟨b,o+(k*s+off),none⟩))
 | .os id ver,u=>u.oneCell'=true/\∃T fr t xs ver',lku G.o id=some (.arr T fr t xs ver')/\ver<=ver'/\(ver=ver'->u=G.ρ id)
 | .fn f caps,u=>∃us:List Value,u=.func (.func f) #[] us.toArray/\AVRs G caps us
 | .ow ..,_=>False
 | .ob ..,_=>False
 | .gel id k,u=>(∃T Te fr t xs hole,lku G.o id=some (.grd T Te fr t xs hole))/\∃b o n c,G.ρ id=.slice (some ⟨b,o,none⟩) n c/\u=.pointer (some ⟨b,o+k,none⟩)
 | .og id,u=>u.oneCell'=true/\(∃T Te fr t xs hole,lku G.o id=some (.grd T Te fr t xs hole))/\u=G.ρ id
def AVRs(G:Gh):List AV->List Value->Prop
 | [],us=>us=[]
 | a :: r,us=>∃u us',us=u :: us'/\AVR G a u/\AVRs G r us'
end
theorem AVRs.len{G:Gh}:∀{as:List AV} {us:List Value},AVRs G as us->us.length=as.length
 | [],us,h=>by rw[show us=[] from h]; rfl
 | a :: r,us,⟨u,us',e,_,h⟩=>by rw[e]; simp[AVRs.len h]
theorem AVRs.app{G:Gh}{bs:List AV}{vs:List Value}(k:AVRs G bs vs):∀{as:List AV} {us:List Value},AVRs G as us->AVRs G (as++bs) (us++vs)
 | [],us,h=>by rw[show us=[] from h]; exact k
 | a :: r,us,⟨u,us',e,h1,h2⟩=>⟨u,us'++vs,by rw[e]; rfl,h1,AVRs.app k h2⟩
theorem AVRs.split{G:Gh}{bs:List AV}:∀{as:List AV} {us:List Value},AVRs G (as++bs) us->∃us1 us2,us=us1++us2/\AVRs G as us1/\AVRs G bs us2
 | [],us,h=>⟨[],us,rfl,rfl,h⟩
 | a :: r,us,⟨u,us',e,h1,h2⟩=>by
   obtain⟨a1,a2,e',h3,h4⟩:=AVRs.split h2;exact⟨u :: a1,a2,by grind,⟨u,a1,rfl,h1,h3⟩,h4⟩
theorem AVRs.take{G:Gh}{as:List AV}{us:List Value}(h:AVRs G as us)(k:Nat):AVRs G (as.take k) (us.take k)/\AVRs G (as.drop k) (us.drop k):=by
 rw[<- List.take_append_drop k as] at h;obtain⟨a1,a2,e,h1,h2⟩:=h.split;have hl:=h1.len;have hl2:=h2.len
 grind[List.length_take,List.drop_eq_nil_of_le,List.take_of_length_le]
theorem AVRs.get{G:Gh}:∀{as:List AV} {us:List Value} {i:Nat} {a:AV},AVRs G as us->as[i]?=some a->∃u,us[i]?=some u/\AVR G a u
 | a :: r,us,0,x,⟨u,us',e,h1,h2⟩,hx=>by
   grind
 | a :: r,us,i+1,x,⟨u,us',e,h1,h2⟩,hx=>by
   obtain⟨v,hv,hr⟩:=AVRs.get h2 (i:=i) (by simpa using hx)
   grind
def oneA:AV->Bool
 | .v x=>x.oneCell'
 | .d _ t _=>match t with | .pr _ _=>false | _=>true
 | .agg _ | .tup _ | .ow .. | .ob ..=>false
 | _=>true
theorem AVR.one{G:Gh}:∀{a:AV} {u:Value},AVR G a u->oneA a=true->u.oneCell'=true
 | .v x,u,h,ho=>by rw[show u=x from h]; exact ho
 | .d _ t x,u,h,_=>RT.one h u (List.mem_singleton.2 rfl)
 | .ptr _ _,u,⟨_,_,_,h⟩,_=>by rw[h]; rfl
 | .pel ..,u,h,_=>h.1
 | .os ..,u,h,_=>h.1
 | .fn ..,u,⟨_,h,_⟩,_=>by rw[h]; rfl
 | .gel ..,u,⟨_,_,_,_,_,_,h⟩,_=>by rw[h]; rfl
 | .og ..,u,h,_=>h.1
 | .ow ..,_,h,_=>h.elim
 | .ob ..,_,h,_=>h.elim
structure Rows(G:Gh)(id:Nat)(Te:TypeId)(fr:Bool)(t:Ty)(xs:List (List (den t)))(hole:Option Nat)(vs:List Value)(bs:Nat->Option Nat):Prop where
 len:vs.length=xs.length
 blk:∀b,G.δ id b↔∃k,k<xs.length/\hole≠some k/\bs k=some b
 inj:∀k k' b,k<xs.length->k'<xs.length->hole≠some k->hole≠some k'->bs k=some b->bs k'=some b->k=k'
 row:∀k,k<xs.length->hole≠some k->∃cs,Own G.w Te (sz t) (bs k) (vs.getD k (.bool false)) (xs.getD k []).length cs/\AllR (RT (rg G fr) G.w t) cs (xs.getD k [])/\∀b,bs k=some b->G.B<=b
 one:∀v∈vs,v.oneCell'=true
def ObR(G:Gh)(id:Nat):Ob->Prop
 | .box T cs=>∃b us,G.γ id=some b/\G.ρ id=.pointer (some ⟨b,0,none⟩)/\Blk G.w b us T/\AVRs G cs us
 | .arr T fr t xs _=>∃cs,Own G.w T (sz t) (G.γ id) (G.ρ id) xs.length cs/\AllR (RT (rg G fr) G.w t) cs xs/\∀b,G.γ id=some b->G.B<=b
 | .grd T Te fr t xs hole=>∃vs bs,Own G.w T 1 (G.γ id) (G.ρ id) xs.length vs/\Rows G id Te fr t xs hole vs bs/\∀b,G.γ id=some b->G.B<=b
def isGrd:Option Ob->Bool
 | some (.grd ..)=>true
 | _=>false
structure Cx where
 P:Program
 n:Nat
 w0:World
 io:Nat->Prop
 K0:Nat->Prop
 pin:Nat->Value->Prop
 base:Nat
structure Sat(X:Cx)(G:Gh):Prop where
 base:G.B=X.base/\X.base<=X.w0.heap.size/\WK X.P X.w0 X.io
 os:G.w.os=X.w0.os
 tape:G.w.tape=X.w0.tape
 output:G.w.output=X.w0.output
 size:X.w0.heap.size<=G.w.heap.size
 block:∀k,k<X.w0.heap.size->¬X.io k->G.w.heap[k]?=X.w0.heap[k]?
 obs:∀id o,lku G.o id=some o->ObR G id o
 inj:∀id id' o o' b,lku G.o id=some o->lku G.o id'=some o'->G.γ id=some b->G.γ id'=some b->id=id'
 imm:∀id o b,lku G.o id=some o->G.γ id=some b->¬G.K b
 own:∀id o b,lku G.o id=some o->G.γ id=some b->X.w0.heap.size<=b∨X.io b
 klt:∀k,G.K k->UFg G.w X.w0.heap.size k
 kfrom:∀k,G.K k->X.K0 k∨X.base<=k
 sep:∀id b,G.δ id b->isGrd (lku G.o id)=true->(X.w0.heap.size<=b∨X.io b)/\¬G.K b/\(∀i o,lku G.o i=some o->G.γ i≠some b)/\∀i,G.δ i b->isGrd (lku G.o i)=true->id=i
 pin:∀i v,X.pin i v->AVR G (.ptr (500000+i) 0) v
theorem Sat.le{X:Cx}{G:Gh}(S:Sat X G):G.B<=X.w0.heap.size:=by
 rw[S.base.1]; exact S.base.2.1
theorem Sat.wk{X:Cx}{G:Gh}(S:Sat X G):WK X.P G.w (fun k=>X.w0.heap.size<=k∨X.io k):=by
 obtain⟨W0,h,k,l⟩:=S.base.2.2;refine⟨W0,h,⟨S.os.trans k.os,S.tape.trans k.tape,S.output.trans k.output,Nat.le_trans k.size S.size,fun i hi=>?_⟩,fun i hi=>?_⟩
 ·exact(S.block i (Nat.lt_of_lt_of_le hi k.size) (fun e=>absurd (l i e) (Nat.not_le.2 hi))).trans (k.block i hi)
 ·rcases hi with hi | hi
  ·exact Nat.le_trans k.size hi
  ·exact l i hi
structure GLe(G G':Gh):Prop where
 hB:G'.B=G.B
 hK:∀k,G.K k->k<G.w.heap.size->G'.K k/\G'.w.heap[k]?=G.w.heap[k]?
 hbox:∀id T cs,lku G.o id=some (.box T cs)->G'.ρ id=G.ρ id/\∃T' cs',lku G'.o id=some (.box T' cs')
 hgrd:∀id T Te fr t xs hole,lku G.o id=some (.grd T Te fr t xs hole)->G'.ρ id=G.ρ id/\∃T' Te' fr' t' xs' hole',lku G'.o id=some (.grd T' Te' fr' t' xs' hole')
 harr:∀id T fr t xs ver,lku G.o id=some (.arr T fr t xs ver)->∃T' fr' t' xs' ver',lku G'.o id=some (.arr T' fr' t' xs' ver')/\ver<=ver'/\(ver=ver'->G'.ρ id=G.ρ id)
theorem GLe.hR{G G':Gh}(h:GLe G G'){fr:Bool}:∀k,rg G fr k->k<G.w.heap.size->rg G' fr k/\G'.w.heap[k]?=G.w.heap[k]?:=fun k ⟨h1,h2⟩ hl=>⟨⟨(h.hK k h1 hl).1,fun e=>by rw[h.hB]; exact h2 e⟩,(h.hK k h1 hl).2⟩
mutual
theorem AVR.mono{G G':Gh}(h:GLe G G'):∀{a:AV} {u:Value},AVR G a u->AVR G' a u
 | .v _,_,k=>k
 | .d _ _ _,_,k=>RT.same h.hR k
 | .agg _,_,⟨us,e,k⟩=>⟨us,e,AVRs.mono h k⟩
 | .tup _,_,⟨us,e,k⟩=>⟨us,e,AVRs.mono h k⟩
 | .ptr id off,u,⟨⟨T,cs,h1⟩,b,h2,h3⟩=>by
   obtain⟨e,hx⟩:=h.hbox id T cs h1;exact⟨hx,b,by grind,h3⟩
 | .pel id ver k s off,u,⟨h0,T,fr,t,xs,ver',h1,h2,h3⟩=>by
   obtain⟨T',fr',t',xs',ver'',g1,g2,g3⟩:=h.harr id T fr t xs ver' h1;refine⟨h0,T',fr',t',xs',ver'',g1,by omega,fun e=>?_⟩
   grind
 | .os id ver,u,⟨h0,T,fr,t,xs,ver',h1,h2,h3⟩=>by
   obtain⟨T',fr',t',xs',ver'',g1,g2,g3⟩:=h.harr id T fr t xs ver' h1;exact⟨h0,T',fr',t',xs',ver'',g1,by omega,fun e=>by grind⟩
 | .fn _ _,_,⟨us,e,k⟩=>⟨us,e,AVRs.mono h k⟩
 | .ow ..,_,k=>k
 | .ob ..,_,k=>k
 | .gel id k,u,⟨⟨T,Te,fr,t,xs,hole,h1⟩,b,o,n,c,h2,h3⟩=>by
   obtain⟨e,hx⟩:=h.hgrd id T Te fr t xs hole h1;exact⟨hx,b,o,n,c,by grind,h3⟩
 | .og id,u,⟨h0,⟨T,Te,fr,t,xs,hole,h1⟩,h2⟩=>by
   obtain⟨e,hx⟩:=h.hgrd id T Te fr t xs hole h1;exact⟨h0,hx,by grind⟩
theorem AVRs.mono{G G':Gh}(h:GLe G G'):∀{as:List AV} {us:List Value},AVRs G as us->AVRs G' as us
 | [],_,k=>k
 | _ :: _,_,⟨u,us',e,k1,k2⟩=>⟨u,us',e,AVR.mono h k1,AVRs.mono h k2⟩
end
theorem GLe.refl(G:Gh):GLe G G:=⟨rfl,fun _ h _=>⟨h,rfl⟩,fun _ _ _ h=>⟨rfl,_,_,h⟩,fun _ _ _ _ _ _ _ h=>⟨rfl,_,_,_,_,_,_,h⟩,fun _ _ _ _ _ _ h=>⟨_,_,_,_,_,h,Nat.le_refl _,fun _=>rfl⟩⟩
theorem GLe.trans{A B C:Gh}(h:GLe A B)(k:GLe B C)(hs:A.w.heap.size<=B.w.heap.size):GLe A C:=by
 refine⟨k.hB.trans h.hB,fun i hi hl=>?_,fun i T cs hi=>?_,fun i T Te fr t xs hole hi=>?_,fun i T fr t xs ver hi=>?_⟩
 ·obtain⟨h1,h2⟩:=h.hK i hi hl;obtain⟨k1,k2⟩:=k.hK i h1 (by omega)
  grind
 ·obtain⟨h1,T',cs',h2⟩:=h.hbox i T cs hi;obtain⟨k1,k2⟩:=k.hbox i T' cs' h2
  grind
 ·obtain⟨h1,T',Te',fr',t',xs',hole',h2⟩:=h.hgrd i T Te fr t xs hole hi;obtain⟨k1,k2⟩:=k.hgrd i T' Te' fr' t' xs' hole' h2
  grind
 ·obtain⟨T',fr',t',xs',ver',h1,h2,h3⟩:=h.harr i T fr t xs ver hi;obtain⟨T2,fr2,t2,xs2,ver2,k1,k2,k3⟩:=k.harr i T' fr' t' xs' ver' h1
  grind
theorem Rows.up{G G':Gh}{id:Nat}{Te:TypeId}{fr:Bool}{t:Ty}{xs:List (List (den t))}{hole:Option Nat}{vs:List Value}{bs:Nat->Option Nat}(h:Rows G id Te fr t xs hole vs bs)(hle:GLe G G')(hδ:∀b,G'.δ id b↔G.δ id b){go:Option Nat}(hw:WE go G.w G'.w)(hgo:∀b,G.δ id b->go≠some b):Rows G' id Te fr t xs hole vs bs:=by
 refine⟨h.len,fun b=>(hδ b).trans (h.blk b),h.inj,fun k hk hh=>?_,h.one⟩;obtain⟨cs,h1,h2,h3⟩:=h.row k hk hh;exact⟨cs,h1.we hw (fun j hj e=>hgo j ((h.blk j).2 ⟨k,hk,hh,e⟩) hj),h2.mapR (fun c x hr=>RT.same (w:=G.w) hle.hR hr),by rw[hle.hB]; exact h3⟩
theorem isGrd_eq{o:Option Ob}(h:isGrd o=true):∃T Te fr t xs hole,o=some (.grd T Te fr t xs hole):=by
 unfold isGrd at h
 grind
theorem Sat.dlt{X:Cx}{G:Gh}(S:Sat X G){id b:Nat}(h:G.δ id b)(hg:isGrd (lku G.o id)=true):b<G.w.heap.size:=by
 obtain⟨T,Te,fr,t,xs,hole,ho⟩:=isGrd_eq hg;obtain⟨vs,bs,_,hr,_⟩:=S.obs id _ ho;obtain⟨k,hk,hh,hb⟩:=(hr.blk b).1 h;obtain⟨cs,h1,_⟩:=hr.row k hk hh;exact h1.lt b hb
theorem Sat.duf{X:Cx}{G:Gh}(S:Sat X G){id b:Nat}(h:G.δ id b)(hg:isGrd (lku G.o id)=true):UF G.w b:=by
 obtain⟨T,Te,fr,t,xs,hole,ho⟩:=isGrd_eq hg;obtain⟨vs,bs,_,hr,_⟩:=S.obs id _ ho;obtain⟨k,hk,hh,hb⟩:=(hr.blk b).1 h;obtain⟨cs,h1,_⟩:=hr.row k hk hh
 grind[own_uf]
theorem Sat.ext{X:Cx}{G:Gh}(S:Sat X G){w':World}(h:Ext G.w w'):Sat X { G with w:=w' }/\GLe G { G with w:=w' }:=by
 have hle:GLe G { G with w:=w' }:=⟨rfl,fun k hk hl=>⟨hk,h.block k hl⟩,fun _ _ _ h=>⟨rfl,_,_,h⟩,fun _ _ _ _ _ _ _ h=>⟨rfl,_,_,_,_,_,_,h⟩,fun _ _ _ _ _ _ h=>⟨_,_,_,_,_,h,Nat.le_refl _,fun _=>rfl⟩⟩;refine⟨⟨S.base,h.os.trans S.os,h.tape.trans S.tape,h.output.trans S.output,Nat.le_trans S.size h.size,fun k hk hi=>(h.block k (Nat.lt_of_lt_of_le hk S.size)).trans (S.block k hk hi),?_,S.inj,S.imm,S.own,fun k hk=>(S.klt k hk).same h.size (hle.hK k hk (S.klt k hk).lt).2,S.kfrom,S.sep,fun i v h=>(S.pin i v h).mono hle⟩,hle⟩;intro id o ho;have:=S.obs id o ho;cases o with
 | box T cs =>
   obtain⟨b,us,h1,h2,h3,h4⟩:=this;exact⟨b,us,h1,h2,h3.ext h,AVRs.mono hle h4⟩
 | arr T fr t xs ver =>
   obtain⟨cs,h1,h2,h3⟩:=this;exact⟨cs,h1.up h,h2.mapR (fun c x hr=>RT.same (w:=G.w) hle.hR hr),h3⟩
 | grd T Te fr t xs hole =>
   obtain⟨vs,bs,h1,h2,h3⟩:=this;exact⟨vs,bs,h1.up h,h2.up hle (fun _=>Iff.rfl) (go:=none) (WE.of_ext h) (fun _ _ e=>by cases e),h3⟩
def Gh.put(G:Gh)(id:Nat)(ob:Ob)(r:Value)(g:Option Nat)(w':World):Gh :=
 ⟨fun i=>if i=id then r else G.ρ i,fun i=>if i=id then g else G.γ i,G.K,w',(id,ob) :: G.o,G.B,fun i b=>i≠id/\G.δ i b⟩
def Follows(G:Gh)(id:Nat)(ob:Ob)(r:Value):Prop :=
 (∀T cs,lku G.o id=some (.box T cs)->r=G.ρ id/\∃T' cs',ob=.box T' cs') /\
 (∀T fr t xs ver,lku G.o id=some (.arr T fr t xs ver)->∃T' fr' t' xs' ver',ob=.arr T' fr' t' xs' ver'/\ver<=ver'/\(ver=ver'->r=G.ρ id))/\isGrd (lku G.o id)=false
theorem Sat.put{X:Cx}{G:Gh}(S:Sat X G){id:Nat}{ob:Ob}{r:Value}{g:Option Nat}{w':World}{go:Option Nat}
  (hfo:Follows G id ob r) (hgo:∀b,go=some b->(∃o,lku G.o id=some o)/\G.γ id=some b) (hfr:WE go G.w w') (hg:∀b,g=some b->go=some b∨G.w.heap.size<=b)
  (hob:GLe G (G.put id ob r g w')->ObR (G.put id ob r g w') id ob):Sat X (G.put id ob r g w')/\GLe G (G.put id ob r g w'):=by
 have hlk:∀i,lku (G.put id ob r g w').o i=if id=i then some ob else lku G.o i:=fun i=>lK _ _ _ _
 have hKb:∀k,G.K k->go≠some k:=fun k hk e=>by
  obtain⟨⟨o,ho⟩,hγ⟩:=hgo k e;exact S.imm id o k ho hγ hk
 have hle:GLe G (G.put id ob r g w'):=by
  refine⟨rfl,fun k hk hl=>⟨hk,hfr.block k hl (hKb k hk)⟩,fun i T cs hi=>?_,fun i T Te fr t xs hole hi=>?_,fun i T fr t xs ver hi=>?_⟩
  ·rw[hlk];by_cases e:id=i
   ·subst e;obtain⟨h1,T',cs',h2⟩:=hfo.1 T cs hi
    grind[Gh.put]
   grind[Gh.put]
  ·rw[hlk];by_cases e:id=i
   ·subst e;have:=hfo.2.2;rw[hi] at this;cases this
   grind[Gh.put]
  ·rw[hlk];by_cases e:id=i
   ·subst e;obtain⟨T',fr',t',xs',ver',h1,h2,h3⟩:=hfo.2.1 T fr t xs ver hi;simp only[Gh.put,if_true]
    grind
   ·simp only[Gh.put,if_neg e,if_neg (Ne.symm e)]
    grind
 have hgo2:∀i o b,i≠id->lku G.o i=some o->G.γ i=some b->go≠some b:=fun i o b hi ho hb e=>by
  obtain⟨⟨o',ho'⟩,hγ⟩:=hgo b e;exact hi (S.inj i id o o' b ho ho' hb hγ)
 have hlt:∀i o b,lku G.o i=some o->G.γ i=some b->b<G.w.heap.size:=fun i o b ho hb=>by
  have:=S.obs i o ho;cases o with
  | box T cs=>obtain⟨b',us,h1,h2,h3,h4⟩:=this; rw[hb] at h1; cases h1; exact h3.lt
  | arr T fr t xs ver=>obtain⟨cs,h1,h2,_⟩:=this; exact h1.lt b hb
  | grd T Te fr t xs hole=>obtain⟨vs,bs,h1,_⟩:=this; exact h1.lt b hb
 have hgnew:∀b,g=some b->∀i o,i≠id->lku G.o i=some o->G.γ i≠some b:=fun b hb i o hi ho e=>by
  grind
 have hg':=hg;refine⟨⟨S.base,hfr.os.trans S.os,hfr.tape.trans S.tape,hfr.output.trans S.output,Nat.le_trans S.size hfr.size,fun k hk hi=>?_,?_,?_,?_,?_,fun k hk=>(S.klt k hk).same hfr.size (hle.hK k hk (S.klt k hk).lt).2,S.kfrom,?_,fun i v h=>(S.pin i v h).mono hle⟩,hle⟩
 ·refine(hfr.block k (Nat.lt_of_lt_of_le hk S.size) (fun e=>?_)).trans (S.block k hk hi);obtain⟨⟨o,ho⟩,hγ⟩:=hgo k e;rcases S.own id o k ho hγ with h | h
  ·omega
  grind
 ·intro i o ho;rw[hlk] at ho;by_cases e:id=i
  ·grind
  ·rw[if_neg e] at ho;have:=S.obs i o ho;cases o with
   | box T cs =>
     obtain⟨b,us,h1,h2,h3,h4⟩:=this;refine⟨b,us,?_,?_,?_,AVRs.mono hle h4⟩
     ·grind[Gh.put]
     ·grind[Gh.put]
     ·exact h3.we hfr (fun j hj hbj=>by grind)
   | arr T fr t xs ver =>
     obtain⟨cs,h1,h2,h3⟩:=this;refine⟨cs,?_,?_,by grind[Gh.put]⟩
     ·simp only[Gh.put,if_neg (Ne.symm e)];exact h1.we hfr (fun j hj hbj=>hgo2 i _ j (Ne.symm e) ho hbj hj)
     ·exact h2.mapR (fun c x hr=>RT.same (w:=G.w) hle.hR hr)
   | grd T Te fr t xs hole =>
     obtain⟨vs,bs,h1,h2,h3⟩:=this;refine⟨vs,bs,?_,?_,by grind[Gh.put]⟩
     ·simp only[Gh.put,if_neg (Ne.symm e)];exact h1.we hfr (fun j hj hbj=>hgo2 i _ j (Ne.symm e) ho hbj hj)
     ·refine h2.up hle (fun b=>⟨fun h=>h.2,fun h=>⟨Ne.symm e,h⟩⟩) hfr (fun b hb hgb=>?_);obtain⟨⟨o',ho'⟩,hγ⟩:=hgo b hgb;exact(S.sep i b hb (by rw[ho]; rfl)).2.2.1 id o' ho' hγ
 ·intro i i' o o' b ho ho' hb hb';rw[hlk] at ho ho';simp only[Gh.put] at hb hb';by_cases e:i=id
  ·grind
  ·rw[if_neg e] at hb;rw[if_neg (Ne.symm e)] at ho;by_cases e':i'=id
   ·grind
   ·rw[if_neg e'] at hb';rw[if_neg (Ne.symm e')] at ho';exact S.inj i i' o o' b ho ho' hb hb'
 ·intro i o b ho hb hk;rw[hlk] at ho;simp only[Gh.put] at hb hk;by_cases e:i=id
  ·rw[if_pos e] at hb;rcases hg b hb with h | h
   ·grind
   ·have:=(S.klt b hk).lt; omega
  ·rw[if_neg e] at hb;rw[if_neg (Ne.symm e)] at ho;exact S.imm i o b ho hb hk
 ·intro i o b ho hb;rw[hlk] at ho;simp only[Gh.put] at hb;by_cases e:i=id
  ·rw[if_pos e] at hb;rcases hg b hb with h | h
   ·obtain⟨⟨o',ho'⟩,hγ⟩:=hgo b h;exact S.own id o' b ho' hγ
   ·exact .inl (Nat.le_trans S.size h)
  ·rw[if_neg e] at hb;rw[if_neg (Ne.symm e)] at ho;exact S.own i o b ho hb
 ·intro i b hb hg;obtain⟨hne,hb⟩:=hb;rw[hlk,if_neg (Ne.symm hne)] at hg;obtain⟨s1,s2,s3,s4⟩:=S.sep i b hb hg;have hbl:=S.dlt hb hg;refine⟨s1,s2,fun j o ho hj=>?_,fun j hj hgj=>?_⟩
  ·grind[Gh.put]
  ·obtain⟨hne',hj⟩:=hj
   grind
def Gh.grd(G:Gh)(id:Nat)(ob:Ob)(D:Nat->Prop)(w':World):Gh :=
 ⟨G.ρ,G.γ,G.K,w',(id,ob) :: G.o,G.B,fun i b=>(i=id/\D b)∨(i≠id/\G.δ i b)⟩
theorem Sat.grd{X:Cx}{G:Gh}(S:Sat X G){id:Nat}{T Te T' Te':TypeId}{fr fr':Bool}{t t':Ty}{xs:List (List (den t))}{xs':List (List (den t'))}{hole hole':Option Nat}{D:Nat->Prop}{w':World}{go:Option Nat}
  (ho:lku G.o id=some (.grd T Te fr t xs hole)) (hgo:∀b,go=some b->G.γ id=some b) (hfr:WE go G.w w')
  (hD:∀b,D b->(X.w0.heap.size<=b∨X.io b)/\¬G.K b/\(∀i o,lku G.o i=some o->G.γ i≠some b)/\∀i,i≠id->G.δ i b->isGrd (lku G.o i)=true->False)
  (hob:GLe G (G.grd id (.grd T' Te' fr' t' xs' hole') D w')->ObR (G.grd id (.grd T' Te' fr' t' xs' hole') D w') id (.grd T' Te' fr' t' xs' hole')) :
  Sat X (G.grd id (.grd T' Te' fr' t' xs' hole') D w')/\GLe G (G.grd id (.grd T' Te' fr' t' xs' hole') D w'):=by
 have hlk:∀i,lku (G.grd id (.grd T' Te' fr' t' xs' hole') D w').o i=if id=i then some (.grd T' Te' fr' t' xs' hole') else lku G.o i:=fun i=>lK _ _ _ _
 have hback:∀i o,lku (G.grd id (.grd T' Te' fr' t' xs' hole') D w').o i=some o->∃o',lku G.o i=some o':=fun i o h=>by
  grind
 have hgb:∀i,isGrd (lku (G.grd id (.grd T' Te' fr' t' xs' hole') D w').o i)=isGrd (lku G.o i):=fun i=>by
  rw[hlk];by_cases e:id=i
  ·subst e; rw[if_pos rfl,ho]; rfl
  grind
 have hKb:∀k,G.K k->go≠some k:=fun k hk e=>S.imm id _ k ho (hgo k e) hk;have hle:GLe G (G.grd id (.grd T' Te' fr' t' xs' hole') D w'):=by
  refine⟨rfl,fun k hk hl=>⟨hk,hfr.block k hl (hKb k hk)⟩,fun i T0 cs hi=>⟨rfl,?_⟩,fun i T0 Te0 f0 t0 x0 h0 hi=>⟨rfl,?_⟩,fun i T0 f0 t0 x0 ver hi=>?_⟩
  ·grind
  ·grind
  ·rw[hlk];by_cases e:id=i
   ·grind
   ·rw[if_neg e]; exact⟨_,_,_,_,_,hi,Nat.le_refl _,fun _=>rfl⟩
 have hgo2:∀i o b,i≠id->lku G.o i=some o->G.γ i=some b->go≠some b:=fun i o b hi h hb e=>hi (S.inj i id o _ b h ho hb (hgo b e));refine⟨⟨S.base,hfr.os.trans S.os,hfr.tape.trans S.tape,hfr.output.trans S.output,Nat.le_trans S.size hfr.size,fun k hk hi=>?_,?_,?_,?_,?_,fun k hk=>(S.klt k hk).same hfr.size (hle.hK k hk (S.klt k hk).lt).2,S.kfrom,?_,fun i v h=>(S.pin i v h).mono hle⟩,hle⟩
 ·refine(hfr.block k (Nat.lt_of_lt_of_le hk S.size) (fun e=>?_)).trans (S.block k hk hi);rcases S.own id _ k ho (hgo k e) with h | h
  ·omega
  grind
 ·intro i o hi;rw[hlk] at hi;by_cases e:id=i
  ·grind
  ·rw[if_neg e] at hi;have:=S.obs i o hi;cases o with
   | box T cs =>
     obtain⟨b,us,h1,h2,h3,h4⟩:=this;exact⟨b,us,h1,h2,h3.we hfr (fun j hj hbj=>by grind),h4.mono hle⟩
   | arr T fr t xs ver =>
     obtain⟨cs,h1,h2,h3⟩:=this;exact⟨cs,h1.we hfr (fun j hj hbj=>hgo2 i _ j (Ne.symm e) hi hbj hj),h2.mapR (fun c x hr=>RT.same (w:=G.w) hle.hR hr),h3⟩
   | grd T0 Te0 f0 t0 x0 h0 =>
     obtain⟨vs,bs,h1,h2,h3⟩:=this;refine⟨vs,bs,h1.we hfr (fun j hj hbj=>hgo2 i _ j (Ne.symm e) hi hbj hj),h2.up hle (fun b=>⟨fun h=>?_,fun h=>.inr ⟨Ne.symm e,h⟩⟩) hfr (fun b hb hgb=>?_),h3⟩
     ·rcases h with ⟨h,_⟩ | ⟨_,h⟩
      ·omega
      omega
     ·exact(S.sep i b hb (by rw[hi]; rfl)).2.2.1 id _ ho (hgo b hgb)
 ·intro i i' o o' b h h' hb hb';obtain⟨o1,h1⟩:=hback i o h;obtain⟨o2,h2⟩:=hback i' o' h';exact S.inj i i' o1 o2 b h1 h2 hb hb'
 ·intro i o b h hb;obtain⟨o1,h1⟩:=hback i o h;exact S.imm i o1 b h1 hb
 ·intro i o b h hb;obtain⟨o1,h1⟩:=hback i o h;exact S.own i o1 b h1 hb
 ·intro i b hb hg;rw[hgb] at hg;rcases hb with ⟨rfl,hb⟩ | ⟨hne,hb⟩
  ·obtain⟨s1,s2,s3,s4⟩:=hD b hb;refine⟨s1,s2,fun j o h hj=>?_,fun j hj hgj=>?_⟩
   ·obtain⟨o1,h1⟩:=hback j o h;exact s3 j o1 h1 hj
   ·rw[hgb] at hgj;rcases hj with ⟨e,_⟩ | ⟨e,hj⟩
    ·omega
    grind
  ·obtain⟨s1,s2,s3,s4⟩:=S.sep i b hb hg;refine⟨s1,s2,fun j o h hj=>?_,fun j hj hgj=>?_⟩
   ·obtain⟨o1,h1⟩:=hback j o h;exact s3 j o1 h1 hj
   ·rw[hgb] at hgj;rcases hj with ⟨rfl,hj⟩ | ⟨e,hj⟩
    ·grind
    grind
def castD(t t':Ty)(x:den t):Option (den t'):=if h:t=t' then some (h ▸ x) else none
theorem castD_eq{t t':Ty}{x:den t}{y:den t'}(h:castD t t' x=some y):∃e:t=t',y=e ▸ x:=by
 unfold castD at h
 grind
def dat1(o:List (Nat×Ob))(rec:(t:Ty)->List AV->Option (den t×List Nat×Bool)):(t:Ty)->AV->Option (den t×List Nat×Bool)
 | t,.d fr t' x=>match castD t' t x with
   | some y=>some (y,[],fr||kfree t)
   | none=>none
 | .sl _,.v (.slice none 0 0)=>some ([],[],true)
 | .sl e,.os id ver=>match lku o id with
   | some (.arr _ fr e' xs ver')=>bif Nat.beq ver ver' then(match castD (.sl e') (.sl e) xs with
     | some y=>some (y,[id],fr||kfree e)
     | none=>none) else none
   | _=>none
 | .pt e,.ptr id off=>match lku o id with
   | some (.box _ cs)=>match rec e ((cs.drop off).take (sz e)) with
     | some (x,l,_)=>some (x,id :: l,false)
     | none=>none
   | _=>none
 | _,_=>none
def datN(o:List (Nat×Ob)):Nat->(t:Ty)->List AV->Option (den t×List Nat×Bool)
 | 0,_,_=>none
 | n+1,.pr a b,cs=>match datN o n a (cs.take (sz a)) with
   | some (x,l,f)=>match datN o n b (cs.drop (sz a)) with
     | some (y,m,g)=>some ((x,y),l++m,f&&g)
     | none=>none
   | none=>none
 | n+1,t,cs=>match cs with
   | [c]=>dat1 o (datN o n) t c
   | _=>none
def rk(G:Gh)(K':Nat->Prop)(fl:Bool)(k:Nat):Prop:=K' k/\(fl=true->G.B<=k)
theorem dat1_sound{X:Cx}{G:Gh}(S:Sat X G){K':Nat->Prop}(hK:∀k,G.K k->K' k){rec:(t:Ty)->List AV->Option (den t×List Nat×Bool)}
  (hrec:∀{t:Ty} {cs:List AV} {us:List Value} {x:den t} {l:List Nat} {fl:Bool},rec t cs=some (x,l,fl)->(∀id∈l,∀b,G.γ id=some b->K' b)->AVRs G cs us->RT (rk G K' fl) G.w t us x)
  {t:Ty} {c:AV} {u:Value} {x:den t} {l:List Nat} {fl:Bool} (h:dat1 G.o rec t c=some (x,l,fl)) (hl:∀id∈l,∀b,G.γ id=some b->K' b) (hu:AVR G c u):RT (rk G K' fl) G.w t [u] x:=by
 unfold dat1 at h;split at h
 ·rename_i t0 fr t' x0;split at h
  ·rename_i y hy;simp only[oi,pj] at h;obtain⟨rfl,rfl,rfl⟩:=h;obtain⟨e,rfl⟩:=castD_eq hy;subst e;by_cases hf:kfree t'=true
   ·exact RT.free hf hu
   ·exact RT.up hu (fun k hk=>⟨hK k hk.1,fun e=>hk.2 (by grind)⟩)
  grind
 ·simp only[oi,pj] at h;obtain⟨rfl,rfl,rfl⟩:=h;have:u=_:=hu;subst this;exact⟨none,0,rfl,Nat.le_refl _,by omega,.inl rfl⟩
 ·rename_i e id ver;split at h
  ·rename_i T fr e' xs ver' ho;rw[ce] at h;split at h
   ·rename_i hv;split at h
    ·rename_i y hy;simp only[oi,pj] at h;obtain⟨rfl,rfl,rfl⟩:=h;obtain⟨e0,rfl⟩:=castD_eq hy;cases e0;obtain⟨_,T1,fr1,t1,xs1,ver1,h1,h2,h3⟩:=hu;rw[ho] at h1;cases h1;have hu:=h3 (nb hv);subst hu;obtain⟨cs,hO,hA,hB⟩:=S.obs id _ ho;have hA':AllR (RT (rk G K' (fr||kfree e)) G.w e) cs xs:=hA.mapR (fun c x hr=>by
      by_cases hf:kfree e=true
      ·grind[RT.free]
      ·exact RT.up hr (fun k hk=>⟨hK k hk.1,fun e'=>hk.2 (by grind)⟩))
     cases hg:G.γ id with
     | none =>
       rw[hg] at hO;rcases hO with ⟨_,hn,_,p,hp⟩ | ⟨b,_,_,_,hb,_⟩
       ·have:xs=[]:=List.eq_nil_of_length_eq_zero hn;subst this;exact⟨p,0,by grind,Nat.le_refl _,by omega,.inl rfl⟩
       grind
     | some b =>
       rw[hg] at hO;obtain⟨o0,c0,e0,hat⟩:=hO.at;rcases hO with ⟨h,_⟩ | ⟨b',o1,cap,cur,hb,hv2,k1,k2,k3,k4,k5⟩
       ·cases h
       ·cases hb;rw[hv2] at e0; cases e0;exact⟨_,c0,by rw[hv2],k2,(by grind[maxLen]),.inr ⟨b,o0,cs,rfl,⟨hl id (by simp) b hg,fun _=>hB b hg⟩,hat,hA'⟩⟩
    grind
   grind
  grind
 ·rename_i e id off;split at h
  ·rename_i T cs' ho;split at h
   ·rename_i x1 l1 f1 h1;simp only[oi,pj] at h;obtain⟨rfl,rfl,rfl⟩:=h;obtain⟨_,b,hb,rfl⟩:=hu;obtain⟨b',us,g1,g2,g3,g4⟩:=S.obs id _ ho;rw[hb] at g2;cases g2;have hA':=((g4.take off).2.take (sz e)).1;have hR:=hrec h1 (fun i hi=>hl i (by grind)) hA';refine⟨b,off,_,rfl,⟨hl id (by simp) b g1,(fun e=>by cases e)⟩,?_,RT.up hR (fun k hk=>⟨hk.1,(fun e=>by cases e)⟩)⟩;have hat:=g3.at;intro i v hv;have hi:i<sz e:=by
     rcases Nat.lt_or_ge i (sz e) with h' | h'
     ·exact h'
     ·grind
    rw[List.getElem?_take_of_lt hi,List.getElem?_drop] at hv;have:=hat (off+i) v hv
    grind
   grind
  grind
 grind
theorem datN_sound{X:Cx}{G:Gh}(S:Sat X G){K':Nat->Prop}(hK:∀k,G.K k->K' k):∀(n:Nat) {t:Ty} {cs:List AV} {us:List Value} {x:den t} {l:List Nat} {fl:Bool},
  datN G.o n t cs=some (x,l,fl)->(∀id∈l,∀b,G.γ id=some b->K' b)->AVRs G cs us->RT (rk G K' fl) G.w t us x:=by
 intro n
 induction n with
 | zero=>grind[datN]
 | succ n ih =>
   intro t cs us x l fl h hl hA;have key:∀(t:Ty) (x:den t) (r:Option (den t×List Nat×Bool)),r=some (x,l,fl)->r=(match(generalizing:=false) cs with | [c]=>dat1 G.o (datN G.o n) t c | _=>none)->RT (rk G K' fl) G.w t us x:=by
    intro t x r hr0 hr1;rw[hr0] at hr1;have h:=hr1.symm;split at h
    ·rename_i c;obtain⟨u,us',rfl,hu,hr⟩:=hA;have:us'=[]:=hr
     grind[dat1_sound]
    ·cases h
   cases t with
   | pr a b =>
     unfold datN at h;split at h
     ·rename_i x1 l1 f1 h1;split at h
      ·rename_i y1 m1 g1 h2;simp only[oi,pj] at h;obtain⟨rfl,rfl,rfl⟩:=h;have hA':=AVRs.take hA (sz a);refine⟨us.take (sz a),us.drop (sz a),(List.take_append_drop _ _).symm,RT.up (ih h1 (fun id hid=>hl id (by grind)) hA'.1) (fun k hk=>⟨hk.1,fun e=>hk.2 ?_⟩),RT.up (ih h2 (fun id hid=>hl id (by grind)) hA'.2) (fun k hk=>⟨hk.1,fun e=>hk.2 ?_⟩)⟩
       ·grind
       grind
      grind
     grind
   | _=>exact key _ _ _ h rfl
theorem datN_region{X:Cx}{G:Gh}(S:Sat X G){n:Nat}{t:Ty}{cs:List AV}{us:List Value}{x:den t}{fl:Bool}(h:datN G.o n t cs=some (x,[],fl))(hA:AVRs G cs us):RT (rg G fl) G.w t us x :=
 datN_sound S (K':=G.K) (fun _ h=>h) n h (fun _ h=>by cases h) hA
def cellsD(fr:Bool):(t:Ty)->den t->List AV
 | .pr a b,x=>cellsD fr a x.1++cellsD fr b x.2
 | .int k,x=>[.d fr (.int k) x]
 | .bool,x=>[.d fr .bool x]
 | .str,x=>[.d fr .str x]
 | .sl e,x=>[.d fr (.sl e) x]
 | .pt e,x=>[.d fr (.pt e) x]
theorem cellsD_sound{G:Gh}{fr:Bool}:∀{t:Ty} {us:List Value} {x:den t},RT (rg G fr) G.w t us x->AVRs G (cellsD fr t x) us
 | .pr a b,_,x,⟨c,d,e,h1,h2⟩=>by rw[e]; exact AVRs.app (cellsD_sound h2) (cellsD_sound h1)
 | .int _,us,x,h=>⟨_,[],h.1,⟨rfl,h.2⟩,rfl⟩
 | .bool,us,x,h=>⟨_,[],(show us=_ from h),rfl,rfl⟩
 | .str,us,x,h=>⟨_,[],h.1,⟨rfl,h.2⟩,rfl⟩
 | .sl e,us,x,⟨p,cap,h1,h⟩=>⟨_,[],h1,⟨p,cap,rfl,h⟩,rfl⟩
 | .pt e,us,x,⟨b,o,ds,h1,h⟩=>⟨_,[],h1,⟨b,o,ds,rfl,h⟩,rfl⟩
def dropA(fr:Bool):(t:Ty)->den t->Nat->Option AV
 | t,x,0=>some (.d fr (.pt t) x)
 | .pr a b,x,off=>bif Nat.ble (sz a) off then dropA fr b x.2 (off-sz a) else dropA fr a x.1 off
 | _,_,_=>none
theorem dropA_sound{G:Gh}{fr:Bool}{b:Nat}(hb:rg G fr b):∀{t:Ty} {x:den t} {off o:Nat} {ds:List Value} {a:AV},dropA fr t x off=some a->At G.w b o ds->RT (rg G fr) G.w t ds x->AVR G a (.pointer (some ⟨b,o+off,none⟩)):=by
 intro t
 induction t with
 | pr t1 t2 ih1 ih2 =>
   intro x off o ds a h hat hr;cases off with
   | zero=>simp only[dropA,oi] at h; subst h; exact⟨b,o,ds,rfl,hb,hat,hr⟩
   | succ off =>
     simp only[dropA,ce] at h;split at h
     ·rename_i hle;have hle:=Nat.le_of_ble_eq_true hle;obtain⟨c,d,rfl,h1,h2⟩:=hr;have hat2:At G.w b (o+c.length) d:=At.mid (pre:=c) (c:=d) (post:=[]) (by grind)
      grind[RT.len,sz]
     ·obtain⟨c,d,rfl,h1,h2⟩:=hr;exact ih1 h (At.mid (pre:=[]) (c:=c) (post:=d) (by grind)) h1
 | _ =>
   intro x off o ds a h hat hr;cases off with
   | zero=>simp only[dropA,oi] at h; subst h; exact⟨b,o,ds,rfl,hb,hat,hr⟩
   | succ off=>grind[dropA]
abbrev Pa:=List (Nat×Bool)
structure Sl where
 p:Pa
 a:AV
structure St where
 e:List (Nat×Sl)
 o:List (Nat×Ob)
def subP(p q:Pa):Bool:=p.all fun x=>q.any fun y=>Nat.beq x.1 y.1&&(x.2==y.2)
def PathP(p:Pa)(a:Act):Prop:=∀x∈p,a.tmps.getD x.1 undef=.bool x.2
theorem PathP.sub{p q:Pa}{a:Act}(h:PathP q a)(hs:subP p q=true):PathP p a:=by
 intro x hx;simp only[subP,List.all_eq_true,List.any_eq_true,ba,beq_iff_eq] at hs;obtain⟨y,hy,h1,h2⟩:=hs x hx;have h1:=nb h1;rw[h1,h2]; exact h y hy
structure EnvR(n:Nat)(G:Gh)(e:List (Nat×Sl))(a:Act):Prop where
 defers:a.defers=[]
 size:a.tmps.size=n
 val:∀t s,lku e t=some s->(PathP s.p a->AVR G s.a (a.tmps.getD t undef))/\(¬PathP s.p a->a.tmps.getD t undef=undef)
theorem EnvR.mono{n:Nat}{G G':Gh}{e:List (Nat×Sl)}{a:Act}(h:EnvR n G e a)(hG:GLe G G'):EnvR n G' e a :=
 ⟨h.defers,h.size,fun t s ht=>⟨fun hp=>((h.val t s ht).1 hp).mono hG,(h.val t s ht).2⟩⟩
def conA:Value->Option AV
 | .int k n=>bif decide (lo k<=n)&&decide (n<=hi k) then some (.d true (.int k) n) else none
 | .bool b=>some (.d true .bool b)
 | .string s=>bif decide (s.size<=9223372036854775807) then some (.d true .str s) else none
 | .agg _=>none
 | .tuple _=>none
 | u=>some (.v u)
def conAs:List Value->Option (List AV)
 | []=>some []
 | u :: r=>match conA u with
   | some a=>match conAs r with
     | some l=>some (a :: l)
     | none=>none
   | none=>none
theorem conA_sound{G:Gh}{u:Value}{a:AV}(h:conA u=some a):AVR G a u:=by
 unfold conA at h;split at h
 ·rw[ce] at h;split at h
  ·rename_i hb;simp only[ba,dq] at hb;simp only[oi] at h; subst h; exact⟨rfl,hb⟩
  grind
 ·simp only[oi] at h; subst h; exact rfl
 ·rw[ce] at h;split at h
  ·rename_i hb;simp only[dq] at hb;simp only[oi] at h; subst h; exact⟨rfl,hb⟩
  grind
 ·cases h
 ·cases h
 ·simp only[oi] at h; subst h; exact rfl
theorem conAs_sound{G:Gh}:∀{us:List Value} {as:List AV},conAs us=some as->AVRs G as us
 | [],as,h=>by simp[conAs] at h; subst h; exact rfl
 | u :: r,as,h=>by
   unfold conAs at h;split at h
   ·rename_i a ha;split at h
    ·rename_i l hl;simp at h; subst h; exact⟨u,r,rfl,conA_sound ha,conAs_sound hl⟩
    grind
   grind
def conG:Value->Option AV
 | .agg cs=>match conAs cs.toList with
   | some l=>some (.agg l)
   | none=>none
 | u=>conA u
theorem conG_sound{G:Gh}{u:Value}{a:AV}(h:conG u=some a):AVR G a u:=by
 unfold conG at h;split at h
 ·rename_i cs;split at h
  ·rename_i l hl;simp at h; subst h; exact⟨cs.toList,by simp,conAs_sound hl⟩
  grind
 grind[conA_sound]
def rd(st:St)(p:Pa):Operand->Option AV
 | .tmp t=>match lku st.e t with
   | some s=>bif subP s.p p then some s.a else none
   | none=>none
 | .const v=>conG v
 | .func f=>some (.fn f [])
 | .global g=>some (.v (.pointer (some ⟨g,0,none⟩)))
theorem rd_sound{n:Nat}{G:Gh}{st:St}{a:Act}{p:Pa}(hE:EnvR n G st.e a)(hp:PathP p a){x:Operand}{v:AV}(h:rd st p x=some v):AVR G v (a.eval x):=by
 unfold rd at h;split at h
 ·rename_i t;split at h
  ·rename_i s hs;rw[ce] at h;split at h
   ·rename_i hsub;simp at h; subst h;exact(hE.val t s hs).1 (hp.sub hsub)
   grind
  grind
 ·exact conG_sound h
 ·simp at h; subst h; exact⟨[],rfl,rfl⟩
 ·simp at h; subst h; exact rfl
def rds(st:St)(p:Pa):List Operand->Option (List AV)
 | []=>some []
 | x :: r=>match rd st p x with
   | some a=>match rds st p r with
     | some l=>some (a :: l)
     | none=>none
   | none=>none
theorem rds_sound{n:Nat}{G:Gh}{st:St}{a:Act}{p:Pa}(hE:EnvR n G st.e a)(hp:PathP p a):∀{xs:List Operand} {vs:List AV},rds st p xs=some vs->AVRs G vs (xs.map a.eval)
 | [],vs,h=>by simp[rds] at h; subst h; exact rfl
 | x :: r,vs,h=>by
   unfold rds at h;split at h
   ·rename_i b hb;split at h
    ·rename_i l hl;simp at h; subst h; exact⟨_,_,rfl,rd_sound hE hp hb,rds_sound hE hp hl⟩
    grind
   grind
inductive Kd
 | agg (pl:List (Nat×Nat)) (e:Bool) (ag:List Bool) | sl (E:TypeId) | arr (m:Nat) (E:TypeId) | str | bool | int (k:IntKind) | oth | ptr
structure TI where
 size:Nat
 bytes:Nat
 zero:Value
 kd:Kd
 ty:Ty
def fieldsAt(P:Program)(T:TypeId):Nat->List (Nat×Nat)->Prop
 | _,[]=>True
 | k,(off,_) :: r=>fieldB P T k=some (off,true)/\fieldsAt P T (k+1) r
def intB(P:Program)(t:TypeId):Bool:=match P.underlying t with
 | some (.int _)=>true
 | _=>false
def eqIF(P:Program):Nat->List Field->Bool
 | _,[]=>true
 | k, f :: r => decide (f.name ≠ "_") && Nat.beq f.offset k && intB P f.type && eqIF P (k + 1) r
def eqIB(P:Program)(T:TypeId):Bool:=match P.underlying T with
 | some (.struct fs)=>!P.stoodInHeld T&&!P.eqGuardType P.depth T&&eqIF P 0 fs.toList
 | _=>false
def aggsB(P:Program)(T:TypeId):Option (List (Bool×Bool)):=match P.underlying T with
 | some (.struct fs)=>some (fs.toList.map fun f=>(aggB P f.type,notAggB P f.type))
 | _=>none
def kdOk(P:Program)(T:TypeId):Kd->Prop
 | .agg pl e ag=>aggB P T=true/\placesB P T=some pl/\fieldsOk P T=true/\fieldsAt P T 0 pl/\(e=true->eqIB P T=true)/\aggsB P T=some (ag.map fun b=>(b,!b))
 | .arr m E=>aggB P T=true/\P.underlying T=some (.array m E)
 | .sl E=>notAggB P T=true/\P.underlying T=some (.slice E)
 | .str=>notAggB P T=true/\P.underlying T=some .string
 | .bool=>notAggB P T=true/\P.underlying T=some .bool
 | .int k=>notAggB P T=true/\P.underlying T=some (.int k)
 | .oth=>notAggB P T=true
 | .ptr=>notAggB P T=true/\P.underlying T=some (.pointer (P.pointee T))
def TIok(P:Program)(T:TypeId)(ti:TI):Prop :=
 infoB P T=some (ti.size,ti.bytes,some ti.zero)/\lenIs ti.zero.cells.toList ti.size=true/\Nat.blt 0 ti.size=true/\ones ti.zero.cells.toList=true/\kdOk P T ti.kd
abbrev Tab':=List (Nat×TI)
def TabOk(P:Program)(Γ:Tab'):Prop:=∀T ti,lku Γ T=some ti->TIok P T ti
theorem fieldsAt_get{P:Program}{T:TypeId}:∀{pl:List (Nat×Nat)} {j k:Nat} {x:Nat×Nat},fieldsAt P T j pl->pl[k]?=some x->fieldB P T (j+k)=some (x.1,true)
 | (off,s) :: r,j,0,x,h,hx=>by simp at hx; subst hx; exact h.1
 | (off,s) :: r,j,k+1,x,h,hx=>by
   have:=fieldsAt_get (j:=j+1) (k:=k) h.2 (by simpa using hx);rw[show j+(k+1)=j+1+k by omega]; exact this
def isAgg:Kd->Bool
 | .agg .. | .arr ..=>true
 | _=>false
theorem kd_agg{P:Program}{T:TypeId}{kd:Kd}(h:kdOk P T kd):(isAgg kd=true->aggB P T=true)/\(isAgg kd=false->notAggB P T=true):=by
 cases kd with
 | agg pl e ag=>exact⟨fun _=>h.1,(fun e=>by cases e)⟩
 | arr m E=>exact⟨fun _=>h.1,(fun e=>by cases e)⟩
 | oth=>exact⟨(fun e=>by cases e),fun _=>h⟩
 | _=>exact⟨(fun e=>by cases e),fun _=>h.1⟩
def cenv(a:Act):List Operand->Env
 | []=>[]
 | .tmp t :: r=>(t,a.tmps.getD t undef) :: cenv a r
 | _ :: r=>cenv a r
theorem cenv_lk{a:Act}{t:Nat}{v:Value}:∀{xs:List Operand},lk (cenv a xs) t=some v->a.tmps.getD t undef=v
 | [],h=>by cases h
 | .tmp s :: r,h=>by
   rw[cenv,lk_cons] at h;by_cases e:s=t
   ·grind
   ·rw[if_neg e] at h; exact cenv_lk h
 | .const _ :: r,h=>cenv_lk (xs:=r) h
 | .global _ :: r,h=>cenv_lk (xs:=r) h
 | .func _ :: r,h=>cenv_lk (xs:=r) h
theorem cenv_agree{n:Nat}{G:Gh}{e:List (Nat×Sl)}{a:Act}(h:EnvR n G e a)(xs:List Operand):Agree n (cenv a xs) a:=⟨h.defers,h.size,fun _ _ ht=>cenv_lk ht⟩
theorem cenv_tmp{a:Act}{t:Nat}:∀{xs:List Operand},.tmp t∈xs->lk (cenv a xs) t=some (a.tmps.getD t undef)
 | y :: r,h=>by
   have hr:Operand.tmp t∈r->lk (cenv a (y :: r)) t=some (a.tmps.getD t undef):=fun h'=>by
    have ih:=cenv_tmp (a:=a) h';cases y with
    | tmp s =>
      rw[cenv,lk_cons];by_cases e:s=t
      ·subst e; simp
      ·rw[if_neg e]; exact ih
    | _=>exact ih
   grind[cenv,lk_cons]
theorem cenv_ev{a:Act}{xs:List Operand}{x:Operand}(h:x∈xs):ev (cenv a xs) x=some (a.eval x):=by
 cases x with
 | tmp t=>exact cenv_tmp h
 | _=>rfl
def Val(X:Cx)(G:Gh)(a:Act)(op:Op)(ty:TypeId)(av:AV):Prop :=
 ∃v,(∀dst pos after g,(execOp a.eval ⟨dst,op,ty,pos,after,g⟩).run X.P G.w=.ok (.value v) G.w)/\AVR G av v
theorem val_of{X:Cx}{G:Gh}{a:Act}{st:St}{op:Op}{ty:TypeId}{av:AV}{v:Value}(hE:EnvR X.n G st.e a)(xs:List Operand)(h:RunsOp X.P X.n (cenv a xs) op ty G.w v G.w)(hv:AVR G av v):Val X G a op ty av :=
 ⟨v,fun dst pos after g=>h a dst pos after g (cenv_agree hE xs),hv⟩
def cellsA:AV->Option (List AV)
 | .agg xs=>bif xs.all oneA then some xs else none
 | a=>bif oneA a then some [a] else none
theorem ones_of:∀{us:List Value},(∀u∈us,u.oneCell'=true)->ones us=true
 | [],_=>rfl
 | u :: r,h=>by
   have h1:=h u (by simp);have h2:=ones_of (us:=r) (fun v hv=>h v (by grind))
   grind[ones,Value.oneCell']
theorem AVRs.ones{G:Gh}:∀{as:List AV} {us:List Value},AVRs G as us->as.all oneA=true->∀u∈us,u.oneCell'=true
 | [],us,h,_,u,hu=>by rw[show us=[] from h] at hu; cases hu
 | a :: r,us,⟨u,us',e,h1,h2⟩,ho,x,hx=>by
   simp only[List.all_cons,ba] at ho;rw[e] at hx;rcases List.mem_cons.1 hx with rfl | hx
   ·exact h1.one ho.1
   ·exact AVRs.ones h2 ho.2 x hx
theorem cells_one{u:Value}(h:u.oneCell'=true):u.cells.toList=[u]:=by cases u <;> first | rfl | cases h
theorem cellsA_sound{G:Gh}{a:AV}{cs:List AV}{u:Value}(h:cellsA a=some cs)(hu:AVR G a u):AVRs G cs u.cells.toList/\ones u.cells.toList=true:=by
 unfold cellsA at h;split at h
 ·rename_i xs;rw[ce] at h;split at h
  ·rename_i ho;simp at h; subst h;obtain⟨us,rfl,h1⟩:=hu;simp only[Value.cells,List.toList_toArray];exact⟨h1,ones_of (h1.ones ho)⟩
  grind
 ·rw[ce] at h;split at h
  ·rename_i ho;simp at h; subst h;have h1:=hu.one ho;rw[cells_one h1];exact⟨⟨u,[],rfl,hu,rfl⟩,ones_of (fun v hv=>by grind)⟩
  grind
def ldA(ti:TI)(cs:List AV):Option AV :=
 bif isAgg ti.kd then(bif Nat.ble ti.size cs.length then some (.agg (cs.take ti.size)) else none)
 else match cs with
  | c :: _=>some c
  | []=>none
theorem at_take{w:World}{b o:Nat}{us:List Value}(h:At w b o us)(k:Nat):At w b o (us.take k):=by
 intro i u hu;rcases Nat.lt_or_ge i k with hk | hk
 ·rw[List.getElem?_take_of_lt hk] at hu; exact h i u hu
 grind
theorem at_drop{w:World}{b o:Nat}{us:List Value}(h:At w b o us)(k:Nat):At w b (o+k) (us.drop k):=by
 intro i u hu;rw[List.getElem?_drop] at hu;have:=h (k+i) u hu
 grind
theorem ld_sound{X:Cx}{G:Gh}{a:Act}{st:St}{T:TypeId}{ti:TI}{x:Operand}{b o:Nat}{us:List Value}{cs:List AV}{av:AV}{ty:TypeId}(hE:EnvR X.n G st.e a)(hti:TIok X.P T ti)
  (hx:a.eval x=.pointer (some ⟨b,o,none⟩)) (hat:At G.w b o us) (hA:AVRs G cs us) (h:ldA ti cs=some av):Val X G a (.load T x) ty av:=by
 obtain⟨hi,hl,_,_,hk⟩:=hti;have hk:=kd_agg hk;have hxe:ev (cenv a [x]) x=some (.pointer (some ⟨b,o,none⟩)):=by grind[cenv_ev]
 unfold ldA at h;rw[ce] at h;split at h
 ·rename_i hg;rw[ce] at h;split at h
  ·rename_i hle;simp at h; subst h;have hle:=Nat.le_of_ble_eq_true hle
   haveI:AggT X.P T:=⟨hk.1 hg⟩
   haveI:Info X.P T ti.size ti.bytes ti.zero:=⟨hi⟩
   have hlen:=hA.len;exact val_of hE [x] (runs_loadA hxe (by grind) (at_take hat ti.size)) ⟨us.take ti.size,rfl,(hA.take _).1⟩
  grind
 ·rename_i hg;split at h
  ·rename_i c r;simp at h; subst h
   haveI:NotAgg X.P T:=⟨hk.2 (by grind)⟩
   obtain⟨u,us',rfl,hu,_⟩:=hA;exact val_of hE [x] (runs_load hxe (by simpa using hat 0 u rfl)) hu
  grind
def mergeB(a b:Operand)(x y z:Bool):Bool:=match b with
 | .const (.bool false)=>x&&y
 | _=>match a with
   | .const (.bool true)=>x||z
   | _=>bif x then y else z
theorem evB{st:St}{p:Pa}{v:Bool}{f:Bool}{y:Bool}(h:rd st p (.const (.bool v))=some (.d f .bool y)):y=v:=by
 grind[rd,conG,conA]
theorem mergeB_eq{st:St}{p q:Pa}{a b:Operand}{f g x y z:Bool}(ha:rd st p a=some (.d f .bool y))(hb:rd st q b=some (.d g .bool z)):mergeB a b x y z=bif x then y else z:=by
 unfold mergeB
 grind[evB]
def vcI(k:IntKind)(r:Int):Prop:=lo k<=r/\r<=hi k
def cmpV(k k':IntKind)(r:Bool):Option (Prop×AV):=bif decide (k=k') then some (True,.d true .bool r) else none
def eqI(a b:Int):Bool:=a==b
def neI(a b:Int):Bool:=a != b
def ltI(a b:Int):Bool:=decide (a<b)
def leI(a b:Int):Bool:=decide (a<=b)
def addI(a b:Int):Option (Prop×AV):=some (vcI .i64 (a+b),.d true (.int .i64) (a+b))
def subI(a b:Int):Option (Prop×AV):=some (vcI .i64 (a-b),.d true (.int .i64) (a-b))
def mulI(a b:Int):Option (Prop×AV):=some (vcI .i64 (a*b),.d true (.int .i64) (a*b))
def quoI(a b:Int):Option (Prop×AV):=some (0<b,.d true (.int .i64) (a.tdiv b))
def remI(a b:Int):Option (Prop×AV):=some (0<b,.d true (.int .i64) (a.tmod b))
def shlI(a b:Int):Option (Prop×AV):=some ((0<=b/\b<=62)/\vcI .i64 (a*2 ^ b.toNat),.d true (.int .i64) (a*2 ^ b.toNat))
def shrI(k:IntKind)(a b:Int):Option (Prop×AV):=some ((0<=b/\b<=62)/\vcI k (a.fdiv (2 ^ b.toNat)),.d true (.int k) (a.fdiv (2 ^ b.toNat)))
def eqS(a b:ByteArray):Bool:=decide (a=b)
def catS(a b:ByteArray):Option (Prop×AV):=some (a.size+b.size<=9223372036854775807,.d true .str (a++b))
def aggEq:List AV->List AV->Option Bool
 | [],[]=>some true
 | .d _ (.int k) a :: r,.d _ (.int k') b :: s=>bif decide (k=k') then(match aggEq r s with | some e=>some (eqI a b&&e) | none=>none) else none
 | _,_=>none
def eqAgg(ti:Option TI)(xs ys:List AV):Option Bool:=match ti with
 | some ⟨_,_,_,.agg pl true _,_⟩=>bif Nat.beq pl.length xs.length then aggEq xs ys else none
 | _=>none
def andI(k:IntKind)(a b:Int):Option (Prop×AV):=some (0<=a/\0<=b,.d true (.int k) ((a.toNat &&& b.toNat:Nat):Int))
def binA(ti:Option TI):BinOp->AV->AV->Option (Prop×AV)
 | .eql,.d _ (.int k) a,.d _ (.int k') b=>cmpV k k' (eqI a b)
 | .neq,.d _ (.int k) a,.d _ (.int k') b=>cmpV k k' (neI a b)
 | .lss,.d _ (.int k) a,.d _ (.int k') b=>cmpV k k' (ltI a b)
 | .leq,.d _ (.int k) a,.d _ (.int k') b=>cmpV k k' (leI a b)
 | .gtr,.d _ (.int k) a,.d _ (.int k') b=>cmpV k k' (ltI b a)
 | .geq,.d _ (.int k) a,.d _ (.int k') b=>cmpV k k' (leI b a)
 | .add,.d _ (.int .i64) a,.d _ (.int .i64) b=>addI a b
 | .sub,.d _ (.int .i64) a,.d _ (.int .i64) b=>subI a b
 | .mul,.d _ (.int .i64) a,.d _ (.int .i64) b=>mulI a b
 | .quo,.d _ (.int .i64) a,.d _ (.int .i64) b=>quoI a b
 | .rem,.d _ (.int .i64) a,.d _ (.int .i64) b=>remI a b
 | .eql,.d _ .str a,.d _ .str b=>some (True,.d true .bool (eqS a b))
 | .neq,.d _ .str a,.d _ .str b=>some (True,.d true .bool (!eqS a b))
 | .add,.d _ .str a,.d _ .str b=>catS a b
 | .eql,.d _ .bool a,.d _ .bool b=>match ti with
   | some ⟨_,_,_,.bool,_⟩=>some (True,.d true .bool (a==b))
   | _=>none
 | .neq,.d _ .bool a,.d _ .bool b=>match ti with
   | some ⟨_,_,_,.bool,_⟩=>some (True,.d true .bool (!(a==b)))
   | _=>none
 | .shl,.d _ (.int .i64) a,.d _ (.int _) b=>shlI a b
 | .shr,.d _ (.int .i64) a,.d _ (.int _) b=>shrI .i64 a b
 | .shr,.d _ (.int .u64) a,.d _ (.int _) b=>shrI .u64 a b
 | .eql,.agg xs,.agg ys=>match eqAgg ti xs ys with
   | some e=>some (True,.d true .bool e)
   | none=>none
 | .neq,.agg xs,.agg ys=>match eqAgg ti xs ys with
   | some e=>some (True,.d true .bool (!e))
   | none=>none
 | .add,.d _ (.int .u8) a,.d _ (.int .u8) b=>some (vcI .u8 (a+b),.d true (.int .u8) (a+b))
 | .sub,.d _ (.int .u8) a,.d _ (.int .u8) b=>some (vcI .u8 (a-b),.d true (.int .u8) (a-b))
 | .eql,.d _ (.pt _) _,.v (.pointer none)=>match ti with
   | some ⟨_,_,_,.ptr,_⟩=>some (True,.d true .bool false)
   | _=>none
 | .neq,.d _ (.pt _) _,.v (.pointer none)=>match ti with
   | some ⟨_,_,_,.ptr,_⟩=>some (True,.d true .bool true)
   | _=>none
 | .eql,.v (.pointer none),.v (.pointer none)=>match ti with
   | some ⟨_,_,_,.ptr,_⟩=>some (True,.d true .bool true)
   | _=>none
 | .neq,.v (.pointer none),.v (.pointer none)=>match ti with
   | some ⟨_,_,_,.ptr,_⟩=>some (True,.d true .bool false)
   | _=>none
 | .and,.d _ (.int .i64) a,.d _ (.int .i64) b=>andI .i64 a b
 | .and,.d _ (.int .u64) a,.d _ (.int .u64) b=>andI .u64 a b
 | .add,.d _ (.int .u64) a,.d _ (.int .u64) b=>some (True,.d true (.int .u64) ((a+b) % 18446744073709551616))
 | .mul,.d _ (.int .u64) a,.d _ (.int .u64) b=>some (True,.d true (.int .u64) ((a*b) % 18446744073709551616))
 | _,_,_=>none
theorem avr_int{G:Gh}{fr:Bool}{k:IntKind}{x:Int}{u:Value}(h:AVR G (.d fr (.int k) x) u):u=.int k x/\lo k<=x/\x<=hi k:=⟨by have:=h.1; simpa using this,h.2⟩
theorem avr_bool{G:Gh}{fr:Bool}{x:Bool}{u:Value}(h:AVR G (.d fr .bool x) u):u=.bool x:=by have:[u]=_:=h; simpa using this
theorem avr_str{G:Gh}{fr:Bool}{s:ByteArray}{u:Value}(h:AVR G (.d fr .str s) u):u=.string s/\s.size<=9223372036854775807:=⟨by have:=h.1; simpa using this,h.2⟩
theorem remI_in{i j:Int}(h4:InI j)(hq:0<j):InI (i.tmod j):=by
 have g1:=Int.tmod_lt_of_pos i hq;have g2 : -j<i.tmod j:=by
  have:=Int.tmod_lt_of_pos (-i) hq;rw[Int.neg_tmod] at this; omega
 grind[InI]
theorem wrap_in(k:IntKind){n:Int}(h:lo k<=n/\n<=hi k):k.wrap n=n:=by
 cases k <;> simp only[lo,hi] at h
 ·grind[IntWalk.i8_in]
 ·grind[IntWalk.i16_in]
 ·grind[IntWalk.i32_in]
 ·grind[IntWalk.i64_in]
 ·grind[IntWalk.u8_in]
 ·grind[IntWalk.u16_in]
 ·grind[IntWalk.u32_in]
 grind[IntWalk.u64_in]
theorem runs_shl{P:Program}{n:Nat}{e:Env}{w:World}{T T' ty:TypeId}{x y:Operand}{k:IntKind}{a b:Int}(hx:ev e x=some (.int .i64 a))(hy:ev e y=some (.int k b))(hb:0<=b/\b<=62)(hr:lo .i64<=a*2 ^ b.toNat/\a*2 ^ b.toNat<=hi .i64) :
  RunsOp P n e (.binOp .shl T x y T') ty w (.int .i64 (a*2 ^ b.toNat)) w:=by
 intro ac dst pos after g ha;have h0:¬b<0:=by omega
 have h1:min b.toNat IntKind.i64.bits=b.toNat:=Nat.min_eq_left (by show b.toNat<=64; omega);simp only[execOp,ha.ev hx,ha.ev hy];simp[eqGuard,binOp,wrap_in .i64 hr]
theorem runs_shr{P:Program}{n:Nat}{e:Env}{w:World}{T T' ty:TypeId}{x y:Operand}{k k0:IntKind}{a b:Int}(hx:ev e x=some (.int k0 a))(hy:ev e y=some (.int k b))(hb:0<=b/\b<=62)(hk:64<=k0.bits) :
  RunsOp P n e (.binOp .shr T x y T') ty w (.int k0 (a.fdiv (2 ^ b.toNat))) w:=by
 intro ac dst pos after g ha;have h0:¬b<0:=by omega
 have h1:min b.toNat k0.bits=b.toNat:=Nat.min_eq_left (by omega);simp only[execOp,ha.ev hx,ha.ev hy];simp[eqGuard,binOp,Op.shift,h0,h1]
theorem runs_ar{P:Program}{n:Nat}{e:Env}{w:World}{T T' ty:TypeId}{x y:Operand}{a b r:Int}{op:BinOp}(hx:ev e x=some (.int .u8 a))(hy:ev e y=some (.int .u8 b))(ho:(op=.add/\r=a+b)∨(op=.sub/\r=a-b))(hr:lo .u8<=r/\r<=hi .u8) :
  RunsOp P n e (.binOp op T x y T') ty w (.int .u8 r) w:=by
 intro ac dst pos after g ha;simp only[execOp,ha.ev hx,ha.ev hy];have hw:=wrap_in .u8 hr;rcases ho with ⟨rfl,rfl⟩ | ⟨rfl,rfl⟩
 ·simp[eqGuard,binOp,Op.intArith,hw]
 ·simp[eqGuard,binOp,Op.intArith,hw]
theorem runs_and{P:Program}{n:Nat}{e:Env}{w:World}{T T' ty:TypeId}{x y:Operand}{k:IntKind}{a b:Int}(hk:k=.i64∨k=.u64)(hx:ev e x=some (.int k a))(hy:ev e y=some (.int k b))(ha:0<=a/\a<=hi k)(hb:0<=b/\b<=hi k) :
  RunsOp P n e (.binOp .and T x y T') ty w (.int k ((a.toNat &&& b.toNat:Nat):Int)) w/\0<=((a.toNat &&& b.toNat:Nat):Int)/\((a.toNat &&& b.toNat:Nat):Int)<=hi k:=by
 have hle:((a.toNat &&& b.toNat:Nat):Int)<=a:=by
  have:=Nat.and_le_left (n:=a.toNat) (m:=b.toNat);omega
 have h0:(0:Int)<=((a.toNat &&& b.toNat:Nat):Int):=Int.natCast_nonneg _;have hlt:∀x:Int,x<=hi k->x<18446744073709551616:=fun x h=>by
  rcases hk with rfl | rfl
  ·have:hi .i64=9223372036854775807:=rfl;omega
  ·have:hi .u64=18446744073709551615:=rfl;omega
 have hlo:lo k<=((a.toNat &&& b.toNat:Nat):Int):=by
  rcases hk with rfl | rfl
  ·have:lo .i64 = -9223372036854775808:=rfl;omega
  ·have:lo .u64=0:=rfl;omega
 have hw:=wrap_in k ⟨hlo,(by omega:((a.toNat &&& b.toNat:Nat):Int)<=hi k)⟩;refine⟨?_,h0,by omega⟩;intro ac dst pos after g hac;simp only[execOp,hac.ev hx,hac.ev hy];have e1:a % 18446744073709551616=a:=Int.emod_eq_of_lt ha.1 (hlt a ha.2);have e2:b % 18446744073709551616=b:=Int.emod_eq_of_lt hb.1 (hlt b hb.2);rcases hk with rfl | rfl
 ·simp[eqGuard,binOp,Op.intBits,show IntKind.bits .i64=64 from rfl,e1,e2,hw]
 ·simp[eqGuard,binOp,Op.intBits,show IntKind.bits .u64=64 from rfl,e1,e2,hw]
theorem runs_u64{P:Program}{n:Nat}{e:Env}{w:World}{T T' ty:TypeId}{x y:Operand}{a b r:Int}{op:BinOp}(hx:ev e x=some (.int .u64 a))(hy:ev e y=some (.int .u64 b))(ho:(op=.add/\r=a+b)∨(op=.mul/\r=a*b)) :
  RunsOp P n e (.binOp op T x y T') ty w (.int .u64 (r % 18446744073709551616)) w:=by
 intro ac dst pos after g ha;simp only[execOp,ha.ev hx,ha.ev hy];have hw:IntKind.wrap .u64 r=r % 18446744073709551616:=by
  unfold IntKind.wrap;simp[IntKind.signed,IntKind.bits]
 rcases ho with ⟨rfl,rfl⟩ | ⟨rfl,rfl⟩
 ·simp[eqGuard,binOp,Op.intArith,hw]
 ·simp[eqGuard,binOp,Op.intArith,hw]
theorem eqF_run{P:Program}{w:World}{G:Gh}{d:Nat}{xs ys:Array Value}:∀{fs:List Field} {k:Nat} {as bs:List AV} {e:Bool},eqIF P k fs=true->fs.length=as.length->aggEq as bs=some e->AVRs G as (xs.toList.drop k)->AVRs G bs (ys.toList.drop k) ->
  (Op.eqFields (d+1) xs ys fs).run P w=.ok e w
 | [],k,[],bs,e,_,_,h,_,_=>by
   cases bs with
   | nil=>simp only[aggEq,oi] at h; subst h; simp[Op.eqFields]
   | cons b r=>grind[aggEq]
 | f :: r,k,a :: as,bs,e,hf,hl,h,hx,hy=>by
   unfold aggEq at h;split at h
   ·grind
   ·rename_i g q x as' g' q' y bs' e1;cases e1;rw[ce] at h;split at h
    ·rename_i hq;have hq:q=q':=by simpa using hq
     subst hq;split at h
     ·rename_i e' he';simp only[oi] at h; subst h;simp only[eqIF,ba,dq] at hf;obtain⟨⟨⟨hn,ho⟩,hi⟩,hr⟩:=hf;have ho:=nb ho;obtain⟨u,us,eu,hu,hus⟩:=hx;obtain⟨v,vs,ev,hv,hvs⟩:=hy;obtain⟨rfl,_⟩:=avr_int hu;obtain⟨rfl,_⟩:=avr_int hv;have gx:xs[f.offset]?=some (.int q x):=by
       have:(xs.toList.drop k)[0]?=some (.int q x):=by rw[eu]; rfl
       rw[List.getElem?_drop] at this;rw[ho]; simpa using this
      have gy:ys[f.offset]?=some (.int q y):=by
       have:(ys.toList.drop k)[0]?=some (.int q y):=by rw[ev]; rfl
       rw[List.getElem?_drop] at this;rw[ho]; simpa using this
      have dx:us=xs.toList.drop (k+1):=by
       have:(xs.toList.drop k).drop 1=us:=by rw[eu]; rfl
       rw[List.drop_drop] at this; exact this.symm
      have dy:vs=ys.toList.drop (k+1):=by
       have:(ys.toList.drop k).drop 1=vs:=by rw[ev]; rfl
       rw[List.drop_drop] at this; exact this.symm
      subst dx; subst dy;have ih:=eqF_run (w:=w) (d:=d) hr (by simpa using hl) he' hus hvs;unfold intB at hi;split at hi
      ·rename_i k0 hu0;have p1:(part f.type xs f.offset).run P w=.ok (.int q x) w:=by simp[part,Go.isAgg,run_underlying hu0,gx]
       have p2:(part f.type ys f.offset).run P w=.ok (.int q y) w:=by simp[part,Go.isAgg,run_underlying hu0,gy]
       have p3:=run_equalIn_int w d f.type q k0 x y hu0;simp only[Op.eqFields,hn,ne_eq,not_false_eq_true,if_true,Sem.run_bind,p1,p2,p3,Result.andThen_ok];by_cases hxy:x=y
       ·grind[eqI]
       ·simp[eqI,hxy]
      grind
     grind
    grind
   grind
theorem runs_eqA{P:Program}{n:Nat}{en:Env}{w:World}{G:Gh}{T T' ty:TypeId}{x y:Operand}{us vs:List Value}{as bs:List AV}{e:Bool}{pl:List (Nat×Nat)}(hx:ev en x=some (.agg us.toArray))(hy:ev en y=some (.agg vs.toArray))
  (ha:AVRs G as us) (hb:AVRs G bs vs) {ag:List Bool} (hk:kdOk P T (.agg pl true ag)) (hl:pl.length=as.length) (h:aggEq as bs=some e) :
  RunsOp P n en (.binOp .eql T x y T') ty w (.bool e) w/\RunsOp P n en (.binOp .neq T x y T') ty w (.bool (!e)) w:=by
 obtain⟨_,h2,_,_,h5,_⟩:=hk;have h5:=h5 rfl;unfold eqIB at h5;split at h5
 ·rename_i fs hu;simp only[ba,Bool.not_eq_true'] at h5;obtain⟨⟨g1,g2⟩,g3⟩:=h5;have hfs:P.fieldsOf T=fs:=by unfold Program.fieldsOf; rw[hu]
  have hlen:fs.toList.length=as.length:=by
   unfold placesB at h2;rw[hu] at h2;simp only[oi] at h2;rw[<- hl,<- h2,List.length_map]
  have key:(Op.equalIn 10000 T (.agg us.toArray) (.agg vs.toArray)).run P w=.ok e w:=by
   rw[run_equalIn_struct w 9999 T _ _ (by grind) g1,hfs];exact eqF_run (d:=9998) g3 hlen h ha hb
  constructor
  ·intro ac dst pos after g hag;simp only[execOp,hag.ev hx,hag.ev hy];simp[run_eqGuard_agg w .eql T x y us.toArray vs.toArray g2,run_eql_struct,key]
  ·intro ac dst pos after g hag;simp only[execOp,hag.ev hx,hag.ev hy];simp[run_eqGuard_agg w .neq T x y us.toArray vs.toArray g2,run_neq_struct,key]
 grind
theorem eqAgg_runs{X:Cx}{G:Gh}{a:Act}{st:St}{T T' ty:TypeId}{ti:Option TI}{x y:Operand}{as bs:List AV}{e:Bool}(hE:EnvR X.n G st.e a)(hti:∀t,ti=some t->TIok X.P T t)
  (hu:AVR G (.agg as) (a.eval x)) (hv:AVR G (.agg bs) (a.eval y)) (h:eqAgg ti as bs=some e):Val X G a (.binOp .eql T x y T') ty (.d true .bool e)/\Val X G a (.binOp .neq T x y T') ty (.d true .bool (!e)):=by
 have hxe:ev (cenv a [x,y]) x=some (a.eval x):=cenv_ev (by simp);have hye:ev (cenv a [x,y]) y=some (a.eval y):=cenv_ev (by simp);unfold eqAgg at h;split at h
 ·rw[ce] at h;split at h
  ·rename_i hl;obtain⟨us,e1,h1⟩:=hu;obtain⟨vs,e2,h2⟩:=hv;rw[e1] at hxe;rw[e2] at hye;obtain⟨r1,r2⟩:=runs_eqA (P:=X.P) (n:=X.n) (w:=G.w) (T':=T') (ty:=ty) hxe hye h1 h2 (hti _ rfl).2.2.2.2 (nb hl) h;exact⟨val_of hE [x,y] r1 rfl,val_of hE [x,y] r2 rfl⟩
  grind
 grind
theorem runs_eqPtr{P:Program}{n:Nat}{e:Env}{ty:TypeId}{w:World}{T T':TypeId}{x y:Operand}{q:Option Addr}(hU:P.underlying T=some (.pointer (P.pointee T)))(hx:Sv.ev e x=some (.pointer q))(hy:Sv.ev e y=some (.pointer none)) :
  RunsOp P n e (.binOp .eql T x y T') ty w (.bool q.isNone) w:=by
 intro a dst pos after g ha;have:=run_eql_pointer_nil w T q hU;simp only[execOp,ha.ev hx,ha.ev hy];simp[eqGuard,this,Result.andThen]
theorem runs_nePtr{P:Program}{n:Nat}{e:Env}{ty:TypeId}{w:World}{T T':TypeId}{x y:Operand}{q:Option Addr}(hU:P.underlying T=some (.pointer (P.pointee T)))(hx:Sv.ev e x=some (.pointer q))(hy:Sv.ev e y=some (.pointer none)) :
  RunsOp P n e (.binOp .neq T x y T') ty w (.bool (!q.isNone)) w:=by
 intro a dst pos after g ha;have:=run_neq_pointer_nil w T q hU;simp only[execOp,ha.ev hx,ha.ev hy];simp[eqGuard,this,Result.andThen]
theorem binA_sound{X:Cx}{G:Gh}{a:Act}{st:St}{op:BinOp}{T T' ty:TypeId}{ti:Option TI}{x y:Operand}{u v r:AV}{q:Prop}(hE:EnvR X.n G st.e a)(hti:∀t,ti=some t->TIok X.P T t)
  (hu:AVR G u (a.eval x)) (hv:AVR G v (a.eval y)) (h:binA ti op u v=some (q,r)) (hq:q):Val X G a (.binOp op T x y T') ty r:=by
 have hxe:ev (cenv a [x,y]) x=some (a.eval x):=cenv_ev (by simp);have hye:ev (cenv a [x,y]) y=some (a.eval y):=cenv_ev (by simp);have cmp:∀{o:BinOp} {f g:Bool} {k k':IntKind} {i j:Int} {res:Bool} {q':Prop} {r':AV},u=.d f (.int k) i->v=.d g (.int k') j->cmpV k k' res=some (q',r')->cmpI o i j=some res->op=o->r'=r ->
   Val X G a (.binOp op T x y T') ty r:=by
  intro o f g k k' i j res q' r' e1 e2 hb hc ho hr;subst e1; subst e2;unfold cmpV at hb;rw[ce] at hb;split at hb
  ·rename_i hk;have hk:k=k':=by simpa using hk
   subst hk;simp only[oi,pj] at hb;obtain⟨_,rfl⟩:=hb;obtain⟨h1,_⟩:=avr_int hu;obtain⟨h2,_⟩:=avr_int hv;rw[h1] at hxe;rw[h2] at hye;refine val_of hE [x,y] (v:=.bool res) (runs_pure ?_) ?_
   ·grind[pureV,binV]
   ·rw[<- hr]; exact rfl
  ·cases hb
 have ar:∀{f g:Bool} {i j:Int},u=.d f (.int .i64) i->v=.d g (.int .i64) j->ev (cenv a [x,y]) x=some (.int .i64 i)/\ev (cenv a [x,y]) y=some (.int .i64 j)/\InI i/\InI j:=by
  intro f g i j e1 e2;subst e1; subst e2;obtain⟨h1,h1'⟩:=avr_int hu;obtain⟨h2,h2'⟩:=avr_int hv;rw[h1] at hxe;rw[h2] at hye;exact⟨hxe,hye,h1',h2'⟩
 have sr:∀{f g:Bool} {i j:ByteArray},u=.d f .str i->v=.d g .str j->ev (cenv a [x,y]) x=some (.string i)/\ev (cenv a [x,y]) y=some (.string j):=by
  intro f g i j e1 e2;subst e1; subst e2;rw[(avr_str hu).1] at hxe;rw[(avr_str hv).1] at hye;exact⟨hxe,hye⟩
 have br:∀{f g i j:Bool},u=.d f .bool i->v=.d g .bool j->ev (cenv a [x,y]) x=some (.bool i)/\ev (cenv a [x,y]) y=some (.bool j):=by
  intro f g i j e1 e2;subst e1; subst e2;rw[avr_bool hu] at hxe;rw[avr_bool hv] at hye;exact⟨hxe,hye⟩
 unfold binA at h;split at h
 ·exact cmp rfl rfl h rfl rfl rfl
 ·exact cmp rfl rfl h rfl rfl rfl
 ·exact cmp rfl rfl h rfl rfl rfl
 ·exact cmp rfl rfl h rfl rfl rfl
 ·exact cmp rfl rfl h rfl rfl rfl
 ·exact cmp rfl rfl h rfl rfl rfl
 ·simp only[addI,oi,pj] at h;obtain⟨rfl,rfl⟩:=h;obtain⟨h1,h2,_⟩:=ar rfl rfl;exact val_of hE [x,y] (runs_add h1 h2 hq) ⟨rfl,hq⟩
 ·simp only[subI,oi,pj] at h;obtain⟨rfl,rfl⟩:=h;obtain⟨h1,h2,_⟩:=ar rfl rfl;exact val_of hE [x,y] (runs_sub h1 h2 hq) ⟨rfl,hq⟩
 ·simp only[mulI,oi,pj] at h;obtain⟨rfl,rfl⟩:=h;obtain⟨h1,h2,_⟩:=ar rfl rfl;exact val_of hE [x,y] (runs_mul h1 h2 hq) ⟨rfl,hq⟩
 ·simp only[quoI,oi,pj] at h;obtain⟨rfl,rfl⟩:=h;obtain⟨h1,h2,h3,_⟩:=ar rfl rfl;exact val_of hE [x,y] (runs_quo h1 h2 h3 hq) ⟨rfl,tdiv_in h3 hq⟩
 ·simp only[remI,oi,pj] at h;obtain⟨rfl,rfl⟩:=h;obtain⟨h1,h2,h3,h4⟩:=ar rfl rfl;exact val_of hE [x,y] (runs_rem h1 h2 (by omega)) ⟨rfl,remI_in h4 hq⟩
 ·simp only[oi,pj] at h;obtain⟨rfl,rfl⟩:=h;obtain⟨h1,h2⟩:=sr rfl rfl;exact val_of hE [x,y] (runs_pure (by grind[pureV,binV,cmpS,eqS])) rfl
 ·simp only[oi,pj] at h;obtain⟨rfl,rfl⟩:=h;obtain⟨h1,h2⟩:=sr rfl rfl;exact val_of hE [x,y] (runs_pure (by grind[pureV,binV,cmpS,eqS])) rfl
 ·simp only[catS,oi,pj] at h;obtain⟨rfl,rfl⟩:=h;obtain⟨h1,h2⟩:=sr rfl rfl;exact val_of hE [x,y] (runs_cat h1 h2 hq) ⟨rfl,by grind⟩
 ·split at h
  ·simp only[oi,pj] at h;obtain⟨rfl,rfl⟩:=h;obtain⟨h1,h2⟩:=br rfl rfl
   haveI:BoolT X.P T:=⟨(hti _ rfl).2.2.2.2.2⟩
   exact val_of hE [x,y] (runs_eqB h1 h2) rfl
  grind
 ·split at h
  ·simp only[oi,pj] at h;obtain⟨rfl,rfl⟩:=h;obtain⟨h1,h2⟩:=br rfl rfl
   haveI:BoolT X.P T:=⟨(hti _ rfl).2.2.2.2.2⟩
   exact val_of hE [x,y] (runs_neB h1 h2) rfl
  grind
 ·simp only[shlI,oi,pj] at h;obtain⟨rfl,rfl⟩:=h;obtain⟨h1,_⟩:=avr_int hu;obtain⟨h2,_⟩:=avr_int hv;rw[h1] at hxe;rw[h2] at hye;exact val_of hE [x,y] (runs_shl hxe hye hq.1 hq.2) ⟨rfl,hq.2⟩
 ·simp only[shrI,oi,pj] at h;obtain⟨rfl,rfl⟩:=h;obtain⟨h1,_⟩:=avr_int hu;obtain⟨h2,_⟩:=avr_int hv;rw[h1] at hxe;rw[h2] at hye;exact val_of hE [x,y] (runs_shr hxe hye hq.1 (Nat.le_refl 64)) ⟨rfl,hq.2⟩
 ·simp only[shrI,oi,pj] at h;obtain⟨rfl,rfl⟩:=h;obtain⟨h1,_⟩:=avr_int hu;obtain⟨h2,_⟩:=avr_int hv;rw[h1] at hxe;rw[h2] at hye;exact val_of hE [x,y] (runs_shr hxe hye hq.1 (Nat.le_refl 64)) ⟨rfl,hq.2⟩
 ·grind[oi,pj,eqAgg_runs]
 ·split at h
  ·rename_i he;simp only[oi,pj] at h;obtain⟨rfl,rfl⟩:=h;exact(eqAgg_runs hE hti hu hv he).2
  grind
 ·simp only[oi,pj] at h;obtain⟨rfl,rfl⟩:=h;obtain⟨h1,_⟩:=avr_int hu;obtain⟨h2,_⟩:=avr_int hv;rw[h1] at hxe;rw[h2] at hye;exact val_of hE [x,y] (runs_ar hxe hye (.inl ⟨rfl,rfl⟩) hq) ⟨rfl,hq⟩
 ·simp only[oi,pj] at h;obtain⟨rfl,rfl⟩:=h;obtain⟨h1,_⟩:=avr_int hu;obtain⟨h2,_⟩:=avr_int hv;rw[h1] at hxe;rw[h2] at hye;exact val_of hE [x,y] (runs_ar hxe hye (.inr ⟨rfl,rfl⟩) hq) ⟨rfl,hq⟩
 ·split at h
  ·simp only[oi,pj] at h;obtain⟨rfl,rfl⟩:=h;obtain⟨b,o,ds,h1,_⟩:=hu;simp only[List.cons.injEq,and_true] at h1;have h2:a.eval y=.pointer none:=hv;rw[h1] at hxe;rw[h2] at hye;exact val_of hE [x,y] (runs_eqPtr (hti _ rfl).2.2.2.2.2 hxe hye) rfl
  grind
 ·split at h
  ·simp only[oi,pj] at h;obtain⟨rfl,rfl⟩:=h;obtain⟨b,o,ds,h1,_⟩:=hu;simp only[List.cons.injEq,and_true] at h1;have h2:a.eval y=.pointer none:=hv;rw[h1] at hxe;rw[h2] at hye;exact val_of hE [x,y] (runs_nePtr (hti _ rfl).2.2.2.2.2 hxe hye) rfl
  grind
 ·split at h
  ·simp only[oi,pj] at h;obtain⟨rfl,rfl⟩:=h;have h1:a.eval x=.pointer none:=hu;have h2:a.eval y=.pointer none:=hv;rw[h1] at hxe;rw[h2] at hye;exact val_of hE [x,y] (runs_eqPtr (hti _ rfl).2.2.2.2.2 hxe hye) rfl
  grind
 ·split at h
  ·simp only[oi,pj] at h;obtain⟨rfl,rfl⟩:=h;have h1:a.eval x=.pointer none:=hu;have h2:a.eval y=.pointer none:=hv;rw[h1] at hxe;rw[h2] at hye;exact val_of hE [x,y] (runs_nePtr (hti _ rfl).2.2.2.2.2 hxe hye) rfl
  grind
 ·simp only[andI,oi,pj] at h;obtain⟨rfl,rfl⟩:=h;obtain⟨h1,h1'⟩:=avr_int hu;obtain⟨h2,h2'⟩:=avr_int hv;rw[h1] at hxe;rw[h2] at hye;obtain⟨hr,hr0,hr1⟩:=runs_and (P:=X.P) (n:=X.n) (w:=G.w) (T:=T) (T':=T') (ty:=ty) (.inl rfl) hxe hye ⟨hq.1,h1'.2⟩ ⟨hq.2,h2'.2⟩;have h0:lo .i64<=0:=by decide
  exact val_of hE [x,y] hr ⟨rfl,Int.le_trans h0 hr0,hr1⟩
 ·simp only[andI,oi,pj] at h;obtain⟨rfl,rfl⟩:=h;obtain⟨h1,h1'⟩:=avr_int hu;obtain⟨h2,h2'⟩:=avr_int hv;rw[h1] at hxe;rw[h2] at hye;obtain⟨hr,hr0,hr1⟩:=runs_and (P:=X.P) (n:=X.n) (w:=G.w) (T:=T) (T':=T') (ty:=ty) (.inr rfl) hxe hye ⟨hq.1,h1'.2⟩ ⟨hq.2,h2'.2⟩;have h0:lo .u64<=0:=by decide
  exact val_of hE [x,y] hr ⟨rfl,Int.le_trans h0 hr0,hr1⟩
 ·simp only[oi,pj] at h;obtain⟨rfl,rfl⟩:=h;obtain⟨h1,_⟩:=avr_int hu;obtain⟨h2,_⟩:=avr_int hv;rw[h1] at hxe;rw[h2] at hye;exact val_of hE [x,y] (runs_u64 hxe hye (.inl ⟨rfl,rfl⟩)) ⟨rfl,Int.emod_nonneg _ (by decide),Int.le_of_lt_add_one (Int.emod_lt_of_pos _ (by decide))⟩
 ·simp only[oi,pj] at h;obtain⟨rfl,rfl⟩:=h;obtain⟨h1,_⟩:=avr_int hu;obtain⟨h2,_⟩:=avr_int hv;rw[h1] at hxe;rw[h2] at hye;exact val_of hE [x,y] (runs_u64 hxe hye (.inr ⟨rfl,rfl⟩)) ⟨rfl,Int.emod_nonneg _ (by decide),Int.le_of_lt_add_one (Int.emod_lt_of_pos _ (by decide))⟩
 grind
def nthL{β:Type}:List β->Nat->Option β
 | [],_=>none
 | x :: _,0=>some x
 | _ :: r,n+1=>nthL r n
theorem nthL_eq{β:Type}:∀(l:List β) (n:Nat),nthL l n=l[n]?
 | [],_=>by simp[nthL]
 | _ :: _,0=>by simp[nthL]
 | _ :: r,n+1=>by simp[nthL,nthL_eq r n]
def derefA(o:List (Nat×Ob)):AV->Option (List AV×List Nat)
 | .ptr id off=>match lku o id with
   | some (.box _ cs)=>some (cs.drop off,[id])
   | _=>none
 | .pel id ver k s off=>match lku o id with
   | some (.arr _ fr t xs ver')=>bif Nat.beq ver ver'&&Nat.beq s (sz t) then some ((cellsD fr t (xs.getD k (dflt t))).drop off,[id]) else none
   | _=>none
 | .d fr (.pt t) x=>some (cellsD fr t x,[])
 | _=>none
def derefQ(o:List (Nat×Ob)):AV->Prop
 | .pel id _ k _ _=>match lku o id with
   | some (.arr _ _ _ xs _)=>k<xs.length
   | _=>True
 | _=>True
theorem own_piece{w:World}{T:TypeId}{s n b b' o n' c':Nat}{v:Value}{cs:List Value}(h:Own w T s (some b) v n cs)(hv:v=.slice (some ⟨b',o,none⟩) n' c'){k:Nat}{c pre post:List Value}(e:cs=pre++c++post)(hp:pre.length=k*s):b=b'/\At w b (o+k*s) c:=by
 obtain⟨o1,c1,e1,hat⟩:=h.at;rw[hv] at e1;cases e1;rw[e] at hat;have:=hat.mid
 grind
theorem deref_sound{X:Cx}{G:Gh}(S:Sat X G){p:AV}{u:Value}{cs:List AV}{l:List Nat}(h:derefA G.o p=some (cs,l))(hq:derefQ G.o p)(hu:AVR G p u):∃b o us,u=.pointer (some ⟨b,o,none⟩)/\At G.w b o us/\AVRs G cs us:=by
 unfold derefA at h;split at h
 ·rename_i id off;split at h
  ·rename_i T cs' ho;simp only[oi,pj] at h;obtain⟨rfl,rfl⟩:=h;obtain⟨_,b,hb,rfl⟩:=hu;obtain⟨b',us,g1,g2,g3,g4⟩:=S.obs id _ ho;rw[hb] at g2;cases g2;exact⟨b,off,us.drop off,rfl,by simpa using at_drop g3.at off,(g4.take off).2⟩
  grind
 ·rename_i id ver k s off;split at h
  ·rename_i T fr t xs ver' ho;rw[ce] at h;split at h
   ·rename_i hv;simp only[ba] at hv;have hv1:=nb hv.1;have hv2:=nb hv.2;subst hv1; subst hv2;simp only[oi,pj] at h;obtain⟨rfl,rfl⟩:=h;have hk:k<xs.length:=by simpa only[derefQ,ho] using hq
    obtain⟨_,T1,fr1,t1,xs1,ver1,h1,h2,h3⟩:=hu;rw[ho] at h1;cases h1;obtain⟨b,o,n,c,hr,rfl⟩:=h3 rfl;obtain⟨cs,hO,hA,hBB⟩:=S.obs id _ ho;obtain⟨pre,c',post,e,hp,hR⟩:=hA.get (fun c x h=>RT.len h) hk;cases hg:G.γ id with
    | none =>
      rw[hg] at hO;rcases hO with ⟨_,hn,_⟩ | ⟨b',_,_,_,hb,_⟩
      ·omega
      grind
    | some b' =>
      rw[hg] at hO;obtain⟨hbb,hat⟩:=own_piece hO hr e hp;subst hbb;have hD:=cellsD_sound hR;have hgd:xs.getD k (dflt t)=xs[k]:=by simp[hk]
      rw[hgd];exact⟨b',o+(k*sz t+off),c'.drop off,rfl,by rw[<- Nat.add_assoc]; exact at_drop hat off,(hD.take off).2⟩
   grind
  grind
 ·rename_i fr t x;simp only[oi,pj] at h;obtain⟨rfl,rfl⟩:=h;obtain⟨b,o,ds,h1,hb,hat,hR⟩:=hu;simp only[List.cons.injEq,and_true] at h1
  grind[cellsD_sound]
 grind
def moveA:AV->Nat->Option AV
 | .ptr id off,k=>some (.ptr id (off+k))
 | .pel id ver i s off,k=>some (.pel id ver i s (off+k))
 | .d fr (.pt t) x,k=>dropA fr t x k
 | _,_=>none
theorem move_sound{X:Cx}{G:Gh}(_:Sat X G){p r:AV}{u:Value}{k:Nat}{cs:List AV}{l:List Nat}(hd:derefA G.o p=some (cs,l))(h:moveA p k=some r)(hu:AVR G p u):∃b o,u=.pointer (some ⟨b,o,none⟩)/\AVR G r (.pointer (some ⟨b,o+k,none⟩)):=by
 unfold moveA at h;split at h
 ·simp at h; subst h;obtain⟨hx,b,hb,rfl⟩:=hu;exact⟨b,_,rfl,hx,b,hb,rfl⟩
 ·rename_i id ver i s off;simp at h; subst h;obtain⟨h0,T1,fr1,t1,xs1,ver1,h1,h2,h3⟩:=hu;simp only[derefA,h1,ce] at hd;split at hd
  ·rename_i hv;simp only[ba] at hv;have hv1:=nb hv.1;obtain⟨b,o,n,c,hr,rfl⟩:=h3 hv1;exact⟨b,_,rfl,rfl,T1,fr1,t1,xs1,ver1,h1,h2,fun _=>⟨b,o,n,c,hr,by grind⟩⟩
  grind
 ·rename_i fr t x;obtain⟨b,o,ds,h1,hb,hat,hR⟩:=hu;simp only[List.cons.injEq,and_true] at h1
  grind[dropA_sound]
 grind
def vcIx(n:Int)(len:Nat):Prop:=0<=n/\n < (len:Int)
def idxA(Γ:Tab')(o:List (Nat×Ob))(T:TypeId)(v:AV)(n:Int):Option (Prop×AV×List Nat):=match v,lku Γ T with
 | .d fr (.sl t) xs,some ⟨_,_,_,.sl E,_⟩=>match lku Γ E with
   | some te=>bif Nat.beq te.size (sz t) then some (vcIx n xs.length,.d fr (.pt t) (xs.getD n.toNat (dflt t)),[]) else none
   | none=>none
 | .os id ver,some ⟨_,_,_,.sl E,_⟩=>match lku Γ E,lku o id with
   | some te,some (.arr _ _ t xs ver')=>bif Nat.beq ver ver'&&Nat.beq te.size (sz t) then some (vcIx n xs.length,.pel id ver n.toNat (sz t) 0,[id]) else none
   | _,_=>none
 | .ptr id off,some ⟨_,_,_,.arr m E,_⟩=>match lku Γ E with
   | some te=>some (vcIx n m,.ptr id (off+n.toNat*te.size),[])
   | none=>none
 | .og id,some ⟨_,_,_,.sl E,_⟩=>match lku Γ E,lku o id with
   | some te,some (.grd _ _ _ _ xs _)=>bif Nat.beq te.size 1 then some (vcIx n xs.length,.gel id n.toNat,[id]) else none
   | _,_=>none
 | _,_=>none
theorem runs_idxArr{P:Program}{n:Nat}{e:Env}{ty:TypeId}{w:World}{T E s y m k b o:Nat}{z:Value}{x ix:Operand}{kk:IntKind}(h:P.underlying T=some (.array m E))[i:Info P E s y z](hx:ev e x=some (.pointer (some ⟨b,o,none⟩)))(hi:ev e ix=some (.int kk (k:Int)))(hk:k<m) :
  RunsOp P n e (.indexAddr T x ix) ty w (.pointer (some ⟨b,o+k*s,none⟩)) w:=by
 intro a dst pos after g ha;obtain⟨inf,hinfo,h1,h2,h3⟩:=i.get;have hadd:(Addr.mk b o none).add (k*s)=⟨b,o+k*s,none⟩:=by
  unfold Addr.add;split
  ·grind
  ·rfl
 have hin:0<=(k:Int)/\(k:Int) < (m:Int):=oo;simp only[execOp,ha.ev hx,ha.ev hi];simp only[Instr.indexAt,asIntOf,Sem.run_bind,run_underlying h,Instr.sureAddr,Result.andThen,Sem.run_pure,hin,and_self,if_true,run_sizeOf' w hinfo,h1,Int.toNat_natCast,hadd]
theorem idx_sound{X:Cx}{G:Gh}{a:Act}{st:St}{Γ:Tab'}(hΓ:TabOk X.P Γ)(S:Sat X G)(hE:EnvR X.n G st.e a){T ty:TypeId}{x ix:Operand}{v r:AV}{n:Int}{f:Bool}{k:IntKind}{q:Prop}{l:List Nat}
  (hx:AVR G v (a.eval x)) (hn:AVR G (.d f (.int k) n) (a.eval ix)) (h:idxA Γ G.o T v n=some (q,r,l)) (hq:q):Val X G a (.indexAddr T x ix) ty r:=by
 have hxe:ev (cenv a [x,ix]) x=some (a.eval x):=cenv_ev (by simp);have hye:ev (cenv a [x,ix]) ix=some (a.eval ix):=cenv_ev (by simp);rw[(avr_int hn).1] at hye;unfold idxA at h;split at h
 ·rename_i fr t xs s0 y0 z0 E ty0 hT;split at h
  ·rename_i te hte;rw[ce] at h;split at h
   ·rename_i hs;have hs:=nb hs;simp only[oi,pj] at h;obtain⟨rfl,rfl,rfl⟩:=h
    haveI:SliceOf X.P T E:=⟨(hΓ T _ hT).2.2.2.2.2⟩
    haveI:Info X.P E te.size te.bytes te.zero:=⟨(hΓ E _ hte).1⟩
    obtain⟨i,rfl⟩:=Int.eq_ofNat_of_zero_le hq.1;have hi:i<xs.length:=by have:=hq.2; omega
    obtain⟨p,cap,hv,_⟩:=id hx;simp only[List.cons.injEq,and_true] at hv;have hx':=hx;rw[hv] at hx' hxe;obtain⟨_,b,o,c,rfl,hb,hat,hR⟩:=RT.get hx' hi;refine val_of hE [x,ix] (runs_idx hxe hye hi) ?_;simp only[Int.toNat_natCast,gq,List.getElem?_eq_getElem hi,Option.getD_some];exact⟨b,o+i*te.size,c,rfl,hb,by grind,hR⟩
   grind
  grind
 ·rename_i id ver s0 y0 z0 E ty0 hT;split at h
  ·rename_i te T' fr t xs ver' hte ho;rw[ce] at h;split at h
   ·rename_i hs;simp only[ba] at hs;have hv1:=nb hs.1;have hsz:=nb hs.2;clear hs;subst hv1;simp only[oi,pj] at h;obtain⟨rfl,rfl,rfl⟩:=h
    haveI:SliceOf X.P T E:=⟨(hΓ T _ hT).2.2.2.2.2⟩
    haveI:Info X.P E te.size te.bytes te.zero:=⟨(hΓ E _ hte).1⟩
    obtain⟨i,rfl⟩:=Int.eq_ofNat_of_zero_le hq.1;have hi:i<xs.length:=by have:=hq.2; omega
    obtain⟨_,T1,fr1,t1,xs1,ver1,h1,h2,h3⟩:=hx;rw[ho] at h1;cases h1;have hu:=h3 rfl;obtain⟨cs,hO,hA,hBB⟩:=S.obs id _ ho;rcases hO with ⟨_,hn,_⟩ | ⟨b,o,cap,cur,hb,hv,_⟩
    ·omega
    ·rw[hu,hv] at hxe;refine val_of hE [x,ix] (runs_idx hxe hye hi) ?_;simp only[Int.toNat_natCast];exact⟨rfl,_,_,_,_,_,ho,Nat.le_refl _,fun _=>⟨b,o,_,_,hv,by grind⟩⟩
   grind
  grind
 ·rename_i id off s0 y0 z0 m E ty0 hT;split at h
  ·rename_i te hte;simp only[oi,pj] at h;obtain⟨rfl,rfl,rfl⟩:=h
   haveI:Info X.P E te.size te.bytes te.zero:=⟨(hΓ E _ hte).1⟩
   obtain⟨i,rfl⟩:=Int.eq_ofNat_of_zero_le hq.1;have hi:i<m:=by have:=hq.2; omega
   obtain⟨hb0,b,hb,hv⟩:=hx;rw[hv] at hxe;refine val_of hE [x,ix] (runs_idxArr (hΓ T _ hT).2.2.2.2.2 hxe hye hi) ?_;simp only[Int.toNat_natCast];exact⟨hb0,b,hb,rfl⟩
  grind
 ·rename_i id s0 y0 z0 E ty0 hT;split at h
  ·rename_i te T' Te fr t xs hole hte ho;rw[ce] at h;split at h
   ·rename_i hs;have hs:=nb hs;simp only[oi,pj] at h;obtain⟨rfl,rfl,rfl⟩:=h
    haveI:SliceOf X.P T E:=⟨(hΓ T _ hT).2.2.2.2.2⟩
    haveI:Info X.P E te.size te.bytes te.zero:=⟨(hΓ E _ hte).1⟩
    obtain⟨i,rfl⟩:=Int.eq_ofNat_of_zero_le hq.1;have hi:i<xs.length:=by have:=hq.2; omega
    obtain⟨_,_,hu⟩:=hx;obtain⟨vs,bs,hO,_,_⟩:=S.obs id _ ho;rcases hO with ⟨_,hn,_⟩ | ⟨b,o,cap,cur,hb,hv,_⟩
    ·omega
    ·rw[hu,hv] at hxe;refine val_of hE [x,ix] (runs_idx hxe hye hi) ?_;simp only[Int.toNat_natCast,hs,Nat.mul_one];exact⟨⟨_,_,_,_,_,_,ho⟩,b,o,_,_,hv,rfl⟩
   grind
  grind
 grind
def splA(cs:List AV)(o:Nat)(vs:List AV):List AV:=cs.take o++vs++cs.drop (o+vs.length)
theorem splA_sound{G:Gh}{cs vs:List AV}{us ws:List Value}{o:Nat}(h:AVRs G cs us)(k:AVRs G vs ws)(_:o+vs.length<=cs.length):AVRs G (splA cs o vs) (spl us o ws):=by
 unfold splA spl;rw[k.len];exact AVRs.app (h.take _).2 (AVRs.app k (h.take o).1)
def buildA(st:St)(p:Pa)(pl:List (Nat×Nat)):List AV->List (Nat×Operand)->Option (List AV)
 | cs,[]=>some cs
 | cs,(i,x) :: r=>match nthL pl i with
   | some (off,s)=>match rd st p x with
     | some v=>match cellsA v with
       | some vs=>bif Nat.beq vs.length s&&Nat.ble (off+vs.length) cs.length then buildA st p pl (splA cs off vs) r else none
       | none=>none
     | none=>none
   | none=>none
theorem lenIs_of:∀{us:List Value} {k:Nat},us.length=k->lenIs us k=true
 | [],0,_=>rfl
 | _ :: r,k+1,h=>lenIs_of (us:=r) (by grind)
 | [],_+1,h=>by grind
 | _ :: _,0,h=>by grind
theorem evp_cenv{a:Act}{xs:List Operand}:∀{ps:List (Nat×Operand)},(∀q∈ps,q.2∈xs)->evp (cenv a xs) ps=some (ps.map fun q=>(q.1,a.eval q.2))
 | [],_=>rfl
 | (i,x) :: r,h=>by
   have h1:=cenv_ev (a:=a) (h (i,x) (by simp));have h2:=evp_cenv (a:=a) (ps:=r) (fun q hq=>h q (by grind))
   grind[evp]
theorem build_sound{n:Nat}{G:Gh}{a:Act}{st:St}{p:Pa}{pl:List (Nat×Nat)}(hE:EnvR n G st.e a)(hp:PathP p a):∀{ps:List (Nat×Operand)} {cs r:List AV} {us:List Value},buildA st p pl cs ps=some r->AVRs G cs us ->
  ∃ws,fillL pl us (ps.map fun q=>(q.1,a.eval q.2))=some ws/\AVRs G r ws
 | [],cs,r,us,h,hA=>by simp[buildA] at h; subst h; exact⟨us,rfl,hA⟩
 | (i,x) :: q,cs,r,us,h,hA=>by
   unfold buildA at h;split at h
   ·rename_i off s hi;split at h
    ·rename_i v hv;split at h
     ·rename_i vs hvs;rw[ce] at h;split at h
      ·rename_i hc;simp only[ba] at hc;have hc1:=nb hc.1;have hc2:=Nat.le_of_ble_eq_true hc.2;have hx:=rd_sound hE hp hv;obtain⟨h1,_⟩:=cellsA_sound hvs hx;have hlen:=h1.len;have hlen2:=hA.len;obtain⟨ws,h2,h3⟩:=build_sound hE hp h (splA_sound hA h1 hc2);refine⟨ws,?_,h3⟩;simp only[List.map_cons];unfold fillL;rw[nthL_eq] at hi;simp only[hi];have hb:(lenIs (a.eval x).cells.toList s&&Nat.ble (off+s) us.length)=true:=by
        rw[ba];exact⟨lenIs_of (by omega),Nat.ble_eq_true_of_le (by omega)⟩
       grind
      grind
     grind
    grind
   grind
end Go.Proofs.Xv
end
section
namespace Go.Proofs.Sv
open Go Go.RowKit
section
variable {P:Program} {n:Nat} {e:Env} {w:World} {Q:Exit->Act->World->Prop} {l:List Oper} {fuel:Nat} {listed:Array Bool} {S:World->Prop} {ops:Array Oper} {rest:List Oper}
 {d:Nat} {op:Op} {ty:TypeId} {pos:String} {after:Array Edge}
end
section
variable {P:Program} {ops:Array Oper} {Q:Exit->Act->World->Prop} {S:World->Prop} {st:Nat}
end
section
variable {P:Program} {n:Nat} {e:Env} {w:World} {Q:Exit->Act->World->Prop} {l:List Oper} {fuel:Nat} {listed:Array Bool} {S:World->Prop} {st:Nat}
 {d:Nat} {op:Op} {ty:TypeId} {pos:String} {after:Array Edge}
end
theorem Own.set{w w':World}{E s:Nat}{g g' n n' c k o:Nat}{v:Value}{cs vs:List Value}(h:Own w E s (some g) v n cs)(hvo:v=.slice (some ⟨g',o,none⟩) n' c)(hk:k<n)(hv:vs.length=s)(hB:∀cur:Array Value,w.heap[g]?=some (.cells cur E (0,0))->w'.heap[g]?=some (.cells (spl cur.toList (o+k*s) vs).toArray E (0,0))) :
  Own w' E s (some g) v n (spl cs (k*s) vs):=by
 rcases h with ⟨h,_⟩ | ⟨b,o',cap,cur,hb,hv2,h1,h2,h3,h4,rfl⟩
 ·cases h
 ·cases hb;rw[hvo] at hv2;cases hv2;refine .inr ⟨g,o,c,_,rfl,hvo,hB cur h1,h2,h3,?_,?_⟩
  ·have hle:(k+1)*s<=c*s:=Nat.mul_le_mul_right s (by omega);rw[Nat.add_mul] at hle;simp only[spl,List.size_toArray,List.length_append,List.length_take,List.length_drop,Array.length_toList];omega
  ·have hle:(k+1)*s<=n*s:=Nat.mul_le_mul_right s (by omega);have hle2:n*s<=c*s:=Nat.mul_le_mul_right s h2;rw[Nat.add_mul] at hle;have e0:List.drop o (spl cur.toList (o+k*s) vs)=spl (cur.toList.drop o) (k*s) vs:=by
    unfold spl;rw[List.append_assoc,List.append_assoc,List.drop_append,List.drop_take,List.length_take,List.drop_drop,Array.length_toList];rw[show o+k*s-o=k*s by omega,show o-min (o+k*s) cur.size=0 by omega,List.drop_zero,Nat.add_assoc]
   show(List.drop o (spl cur.toList (o+k*s) vs)).take (n*s)=_;rw[e0];have hl:(cur.toList.drop o).length=c*s:=by rw[List.length_drop,Array.length_toList]; omega
   generalize cur.toList.drop o=C at hl;simp only[spl];have e1:(List.take (k*s) C).length=k*s:=by rw[List.length_take]; omega
   rw[List.append_assoc,List.take_append,List.take_append,e1,hv,List.append_assoc];congr 1
   ·rw[List.take_of_length_le (by rw[e1]; omega),List.take_take]; congr 1; omega
   ·congr 1
    ·rw[List.take_of_length_le (by omega)]
    ·rw[List.drop_take]; congr 1; omega
end Go.Proofs.Sv
end
section
namespace Go.Proofs.Sv
open Go
section
open Go.RowKit
variable {P:Program} {n:Nat} {e:Env} {w:World} {Q:Exit->Act->World->Prop} {ops:Array Oper} {rest:List Oper}
 {d:Nat} {ty:TypeId} {pos:String} {after:Array Edge}
end
end Go.Proofs.Sv
end
section
namespace Go.Proofs.Sv
open Go Go.RowKit
def OwnI(w:World)(E:TypeId)(g:Option Nat)(v:Value)(xs:List Int):Prop:=Own w E 1 g v xs.length (xs.map (Value.int .i64))/\∀x∈xs,InI x
theorem OwnI.up{w w':World}{E:TypeId}{g:Option Nat}{v:Value}{xs:List Int}(h:OwnI w E g v xs)(k:Ext w w'):OwnI w' E g v xs:=⟨h.1.up k,h.2⟩
theorem OwnI.we{g':Option Nat}{w w':World}{E:TypeId}{g:Option Nat}{v:Value}{xs:List Int}(h:OwnI w E g v xs)(k:WE g' w w')(hg:∀i,g'=some i->g≠some i):OwnI w' E g v xs:=⟨h.1.we k hg,h.2⟩
theorem OwnI.wr{b:Nat}{w w':World}{E:TypeId}{g:Option Nat}{v:Value}{xs:List Int}(h:OwnI w E g v xs)(k:Wr b w w')(hb:g≠some b):OwnI w' E g v xs:=⟨h.1.wr k hb,h.2⟩
theorem OwnI.lt{w:World}{E:TypeId}{g:Option Nat}{v:Value}{xs:List Int}(h:OwnI w E g v xs):∀k,g=some k->k<w.heap.size:=h.1.lt
theorem OwnI.len{w:World}{E:TypeId}{g:Option Nat}{v:Value}{xs:List Int}(h:OwnI w E g v xs):∃p c,v=.slice p xs.length c:=h.1.len
theorem All.ints{lo hi:Nat}{w:World}:∀{cs:List Value} {xs:List Int},All lo hi w cs xs->cs=xs.map (Value.int .i64)
 | _,[],h=>h
 | _,x :: r,h=>by
   obtain⟨c,d,rfl,h1,h2⟩:=h;rw[h1.1,All.ints h2]; rfl
theorem SlR.src{lo hi:Nat}{w:World}{v:Value}{xs:List Int}(h:SlR lo hi w v xs):∃p cap b o,v=.slice p xs.length cap/\(xs.length=0∨p=some ⟨b,o,none⟩)/\At w b o (xs.map (Value.int .i64)):=by
 obtain⟨p,cap,rfl,_,_,h4⟩:=h;rcases h4 with rfl | ⟨b,o,cs,rfl,_,_,hat,hall⟩
 ·exact⟨p,cap,0,0,rfl,.inl rfl,fun i u hu=>by simp at hu⟩
 ·rw[hall.ints] at hat;exact⟨_,cap,b,o,rfl,.inr rfl,hat⟩
theorem WE.then{g g':Option Nat}{w a a':World}(h:WE g w a)(k:WE g' a a')(hb:∀i,g'=some i->w.heap.size<=i∨g=some i):WE g w a' :=
 ⟨k.os.trans h.os,k.tape.trans h.tape,k.output.trans h.output,Nat.le_trans h.size k.size,fun i hi hg=>(k.block i (Nat.lt_of_lt_of_le hi h.size) (fun e=>by
   grind)).trans (h.block i hi hg)⟩
section
variable {P:Program} {n:Nat} {e:Env} {w:World} {ty:TypeId}
end
theorem At.tail{w:World}{b o:Nat}{c:Value}{cs:List Value}(h:At w b o (c :: cs)):At w b (o+1) cs:=by
 intro i u hu;have:=h (i+1) u (by grind)
 grind
theorem SlR.tail{lo hi:Nat}{w:World}{p:Option Addr}{len cap:Nat}{xs:List Int}(h:SlR lo hi w (.slice p len cap) xs)(h1:1<=len):SlR lo hi w (.slice (if cap=1 then p else p.map (·.add (1*1))) (len-1) (cap-1)) xs.tail:=by
 obtain⟨p',cap',hv,hle,hmax,h4⟩:=h;cases hv;cases xs with
 | nil=>grind
 | cons x r =>
   refine⟨if cap=1 then p else p.map (·.add (1*1)),cap-1,rfl,by grind,by omega,?_⟩;by_cases hc:cap=1
   ·grind
   ·right;rcases h4 with h4 | ⟨b,o,cs,rfl,hlo,hhi,hat,hall⟩
    ·cases h4
    ·obtain⟨c,d,rfl,hc1,hd⟩:=hall;have hc2:=hc1.1;subst hc2;refine⟨b,o+1,d,?_,hlo,hhi,hat.tail,hd⟩
     grind[Addr.add]
end Go.Proofs.Sv
end
section
namespace Go.Proofs.Xv
open Go Go.RowKit Go.Proofs.Sv
def convI:IntKind->IntKind->Int->Option Int
 | .i64,.i64,n=>some n
 | .u8,.u8,n=>some n
 | .u8,.i64,n=>some n
 | .i64,.u8,n=>some (n % 256)
 | _,_,_=>none
def convQ(k k':IntKind)(n:Int):Prop×Int:=match convI k k' n with
 | some m=>(True,m)
 | none=>(vcI k' n,n)
def minI(a b:Int):Int:=min a b
def maxI(a b:Int):Int:=max a b
def vcSl(l h:Int)(n:Nat):Prop:=0<=l/\l<=h/\h<=(n:Int)
def optA(st:St)(p:Pa):Option Operand->Option (Option Int)
 | none=>some none
 | some x=>match rd st p x with
   | some (.d _ (.int _) n)=>some (some n)
   | _=>none
def cutL{α:Type}(xs:List α):Option Int->Option Int->List α
 | none,none=>xs
 | some l,none=>xs.drop l.toNat
 | none,some h=>xs.take h.toNat
 | some l,some h=>(xs.take h.toNat).drop l.toNat
def cutS(s:ByteArray):Option Int->Option Int->ByteArray
 | none,none=>s.extract 0 s.size
 | some l,none=>s.extract l.toNat s.size
 | none,some h=>s.extract 0 h.toNat
 | some l,some h=>s.extract l.toNat h.toNat
def plArr:Nat->Nat->Nat->List (Nat×Nat)
 | 0,_,_=>[]
 | m+1,k,s=>(k*s,s) :: plArr m (k+1) s
theorem plArr_get{s:Nat}:∀{m k i:Nat} {q:Nat×Nat},(plArr m k s)[i]?=some q->q=((k+i)*s,s)
 | 0,k,i,q,h=>by grind[plArr]
 | m+1,k,0,q,h=>by grind[plArr,List.getElem?_cons_zero,oi]
 | m+1,k,i+1,q,h=>by
   simp only[plArr,List.getElem?_cons_succ] at h;have:=plArr_get h
   grind
theorem runs_buildArr{P:Program}{n:Nat}{e:Env}{ty:TypeId}{w:World}{T E s y s' y' m:Nat}{z z':Value}{parts:List (Nat×Operand)}{vs:List (Nat×Value)}{cs:List Value}(hU:P.underlying T=some (.array m E))[i:Info P T s y z][j:Info P E s' y' z'](hx:evp e parts=some vs)(hf:fillL (plArr m 0 s') z.cells.toList vs=some cs) :
  RunsOp P n e (.build T parts.toArray) ty w (.agg cs.toArray) w:=by
 intro a dst pos after g ha;obtain⟨inf,hinfo,h2,h3,h4⟩:=i.get;obtain⟨inf',hinfo',h2',_,_⟩:=j.get;have hfill:=fill_eq (plArr m 0 s') vs z.cells.toList cs hf;have hfill':=fill_mono (fun i:Nat=>(plArr m 0 s')[i]?) (fun i:Nat=>some (i*s',s')) vs _ _ (fun i p hp=>by rw[plArr_get hp,Nat.zero_add]) hfill;have e1:parts.toArray.map (fun(i,x)=>(i,a.eval x))=vs.toArray:=by rw[<- Agree.evp ha hx]; simp
 simp only[execOp,e1];simp only[Instr.build,Sem.run_bind,run_zeroValue' w hinfo h4,Result.andThen,run_underlying hU,run_sizeOf' w hinfo',h2'];rw[show z.cells=z.cells.toList.toArray by simp];simp only[hfill'];rfl
def fieldA(ti:TI)(cs:List AV)(f:Nat):Option AV:=match ti.kd with
 | .agg pl _ ag=>match nthL pl f,nthL ag f with
   | some (off,s),some true=>bif Nat.ble (off+s) cs.length then some (.agg ((cs.drop off).take s)) else none
   | some (off,_),some false=>nthL cs off
   | _,_=>none
 | _=>none
def absP(Γ:Tab')(st:St)(p:Pa):Op->Option (Prop×AV×List Nat)
 | .move x | .assign x=>match rd st p x with
   | some a=>some (True,a,[])
   | none=>none
 | .nilCheck x=>match rd st p x with
   | some v=>match derefA st.o v with
     | some (_,l)=>some (derefQ st.o v,v,l)
     | none=>none
   | none=>none
 | .pick c a b=>match c with
   | .tmp s=>match rd st p (.tmp s),rd st ((s,true) :: p) a,rd st ((s,false) :: p) b with
     | some (.d _ .bool x),some (.d _ .bool y),some (.d _ .bool z)=>some (True,.d true .bool (mergeB a b x y z),[])
     | _,_,_=>none
   | _=>none
 | .binOp op T x y _=>match rd st p x,rd st p y with
   | some u,some v=>match binA (lku Γ T) op u v with
     | some (q,r)=>some (q,r,[])
     | none=>none
   | _,_=>none
 | .unOp .not _ x=>match rd st p x with
   | some (.d _ .bool b)=>some (True,.d true .bool (!b),[])
   | _=>none
 | .unOp .neg _ x=>match rd st p x with
   | some (.d _ (.int .i64) n)=>some (vcI .i64 (-n),.d true (.int .i64) (-n),[])
   | _=>none
 | .convert S T x=>match rd st p x,lku Γ S,lku Γ T with
   | some (.d _ (.int k) n),some ⟨_,_,_,.int _,_⟩,some ⟨_,_,_,.int k',_⟩=>match convQ k k' n with
     | (q,m)=>some (q,.d true (.int k') m,[])
   | some (.os id ver),some ⟨_,_,_,.sl E,_⟩,some ⟨_,_,_,.str,_⟩=>match lku st.o id,lku Γ E with
     | some (.arr _ _ (.int .u8) xs ver'),some ⟨_,_,_,.int .u8,_⟩=>bif Nat.beq ver ver' then some (0<xs.length,.d true .str (strOfNums xs),[id]) else none
     | _,_=>none
   | _,_,_=>none
 | .fieldAddr T x f=>match rd st p x,lku Γ T with
   | some v,some ⟨_,_,_,.agg pl _ _,_⟩=>match nthL pl f,derefA st.o v with
     | some (off,_),some (_,l)=>match moveA v off with
       | some r=>some (True,r,l)
       | none=>none
     | _,_=>none
   | _,_=>none
 | .load T x=>match rd st p x,lku Γ T with
   | some v,some ti=>match derefA st.o v with
     | some (cs,l)=>match ldA ti cs with
       | some r=>some (derefQ st.o v,r,l)
       | none=>none
     | none=>none
   | _,_=>none
 | .indexAddr T x i=>match rd st p x,rd st p i with
   | some v,some (.d _ (.int _) n)=>idxA Γ st.o T v n
   | _,_=>none
 | .index T x i=>match rd st p x,rd st p i,lku Γ T with
   | some (.d _ .str s),some (.d _ (.int _) n),some ⟨_,_,_,.str,_⟩=>some (vcIx n s.size,.d true (.int .u8) (byteAt s n.toNat),[])
   | _,_,_=>none
 | .extract x i=>match rd st p x with
   | some (.tup l)=>match nthL l i with
     | some r=>some (True,r,[])
     | none=>none
   | _=>none
 | .field T x f=>match rd st p x,lku Γ T with
   | some (.agg cs),some ti=>match fieldA ti cs f with
     | some r=>some (True,r,[])
     | none=>none
   | _,_=>none
 | .makeFunc (.func f) first cap=>match first.toList,rds st p cap.toList with
   | [],some l=>some (True,.fn f l,[])
   | _,_=>none
 | .build T parts=>match lku Γ T with
   | some ⟨_,_,z,.agg pl _ _,_⟩=>match conAs z.cells.toList with
     | some cs=>match buildA st p pl cs parts.toList with
       | some r=>some (True,.agg r,[])
       | none=>none
     | none=>none
   | some ⟨_,_,z,.arr m E,_⟩=>match lku Γ E,conAs z.cells.toList with
     | some te,some cs=>match buildA st p (plArr m 0 te.size) cs parts.toList with
       | some r=>some (True,.agg r,[])
       | none=>none
     | _,_=>none
   | _=>none
 | .slice T x l h none=>match rd st p x,optA st p l,optA st p h,lku Γ T with
   | some (.d fr (.sl t) xs),some lo,some hi,some ⟨_,_,_,.sl E,_⟩=>match lku Γ E with
     | some te=>bif Nat.beq te.size (sz t) then some (vcSl (lo.getD 0) (hi.getD xs.length) xs.length,.d fr (.sl t) (cutL xs lo hi),[]) else none
     | none=>none
   | some (.d _ .str s),some lo,some hi,some ⟨_,_,_,.str,_⟩=>some (vcSl (lo.getD 0) (hi.getD s.size) s.size,.d true .str (cutS s lo hi),[])
   | _,_,_,_=>none
 | .call ⟨.builtin .len,xs,Ts⟩=>match rds st p xs.toList,Ts.toList with
   | some [.d _ (.sl _) l],[T]=>match lku Γ T with
     | some ⟨_,_,_,.sl _,_⟩=>some (True,.d true (.int .i64) (l.length:Int),[])
     | _=>none
   | some [.os id ver],[T]=>match lku Γ T,lku st.o id with
     | some ⟨_,_,_,.sl _,_⟩,some (.arr _ _ _ l ver')=>bif Nat.beq ver ver' then some (True,.d true (.int .i64) (l.length:Int),[id]) else none
     | _,_=>none
   | some [.v (.slice none 0 0)],[T]=>match lku Γ T with
     | some ⟨_,_,_,.sl _,_⟩=>some (True,.d true (.int .i64) (0:Int),[])
     | _=>none
   | some [.d _ .str s],[T]=>match lku Γ T with
     | some ⟨_,_,_,.str,_⟩=>some (True,.d true (.int .i64) (s.size:Int),[])
     | _=>none
   | _,_=>none
 | .call ⟨.builtin .min,xs,_⟩=>match rds st p xs.toList with
   | some [.d _ (.int .i64) a,.d _ (.int .i64) b]=>some (True,.d true (.int .i64) (minI a b),[])
   | _=>none
 | .call ⟨.builtin .max,xs,_⟩=>match rds st p xs.toList with
   | some [.d _ (.int .i64) a,.d _ (.int .i64) b]=>some (True,.d true (.int .i64) (maxI a b),[])
   | _=>none
 | _=>none
theorem AllR.takeD{α:Type}{R:List Value->α->Prop}{s:Nat}(hR:∀c x,R c x->c.length=s):∀{cs:List Value} {xs:List α} (k:Nat),AllR R cs xs->AllR R (cs.take (k*s)) (xs.take k)/\AllR R (cs.drop (k*s)) (xs.drop k)
 | cs,xs,0,h=>by simpa using (⟨rfl,h⟩:AllR R [] ([]:List α)/\AllR R cs xs)
 | cs,[],k+1,h=>by rw[show cs=[] from h]; simpa using (⟨rfl,rfl⟩:AllR R [] ([]:List α)/\AllR R [] ([]:List α))
 | _,x :: r,k+1,⟨c,d,e,h1,h2⟩=>by
   subst e;have hl:=hR _ _ h1;have e1:(k+1)*s=c.length+k*s:=by rw[hl,Nat.add_mul]; omega
   rw[e1,List.take_length_add_append,List.drop_length_add_append];have ih:=AllR.takeD hR k h2;exact⟨⟨c,_,rfl,h1,ih.1⟩,ih.2⟩
theorem AllR.cut{α:Type}{R:List Value->α->Prop}{s:Nat}(hR:∀c x,R c x->c.length=s){cs:List Value}{xs:List α}{l h:Nat}(hA:AllR R cs xs)(_:l<=h)(_:h<=xs.length):AllR R ((cs.take (h*s)).drop (l*s)) ((xs.take h).drop l) :=
 (AllR.takeD hR l (AllR.takeD hR h hA).1).2
theorem in64{n:Int}(h : -9223372036854775808<=n/\n<=9223372036854775807):lo .i64<=n/\n<=hi .i64:=h
theorem minI_in{a b:Int}(h:InI a)(k:InI b):InI (minI a b)/\InI (maxI a b):=by grind[InI,minI,maxI]
theorem minI_eq(a b:Int):(if b<a then b else a)=minI a b:=by grind[minI]
theorem maxI_eq(a b:Int):(if b > a then b else a)=maxI a b:=by grind[maxI]
section
variable {X:Cx} {G:Gh} {a:Act} {st:St} {Γ:Tab'} {p:Pa}
theorem optA_sound(hE:EnvR X.n G st.e a)(hp:PathP p a){o:Option Operand}{r:Option Int}(h:optA st p o=some r):(o=none/\r=none)∨∃x n k,o=some x/\r=some n/\a.eval x=.int k n:=by
 unfold optA at h;split at h
 ·grind
 ·rename_i x;split at h
  ·rename_i k n hx;simp at h;exact .inr ⟨x,n,k,rfl,h.symm,(avr_int (rd_sound hE hp hx)).1⟩
  grind
theorem cutL_eq{α:Type}(xs:List α)(lo hi:Option Int)(h:vcSl (lo.getD 0) (hi.getD xs.length) xs.length):cutL xs lo hi=(xs.take (hi.getD xs.length).toNat).drop (lo.getD 0).toNat:=by
 cases lo <;> cases hi <;> simp[cutL]
theorem cutS_eq(s:ByteArray)(lo hi:Option Int):cutS s lo hi=s.extract (lo.getD 0).toNat (hi.getD s.size).toNat:=by
 cases lo <;> cases hi <;> simp[cutS]
theorem sliceS_sound(hΓ:TabOk X.P Γ)(hE:EnvR X.n G st.e a)(hp:PathP p a){T ty:TypeId}{s0 y0:Nat}{z0:Value}{ty0:Ty}{x:Operand}{l h:Option Operand}{lo hi:Option Int}{fr:Bool}{s:ByteArray}
  (hT:lku Γ T=some ⟨s0,y0,z0,.str,ty0⟩) (hx:AVR G (.d fr .str s) (a.eval x)) (hl:optA st p l=some lo) (hh:optA st p h=some hi) (hq:vcSl (lo.getD 0) (hi.getD s.size) s.size) :
  Val X G a (.slice T x l h none) ty (.d true .str (cutS s lo hi)):=by
 obtain⟨hv,hsz⟩:=id hx;simp only[List.cons.injEq,and_true] at hv;have hU:=(hΓ T _ hT).2.2.2.2.2;rw[cutS_eq];obtain⟨q1,q2,q3⟩:=hq;have hl':(∃n k,l=some n/\a.eval n=.int k (lo.getD 0))∨(l=none/\lo.getD 0=0):=by
  rcases optA_sound hE hp hl with ⟨e1,e2⟩ | ⟨y,n,k,e1,e2,e3⟩
  ·grind
  ·grind
 have hh':(∃n k,h=some n/\a.eval n=.int k (hi.getD s.size))∨(h=none/\hi.getD s.size=(s.size:Int)):=by
  rcases optA_sound hE hp hh with ⟨e1,e2⟩ | ⟨y,n,k,e1,e2,e3⟩
  ·grind
  ·grind
 generalize lo.getD 0=l0 at *
 generalize hi.getD s.size=h0 at *
 have r1:∀(y:Nat) (code:BoundsCode) (k:IntKind),h0<=y->(Instr.sliceBound (.int k h0) y code).run X.P G.w=.ok h0.toNat G.w:=fun y code k hy=>run_sliceBound (P:=X.P) (w:=G.w) k h0 y code (by omega) hy;have r2:∀(y:Nat) (code:BoundsCode) (k:IntKind),l0<=y->(Instr.sliceBound (.int k l0) y code).run X.P G.w=.ok l0.toNat G.w:=fun y code k hy=>run_sliceBound (P:=X.P) (w:=G.w) k l0 y code q1 hy;have hrun:∀dst pos after g,(execOp a.eval ⟨dst,.slice T x l h none,ty,pos,after,g⟩).run X.P G.w=.ok (.value (.string (s.extract l0.toNat h0.toNat))) G.w:=by
  intro dst pos after g;rcases hl' with ⟨n1,k1,rfl,e1⟩ | ⟨rfl,e1⟩ <;> rcases hh' with ⟨n2,k2,rfl,e2⟩ | ⟨rfl,e2⟩
  ·simp[execOp,hv,Instr.sliceAt,Instr.slice,Instr.sliceBounds,run_underlying hU,Result.andThen,e1,e2,r1 s.size .sliceAlen k2 (by omega),r2 h0.toNat .sliceB k1 (by omega)]
  ·have:h0.toNat=s.size:=by omega
   simp[execOp,hv,Instr.sliceAt,Instr.slice,Instr.sliceBounds,run_underlying hU,Result.andThen,e1,this,r2 s.size .sliceB k1 (by omega)]
  ·simp[execOp,hv,Instr.sliceAt,Instr.slice,Instr.sliceBounds,run_underlying hU,Result.andThen,e1,e2,r1 s.size .sliceAlen k2 (by omega)]
  ·have:h0.toNat=s.size:=by omega
   simp[execOp,hv,Instr.sliceAt,Instr.slice,Instr.sliceBounds,run_underlying hU,Result.andThen,e1,this]
 refine⟨_,hrun,rfl,?_⟩;simp only[ByteArray.size_extract];omega
theorem slice_sound(hΓ:TabOk X.P Γ)(hE:EnvR X.n G st.e a)(hp:PathP p a){T E ty:TypeId}{s0 y0:Nat}{z0:Value}{ty0:Ty}{x:Operand}{l h:Option Operand}{lo hi:Option Int}{fr:Bool}{t:Ty}{xs:List (den t)}{te:TI}
  (hT:lku Γ T=some ⟨s0,y0,z0,.sl E,ty0⟩) (hte:lku Γ E=some te) (hs:te.size=sz t) (hx:AVR G (.d fr (.sl t) xs) (a.eval x)) (hl:optA st p l=some lo) (hh:optA st p h=some hi) (hq:vcSl (lo.getD 0) (hi.getD xs.length) xs.length) :
  Val X G a (.slice T x l h none) ty (.d fr (.sl t) (cutL xs lo hi)):=by
 obtain⟨pp,cap,hv,hle,hmax,h4⟩:=id hx;simp only[List.cons.injEq,and_true] at hv;have hU:=(hΓ T _ hT).2.2.2.2.2;have hI:Info X.P E te.size te.bytes te.zero:=⟨(hΓ E _ hte).1⟩;obtain⟨inf,hinfo,h2,h3,h5⟩:=hI.get;rw[cutL_eq xs lo hi hq];obtain⟨q1,q2,q3⟩:=hq;have hl':(∃n k,l=some n/\a.eval n=.int k (lo.getD 0))∨(l=none/\lo.getD 0=0):=by
  rcases optA_sound hE hp hl with ⟨e1,e2⟩ | ⟨y,n,k,e1,e2,e3⟩
  ·grind
  ·grind
 have hh':(∃n k,h=some n/\a.eval n=.int k (hi.getD xs.length))∨(h=none/\hi.getD xs.length=(xs.length:Int)):=by
  rcases optA_sound hE hp hh with ⟨e1,e2⟩ | ⟨y,n,k,e1,e2,e3⟩
  ·grind
  ·grind
 generalize lo.getD 0=l0 at *
 generalize hi.getD xs.length=h0 at *
 have r1:∀(y:Nat) (code:BoundsCode) (k:IntKind),h0<=y->(Instr.sliceBound (.int k h0) y code).run X.P G.w=.ok h0.toNat G.w:=fun y code k hy=>run_sliceBound (P:=X.P) (w:=G.w) k h0 y code (by omega) hy;have r2:∀(y:Nat) (code:BoundsCode) (k:IntKind),l0<=y->(Instr.sliceBound (.int k l0) y code).run X.P G.w=.ok l0.toNat G.w:=fun y code k hy=>run_sliceBound (P:=X.P) (w:=G.w) k l0 y code q1 hy;have hrun:∀dst pos after g,(execOp a.eval ⟨dst,.slice T x l h none,ty,pos,after,g⟩).run X.P G.w=.ok (.value (.slice (if cap=l0.toNat then pp else pp.map (·.add (l0.toNat*te.size))) (h0.toNat-l0.toNat) (cap-l0.toNat))) G.w:=by
  intro dst pos after g;rcases hl' with ⟨n1,k1,rfl,e1⟩ | ⟨rfl,e1⟩ <;> rcases hh' with ⟨n2,k2,rfl,e2⟩ | ⟨rfl,e2⟩
  ·simp[execOp,hv,Instr.sliceAt,Instr.slice,Instr.sliceBounds,run_underlying hU,Result.andThen,run_sizeOf' G.w hinfo,h2,e1,e2,r1 cap .sliceAcap k2 (by omega),r2 h0.toNat .sliceB k1 (by omega)]
  ·have:h0.toNat=xs.length:=by omega
   simp[execOp,hv,Instr.sliceAt,Instr.slice,Instr.sliceBounds,run_underlying hU,Result.andThen,run_sizeOf' G.w hinfo,h2,e1,this,r2 xs.length .sliceB k1 (by omega)]
  ·simp[execOp,hv,Instr.sliceAt,Instr.slice,Instr.sliceBounds,run_underlying hU,Result.andThen,run_sizeOf' G.w hinfo,h2,e1,e2,r1 cap .sliceAcap k2 (by omega)]
  ·have:h0.toNat=xs.length:=by omega
   simp[execOp,hv,Instr.sliceAt,Instr.slice,Instr.sliceBounds,run_underlying hU,Result.andThen,run_sizeOf' G.w hinfo,h2,e1,this]
 refine⟨_,hrun,?_⟩;have hlen:((xs.take h0.toNat).drop l0.toNat).length=h0.toNat-l0.toNat:=by rw[List.length_drop,List.length_take]; omega
 rw[<- hlen];refine⟨_,_,rfl,by rw[hlen]; omega,by omega,?_⟩;by_cases hc:cap=l0.toNat
 ·grind
 ·rcases h4 with h4 | ⟨b,o,ds,rfl,hb,hat,hall⟩
  ·grind
  ·right;have hR:=fun(c:List Value) (y:den t) (hy:RT (rg G fr) G.w t c y)=>RT.len hy;refine⟨b,o+l0.toNat*te.size,(ds.take (h0.toNat*sz t)).drop (l0.toNat*sz t),?_,hb,?_,?_⟩
   ·grind[Addr.add]
   ·grind[at_drop,at_take]
   grind[AllR.cut]
theorem index_sound(hE:EnvR X.n G st.e a){T ty:TypeId}{x ix:Operand}{s:ByteArray}{n:Int}{f g:Bool}{k:IntKind}(hT:X.P.underlying T=some .string)(hx:AVR G (.d f .str s) (a.eval x))(hn:AVR G (.d g (.int k) n) (a.eval ix))(hq:vcIx n s.size) :
  Val X G a (.index T x ix) ty (.d true (.int .u8) (byteAt s n.toNat)):=by
 haveI:StringT X.P T:=⟨hT⟩
 have hxe:ev (cenv a [x,ix]) x=some (a.eval x):=cenv_ev (by simp);have hye:ev (cenv a [x,ix]) ix=some (a.eval ix):=cenv_ev (by simp);rw[(avr_str hx).1] at hxe;rw[(avr_int hn).1] at hye;obtain⟨i,rfl⟩:=Int.eq_ofNat_of_zero_le hq.1;have hi:i<s.size:=by have:=hq.2; omega
 exact val_of hE [x,ix] (runs_index hxe hye hi) ⟨rfl,byteAt_lo _ _,byteAt_hi _ _⟩
theorem conv_sound(_:EnvR X.n G st.e a){S T ty:TypeId}{x:Operand}{f:Bool}{k k0 k':IntKind}{n m:Int}(hS:X.P.underlying S=some (.int k0))(hT:X.P.underlying T=some (.int k'))(hx:AVR G (.d f (.int k) n) (a.eval x)){q:Prop}(h:convQ k k' n=(q,m))(hq:q) :
  Val X G a (.convert S T x) ty (.d true (.int k') m):=by
 obtain⟨hv,h1⟩:=avr_int hx;have hw:k'.wrap n=m/\lo k'<=m/\m<=hi k':=by
  unfold convQ at h;split at h
  case h_2 =>
   simp only[pj] at h;obtain⟨rfl,rfl⟩:=h;exact⟨wrap_in _ hq,hq⟩
  rename_i m' h';simp only[pj] at h;obtain⟨_,rfl⟩:=h;have h:=h';unfold convI at h;split at h <;> simp only[oi,reduceCtorEq] at h
  ·subst h; exact⟨IntWalk.i64_in _ h1,h1⟩
  ·subst h; exact⟨IntWalk.u8_in _ h1,h1⟩
  ·grind[lo,hi,IntWalk.i64_in]
  ·grind[lo,hi,IntKind.wrap_u8]
 refine⟨.int k' m,fun dst pos after g=>?_,rfl,hw.2⟩;rw[<- hw.1];simp[execOp,hv,convert,run_underlying hT,run_underlying hS,Conv.intToInt,Result.andThen]
theorem toStr_sound(S:Sat X G)(hE:EnvR X.n G st.e a){S0 T E ty T':TypeId}{x:Operand}{id ver:Nat}{fr:Bool}{xs:List Int}(hS:X.P.underlying S0=some (.slice E))(hE':X.P.underlying E=some (.int .u8))(hT:X.P.underlying T=some .string)(hx:AVR G (.os id ver) (a.eval x))(ho:lku G.o id=some (.arr T' fr (.int .u8) xs ver))(hq:0<xs.length) :
  Val X G a (.convert S0 T x) ty (.d true .str (strOfNums xs)):=by
 obtain⟨_,T2,fr2,t2,xs2,ver2,g1,g2,g3⟩:=hx;rw[ho] at g1;cases g1;have hx:=g3 rfl;obtain⟨cs,hO,hA,_⟩:=S.obs id _ ho;have hcs:∀{xs:List Int} {cs:List Value},AllR (RT (rg G fr) G.w (.int .u8)) cs xs->cs=xs.map (Value.int .u8):=by
  intro xs
  induction xs with
  | nil=>intro cs h; exact h
  | cons x r ih =>
    rintro cs ⟨c,d,e,h1,h2⟩;rw[e,h1.1,ih h2]; rfl
 have hcs:=hcs hA;subst hcs
 haveI:SliceOf X.P S0 E:=⟨hS⟩
 haveI:ByteT X.P E:=⟨hE'⟩
 haveI:StringT X.P T:=⟨hT⟩
 rcases hO with ⟨_,h0,_⟩ | ⟨b,o,cap,cur,hb,hv,h1,h2,h3,h4,h5⟩
 ·omega
 ·have hO2:Own G.w T' 1 (some b) (G.ρ id) xs.length (xs.map (Value.int .u8)):=.inr ⟨b,o,cap,cur,rfl,hv,h1,h2,h3,h4,h5⟩;obtain⟨o2,cap2,e2,hAt⟩:=hO2.at;have hxe:ev (cenv a [x]) x=some (.slice (some ⟨b,o2,none⟩) xs.length cap2):=by grind[cenv_ev]
  refine val_of hE [x] (runs_toStr hxe rfl hAt) ⟨rfl,?_⟩;rw[strOfNums_size];have:cap<=9223372036854775807:=h3;omega
theorem fieldAddr_sound(hΓ:TabOk X.P Γ)(S:Sat X G)(hE:EnvR X.n G st.e a){T ty:TypeId}{x:Operand}{f off s0 y0 s1:Nat}{z0:Value}{ty0:Ty}{pl:List (Nat×Nat)}{e0:Bool}{ag0:List Bool}{v r:AV}{cs:List AV}{l:List Nat}
  (hT:lku Γ T=some ⟨s0,y0,z0,.agg pl e0 ag0,ty0⟩) (hf:nthL pl f=some (off,s1)) (hx:AVR G v (a.eval x)) (hd:derefA G.o v=some (cs,l)) (hm:moveA v off=some r):Val X G a (.fieldAddr T x f) ty r:=by
 obtain⟨b,o,hv,hr⟩:=move_sound S hd hm hx;have hk:=(hΓ T _ hT).2.2.2.2.2.2.2.1;rw[nthL_eq] at hf
 haveI:FieldAt X.P T f off:=⟨by have:=fieldsAt_get hk hf; simpa using this⟩
 have hxe:ev (cenv a [x]) x=some (.pointer (some ⟨b,o,none⟩)):=by grind[cenv_ev]
 exact val_of hE [x] (runs_fieldAddr hxe) hr
theorem run_part_agg{P:Program}{w:World}{T:TypeId}{i:TypeInfo}{xs:Array Value}{off:Nat}(ha:aggB P T=true)(hi:P.info? T=some i):(part T xs off).run P w=.ok (.agg (xs.extract off (off+i.size))) w:=by
 unfold aggB at ha;split at ha
 ·rename_i hu;simp[part,Go.isAgg,run_underlying hu,run_sizeOf' w hi,Result.andThen]
 ·rename_i hu;simp[part,Go.isAgg,run_underlying hu,run_sizeOf' w hi,Result.andThen]
 grind
theorem run_part_one{P:Program}{w:World}{T:TypeId}{xs:Array Value}{off:Nat}{v:Value}(ha:notAggB P T=true)(hx:xs[off]?=some v):(part T xs off).run P w=.ok v w:=by
 unfold notAggB at ha;cases hu:P.underlying T with
 | none=>grind
 | some d=>cases d <;> simp[hu] at ha <;> simp[part,Go.isAgg,run_underlying hu,hx]
theorem field_sound(hE:EnvR X.n G st.e a){T ty:TypeId}{ti:TI}{x:Operand}{f:Nat}{cs:List AV}{r:AV}(hT:TIok X.P T ti)(hx:AVR G (.agg cs) (a.eval x))(h:fieldA ti cs f=some r):Val X G a (.field T x f) ty r:=by
 obtain⟨_,_,_,_,hk⟩:=hT;obtain⟨us,eu,hA⟩:=hx;unfold fieldA at h;split at h
 ·rename_i pl e ag hkd;rw[hkd] at hk;obtain⟨_,h2,h3,_,_,h6⟩:=hk;unfold placesB at h2;unfold fieldsOk at h3;unfold aggsB at h6;split at h2
  ·rename_i fs hu;simp only[hu,oi] at h2 h3 h6;have key:∀{off s:Nat} {b:Bool},nthL pl f=some (off,s)->nthL ag f=some b->∃fl i,fs[f]?=some fl/\X.P.info? fl.type=some i/\off=fl.offset/\s=i.size/\aggB X.P fl.type=b/\notAggB X.P fl.type=!b:=by
    intro off s b g1 g2;rw[nthL_eq] at g1 g2;rw[<- h2,List.getElem?_map] at g1;have g3:(fs.toList.map fun f=>(aggB X.P f.type,notAggB X.P f.type))[f]?=some (b,!b):=by rw[h6,List.getElem?_map,g2]; rfl
    rw[List.getElem?_map] at g3;cases hf:fs.toList[f]? with
    | none=>rw[hf] at g1; cases g1
    | some fl =>
      grind
   have hxe:ev (cenv a [x]) x=some (.agg us.toArray):=by grind[cenv_ev]
   split at h
   ·rename_i off s g1 g2;obtain⟨fl,i,hf,hi,rfl,rfl,hb,_⟩:=key g1 g2;rw[ce] at h;split at h
    ·simp only[oi] at h; subst h;refine val_of hE [x] (v:=.agg (us.toArray.extract fl.offset (fl.offset+i.size))) ?_ ⟨(us.drop fl.offset).take i.size,?_,?_⟩
     ·intro ac dst pos after g ha;simp only[execOp,ha.ev hxe];simp[Instr.field,run_underlying hu,hf,asAgg,run_part_agg hb hi]
     ·grind
     ·exact((hA.take fl.offset).2.take i.size).1
    grind
   ·rename_i off s g1 g2;obtain⟨fl,i,hf,hi,rfl,rfl,_,hb⟩:=key g1 g2;rw[nthL_eq] at h;obtain⟨u,hu',hr⟩:=hA.get h;refine val_of hE [x] (v:=u) ?_ hr;intro ac dst pos after g ha;simp only[execOp,ha.ev hxe];simp[Instr.field,run_underlying hu,hf,asAgg,run_part_one hb (show us.toArray[fl.offset]?=some u by grind)]
   grind
  grind
 grind
theorem buildV_sound(hΓ:TabOk X.P Γ)(hE:EnvR X.n G st.e a)(hp:PathP p a){T ty:TypeId}{s0 y0:Nat}{z0:Value}{ty0:Ty}{pl:List (Nat×Nat)}{e0:Bool}{ag0:List Bool}{parts:Array (Nat×Operand)}{cs r:List AV}
  (hT:lku Γ T=some ⟨s0,y0,z0,.agg pl e0 ag0,ty0⟩) (hz:conAs z0.cells.toList=some cs) (hb:buildA st p pl cs parts.toList=some r):Val X G a (.build T parts) ty (.agg r):=by
 obtain⟨ws,h1,h2⟩:=build_sound hE hp hb (conAs_sound (G:=G) hz);have hk:=(hΓ T _ hT)
 haveI:Info X.P T s0 y0 z0:=⟨hk.1⟩
 haveI:PlacesOf X.P T pl:=⟨hk.2.2.2.2.2.1,hk.2.2.2.2.2.2.1⟩
 have he:=evp_cenv (a:=a) (xs:=parts.toList.map (·.2)) (ps:=parts.toList) (fun q hq=>List.mem_map_of_mem hq);have hr:=runs_build (P:=X.P) (T:=T) (n:=X.n) (w:=G.w) (ty:=ty) he h1;rw[Array.toArray_toList] at hr;exact val_of hE _ hr ⟨ws,rfl,h2⟩
theorem buildArr_sound(hΓ:TabOk X.P Γ)(hE:EnvR X.n G st.e a)(hp:PathP p a){T E ty:TypeId}{s0 y0 m:Nat}{z0:Value}{ty0:Ty}{te:TI}{parts:Array (Nat×Operand)}{cs r:List AV}
  (hT:lku Γ T=some ⟨s0,y0,z0,.arr m E,ty0⟩) (hte:lku Γ E=some te) (hz:conAs z0.cells.toList=some cs) (hb:buildA st p (plArr m 0 te.size) cs parts.toList=some r):Val X G a (.build T parts) ty (.agg r):=by
 obtain⟨ws,h1,h2⟩:=build_sound hE hp hb (conAs_sound (G:=G) hz)
 haveI:Info X.P T s0 y0 z0:=⟨(hΓ T _ hT).1⟩
 haveI:Info X.P E te.size te.bytes te.zero:=⟨(hΓ E _ hte).1⟩
 have he:=evp_cenv (a:=a) (xs:=parts.toList.map (·.2)) (ps:=parts.toList) (fun q hq=>List.mem_map_of_mem hq);have hr:=runs_buildArr (P:=X.P) (T:=T) (n:=X.n) (w:=G.w) (ty:=ty) (hΓ T _ hT).2.2.2.2.2 he h1;rw[Array.toArray_toList] at hr;exact val_of hE _ hr ⟨ws,rfl,h2⟩
theorem makeFunc_sound(hE:EnvR X.n G st.e a)(hp:PathP p a){f:FuncId}{first cap:Array Operand}{ty:TypeId}{l:List AV}(h0:first.toList=[])(hl:rds st p cap.toList=some l):Val X G a (.makeFunc (.func f) first cap) ty (.fn f l):=by
 have hA:=rds_sound hE hp hl;refine⟨.func (.func f) #[] (cap.toList.map a.eval).toArray,fun dst pos after g=>?_,_,rfl,hA⟩;have e1:first=#[]:=by cases first; simp_all
 have e2:cap.map a.eval=(cap.toList.map a.eval).toArray:=by grind
 subst e1;simp only[execOp,Instr.makeFunc,e2];simp
theorem evals1{xs:Array Operand}{u:Value}(h:xs.toList.map a.eval=[u]):xs.map a.eval=#[u]:=by
 grind
theorem lenL_sound{T ty:TypeId}{E:TypeId}{xs:Array Operand}{Ts:Array TypeId}{p0:Option Addr}{m c:Nat}(hT:X.P.underlying T=some (.slice E))(hx:xs.toList.map a.eval=[.slice p0 m c])(hTs:Ts.toList=[T])(hm:m<=9223372036854775807) :
  Val X G a (.call ⟨.builtin .len,xs,Ts⟩) ty (.d true (.int .i64) (m:Int)):=by
 have e1:=evals1 hx;have e2:Ts=#[T]:=Array.ext' (by omega);subst e2;refine⟨.int .i64 m,fun dst pos after g=>?_,rfl,in64 (by omega)⟩;simp only[execOp,resolve,e1];simp[invoke,builtin,Builtin.len_,run_underlying hT,goInt,Result.andThen]
theorem lenS_sound{T ty:TypeId}{xs:Array Operand}{Ts:Array TypeId}{s:ByteArray}(hT:X.P.underlying T=some .string)(hx:xs.toList.map a.eval=[.string s])(hTs:Ts.toList=[T])(hm:s.size<=9223372036854775807) :
  Val X G a (.call ⟨.builtin .len,xs,Ts⟩) ty (.d true (.int .i64) (s.size:Int)):=by
 have e1:=evals1 hx;have e2:Ts=#[T]:=Array.ext' (by omega);subst e2;refine⟨.int .i64 s.size,fun dst pos after g=>?_,rfl,in64 (by omega)⟩;simp only[execOp,resolve,e1];simp[invoke,builtin,Builtin.len_,run_underlying hT,goInt,Result.andThen]
theorem minmax_sound{ty:TypeId}{xs:Array Operand}{Ts:Array TypeId}{u v:Int}(hx:xs.toList.map a.eval=[.int .i64 u,.int .i64 v])(hu:InI u)(hv:InI v) :
  Val X G a (.call ⟨.builtin .min,xs,Ts⟩) ty (.d true (.int .i64) (minI u v))/\Val X G a (.call ⟨.builtin .max,xs,Ts⟩) ty (.d true (.int .i64) (maxI u v)):=by
 have e1:xs.map a.eval=#[.int .i64 u,.int .i64 v]:=by apply Array.ext'; simpa using hx
 refine⟨⟨.int .i64 (minI u v),fun dst pos after g=>?_,rfl,(minI_in hu hv).1⟩,⟨.int .i64 (maxI u v),fun dst pos after g=>?_,rfl,(minI_in hu hv).2⟩⟩
 ·rw[<- minI_eq];simp only[execOp,resolve,e1];simp[invoke,builtin,Builtin.min_,Builtin.min2]
 ·rw[<- maxI_eq];simp only[execOp,resolve,e1];simp[invoke,builtin,Builtin.max_,Builtin.max2]
end
theorem absP_sound{X:Cx}{G:Gh}{a:Act}{st:St}{Γ:Tab'}{p:Pa}(hΓ:TabOk X.P Γ)(S:Sat X G)(ho:G.o=st.o)(hE:EnvR X.n G st.e a)(hp:PathP p a){op:Op}{ty:TypeId}{q:Prop}{r:AV}{l:List Nat}
  (h:absP Γ st p op=some (q,r,l)) (hq:q):Val X G a op ty r:=by
 unfold absP at h;split at h
 ·rename_i x;split at h
  ·rename_i v hv;simp only[oi,pj] at h;obtain⟨_,rfl,_⟩:=h;exact val_of hE [x] (runs_pure (by grind[pureV,cenv_ev])) (rd_sound hE hp hv)
  grind
 ·rename_i x;split at h
  ·rename_i v hv;simp only[oi,pj] at h;obtain⟨_,rfl,_⟩:=h;exact val_of hE [x] (runs_pure (by grind[pureV,cenv_ev])) (rd_sound hE hp hv)
  grind
 ·rename_i x;split at h
  ·rename_i v hv;split at h
   ·rename_i cs l' hd;simp only[oi,pj] at h;obtain⟨rfl,rfl,_⟩:=h;rw[<- ho] at hd hq;have hx:=rd_sound hE hp hv;obtain⟨b,o,us,e,_⟩:=deref_sound S hd hq hx;have hxe:ev (cenv a [x]) x=some (.pointer (some ⟨b,o,none⟩)):=by grind[cenv_ev]
    rw[e] at hx;exact val_of hE [x] (runs_nilCheck hxe) hx
   grind
  grind
 ·rename_i c x y;split at h
  ·rename_i s;split at h
   ·rename_i f1 vx f2 vy f3 vz h1 h2 h3;simp only[oi,pj] at h;obtain⟨_,rfl,_⟩:=h;have e1:=avr_bool (rd_sound hE hp h1);rw[mergeB_eq h2 h3];have hc:ev (cenv a [.tmp s,x,y]) (.tmp s)=some (.bool vx):=by grind[cenv_ev]
    cases vx with
    | true =>
      have hp':PathP ((s,true) :: p) a:=by
       intro z hz;rcases List.mem_cons.1 hz with rfl | hz
       ·exact e1
       ·exact hp z hz
      have e2:=avr_bool (rd_sound hE hp' h2);exact val_of hE [.tmp s,x,y] (v:=.bool vy) (runs_pure (by grind[pureV,cenv_ev])) rfl
    | false =>
      have hp':PathP ((s,false) :: p) a:=by
       intro z hz;rcases List.mem_cons.1 hz with rfl | hz
       ·exact e1
       ·exact hp z hz
      have e2:=avr_bool (rd_sound hE hp' h3);exact val_of hE [.tmp s,x,y] (v:=.bool vz) (runs_pure (by grind[pureV,cenv_ev])) rfl
   grind
  grind
 ·split at h
  ·rename_i u v h1 h2;split at h
   ·rename_i q' r' hb;simp only[oi,pj] at h;obtain⟨rfl,rfl,_⟩:=h;exact binA_sound hE (fun t ht=>hΓ _ t ht) (rd_sound hE hp h1) (rd_sound hE hp h2) hb hq
   grind
  grind
 ·rename_i x;split at h
  ·rename_i f b h1;simp only[oi,pj] at h;obtain⟨_,rfl,_⟩:=h;have e1:=avr_bool (rd_sound hE hp h1);have hxe:ev (cenv a [x]) x=some (.bool b):=by grind[cenv_ev]
   exact val_of hE [x] (runs_pure (by grind[pureV])) rfl
  grind
 ·rename_i x;split at h
  ·rename_i f n h1;simp only[oi,pj] at h;obtain⟨rfl,rfl,_⟩:=h;have e1:=(avr_int (rd_sound hE hp h1)).1;have hxe:ev (cenv a [x]) x=some (.int .i64 n):=by grind[cenv_ev]
   exact val_of hE [x] (runs_neg hxe hq) ⟨rfl,hq⟩
  grind
 ·split at h
  ·rename_i f k n _ _ _ k0 _ _ _ _ k' _ h1 h2 h3;split at h;rename_i q' m hm;simp only[oi,pj] at h;obtain⟨rfl,rfl,_⟩:=h;exact conv_sound hE (hΓ _ _ h2).2.2.2.2.2 (hΓ _ _ h3).2.2.2.2.2 (rd_sound hE hp h1) hm hq
  ·rename_i id ver _ _ _ E _ _ _ _ _ h1 h2 h3;split at h
   ·rename_i E' fr xs ver' _ _ _ _ h4 h5;rw[ce] at h;split at h
    ·rename_i hv;have hv:=nb hv;subst hv;simp only[oi,pj] at h;obtain⟨rfl,rfl,_⟩:=h;exact toStr_sound S hE (hΓ _ _ h2).2.2.2.2.2 (hΓ _ _ h5).2.2.2.2.2 (hΓ _ _ h3).2.2.2.2.2 (rd_sound hE hp h1) (by rw[ho]; exact h4) hq
    grind
   grind
  grind
 ·split at h
  ·rename_i v _ _ _ pl _ h1 h2;split at h
   ·rename_i off s1 cs l' hf hd;split at h
    ·rename_i r' hm;simp only[oi,pj] at h;obtain⟨_,rfl,_⟩:=h;rw[<- ho] at hd;exact fieldAddr_sound hΓ S hE h2 hf (rd_sound hE hp h1) hd hm
    grind
   grind
  grind
 ·split at h
  ·rename_i v ti h1 h2;split at h
   ·rename_i cs l' hd;split at h
    ·rename_i r' hm;simp only[oi,pj] at h;obtain⟨rfl,rfl,_⟩:=h;rw[<- ho] at hd hq;obtain⟨b,o,us,e,hat,hA⟩:=deref_sound S hd hq (rd_sound hE hp h1);exact ld_sound hE (hΓ _ _ h2) e hat hA hm
    grind
   grind
  grind
 ·split at h
  ·rename_i v f k n h1 h2;rw[<- ho] at h;exact idx_sound hΓ S hE (rd_sound hE hp h1) (rd_sound hE hp h2) h hq
  grind
 ·split at h
  ·rename_i f s g k n _ _ _ _ h1 h2 h3;simp only[oi,pj] at h;obtain⟨rfl,rfl,_⟩:=h;exact index_sound hE (hΓ _ _ h3).2.2.2.2.2 (rd_sound hE hp h1) (rd_sound hE hp h2) hq
  grind
 ·rename_i x i;split at h
  ·rename_i l' h1;split at h
   ·rename_i r' h2;simp only[oi,pj] at h;obtain⟨_,rfl,_⟩:=h;obtain⟨us,e,hA⟩:=rd_sound hE hp h1;rw[nthL_eq] at h2;obtain⟨u,hu,hr⟩:=hA.get h2;have hxe:ev (cenv a [x]) x=some (.tuple us.toArray):=by grind[cenv_ev]
    exact val_of hE [x] (runs_pure (by grind[pureV])) hr
   grind
  grind
 ·split at h
  ·rename_i cs ti h1 h2;split at h
   ·rename_i r' h3;simp only[oi,pj] at h;obtain⟨_,rfl,_⟩:=h;exact field_sound hE (hΓ _ _ h2) (rd_sound hE hp h1) h3
   grind
  grind
 ·grind[oi,pj,makeFunc_sound]
 ·grind[oi,pj,buildV_sound,buildArr_sound]
 ·split at h
  ·rename_i h1 h2 h3 h4;split at h
   ·rename_i te h5;rw[ce] at h
    grind[oi,pj,slice_sound,nb,rd_sound]
   grind
  ·rename_i h1 h2 h3 h4;simp only[oi,pj] at h;obtain⟨rfl,rfl,_⟩:=h;exact sliceS_sound hΓ hE hp h4 (rd_sound hE hp h1) h2 h3 hq
  grind
 ·rename_i xs Ts;split at h
  ·rename_i f t l' T h1 h2;split at h
   ·rename_i h3;simp only[oi,pj] at h;obtain⟨_,rfl,_⟩:=h;obtain⟨u,us',e,hu,hr⟩:=rds_sound hE hp h1;have:us'=[]:=hr;subst this;obtain⟨p0,cap,hv,hle,hmax,_⟩:=hu;simp only[List.cons.injEq,and_true] at hv;rw[hv] at e;exact lenL_sound (hΓ _ _ h3).2.2.2.2.2 e h2 (by omega)
   grind
  ·rename_i id ver T h1 h2;split at h
   ·rename_i _ _ _ _ T' fr t l' ver' h3 h4;rw[ce] at h;split at h
    ·rename_i hv;have hv:=nb hv;simp only[oi,pj] at h;obtain⟨_,rfl,_⟩:=h;obtain⟨u,us',e,hu,hr⟩:=rds_sound hE hp h1;have:us'=[]:=hr;subst this;obtain⟨_,T1,fr1,t1,xs1,ver1,g1,g2,g3⟩:=hu;rw[<- ho] at h4;rw[h4] at g1;cases g1;have hu:=g3 hv;obtain⟨cs,hO,_,_⟩:=S.obs id _ h4;have hmax:l'.length<=9223372036854775807:=by
      rcases hO with ⟨_,hn,_⟩ | ⟨b,o,cap,cur,_,_,_,hle,hmax,_⟩
      ·omega
      ·grind[maxLen]
     obtain⟨p0,c0,hv2⟩:=hO.len;rw[hu,hv2] at e;exact lenL_sound (hΓ _ _ h3).2.2.2.2.2 e h2 hmax
    grind
   grind
  ·rename_i T h1 h2;split at h
   ·rename_i h3;simp only[oi,pj] at h;obtain⟨_,rfl,_⟩:=h;obtain⟨u,us',e,hu,hr⟩:=rds_sound hE hp h1;have:us'=[]:=hr;subst this;have hu:u=_:=hu;rw[hu] at e;exact lenL_sound (hΓ _ _ h3).2.2.2.2.2 e h2 (Nat.zero_le _)
   grind
  ·rename_i f s T h1 h2;split at h
   ·rename_i h3;simp only[oi,pj] at h;obtain⟨_,rfl,_⟩:=h;obtain⟨u,us',e,hu,hr⟩:=rds_sound hE hp h1;have:us'=[]:=hr;subst this;obtain⟨hv,hm⟩:=avr_str hu;rw[hv] at e;exact lenS_sound (hΓ _ _ h3).2.2.2.2.2 e h2 hm
   grind
  grind
 ·rename_i xs Ts;split at h
  ·rename_i f u g v h1;simp only[oi,pj] at h;obtain⟨_,rfl,_⟩:=h;obtain⟨x1,us1,e1,hu,x2,us2,e2,hv,e3⟩:=rds_sound hE hp h1;have e3:us2=[]:=e3;subst e3; subst e2;obtain⟨g1,g2⟩:=avr_int hu;obtain⟨g3,g4⟩:=avr_int hv;rw[g1,g3] at e1;exact(minmax_sound e1 g2 g4).1
  grind
 ·rename_i xs Ts;split at h
  ·rename_i f u g v h1;simp only[oi,pj] at h;obtain⟨_,rfl,_⟩:=h;obtain⟨x1,us1,e1,hu,x2,us2,e2,hv,e3⟩:=rds_sound hE hp h1;have e3:us2=[]:=e3;subst e3; subst e2;obtain⟨g1,g2⟩:=avr_int hu;obtain⟨g3,g4⟩:=avr_int hv;rw[g1,g3] at e1;exact(minmax_sound e1 g2 g4).2
  grind
 grind
def dataA(o:List (Nat×Ob)):AV->Option ((t:Ty)×List (den t)×List Nat×Bool)
 | .d fr (.sl t) xs=>some ⟨t,xs,[],fr||kfree t⟩
 | .os id ver=>match lku o id with
   | some (.arr _ fr t xs ver')=>bif Nat.beq ver ver' then some ⟨t,xs,[id],fr||kfree t⟩ else none
   | _=>none
 | _=>none
def vcApp(n m y:Nat):Prop:=n+m<=9223372036854775807/\(n+m)*y<=140737488355328
def vcMk(n n':Int)(y:Nat):Prop:=0<=n/\n'=n/\n.toNat*y<=281474976710656/\n<=9223372036854775807
def partsA(st:St)(p:Pa)(t:Ty):Nat->List (Nat×Operand)->Option (List (den t)×Bool)
 | _,[]=>some ([],true)
 | k,(i,x) :: r=>bif Nat.beq i k then(match rd st p x with
   | some v=>match cellsA v with
     | some cs=>match datN st.o 24 t cs with
       | some (y,[],f)=>match partsA st p t (k+1) r with
         | some (ys,g)=>some (y :: ys,f&&g)
         | none=>none
       | _=>none
     | none=>none
   | none=>none) else none
def freshO(o:List (Nat×Ob))(d:Nat):Bool:=match lku o d with
 | none=>true
 | some _=>false
def gridT:TI->Option (TypeId×Ty)
 | ⟨1,_,.slice none 0 0,.sl Te,.sl t⟩=>some (Te,t)
 | _=>none
def absM(Γ:Tab')(st:St)(p:Pa)(d:Nat):Op->Option (Prop×AV×(Nat×Ob)×List Nat)
 | .alloc T=>match lku Γ T with
   | some ti=>match conAs ti.zero.cells.toList with
     | some cs=>bif freshO st.o d then some (True,.ptr d 0,(d,.box T cs),[d]) else none
     | none=>none
   | none=>none
 | .box T x=>match rd st p x with
   | some v=>match cellsA v with
     | some cs=>bif freshO st.o d then some (True,.ptr d 0,(d,.box T cs),[d]) else none
     | none=>none
   | none=>none
 | .makeSlice T l c=>match rd st p l,rd st p c,lku Γ T with
   | some (.d _ (.int .i64) n),some (.d _ (.int .i64) n'),some ⟨_,_,_,.sl E,_⟩=>match lku Γ E with
     | some te=>match gridT te with
       | some (Te,t)=>bif freshO st.o d then some (vcMk n n' te.bytes,.og d,(d,.grd E Te true t (List.replicate n.toNat []) none),[d]) else none
       | none=>match conAs te.zero.cells.toList with
         | some cs=>match datN st.o 24 te.ty cs with
           | some (z,[],f)=>bif freshO st.o d&&Nat.beq te.size (sz te.ty) then some (vcMk n n' te.bytes,.os d 0,(d,.arr E f te.ty (List.replicate n.toNat z) 0),[d]) else none
           | _=>none
         | none=>none
     | none=>none
   | _,_,_=>none
 | .buildSlice T n parts=>match lku Γ T with
   | some ⟨_,_,_,.sl E,_⟩=>match lku Γ E with
     | some te=>match partsA st p te.ty 0 parts.toList with
       | some (xs,f)=>bif freshO st.o d&&Nat.beq te.size (sz te.ty)&&Nat.beq parts.toList.length n&&Nat.ble (n*te.size) 16777216 then some (True,.os d 0,(d,.arr E f te.ty xs 0),[d]) else none
       | none=>none
     | none=>none
   | _=>none
 | .call ⟨.builtin .append,xs,Ts⟩=>match rds st p xs.toList,Ts.toList with
   | some [.os id ver,v],[T,T2]=>match lku Γ T,lku st.o id,dataA st.o v with
     | some ⟨_,_,_,.sl E,_⟩,some (.arr E' fr t l ver'),some ⟨t',m,ids,f⟩=>match lku Γ E,castD (.sl t') (.sl t) m with
       | some te,some m'=>bif Nat.beq ver ver'&&Nat.beq E E'&&Nat.beq te.size (sz t)&&Nat.beq T T2 then some (vcApp l.length m'.length te.bytes,.os id (ver+1),(id,.arr E (fr&&f) t (l++m') (ver+1)),id :: ids) else none
       | _,_=>none
     | _,_,_=>none
   | some [.v (.slice none 0 0),v],[T,T2]=>match lku Γ T,dataA st.o v with
     | some ⟨_,_,_,.sl E,_⟩,some ⟨t,m,ids,f⟩=>match lku Γ E with
       | some te=>bif freshO st.o d&&Nat.beq te.size (sz t)&&Nat.beq T T2 then some (vcApp 0 m.length te.bytes,.os d 0,(d,.arr E f t m 0),d :: ids) else none
       | none=>none
     | _,_=>none
   | _,_=>none
 | _=>none
def absU(Γ:Tab')(st:St)(p:Pa):Op->Option (Prop×(Nat×Ob)×List Nat)
 | .store T x y=>match rd st p x,rd st p y,lku Γ T with
   | some (.ptr id off),some v,some ti=>match lku st.o id,cellsA v with
     | some (.box T' cs),some vs=>bif Nat.beq vs.length ti.size&&Nat.ble (off+vs.length) cs.length then some (True,(id,.box T' (splA cs off vs)),[id]) else none
     | _,_=>none
   | some (.pel id ver k s off),some v,some ti=>match lku st.o id,cellsA v with
     | some (.arr E fr t l ver'),some vs=>match datN st.o 24 t (splA (cellsD fr t (l.getD k (dflt t))) off vs) with
       | some (y,[],f)=>bif Nat.beq ver ver'&&Nat.beq s (sz t)&&Nat.beq vs.length ti.size&&Nat.ble (off+vs.length) (sz t) then some (k<l.length,(id,.arr E (fr&&f) t (l.set k y) ver'),[id]) else none
       | _=>none
     | _,_=>none
   | _,_,_=>none
 | _=>none
def Mk(X:Cx)(G:Gh)(a:Act)(op:Op)(ty:TypeId)(av:AV)(w:Nat×Ob):Prop :=
 ∃v G',(∀dst pos after g,(execOp a.eval ⟨dst,op,ty,pos,after,g⟩).run X.P G.w=.ok (.value v) G'.w)/\Sat X G'/\GLe G G'/\G'.o=w :: G.o/\AVR G' av v
theorem freshO_eq{o:List (Nat×Ob)}{d:Nat}(h:freshO o d=true):lku o d=none:=by
 grind[freshO]
section
variable {X:Cx} {G:Gh} {a:Act} {st:St} {Γ:Tab'} {p:Pa}
theorem follows_new{d:Nat}{ob:Ob}{r:Value}(h:lku G.o d=none):Follows G d ob r:=⟨(fun _ _ h'=>by grind),(fun _ _ _ _ _ h'=>by grind),by rw[h]; rfl⟩
theorem mk_box(S:Sat X G){d:Nat}{T:TypeId}{cs:List AV}{us:Array Value}(hd:lku G.o d=none)(hA:AVRs G cs us.toList) :
  ∃G',G'.w=G.w.alloc (.cells us T)/\Sat X G'/\GLe G G'/\G'.o=(d,.box T cs) :: G.o/\AVR G' (.ptr d 0) (.pointer (some ⟨G.w.heap.size,0,none⟩)):=by
 have hN:=newB_alloc G.w (.cells us T);have hB:=blk_alloc G.w us T;have h:=S.put (id:=d) (ob:=.box T cs) (r:=.pointer (some ⟨G.w.heap.size,0,none⟩)) (g:=some G.w.heap.size) (w':=G.w.alloc (.cells us T)) (go:=none) (follows_new hd) (fun _ e=>by cases e) (WE.of_ext hN.ext) (fun b e=>by cases e; exact .inr (Nat.le_refl _))
  (fun hle=>⟨G.w.heap.size,us.toList,by simp[Gh.put],by simp[Gh.put],hB,hA.mono hle⟩)
 exact⟨_,rfl,h.1,h.2,rfl,⟨T,cs,by rw[show(Gh.put G d (.box T cs) _ _ _).o=(d,.box T cs) :: G.o from rfl,lK]; simp⟩,_,by simp[Gh.put],rfl⟩
theorem mk_arr(S:Sat X G){d:Nat}{E:TypeId}{fr:Bool}{t:Ty}{xs:List (den t)}{us:Array Value}(hd:lku G.o d=none)(hA:AllR (RT (rg G fr) G.w t) us.toList xs)(hl:xs.length<=9223372036854775807) :
  ∃G',G'.w=G.w.alloc (.cells us E)/\Sat X G'/\GLe G G'/\G'.o=(d,.arr E fr t xs 0) :: G.o/\AVR G' (.os d 0) (.slice (some ⟨G.w.heap.size,0,none⟩) xs.length xs.length):=by
 have hN:=newB_alloc G.w (.cells us E);have hB:=blk_alloc G.w us E;have hlen:=hA.len (fun c x h=>RT.len h);have h:=S.put (id:=d) (ob:=.arr E fr t xs 0) (r:=.slice (some ⟨G.w.heap.size,0,none⟩) xs.length xs.length) (g:=some G.w.heap.size) (w':=G.w.alloc (.cells us E)) (go:=none) (follows_new hd) (fun _ e=>by cases e) (WE.of_ext hN.ext) (fun b e=>by grind)
  (fun hle=>⟨us.toList,by
    simp only[Gh.put,if_true];exact .inr ⟨G.w.heap.size,0,xs.length,us,rfl,rfl,by simpa [Blk] using hB,Nat.le_refl _,by simp only[maxLen]; omega,by simpa using hlen,by rw[List.drop_zero,<- hlen,List.take_length]⟩,hA.mapR (fun c x hr=>RT.same (w:=G.w) hle.hR hr),fun b e=>by simp only[Gh.put,if_true] at e ⊢; cases e; exact Nat.le_trans S.le S.size⟩)
 exact⟨_,rfl,h.1,h.2,rfl,rfl,E,fr,t,xs,0,by rw[show(Gh.put G d (.arr E fr t xs 0) _ _ _).o=(d,.arr E fr t xs 0) :: G.o from rfl,lK]; simp,Nat.le_refl _,fun _=>by simp[Gh.put]⟩
theorem mk_grd(S:Sat X G){d n:Nat}{E Te:TypeId}{t:Ty}(hd:lku G.o d=none)(hl:n<=9223372036854775807) :
  ∃G',G'.w=G.w.alloc (.cells (reps n [.slice none 0 0]).toArray E)/\Sat X G'/\GLe G G'/\G'.o=(d,.grd E Te true t (List.replicate n []) none) :: G.o/\AVR G' (.og d) (.slice (some ⟨G.w.heap.size,0,none⟩) n n):=by
 have hN:=newB_alloc G.w (.cells (reps n [.slice none 0 0]).toArray E);have hB:=blk_alloc G.w (reps n [.slice none 0 0]).toArray E;have hr:reps n [Value.slice none 0 0]=List.replicate n (.slice none 0 0):=by
  clear hN hB hl
  induction n with
  | zero=>rfl
  | succ n ih=>grind[reps]
 have h:=S.put (id:=d) (ob:=.grd E Te true t (List.replicate n []) none) (r:=.slice (some ⟨G.w.heap.size,0,none⟩) n n) (g:=some G.w.heap.size) (w':=G.w.alloc (.cells (reps n [.slice none 0 0]).toArray E)) (go:=none) (follows_new hd) (fun _ e=>by cases e) (WE.of_ext hN.ext) (fun b e=>by grind)
  (fun hle=>⟨List.replicate n (.slice none 0 0),fun _=>none,by
    simp only[Gh.put,if_true,List.length_replicate];exact .inr ⟨G.w.heap.size,0,n,_,rfl,rfl,by simpa [Blk] using hB,Nat.le_refl _,by grind[maxLen],by grind,by grind⟩,⟨by simp,fun b=>⟨fun h=>(h.1 rfl).elim,fun⟨_,_,_,h⟩=>by cases h⟩,(fun _ _ _ _ _ _ _ h=>by cases h),fun k hk _=>by
     rw[List.length_replicate] at hk;refine⟨[],?_,?_,(fun _ h=>by cases h)⟩
     ·simp only[gq,List.getElem?_replicate,hk,if_true,Option.getD_some];exact Own.nil
     ·simp only[gq,List.getElem?_replicate,hk,if_true,Option.getD_some];rfl,fun v hv=>by rw[(List.mem_replicate.1 hv).2]; rfl⟩,fun b e=>by simp only[Gh.put,if_true] at e ⊢; cases e; exact Nat.le_trans S.le S.size⟩)
 exact⟨_,rfl,h.1,h.2,rfl,rfl,⟨E,Te,true,t,List.replicate n [],none,by rw[show(Gh.put G d (.grd E Te true t (List.replicate n []) none) _ _ _).o=(d,.grd E Te true t (List.replicate n []) none) :: G.o from rfl,lK]; simp⟩,by simp[Gh.put]⟩
theorem gridT_eq{te:TI}{Te:TypeId}{t:Ty}(h:gridT te=some (Te,t)):te.size=1/\te.zero=.slice none 0 0/\te.ty=.sl t:=by
 unfold gridT at h
 grind
theorem makeGrid_sound(hΓ:TabOk X.P Γ)(S:Sat X G)(hE:EnvR X.n G st.e a)(hp:PathP p a){d T E ty s0 y0 Te:Nat}{z0:Value}{ty0 t:Ty}{l c:Operand}{n n':Int}{te:TI}{f g:Bool}
  (hl:rd st p l=some (.d f (.int .i64) n)) (hc:rd st p c=some (.d g (.int .i64) n')) (hT:lku Γ T=some ⟨s0,y0,z0,.sl E,ty0⟩) (hte:lku Γ E=some te) (hg:gridT te=some (Te,t))
  (hd:lku G.o d=none) (hq:vcMk n n' te.bytes):Mk X G a (.makeSlice T l c) ty (.og d) (d,.grd E Te true t (List.replicate n.toNat []) none):=by
 obtain⟨q1,rfl,q2,q3⟩:=hq;obtain⟨m,rfl⟩:=Int.eq_ofNat_of_zero_le q1;simp only[Int.toNat_natCast] at q2 ⊢;have hok:=hΓ E _ hte
 haveI:SliceOf X.P T E:=⟨(hΓ T _ hT).2.2.2.2.2⟩
 haveI:Info X.P E te.size te.bytes te.zero:=⟨hok.1⟩
 obtain⟨_,e0,_⟩:=gridT_eq hg;obtain⟨G',h1,h2,h3,h4,h5⟩:=mk_grd S (E:=E) (Te:=Te) (t:=t) (d:=d) (n:=m) hd (by omega);have e1:=(avr_int (rd_sound hE hp hl)).1;have e2:=(avr_int (rd_sound hE hp hc)).1;have hle:ev (cenv a [l,c]) l=some (.int .i64 (m:Int)):=by grind[cenv_ev]
 have hce:ev (cenv a [l,c]) c=some (.int .i64 (m:Int)):=by grind[cenv_ev]
 refine⟨_,G',fun dst pos after g=>?_,h2,h3,h4,h5⟩;rw[h1];have hz:te.zero.cells.toList=[.slice none 0 0]:=by rw[e0]; rfl
 exact runs_make (P:=X.P) (n:=X.n) hle hce hz (by rw[<- hz]; exact hok.2.1) hok.2.2.1 q2 (by omega) a dst pos after g (cenv_agree hE _)
theorem alloc_sound(hΓ:TabOk X.P Γ)(S:Sat X G){d T ty:Nat}{ti:TI}{cs:List AV}(hT:lku Γ T=some ti)(hz:conAs ti.zero.cells.toList=some cs)(hd:lku G.o d=none):Mk X G a (.alloc T) ty (.ptr d 0) (d,.box T cs):=by
 obtain⟨G',h1,h2,h3,h4,h5⟩:=mk_box S (T:=T) hd (conAs_sound (G:=G) hz);have hI:Info X.P T ti.size ti.bytes ti.zero:=⟨(hΓ T _ hT).1⟩;obtain⟨inf,hinfo,k1,k2,k3⟩:=hI.get;refine⟨_,G',fun dst pos after g=>?_,h2,h3,h4,h5⟩;have hz:=run_zeroValue' G.w hinfo k3;simp only[execOp,Instr.alloc,Sem.run_bind,hz,Result.andThen,h1];rfl
theorem box_sound(S:Sat X G)(hE:EnvR X.n G st.e a)(hp:PathP p a){d T ty:Nat}{x:Operand}{v:AV}{cs:List AV}(hx:rd st p x=some v)(hc:cellsA v=some cs)(hd:lku G.o d=none):Mk X G a (.box T x) ty (.ptr d 0) (d,.box T cs):=by
 obtain⟨hA,_⟩:=cellsA_sound hc (rd_sound hE hp hx);obtain⟨G',h1,h2,h3,h4,h5⟩:=mk_box S (T:=T) (us:=(a.eval x).cells) hd hA;refine⟨_,G',fun dst pos after g=>?_,h2,h3,h4,h5⟩;simp only[execOp,h1];rfl
theorem allR_reps{α:Type}{R:List Value->α->Prop}{zs:List Value}{z:α}(h:R zs z):∀k,AllR R (reps k zs) (List.replicate k z)
 | 0=>rfl
 | k+1=>⟨zs,reps k zs,rfl,h,allR_reps h k⟩
theorem makeSlice_sound(hΓ:TabOk X.P Γ)(S:Sat X G)(hE:EnvR X.n G st.e a)(hp:PathP p a){d T E ty s0 y0:Nat}{z0:Value}{ty0:Ty}{l c:Operand}{n n':Int}{te:TI}{cs:List AV}{z:den te.ty}{f g fl:Bool}
  (hl:rd st p l=some (.d f (.int .i64) n)) (hc:rd st p c=some (.d g (.int .i64) n')) (hT:lku Γ T=some ⟨s0,y0,z0,.sl E,ty0⟩) (hte:lku Γ E=some te) (hz:conAs te.zero.cells.toList=some cs) (hn:datN G.o 24 te.ty cs=some (z,[],fl))
  (hd:lku G.o d=none) (_:te.size=sz te.ty) (hq:vcMk n n' te.bytes):Mk X G a (.makeSlice T l c) ty (.os d 0) (d,.arr E fl te.ty (List.replicate n.toNat z) 0):=by
 obtain⟨q1,rfl,q2,q3⟩:=hq;obtain⟨m,rfl⟩:=Int.eq_ofNat_of_zero_le q1;simp only[Int.toNat_natCast] at q2 ⊢;have hok:=hΓ E _ hte
 haveI:SliceOf X.P T E:=⟨(hΓ T _ hT).2.2.2.2.2⟩
 haveI:Info X.P E te.size te.bytes te.zero:=⟨hok.1⟩
 have hzR:=datN_region S hn (conAs_sound (G:=G) hz);have hA:=allR_reps (R:=RT (rg G fl) G.w te.ty) hzR m;obtain⟨G',h1,h2,h3,h4,h5⟩:=mk_arr S (E:=E) (d:=d) (us:=(reps m te.zero.cells.toList).toArray) hd (by omega) (by grind);rw[List.length_replicate] at h5;have e1:=(avr_int (rd_sound hE hp hl)).1;have e2:=(avr_int (rd_sound hE hp hc)).1;have hle:ev (cenv a [l,c]) l=some (.int .i64 (m:Int)):=by grind[cenv_ev]
 have hce:ev (cenv a [l,c]) c=some (.int .i64 (m:Int)):=by grind[cenv_ev]
 refine⟨_,G',fun dst pos after g=>?_,h2,h3,h4,h5⟩;rw[h1];exact runs_make (P:=X.P) (n:=X.n) hle hce rfl hok.2.1 hok.2.2.1 q2 (by omega) a dst pos after g (cenv_agree hE _)
theorem spl_front(pre post c:List Value)(k:Nat)(h:pre.length=k):spl (pre++post) k c=pre++(c++post.drop c.length):=by
 unfold spl;subst h
 simp_all
theorem parts_fill(S:Sat X G)(ho:G.o=st.o)(hE:EnvR X.n G st.e a)(hp:PathP p a){t:Ty}{place:List (Nat×Nat)}:∀{ps:List (Nat×Operand)} {k:Nat} {ys:List (den t)} {fl:Bool} {pre post:List Value},partsA st p t k ps=some (ys,fl)->pre.length=k*sz t->post.length=ps.length*sz t ->
  (∀i,i<k+ps.length->place[i]?=some (i*sz t,sz t))->∃ws,fillL place (pre++post) (ps.map fun q=>(q.1,a.eval q.2))=some (pre++ws)/\AllR (RT (rg G fl) G.w t) ws ys/\ys.length=ps.length
 | [],k,ys,fl,pre,post,h,h1,h2,hpl=>by
   simp only[partsA,oi,pj] at h; obtain⟨rfl,rfl⟩:=h;have:post=[]:=List.eq_nil_of_length_eq_zero (by grind);subst this;exact⟨[],by simp[fillL],rfl,rfl⟩
 | (i,x) :: r,k,ys,fl,pre,post,h,h1,h2,hpl=>by
   unfold partsA at h;rw[ce] at h;split at h
   ·rename_i hi;have hi:=nb hi;subst hi;split at h
    ·rename_i v hv;split at h
     ·rename_i cs hcs;split at h
      ·rename_i y f hy;split at h
       ·rename_i ys' g hys;simp only[oi,pj] at h; obtain⟨rfl,rfl⟩:=h;obtain⟨hA,_⟩:=cellsA_sound hcs (rd_sound hE hp hv);rw[<- ho] at hy;have hR:=datN_region S hy hA;have hlen:=RT.len hR;rw[List.length_cons,Nat.add_mul] at h2;obtain⟨ws,g1,g2,g3⟩:=parts_fill S ho hE hp (k:=i+1) (pre:=pre++(a.eval x).cells.toList) (post:=post.drop (sz t)) hys (by grind) (by grind) (fun j hj=>hpl j (by grind));refine⟨(a.eval x).cells.toList++ws,?_,⟨_,ws,rfl,RT.up hR (fun k hk=>⟨hk.1,fun e=>hk.2 (by grind)⟩),g2.mapR (fun c x h=>RT.up h (fun k hk=>⟨hk.1,fun e=>hk.2 (by grind)⟩))⟩,by grind⟩;simp only[List.map_cons];unfold fillL;rw[hpl i (by grind)];have hb:(lenIs (a.eval x).cells.toList (sz t)&&Nat.ble (i*sz t+sz t) (pre++post).length)=true:=by
         rw[ba];exact⟨lenIs_of hlen,Nat.ble_eq_true_of_le (by grind)⟩
        simp only[hb,cond_true]
        grind[spl_front,List.append_assoc]
       grind
      grind
     grind
    grind
   grind
theorem buildSlice_sound(hΓ:TabOk X.P Γ)(S:Sat X G)(ho:G.o=st.o)(hE:EnvR X.n G st.e a)(hp:PathP p a){d T E ty s0 y0 n:Nat}{z0:Value}{ty0:Ty}{parts:Array (Nat×Operand)}{te:TI}{xs:List (den te.ty)}{fr:Bool}
  (hT:lku Γ T=some ⟨s0,y0,z0,.sl E,ty0⟩) (hte:lku Γ E=some te) (hps:partsA st p te.ty 0 parts.toList=some (xs,fr)) (hd:lku G.o d=none) (hs:te.size=sz te.ty) (hn:parts.toList.length=n) (hle:n*te.size<=16777216) :
  Mk X G a (.buildSlice T n parts) ty (.os d 0) (d,.arr E fr te.ty xs 0):=by
 have hok:=hΓ E _ hte;have hU:=(hΓ T _ hT).2.2.2.2.2;have hI:Info X.P E te.size te.bytes te.zero:=⟨hok.1⟩;obtain⟨inf,hinfo,k1,k2,k3⟩:=hI.get;have hzl:=lenIs_eq hok.2.1;have hz:te.zero.cells.size=te.size:=by simpa using hzl
 have hpos:0<te.size:=by have:=hok.2.2.1; simpa using this
 let place:List (Nat×Nat):=(List.range n).map fun i=>(i*sz te.ty,sz te.ty)
 have hplace:∀i,i<n->place[i]?=some (i*sz te.ty,sz te.ty):=fun i hi=>by grind
 let zs:=((Array.range (n*te.size)).map (te.zero.cells[· % te.zero.cells.size]!)).toList
 have hzs:zs.length=n*sz te.ty:=by simp[zs,hs]
 obtain⟨ws,g1,g2,g3⟩:=parts_fill S ho hE hp (place:=place) (pre:=[]) (post:=zs) hps (by simp) (by grind) (fun i hi=>hplace i (by omega));simp only[List.nil_append] at g1;have hf:=fill_eq place _ zs ws g1;have hf':=fill_mono (fun i:Nat=>place[i]?) (fun i:Nat=>some (i*te.size,te.size)) _ _ _ (fun i q hi=>by
  grind) hf
 have hlen:=g2.len (fun c x h=>RT.len h);obtain⟨G',h1,h2,h3,h4,h5⟩:=mk_arr S (E:=E) (d:=d) (us:=ws.toArray) hd (by omega) (by have:=Nat.le_mul_of_pos_right n hpos; omega);have hxn:xs.length=n:=by omega
 rw[hxn] at h5;refine⟨_,G',fun dst pos after g=>?_,h2,h3,h4,h5⟩;rw[h1];have e1:parts.map (fun(i,x)=>(i,a.eval x))=(parts.toList.map fun q=>(q.1,a.eval q.2)).toArray:=by
  apply Array.ext';simp only[Array.toList_map]
 have hnot:¬n*te.size > 2 ^ 24:=by omega
 have hnew:∀w:World,(newRow E ws.toArray).run X.P w=.ok ⟨w.heap.size,0,none⟩ (w.alloc (.cells ws.toArray E)):=fun _=>rfl;have k1':inf.size=te.size:=k1;simp only[execOp,e1];simp only[Instr.buildSlice,Sem.run_bind,run_underlying hU,Result.andThen,run_sizeOf' G.w hinfo,k1',hnot,if_false];by_cases h0:n*te.size=0
 ·have hn0:n=0:=by rcases Nat.mul_eq_zero.1 h0 with h' | h'; exact h'; omega
  have e2:Array.map (fun x=>(#[]:Array Value)[x % (#[]:Array Value).size]!) (Array.range (n*te.size))=zs.toArray:=by
   have:zs.length=0:=by rw[hzs,hn0]; simp
   rw[List.eq_nil_of_length_eq_zero this,h0];simp
  simp only[h0] at e2 ⊢;simp only[if_true,Sem.run_bind,Sem.run_pure,Result.andThen,e2,hf',hnew]
 ·have e2:(Array.range (n*te.size)).map (fun x=>te.zero.cells[x % te.zero.cells.size]!)=zs.toArray:=Array.toArray_toList.symm;simp only[h0,if_false,Sem.run_bind,Sem.run_pure,Result.andThen,run_zeroValue' G.w hinfo k3,e2,hf',hnew]
theorem data_sound(S:Sat X G){v:AV}{u:Value}{t:Ty}{ys:List (den t)}{ids:List Nat}{fl:Bool}(h:dataA G.o v=some ⟨t,ys,ids,fl⟩)(hu:AVR G v u) :
  ∃p2 c b2 o2 news,u=.slice p2 ys.length c/\(ys.length=0∨p2=some ⟨b2,o2,none⟩)/\At G.w b2 o2 news/\AllR (RT (rg G fl) G.w t) news ys:=by
 have key:∀{fr:Bool} {t:Ty} {c:List Value} {x:den t},RT (rg G fr) G.w t c x->RT (rg G (fr||kfree t)) G.w t c x:=fun {fr t c x} h=>by
  grind[kfree,RT.free,RT.up]
 unfold dataA at h;split at h
 ·simp only[oi] at h; cases h;obtain⟨p,cap,hv,h2,h3,h4⟩:=hu;simp only[List.cons.injEq,and_true] at hv;rcases h4 with rfl | ⟨b,o,ds,hp,hb,hat,hall⟩
  ·exact⟨p,cap,0,0,[],hv,.inl rfl,at_nil,rfl⟩
  ·exact⟨p,cap,b,o,ds,hv,.inr hp,hat,hall.mapR (fun c x h=>key h)⟩
 ·rename_i id ver;split at h
  ·rename_i E fr' t' xs ver' ho;rw[ce] at h;split at h
   ·rename_i hv;have hv:=nb hv;simp only[oi] at h; cases h;obtain⟨_,T1,fr1,t1,xs1,ver1,g1,g2,g3⟩:=hu;rw[ho] at g1;cases g1;have hu:=g3 hv;obtain⟨cs,hO,hA,hBB⟩:=S.obs id _ ho;cases hg:G.γ id with
    | none =>
      rw[hg] at hO;rcases hO with ⟨_,hn,_,p,hp⟩ | ⟨b,_,_,_,hb,_⟩
      ·have:ys=[]:=List.eq_nil_of_length_eq_zero hn;subst this;exact⟨p,0,0,0,[],by grind,.inl rfl,at_nil,rfl⟩
      grind
    | some b =>
      rw[hg] at hO;obtain⟨o0,c0,e0,hat⟩:=hO.at;rcases hO with ⟨h,_⟩ | ⟨b',o1,cap,cur,hb,hv2,_⟩
      ·cases h
      ·cases hb;rw[hv2] at e0; cases e0;exact⟨_,c0,b,o0,cs,by grind,.inr rfl,hat,hA.mapR (fun c x h=>key h)⟩
   grind
  grind
 grind
theorem news_ones{K:Nat->Prop}{w:World}{t:Ty}:∀{news:List Value} {ys:List (den t)},AllR (RT K w t) news ys->∀u∈news,u.oneCell'=true
 | news,[],h,u,hu=>by rw[show news=[] from h] at hu; cases hu
 | _,y :: r,⟨c,d,e,h1,h2⟩,u,hu=>by
   rw[e] at hu;rcases List.mem_append.1 hu with hu | hu
   ·grind[RT.one]
   ·exact news_ones h2 u hu
theorem append_exec{xs:Array Operand}{Ts:Array TypeId}{T ty:TypeId}{u v r:Value}{w':World}(hx:xs.toList.map a.eval=[u,v])(hT:Ts.toList=[T,T])(hr:(Builtin.append_ #[T,T] ty #[u,v]).run X.P G.w=.ok r w') :
  ∀dst pos after g,(execOp a.eval ⟨dst,.call ⟨.builtin .append,xs,Ts⟩,ty,pos,after,g⟩).run X.P G.w=.ok (.value r) w':=by
 intro dst pos after g;have e1:xs.map a.eval=#[u,v]:=by apply Array.ext'; simpa using hx
 have e2:Ts=#[T,T]:=Array.ext' (by omega);subst e2;simp only[execOp,resolve,e1];simp[invoke,builtin,hr,Result.andThen]
theorem append_sound(hΓ:TabOk X.P Γ)(S:Sat X G){T E ty s0 y0 id ver:Nat}{z0:Value}{ty0:Ty}{xs:Array Operand}{Ts:Array TypeId}{te:TI}{fr fl:Bool}{t:Ty}{l m:List (den t)}{ids:List Nat}{u w:Value}{v:AV}
  (hT:lku Γ T=some ⟨s0,y0,z0,.sl E,ty0⟩) (hte:lku Γ E=some te) (ho:lku G.o id=some (.arr E fr t l ver)) (hs:te.size=sz t) (hTs:Ts.toList=[T,T])
  (hx:xs.toList.map a.eval=[u,w]) (hu:AVR G (.os id ver) u) (hv:dataA G.o v=some ⟨t,m,ids,fl⟩) (hw:AVR G v w) (hq:vcApp l.length m.length te.bytes) :
  Mk X G a (.call ⟨.builtin .append,xs,Ts⟩) ty (.os id (ver+1)) (id,.arr E (fr&&fl) t (l++m) (ver+1)):=by
 have hok:=hΓ E _ hte
 haveI:SliceOf X.P T E:=⟨(hΓ T _ hT).2.2.2.2.2⟩
 haveI:Info X.P E te.size te.bytes te.zero:=⟨hok.1⟩
 have hz:te.zero.cells.size=te.size:=by simpa using lenIs_eq hok.2.1
 obtain⟨p2,c,b2,o2,news,rfl,hp2,hat,hN⟩:=data_sound S hv hw;obtain⟨_,T1,fr1,t1,xs1,ver1,g1,g2,g3⟩:=hu;rw[ho] at g1;cases g1;have hu:=g3 rfl;obtain⟨cs,hO,hA,hBB⟩:=S.obs id _ ho;rw[<- hs] at hO;obtain⟨v',w',g',hr,hO',hw',hg'⟩:=run_app (P:=X.P) (T:=T) (ty:=ty) (c:=c) (by have:=hok.2.2.1; simpa using this) hz hO hp2 (by rw[hN.len (fun c x h=>RT.len h),hs]) hat (news_ones hN) hq.1 hq.2;have h:=S.put (id:=id) (ob:=.arr E (fr&&fl) t (l++m) (ver+1)) (r:=v') (g:=g') (w':=w') (go:=G.γ id) ⟨(fun T cs h=>by grind),(fun T fr' t' xs' v'' h=>by grind),by rw[ho]; rfl⟩
  (fun b hb=>⟨⟨_,ho⟩,hb⟩) hw' (fun b hb=>by grind)
  (fun hle=>⟨cs++news,by grind[Gh.put],((hN.mapR (fun c x h=>RT.up h (fun k hk=>⟨hk.1,fun e=>hk.2 (by grind)⟩))).app (hA.mapR (fun c x h=>RT.up h (fun k hk=>⟨hk.1,fun e=>hk.2 (by grind)⟩)))).mapR (fun c x hr=>RT.same (w:=G.w) hle.hR hr),fun b e=>by
    simp only[Gh.put,if_true] at e ⊢;rcases hg' with h | h
    ·exact hBB b (h ▸ e)
    ·rw[h] at e; cases e; exact Nat.le_trans S.le S.size⟩)
 rw[hu] at hx;refine⟨v',_,append_exec hx hTs hr,h.1,h.2,rfl,?_,E,fr&&fl,t,l++m,ver+1,by rw[show(Gh.put G id (.arr E (fr&&fl) t (l++m) (ver+1)) _ _ _).o=(id,.arr E (fr&&fl) t (l++m) (ver+1)) :: G.o from rfl,lK]; simp,Nat.le_refl _,fun _=>by simp[Gh.put]⟩;obtain⟨p,c,e⟩:=hO'.len;rw[e]; rfl
theorem append_nil_sound(hΓ:TabOk X.P Γ)(S:Sat X G){T E ty s0 y0 d:Nat}{z0:Value}{ty0:Ty}{xs:Array Operand}{Ts:Array TypeId}{te:TI}{fl:Bool}{t:Ty}{m:List (den t)}{ids:List Nat}{w:Value}{v:AV}
  (hT:lku Γ T=some ⟨s0,y0,z0,.sl E,ty0⟩) (hte:lku Γ E=some te) (hd:lku G.o d=none) (hs:te.size=sz t) (hTs:Ts.toList=[T,T])
  (hx:xs.toList.map a.eval=[.slice none 0 0,w]) (hv:dataA G.o v=some ⟨t,m,ids,fl⟩) (hw:AVR G v w) (hq:vcApp 0 m.length te.bytes) :
  Mk X G a (.call ⟨.builtin .append,xs,Ts⟩) ty (.os d 0) (d,.arr E fl t m 0):=by
 have hok:=hΓ E _ hte
 haveI:SliceOf X.P T E:=⟨(hΓ T _ hT).2.2.2.2.2⟩
 haveI:Info X.P E te.size te.bytes te.zero:=⟨hok.1⟩
 have hz:te.zero.cells.size=te.size:=by simpa using lenIs_eq hok.2.1
 obtain⟨p2,c,b2,o2,news,rfl,hp2,hat,hN⟩:=data_sound S hv hw;obtain⟨v',w',g',hr,hO',hw',hg'⟩:=run_app (P:=X.P) (T:=T) (ty:=ty) (c:=c) (by have:=hok.2.2.1; simpa using this) hz (Own.nil (w:=G.w) (E:=E) (s:=te.size) (p:=none)) hp2 (by rw[hN.len (fun c x h=>RT.len h),hs]) hat (news_ones hN) hq.1 hq.2;simp only[Nat.zero_add,List.nil_append] at hO';have h:=S.put (id:=d) (ob:=.arr E fl t m 0) (r:=v') (g:=g') (w':=w') (go:=none) (follows_new hd) (fun _ e=>by cases e) hw' (fun b hb=>by grind)
  (fun hle=>⟨news,by grind[Gh.put],hN.mapR (fun c x hr=>RT.same (w:=G.w) hle.hR hr),fun b e=>by
    simp only[Gh.put,if_true] at e ⊢;rcases hg' with h | h
    ·rw[h] at e; cases e
    ·rw[h] at e; cases e; exact Nat.le_trans S.le S.size⟩)
 refine⟨v',_,append_exec hx hTs hr,h.1,h.2,rfl,?_,E,fl,t,m,0,by rw[show(Gh.put G d (.arr E fl t m 0) _ _ _).o=(d,.arr E fl t m 0) :: G.o from rfl,lK]; simp,Nat.le_refl _,fun _=>by simp[Gh.put]⟩;obtain⟨p,c,e⟩:=hO'.len;rw[e]; rfl
def Us(X:Cx)(G:Gh)(a:Act)(op:Op)(ty:TypeId)(w:Nat×Ob):Prop :=
 ∃G',(∀dst pos after g,(execOp a.eval ⟨dst,op,ty,pos,after,g⟩).run X.P G.w=.ok .skip G'.w)/\Sat X G'/\GLe G G'/\G'.o=w :: G.o
theorem store_exec{T ty:TypeId}{x y:Operand}{b o:Nat}{w':World}(hx:a.eval x=.pointer (some ⟨b,o,none⟩))(h:(storeVar T ⟨b,o,none⟩ (a.eval y)).run X.P G.w=.ok () w') :
  ∀dst pos after g,(execOp a.eval ⟨dst,.store T x y,ty,pos,after,g⟩).run X.P G.w=.ok .skip w':=by
 intro dst pos after g;simp only[execOp,hx];simp[Instr.storeAt,Instr.sureAddr,h,Result.andThen]
theorem storeB_sound(hΓ:TabOk X.P Γ)(S:Sat X G){T T' ty id off:Nat}{x y:Operand}{ti:TI}{cs vs:List AV}{v:AV}(hT:lku Γ T=some ti)(ho:lku G.o id=some (.box T' cs))(hx:AVR G (.ptr id off) (a.eval x))(hv:AVR G v (a.eval y))(hc:cellsA v=some vs)
  (hl:vs.length=ti.size) (hle:off+vs.length<=cs.length):Us X G a (.store T x y) ty (id,.box T' (splA cs off vs)):=by
 haveI:Info X.P T ti.size ti.bytes ti.zero:=⟨(hΓ T _ hT).1⟩
 obtain⟨_,b,hb,hxe⟩:=hx;obtain⟨b',us,g1,g2,g3,g4⟩:=S.obs id _ ho;rw[hb] at g2;cases g2;obtain⟨hA,h1⟩:=cellsA_sound hc hv;have hlen:=hA.len;have hlen2:=g4.len;have hst:=run_storeVar (P:=X.P) (T:=T) (o:=off) (v:=a.eval y) rfl (by omega) h1 g3 (by omega);have hW:=wr_setRow G.w b (spl us off (a.eval y).cells.toList).toArray;have hB:=setRow_heap G.w b us.toArray (spl us off (a.eval y).cells.toList).toArray T' (0,0) g3;have h:=S.put (id:=id) (ob:=.box T' (splA cs off vs)) (r:=G.ρ id) (g:=some b) (w':=G.w.setRow b (spl us off (a.eval y).cells.toList).toArray) (go:=some b) ⟨(fun T cs h=>⟨rfl,_,_,rfl⟩),(fun T fr' t' xs' v'' h=>by grind),by rw[ho]; rfl⟩
  (fun b' hb'=>by grind) (WE.of_wr hW) (fun b' hb'=>.inl hb') (fun hle'=>⟨b,_,by simp[Gh.put],by grind[Gh.put],hB,splA_sound (g4.mono hle') (hA.mono hle') hle⟩)
 exact⟨_,store_exec hxe hst,h.1,h.2,rfl⟩
theorem take_spl{cur vs:List Value}{o k:Nat}(h:o+vs.length<=k)(hk:k<=cur.length):(spl cur o vs).take k=spl (cur.take k) o vs:=by
 unfold spl;have e1:(List.take o cur).length=o:=by rw[List.length_take]; omega
 rw[List.append_assoc,List.take_append,List.take_append,e1,List.append_assoc];congr 1
 ·rw[List.take_of_length_le (by rw[e1]; omega),List.take_take]; congr 1; omega
 ·congr 1
  ·rw[List.take_of_length_le (by omega)]
  ·rw[List.drop_take]; congr 1; omega
theorem drop_spl{cur vs:List Value}{o k:Nat}(h:o<=cur.length):(spl cur (o+k) vs).drop o=spl (cur.drop o) k vs:=by
 grind[spl,List.append_assoc,List.drop_append,List.drop_take,List.length_take,List.drop_drop,min,Nat.add_assoc]
theorem spl_len'{cs vs:List Value}{o:Nat}(h:o+vs.length<=cs.length):(spl cs o vs).length=cs.length:=by
 grind[spl,List.length_append,List.length_take,List.length_drop]
theorem storeE_sound(hΓ:TabOk X.P Γ)(S:Sat X G){T E ty id ver k off:Nat}{x y:Operand}{ti:TI}{fr fl:Bool}{t:Ty}{l:List (den t)}{vs:List AV}{v:AV}{z:den t}(hT:lku Γ T=some ti)(ho:lku G.o id=some (.arr E fr t l ver))(hx:AVR G (.pel id ver k (sz t) off) (a.eval x))
  (hv:AVR G v (a.eval y)) (hc:cellsA v=some vs) (hl:vs.length=ti.size) (hle:off+vs.length<=sz t) (hk:k<l.length) (hd:datN G.o 24 t (splA (cellsD fr t (l.getD k (dflt t))) off vs)=some (z,[],fl)):Us X G a (.store T x y) ty (id,.arr E (fr&&fl) t (l.set k z) ver):=by
 haveI:Info X.P T ti.size ti.bytes ti.zero:=⟨(hΓ T _ hT).1⟩
 obtain⟨_,T1,fr1,t1,xs1,ver1,g1,g2,g3⟩:=hx;rw[ho] at g1;cases g1;obtain⟨b,o,n0,c0,hr,hxe⟩:=g3 rfl;obtain⟨cs,hO,hA,hBB⟩:=S.obs id _ ho;obtain⟨hV,h1⟩:=cellsA_sound hc hv;have hlen:=hV.len;rcases hO with ⟨_,hn,_⟩ | ⟨b',o',cap,cur,hb,hv2,k1,k2,k3,k4,k5⟩
 ·omega
 have hbb:b'=b/\o'=o:=by rw[hr] at hv2; simp only[Value.slice.injEq,oi,Addr.mk.injEq] at hv2; exact⟨hv2.1.1.symm,hv2.1.2.1.symm⟩
 obtain⟨hbb,hoo⟩:=hbb;subst hbb; subst hoo;obtain⟨pre,c,post,e,hp,hR⟩:=hA.get (fun c x h=>RT.len h) hk;have hcl:=RT.len hR;have hsz:(k+1)*sz t<=l.length*sz t:=Nat.mul_le_mul_right _ hk;rw[Nat.add_mul] at hsz;have hcap:l.length*sz t<=cap*sz t:=Nat.mul_le_mul_right _ k2;have hB:Blk G.w b' cur.toList E:=by unfold Blk; rw[Array.toArray_toList]; exact k1
 have hcur:cur.toList.length=o'+cap*sz t:=by omega
 have hst:=run_storeVar (P:=X.P) (T:=T) (o:=o'+(k*sz t+off)) (v:=a.eval y) rfl (by omega) h1 hB (by omega);have hW:=wr_setRow G.w b' (spl cur.toList (o'+(k*sz t+off)) (a.eval y).cells.toList).toArray;have hB':=setRow_heap G.w b' cur (spl cur.toList (o'+(k*sz t+off)) (a.eval y).cells.toList).toArray E (0,0) k1;have hD:=cellsD_sound hR;have hgd:l.getD k (dflt t)=l[k]:=by simp[hk]
 rw[hgd] at hd;have hDlen:=hD.len;have hNew:=datN_region S hd (splA_sound hD hV (by omega));have hset:=AllR.set (R:=RT (rg G (fr&&fl)) G.w t) (s:=sz t) (fun c x h=>RT.len h) (RT.up hNew (fun k hk=>⟨hk.1,fun e=>hk.2 (by grind)⟩)) (hA.mapR (fun c x h=>RT.up h (fun k hk=>⟨hk.1,fun e=>hk.2 (by grind)⟩))) hk;have hcells:cs.take (k*sz t)++spl c off (a.eval y).cells.toList++cs.drop ((k+1)*sz t)=((spl cur.toList (o'+(k*sz t+off)) (a.eval y).cells.toList).drop o').take (l.length*sz t):=by
  rw[drop_spl (by omega),take_spl (by omega) (by rw[List.length_drop]; omega),k5,e];have e1:(pre++c++post).take (k*sz t)=pre:=by rw[List.append_assoc,<- hp,List.take_left]
  have e2:(pre++c++post).drop ((k+1)*sz t)=post:=by
   have:(k+1)*sz t=(pre++c).length:=by rw[List.length_append,hp,hcl,Nat.add_mul]; omega
   rw[this,List.drop_left]
  rw[e1,e2];unfold spl;rw[<- hp];have f1:List.take (pre.length+off) (pre++c++post)=pre++c.take off:=by
   rw[List.append_assoc,List.take_length_add_append,List.take_append_of_le_length (by omega)]
  have f2:List.drop (pre.length+off+(a.eval y).cells.toList.length) (pre++c++post)=c.drop (off+(a.eval y).cells.toList.length)++post:=by
   rw[List.append_assoc,Nat.add_assoc,List.drop_length_add_append,List.drop_append_of_le_length (by omega)]
  rw[f1,f2];simp
 rw[hcells] at hset;have h:=S.put (id:=id) (ob:=.arr E (fr&&fl) t (l.set k z) ver) (r:=G.ρ id) (g:=some b') (w':=G.w.setRow b' (spl cur.toList (o'+(k*sz t+off)) (a.eval y).cells.toList).toArray) (go:=some b') ⟨(fun T cs h=>by grind),(fun T fr' t' xs' v'' h=>by grind),by rw[ho]; rfl⟩
  (fun b2 hb2=>by grind) (WE.of_wr hW) (fun b2 hb2=>.inl hb2)
  (fun hle'=>⟨_,by
    simp only[Gh.put,if_true,List.length_set];exact .inr ⟨b',o',cap,_,rfl,hv2,hB',k2,k3,by grind[List.size_toArray,spl_len'],by grind⟩,hset.mapR (fun c x hr=>RT.same (w:=G.w) hle'.hR hr),fun b e=>by grind[Gh.put]⟩)
 exact⟨_,store_exec hxe hst,h.1,h.2,rfl⟩
theorem absM_sound(hΓ:TabOk X.P Γ)(S:Sat X G)(ho:G.o=st.o)(hE:EnvR X.n G st.e a)(hp:PathP p a){op:Op}{ty:TypeId}{d:Nat}{q:Prop}{r:AV}{w:Nat×Ob}{l:List Nat}
  (h:absM Γ st p d op=some (q,r,w,l)) (hq:q):Mk X G a op ty r w:=by
 unfold absM at h;split at h
 ·split at h
  ·rename_i ti hT;split at h
   ·rename_i cs hz;rw[ce] at h
    grind[oi,pj,alloc_sound,freshO_eq]
   grind
  grind
 ·split at h
  ·rename_i v hv;split at h
   ·rename_i cs hc;rw[ce] at h
    grind[oi,pj,box_sound,freshO_eq]
   grind
  grind
 ·split at h
  ·rename_i f n g n' _ _ _ E _ h1 h2 h3;split at h
   ·rename_i te h4;split at h
    ·rename_i Te t hgt;rw[ce] at h
     grind[oi,pj,makeGrid_sound,freshO_eq]
    ·split at h
     ·rename_i cs h5;split at h
      ·rename_i z fl h6;rw[ce] at h;split at h
       ·rename_i hf;rw[ba] at hf
        grind[oi,pj,makeSlice_sound,freshO_eq,nb]
       grind
      grind
     grind
   grind
  grind
 ·split at h
  ·rename_i h1;split at h
   ·rename_i te h2;split at h
    ·rename_i xs fl h3;rw[ce] at h;split at h
     ·rename_i hf;simp only[ba] at hf
      grind[oi,pj,buildSlice_sound,freshO_eq,nb,Nat.le_of_ble_eq_true]
     grind
    grind
   grind
  grind
 ·split at h
  ·rename_i id ver v T T2 h1 h2;split at h
   ·rename_i _ _ _ E _ E' fr t l' ver' t' m ids fl h3 h4 h5;split at h
    ·rename_i te m' h6 h7;rw[ce] at h;split at h
     ·rename_i hf;simp only[ba] at hf;simp only[oi,pj] at h;obtain⟨rfl,rfl,rfl,_⟩:=h;obtain⟨e,rfl⟩:=castD_eq h7;cases e;have e1:=nb hf.1.1.1;have e2:=nb hf.1.1.2;have e3:=nb hf.1.2;have e4:=nb hf.2;subst e1; subst e2; subst e4;obtain⟨u,us',e,hu,w,us2,e',hw,hr⟩:=rds_sound hE hp h1;have hr:us2=[]:=hr
      grind[append_sound]
     grind
    grind
   grind
  ·rename_i v T T2 h1 h2;split at h
   ·rename_i _ _ _ E _ t m ids fl h3 h5;split at h
    ·rename_i te h6;rw[ce] at h;split at h
     ·rename_i hf;simp only[ba] at hf;simp only[oi,pj] at h;obtain⟨rfl,rfl,rfl,_⟩:=h;have e4:=nb hf.2;subst e4;obtain⟨u,us',e,hu,w,us2,e',hw,hr⟩:=rds_sound hE hp h1;have hr:us2=[]:=hr;have hu:u=_:=hu
      grind[append_nil_sound,freshO_eq,nb]
     grind
    grind
   grind
  grind
 grind
theorem absU_sound(hΓ:TabOk X.P Γ)(S:Sat X G)(ho:G.o=st.o)(hE:EnvR X.n G st.e a)(hp:PathP p a){op:Op}{ty:TypeId}{q:Prop}{w:Nat×Ob}{l:List Nat}
  (h:absU Γ st p op=some (q,w,l)) (hq:q):Us X G a op ty w:=by
 unfold absU at h;split at h
 ·split at h
  ·rename_i id off v ti h1 h2 h3;split at h
   ·rename_i T' cs vs h4 h5;rw[ce] at h;split at h
    ·rename_i hf;rw[ba] at hf;simp only[oi,pj] at h;obtain⟨_,rfl,_⟩:=h;exact storeB_sound hΓ S h3 (by grind) (rd_sound hE hp h1) (rd_sound hE hp h2) h5 (nb hf.1) (Nat.le_of_ble_eq_true hf.2)
    grind
   grind
  ·rename_i id ver k s off v ti h1 h2 h3;split at h
   ·rename_i E fr t l' ver' vs h4 h5;split at h
    ·rename_i z fl h6;rw[ce] at h;split at h
     ·rename_i hf;simp only[ba] at hf;simp only[oi,pj] at h;obtain⟨rfl,rfl,_⟩:=h;have e1:=nb hf.1.1.1;have e2:=nb hf.1.1.2;subst e1; subst e2;exact storeE_sound hΓ S h3 (by grind) (rd_sound hE hp h1) (rd_sound hE hp h2) h5 (nb hf.1.2) (Nat.le_of_ble_eq_true hf.2) hq (by grind)
     grind
    grind
   grind
  grind
 grind
end
inductive Par
 | dat (t:Ty)
 | agg (t:Ty)
 | io (T:TypeId) (t:Ty)
 | fn (f:FuncId) (c:Ty)
 | nof (f:FuncId)
 | nil
 | os (E:TypeId) (t:Ty)
@[reducible] def denP:Par->Type
  | .dat t=>den t
  | .agg t=>den t
  | .io _ t=>den t
  | .fn _ c=>den c
  | .nof _=>Unit
  | .nil=>Unit
  | .os _ t=>List (den t)
@[reducible] def denPs:List Par->Type
  | []=>Unit
  | p :: r=>denP p×denPs r
@[reducible] def IOT:List Par->Type
  | []=>Unit
  | .io _ t :: _=>den t
  | _ :: r=>IOT r
structure Res(ps:List Par) where
 q:Prop
 r:AV
 z:IOT ps
structure Ct where
 f:FuncId
 ps:List Par
 res:denPs ps->Res ps
def ArgsR(K:Nat->Prop)(w:World):Option Nat->(ps:List Par)->denPs ps->List Value->Prop
 | go,[],_,vs=>vs=[]/\go=none
 | go,.dat t :: r,x,vs=>∃v us,vs=v :: us/\RT K w t [v] x.1/\ArgsR K w go r x.2 us
 | go,.agg t :: r,x,vs=>∃cs us,vs=.agg cs.toArray :: us/\RT K w t cs x.1/\ArgsR K w go r x.2 us
 | go,.fn f c :: r,x,vs=>∃cs us,vs=.func (.func f) #[] cs.toArray :: us/\RT K w c cs x.1/\ArgsR K w go r x.2 us
 | go,.nof f :: r,x,vs=>∃us,vs=.func (.func f) #[] #[] :: us/\ArgsR K w go r x.2 us
 | go,.nil :: r,x,vs=>∃us,vs=.pointer none :: us/\ArgsR K w go r x.2 us
 | go,.io T t :: r,x,vs=>∃b cs us,vs=.pointer (some ⟨b,0,none⟩) :: us/\go=some b/\¬K b/\Blk w b cs T/\RT K w t cs x.1/\ArgsR K w none r x.2 us
 | go,.os E t :: r,x,vs=>∃v cs us,vs=v :: us/\(∀b,go=some b->¬K b)/\v.oneCell'=true/\Own w E (sz t) go v x.1.length cs/\AllR (RT K w t) cs x.1/\ArgsR K w none r x.2 us
def giv:List Par->Bool
 | []=>false
 | .os _ _ :: _=>true
 | .dat _ :: r=>giv r
 | .agg _ :: r=>giv r
 | .fn _ _ :: r=>giv r
 | .nof _ :: r=>giv r
 | .nil :: r=>giv r
 | .io _ _ :: r=>giv r
def IOR(K:Nat->Prop)(w:World)(go:Option Nat):(ps:List Par)->IOT ps->Prop
 | [],_=>True
 | .io T t :: _,z=>∃b cs,go=some b/\Blk w b cs T/\RT K w t cs z
 | .dat _ :: r,z=>IOR K w go r z
 | .agg _ :: r,z=>IOR K w go r z
 | .fn _ _ :: r,z=>IOR K w go r z
 | .nof _ :: r,z=>IOR K w go r z
 | .nil :: r,z=>IOR K w go r z
 | .os _ _ :: r,z=>IOR K w go r z
/- The result: data lead into K; each row that is handed over lies in a block of its own of the list, or has no block. -/
mutual
def ResR(K:Bool->Nat->Prop)(w:World):AV->Value->List (Option Nat)->Prop
 | .v x,u,gs=>u=x/\gs=[]
 | .d fr t x,u,gs=>RT (K fr) w t [u] x/\gs=[]
 | .agg xs,u,gs=>∃us:List Value,u=.agg us.toArray/\ResRs K w xs us gs
 | .tup xs,u,gs=>∃us:List Value,u=.tuple us.toArray/\ResRs K w xs us gs
 | .ob T xs,u,gs=>∃b us gs',gs=some b :: gs'/\u=.pointer (some ⟨b,0,none⟩)/\Blk w b us T/\ResRs K w xs us gs'
 | .ow T fr t xs,u,gs=>∃g cs,gs=[g]/\u.oneCell'=true/\Own w T (sz t) g u xs.length cs/\AllR (RT (K fr) w t) cs xs
 | _,_,_=>False
def ResRs(K:Bool->Nat->Prop)(w:World):List AV->List Value->List (Option Nat)->Prop
 | [],us,gs=>us=[]/\gs=[]
 | a :: r,us,gs=>∃u us' g1 g2,us=u :: us'/\gs=g1++g2/\ResR K w a u g1/\ResRs K w r us' g2
end
def NoDup:List (Option Nat)->Prop
 | []=>True
 | g :: r=>(∀b,g=some b->some b ∉ r)/\NoDup r
def KRes(fr:Bool)(K:Nat->Prop)(w w':World)(gs:List (Option Nat))(k:Nat):Prop:=((fr=false/\K k)∨w.heap.size<=k)/\UFg w' w.heap.size k/\some k ∉ gs
def KW(P:Program)(w:World)(go:Option Nat)(K:Nat->Prop):Prop:=(∀k,K k->k<w.heap.size)/\WK P w fun k=>go=some k
def Ok(P:Program)(c:Ct):Prop:=enterB P c.f=true/\∀(x:denPs c.ps),(c.res x).q->∀(w:World) (vs:List Value) (go:Option Nat) (K:Nat->Prop),KW P w go K->ArgsR K w go c.ps x vs ->
 Calls P c.f vs.toArray w fun en w'=>∃v gs,en=.returned v/\WE go w w'/\NoDup gs/\(∀b,some b∈gs->w.heap.size<=b∨(giv c.ps=true/\go=some b))/\ResR (fun fr=>KRes fr K w w' gs) w' (c.res x).r v gs /\
  IOR (fun k=>(K k∨w.heap.size<=k)/\UFg w' w.heap.size k/\some k ∉ gs/\go≠some k) w' go c.ps (c.res x).z
def argA(o:List (Nat×Ob)):(p:Par)->AV->Option (denP p×List Nat×Option Nat)
 | .dat t,a=>match datN o 24 t [a] with
   | some (x,l,_)=>some (x,l,none)
   | none=>none
 | .agg t,.agg cs=>match datN o 24 t cs with
   | some (x,l,_)=>some (x,l,none)
   | none=>none
 | .fn f c,.fn f' cs=>bif Nat.beq f f' then(match datN o 24 c cs with
   | some (x,l,_)=>some (x,l,none)
   | none=>none) else none
 | .nof f,.fn f' []=>bif Nat.beq f f' then some ((),[],none) else none
 | .io T t,.ptr id 0=>match lku o id with
   | some (.box T' cs)=>bif Nat.beq T T' then(match datN o 24 t cs with
     | some (x,[],_)=>some (x,[],some id)
     | _=>none) else none
   | _=>none
 | .os E t,.os id ver=>match lku o id with
   | some (.arr E' _ t' xs ver')=>bif Nat.beq E E'&&Nat.beq ver ver' then(match castD (.sl t') (.sl t) xs with
     | some x=>some (x,[],some id)
     | none=>none) else none
   | _=>none
 | .nil,.v (.pointer none)=>some ((),[],none)
 | _,_=>none
def argsA(o:List (Nat×Ob)):(ps:List Par)->List AV->Option (denPs ps×List Nat×Option Nat)
 | [],[]=>some ((),[],none)
 | p :: r,a :: as'=>match argA o p a with
   | some (x,l,i)=>match argsA o r as' with
     | some (y,m,j)=>match i,j with
       | none,j=>some ((x,y),l++m,j)
       | some i,none=>some ((x,y),l++m,some i)
       | _,_=>none
     | none=>none
   | none=>none
 | _,_=>none
theorem datN_ids{o:List (Nat×Ob)}:∀(n:Nat) {t:Ty} {cs:List AV} {x:den t} {l:List Nat} {fl:Bool},datN o n t cs=some (x,l,fl)->∀id∈l,∃ob,lku o id=some ob:=by
 intro n
 induction n with
 | zero=>grind[datN]
 | succ n ih =>
   intro t cs x l fl h;have one:∀(t:Ty) (c:AV) (x:den t),dat1 o (datN o n) t c=some (x,l,fl)->∀id∈l,∃ob,lku o id=some ob:=by
    intro t c x h;unfold dat1 at h;split at h
    ·grind
    ·grind
    ·grind
    ·grind
    ·cases h
   have key:∀(t:Ty) (x:den t) (r:Option (den t×List Nat×Bool)),r=some (x,l,fl)->r=(match(generalizing:=false) cs with | [c]=>dat1 o (datN o n) t c | _=>none)->∀id∈l,∃ob,lku o id=some ob:=by
    intro t x r hr0 hr1;rw[hr0] at hr1;have h:=hr1.symm;split at h
    ·grind
    ·cases h
   cases t with
   | pr a b =>
     unfold datN at h
     grind
   | _=>exact key _ _ _ h rfl
def Bor(G:Gh)(ids:List Nat)(k:Nat):Prop:=G.K k∨∃id∈ids,G.γ id=some k
theorem argsA_sound{X:Cx}{G:Gh}(S:Sat X G){all:List Nat}(hall:∀id∈all,∃ob,lku G.o id=some ob):∀{ps:List Par} {as':List AV} {us:List Value} {x:denPs ps} {l:List Nat} {io:Option Nat},argsA G.o ps as'=some (x,l,io)->(∀id∈l,id∈all)->(∀i,io=some i->i ∉ all)->AVRs G as' us ->
  (∀id∈l,∃ob,lku G.o id=some ob)/\∃go,ArgsR (Bor G all) G.w go ps x us/\((io=none/\go=none)∨(∃id b T cs,io=some id/\go=some b/\lku G.o id=some (.box T cs)/\G.γ id=some b)∨∃id E fr t xs ver,io=some id/\go=G.γ id/\lku G.o id=some (.arr E fr t xs ver)/\giv ps=true)
 | [],[],us,x,l,io,h,hl,hio,hA=>by
   simp only[argsA,oi,pj] at h;obtain⟨_,rfl,rfl⟩:=h;exact⟨(fun id h=>by cases h),none,⟨hA,rfl⟩,.inl ⟨rfl,rfl⟩⟩
 | [],_ :: _,us,x,l,io,h,hl,hio,hA=>by grind[argsA]
 | _ :: _,[],us,x,l,io,h,hl,hio,hA=>by grind[argsA]
 | p :: r,a :: as',us,x,l,io,h,hl,hio,hA=>by
   obtain⟨u,us',rfl,hu,hA'⟩:=hA;have hK:∀k,G.K k->Bor G all k:=fun k hk=>.inl hk;simp only[argsA] at h;split at h
   ·rename_i x1 l1 i1 h1;split at h
    ·rename_i y m j h2;have hx:x=(x1,y)/\l=l1++m/\((i1=none/\io=j)∨(∃i,i1=some i/\j=none/\io=some i)):=by
      split at h
      ·grind
      ·grind
      ·cases h
     obtain⟨rfl,rfl,hij⟩:=hx;have hl1:∀id∈l1,id∈all:=fun id hid=>hl id (by grind);have hm:∀id∈m,id∈all:=fun id hid=>hl id (by grind);have hB:∀id∈l1,∀b,G.γ id=some b->Bor G all b:=fun id hid b hb=>.inr ⟨id,hl1 id hid,hb⟩;obtain⟨hm2,go,hR,hgo⟩:=argsA_sound S hall h2 hm (fun i hi=>by
      grind) hA'
     have hids:(∀id∈l1,∃ob,lku G.o id=some ob)->∀id∈l1++m,∃ob,lku G.o id=some ob:=fun h id hid=>by
      grind
     unfold argA at h1;split at h1
     ·split at h1
      ·rename_i x0 l0 f0 hd;simp only[oi,pj] at h1;obtain⟨rfl,rfl,rfl⟩:=h1;refine⟨hids (datN_ids 24 hd),go,⟨u,us',rfl,RT.up (datN_sound S hK 24 hd hB ⟨u,[],rfl,hu,rfl⟩) (fun k h=>h.1),hR⟩,?_⟩;rcases hij with ⟨_,e⟩ | ⟨i',e,_⟩
       ·rw[e]; exact hgo
       grind
      grind
     ·split at h1
      ·rename_i x0 l0 f0 hd;simp only[oi,pj] at h1;obtain⟨rfl,rfl,rfl⟩:=h1;obtain⟨cs,rfl,hcs⟩:=hu;refine⟨hids (datN_ids 24 hd),go,⟨cs,us',rfl,RT.up (datN_sound S hK 24 hd hB hcs) (fun k h=>h.1),hR⟩,?_⟩;rcases hij with ⟨_,e⟩ | ⟨i',e,_⟩
       ·rw[e]; exact hgo
       grind
      grind
     ·rw[ce] at h1;split at h1
      ·rename_i hf;split at h1
       ·rename_i x0 l0 f0 hd;simp only[oi,pj] at h1;obtain⟨rfl,rfl,rfl⟩:=h1;obtain⟨cs,rfl,hcs⟩:=hu;refine⟨hids (datN_ids 24 hd),go,⟨cs,us',by simp_all,RT.up (datN_sound S hK 24 hd hB hcs) (fun k h=>h.1),hR⟩,?_⟩;rcases hij with ⟨_,e⟩ | ⟨i',e,_⟩
        ·rw[e]; exact hgo
        grind
       grind
      grind
     ·rw[ce] at h1;split at h1
      ·rename_i hf;simp only[oi,pj] at h1;obtain⟨_,rfl,rfl⟩:=h1;obtain⟨cs,rfl,hcs⟩:=hu;have hcs:cs=[]:=hcs;subst hcs;refine⟨hids (fun id h=>by cases h),go,⟨us',by simp_all,hR⟩,?_⟩;rcases hij with ⟨_,e⟩ | ⟨i',e,_⟩
       ·rw[e]; exact hgo
       grind
      grind
     ·rename_i T t id _;split at h1
      ·rename_i T' cs ho;rw[ce] at h1;split at h1
       ·rename_i hT;have hT:=nb hT;subst hT;split at h1
        ·rename_i x0 f0 hd;simp only[oi,pj] at h1;obtain⟨rfl,rfl,rfl⟩:=h1;rcases hij with ⟨e,_⟩ | ⟨i',e,rfl,rfl⟩
         ·cases e
         cases e;obtain⟨_,b,hb,rfl⟩:=hu;obtain⟨b',vs,g1,g2,g3,g4⟩:=S.obs id _ ho;rw[hb] at g2;cases g2;rcases hgo with ⟨_,rfl⟩ | ⟨_,_,_,_,e,_⟩ | ⟨_,_,_,_,_,_,e,_⟩
         ·refine⟨hids (fun id h=>by cases h),some b,⟨b,vs,us',rfl,rfl,?_,g3,RT.up (datN_sound S hK 24 hd hB g4) (fun k h=>h.1),hR⟩,.inr (.inl ⟨id,b,T,cs,rfl,rfl,ho,g1⟩)⟩;rintro(h | ⟨i2,h2,h3⟩)
          ·exact S.imm id _ b ho g1 h
          ·obtain⟨ob2,h4⟩:=hall i2 h2;have:=S.inj i2 id _ _ b h4 ho h3 g1
           grind
         ·cases e
         grind
        grind
       grind
      grind
     ·rename_i E t id ver _;split at h1
      ·rename_i E' fr t' xs ver' ho;rw[ce] at h1;split at h1
       ·rename_i hb;rw[ba] at hb;have e1:=nb hb.1;have e2:=nb hb.2;subst e1; subst e2;split at h1
        ·rename_i x0 hc;simp only[oi,pj] at h1;obtain⟨rfl,rfl,rfl⟩:=h1;rcases hij with ⟨e,_⟩ | ⟨i',e,rfl,rfl⟩
         ·cases e
         cases e;obtain⟨et,rfl⟩:=castD_eq hc;cases et;obtain⟨ho1,T1,fr1,t1,xs1,ver1,g1,g2,g3⟩:=hu;rw[ho] at g1;cases g1;have hu:=g3 rfl;obtain⟨cs,hO,hAr,_⟩:=S.obs id _ ho;rcases hgo with ⟨_,rfl⟩ | ⟨_,_,_,_,e,_⟩ | ⟨_,_,_,_,_,_,e,_⟩
         ·refine⟨hids (fun id h=>by cases h),G.γ id,⟨u,cs,us',rfl,?_,ho1,by grind,hAr.mapR (fun c x h=>RT.up h (fun k hk=>.inl hk.1)),hR⟩,.inr (.inr ⟨id,_,fr,_,_,_,rfl,rfl,ho,rfl⟩)⟩;intro b hg;rintro(h | ⟨i2,h2,h3⟩)
          ·exact S.imm id _ b ho hg h
          ·obtain⟨ob2,h4⟩:=hall i2 h2;have:=S.inj i2 id _ _ b h4 ho h3 hg
           grind
         ·cases e
         grind
        grind
       grind
      grind
     ·simp only[oi,pj] at h1;obtain⟨_,rfl,rfl⟩:=h1;have hu:u=.pointer none:=hu;subst hu;refine⟨hids (fun id h=>by cases h),go,⟨us',rfl,hR⟩,?_⟩;rcases hij with ⟨_,e⟩ | ⟨i',e,_⟩
      ·rw[e]; exact hgo
      grind
     grind
    grind
   grind
end Go.Proofs.Xv
end
