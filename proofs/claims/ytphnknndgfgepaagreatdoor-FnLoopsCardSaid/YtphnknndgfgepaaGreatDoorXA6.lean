/- A logic of symbolic frames: each step of a function's code is taken by one lemma, the frame is a short list of the slots that are known. Over any program. -/
import Derived.WalkKit
import Derived.Deep.LoopGhost
import Derived.IntWalk
import Derived.Deep.Quiet
import Derived.Laws.CopyRow
import Derived.ProofKit
import Derived.ChangeArms
import Derived.Carry
import Derived.Deep.RegionHeld3
import Derived.Laws.MakeOwn
import Derived.Laws.BytesArg
import Derived.Maps.AppendAt
import Derived.Deep.Upon
namespace Go.Proofs
theorem oi {α:Type _} (a b:α):(some a=some b)=(a=b):=Option.some.injEq a b
theorem pj {α β:Type _} (a:α) (b:β) (c:α) (d:β):((a,b)=(c,d))=(a=c∧b=d):=Prod.mk.injEq a b c d
theorem ba (a b:Bool):((a&&b)=true)=(a=true∧b=true):=Bool.and_eq_true a b
theorem nb {n m:Nat} (h:n.beq m=true):n=m:=Nat.eq_of_beq_eq_true h
theorem ce {α:Sort _} (b:Bool) (t e:α):(bif b then t else e)=if b=true then t else e:=cond_eq_ite b t e
theorem gq {α:Type _} {l:List α} {i:Nat} {a:α}:l.getD i a=l[i]?.getD a:=List.getD_eq_getElem?_getD
theorem dq {p:Prop} [Decidable p]:(decide p=true)=p:=decide_eq_true_eq
theorem oo {a b:Prop} (h:a:=by omega) (k:b:=by omega):a∧b:=⟨h,k⟩
end Go.Proofs
section
namespace Go.Proofs.Sv
open Go Go.RowKit
abbrev Env:=List (Nat×Value)
def lk:Env->Nat->Option Value
 | [],_=>none
 | (d,v) :: e,t=>cond (Nat.beq d t) (some v) (lk e t)
def ev(e:Env):Operand->Option Value
 | .tmp t=>lk e t
 | .const v=>some v
 | .global g=>some (.pointer (some ⟨g,0,none⟩))
 | .func f=>some (.func (.func f) #[] #[])
def evl(e:Env):List Operand->Option (List Value)
 | []=>some []
 | x :: r=>match ev e x,evl e r with | some v,some vs=>some (v :: vs) | _,_=>none
def Agree(n:Nat)(e:Env)(a:Act):Prop:=a.defers=[]/\a.tmps.size=n/\∀t v,lk e t=some v->a.tmps.getD t undef=v
theorem Y5(d:Nat)(v:Value)(e:Env)(t:Nat):lk ((d,v) :: e) t=if d=t then some v else lk e t:=by
 show cond (Nat.beq d t) (some v) (lk e t)=_;by_cases h:d=t
 ·subst h; simp
 ·have:Nat.beq d t=false:=Bool.eq_false_iff.2 (fun hb=>h (nb hb));rw[this]; simp[h]
theorem Agree.ev{n:Nat}{e:Env}{a:Act}(h:Agree n e a){x:Operand}{v:Value}(hx:ev e x=some v):a.eval x=v:=by
 cases x with
 | tmp t=>exact h.2.2 t v hx
 | const u=>simp[Sv.ev] at hx; simp[Act.eval,hx]
 | global g=>simp[Sv.ev] at hx; simp[Act.eval,hx]
 | func f=>simp[Sv.ev] at hx; simp[Act.eval,hx]
theorem Agree.evl{n:Nat}{e:Env}{a:Act}(h:Agree n e a):∀{xs:List Operand} {vs:List Value},evl e xs=some vs->xs.map a.eval=vs
 | [],vs,hx=>by simp[Sv.evl] at hx; simp[hx]
 | x :: r,vs,hx=>by
   unfold Sv.evl at hx;split at hx
   ·rename_i v ws hv hws;simp at hx; subst hx;simp[h.ev hv,h.evl hws]
   ·cases hx
theorem Agree.put{n:Nat}{e:Env}{a:Act}(h:Agree n e a)(d:Nat)(hd:Nat.blt d n=true)(v:Value):Agree n ((d,v) :: e) (a.put (some d) v):=by
 have hd':d<a.tmps.size:=by rw[h.2.1]; simpa using hd
 refine⟨h.1,?_,fun t u ht=>?_⟩
 ·simp[Act.put,h.2.1]
 ·rw[Y5] at ht;by_cases hdt:d=t
  ·subst hdt;simp only[if_true,oi] at ht;subst ht;simp[Act.put,hd']
  ·simp only[hdt,if_false] at ht;have:=h.2.2 t u ht;simp only[Act.put];rw[<- this];simp[Array.getD_eq_getD_getElem?,hdt]
def Sub(e' e:Env):Prop:=∀t v,lk e' t=some v->lk e t=some v
theorem Agree.sub{n:Nat}{e e':Env}{a:Act}(h:Agree n e a)(hs:Sub e' e):Agree n e' a:=⟨h.1,h.2.1,fun t v ht=>h.2.2 t v (hs t v ht)⟩
def VS(P:Program)(n:Nat)(c:Code)(e:Env)(w:World)(Q:Exit->Act->World->Prop):Prop:=∀a,Agree n e a->c.wp P Q a w
def VO(P:Program)(n:Nat)(ops:Array Oper)(l:List Oper)(e:Env)(w:World)(Q:Exit->Act->World->Prop):Prop:=∀a,Agree n e a->wpList P ops Q l a w
def E0c(n:Nat)(x:Exit)(e:Env)(w:World)(Q:Exit->Act->World->Prop):Prop:=∀a,Agree n e a->Q x a w
def D0D(P:Program)(y:Code)(Q:Exit->Act->World->Prop):Exit->Act->World->Prop:=Exit.then (y.wp P Q) Q
def D0V(id:Nat)(Q:Exit->Act->World->Prop):Exit->Act->World->Prop:=Exit.inBlock id Q
section
variable {P:Program} {n:Nat} {e:Env} {w:World} {Q:Exit->Act->World->Prop}
theorem q0k{id:Nat}{l:List Oper}(h:VO P n l.toArray l e w Q):VS P n (.region id l.toArray false) e w Q:=fun a ha=>wp_region_lit (h a ha)
theorem z0A{x:Exit}{e':Env}(hs:Sub e' e)(h:E0c n x e' w Q):E0c n x e w Q:=fun a ha=>h a (ha.sub hs)
theorem y0M:Sub [] e:=fun _ _ h=>by cases h
theorem t0T{d:Nat}{v:Value}{e':Env}(h:lk e d=some v)(hr:Sub e' e):Sub ((d,v) :: e') e:=by
 intro t u ht;rw[Y5] at ht;by_cases hdt:d=t
 ·subst hdt; simp only[if_true] at ht; rw[h]; exact ht
 ·rw[if_neg hdt] at ht; exact hr t u ht
end
def D7(P:Program)(n:Nat)(e:Env)(op:Op)(ty:TypeId)(w:World)(v:Value)(w':World):Prop :=
 ∀a dst pos after g,Agree n e a->(execOp a.eval ⟨dst,op,ty,pos,after,g⟩).run P w=.ok (.value v) w'
section
variable {P:Program} {n:Nat} {e:Env} {w:World} {Q:Exit->Act->World->Prop} {ops:Array Oper} {rest:List Oper}
theorem oN(h:E0c n .normal e w Q):VO P n ops [] e w Q:=fun a ha=>wpList_nil (h a ha)
theorem A0K{d:Nat}{op:Op}{ty:TypeId}{pos:String}{after:Array Edge}{w':World}(v:Value)(hr:D7 P n e op ty w v w')(hd:Nat.blt d n=true)
  (h:VO P n ops rest ((d,v) :: e) w' Q):VO P n ops (⟨some d,op,ty,pos,after,none⟩ :: rest) e w Q:=by
 intro a ha;refine wpList_plain rfl fun K hK=>?_;unfold Oper.wp;rw[hr a (some d) pos after none ha];exact hK _ _ (h _ (ha.put d hd v))
def p0B:List Oper->Nat->Option Nat
 | [],_=>none
 | o :: _,0=>o.dst
 | _ :: r,j+1=>p0B r j
def v0m(ops:Array Oper)(j:Nat):Option Nat:=p0B ops.toList j
theorem o0w:∀(l:List Oper) (j:Nat),p0B l j=(l[j]?).bind (·.dst)
 | [],_=>by simp[p0B]
 | _ :: _,0=>by simp[p0B]
 | _ :: r,j+1=>by simp[p0B,o0w r j]
theorem v0l(ops:Array Oper)(j:Nat):v0m ops j=(ops[j]?).bind (·.dst):=by unfold v0m; rw[o0w]; simp
theorem o0U{a:Act}(ha:Agree n e a){j d:Nat}{b:Bool}(hj:v0m ops j=some d)(hb:lk e d=some (.bool b)):yielded ops a.tmps j=some b:=by
 have h:=ha.2.2 d _ hb;unfold yielded;have e1:((ops[j]?).bind (·.dst))=some d:=by rw[<- v0l]; exact hj
 rw[e1];have hd:d<a.tmps.size:=by
  rcases Nat.lt_or_ge d a.tmps.size with h' | h'
  ·exact h'
  ·rw[Array.getD_eq_getD_getElem?,Array.getElem?_eq_none h'] at h; cases h
 have:a.tmps[d]?=some (.bool b):=by
  rw[Array.getD_eq_getD_getElem?,Array.getElem?_eq_getElem hd] at h;rw[Array.getElem?_eq_getElem hd]; exact congrArg some h
 simp[this]
theorem j0h{d':Nat}{op:Op}{ty:TypeId}{pos:String}{after:Array Edge}{j d:Nat}{b b':Bool}(hj:v0m ops j=some d)(hb:lk e d=some (.bool b))(hne:(b==b')=false)(hd:Nat.blt d' n=true)
  (h:VO P n ops rest ((d',undef) :: e) w Q):VO P n ops (⟨some d',op,ty,pos,after,some (j,b')⟩ :: rest) e w Q:=by
 intro a ha;refine wpList_skip ?_ (h _ (ha.put d' hd undef));simp only[Region.wanted,o0U ha hj hb];simpa using hne
def F0a:BinOp->Int->Int->Option Bool
 | .eql,a,b=>some (a==b)
 | .neq,a,b=>some (a != b)
 | .lss,a,b=>some (decide (a<b))
 | .leq,a,b=>some (decide (a<=b))
 | .gtr,a,b=>some (decide (a > b))
 | .geq,a,b=>some (decide (a≥b))
 | _,_,_=>none
def D0U:BinOp->ByteArray->ByteArray->Option Bool
 | .eql,a,b=>some (decide (a=b))
 | .neq,a,b=>some (!decide (a=b))
 | _,_,_=>none
def C0P:BinOp->Value->Value->Option Value
 | op,.int k a,.int k' b=>if k=k' then(match F0a op a b with | some r=>some (.bool r) | none=>none) else none
 | op,.string a,.string b=>match D0U op a b with | some r=>some (.bool r) | none=>none
 | _,_,_=>none
def X5(e:Env):Op->Option Value
 | .move x=>ev e x
 | .assign x=>ev e x
 | .pick c a b=>match ev e c with
   | some (.bool true)=>ev e a
   | some (.bool false)=>ev e b
   | _=>none
 | .unOp .not _ x=>match ev e x with
   | some (.bool b)=>some (.bool (!b))
   | _=>none
 | .extract x i=>match ev e x with
   | some (.tuple vs)=>vs.toList[i]?
   | _=>none
 | .binOp op _ x y _=>match ev e x,ev e y with
   | some u,some v=>C0P op u v
   | _,_=>none
 | .makeFunc fn first cap=>match evl e first.toList,evl e cap.toList with
   | some fs,some cs=>some (.func fn fs.toArray cs.toArray)
   | _,_=>none
 | _=>none
theorem v0u(a b:ByteArray):(a.toList==b.toList)=decide (a=b):=by
 rw[Bool.eq_iff_iff,beq_iff_eq,dq,ByteArray.toList_eq,ByteArray.toList_eq];constructor
 ·intro h; cases a; cases b; simp only[ByteArray.mk.injEq]; exact Array.toList_inj.1 h
 ·rintro rfl; rfl
theorem b0g{op:Op}{ty:TypeId}{v:Value}(h:X5 e op=some v):D7 P n e op ty w v w:=by
 intro a dst pos after g ha;unfold X5 at h;split at h
 ·simp only[execOp,ha.ev h]; rfl
 ·simp only[execOp,ha.ev h]; rfl
 ·rename_i c x y;split at h
  ·rename_i hc; simp only[execOp,ha.ev hc,<- ha.ev h]; rfl
  ·rename_i hc; simp only[execOp,ha.ev hc,<- ha.ev h]; rfl
  ·cases h
 ·split at h
  ·rename_i hc; simp only[oi] at h; subst h; simp only[execOp,ha.ev hc]; rfl
  ·cases h
 ·split at h
  ·rename_i vs hc; rw[Array.getElem?_toList] at h; simp only[execOp,ha.ev hc,Instr.extract,h]; rfl
  ·cases h
 ·rename_i op T x y T';split at h
  ·rename_i u v' hu hv;unfold C0P at h;split at h
   ·rename_i k p k' q;split at h
    ·rename_i hk; subst hk;split at h
     ·rename_i r hr;simp only[oi] at h; subst h;unfold F0a at hr;split at hr <;> simp only[oi,reduceCtorEq] at hr <;> subst hr <;> simp[execOp,ha.ev hu,ha.ev hv,eqGuard,binOp,Op.intCmp]
     ·cases h
    ·cases h
   ·rename_i p q;split at h
    ·rename_i r hr;simp only[oi] at h; subst h;unfold D0U at hr;split at hr <;> simp only[oi,reduceCtorEq] at hr <;> subst hr <;> simp[execOp,ha.ev hu,ha.ev hv,eqGuard,binOp,Op.stringOp,v0u]
    ·cases h
   ·cases h
  ·cases h
 ·split at h
  ·rename_i fs cs hfs hcs;simp only[oi] at h; subst h;have h1:=ha.evl hfs;have h2:=ha.evl hcs;have e1:∀(x:Array Operand),x.map a.eval=(x.toList.map a.eval).toArray:=fun x=>by rw[<- Array.toList_map]
   simp only[execOp,Instr.makeFunc,e1,h1,h2];rfl
  ·cases h
 ·cases h
theorem j0g{d:Nat}{op:Op}{ty:TypeId}{pos:String}{after:Array Edge}{v:Value}(h:X5 e op=some v)(hd:Nat.blt d n=true)
 (k:VO P n ops rest ((d,v) :: e) w Q):VO P n ops (⟨some d,op,ty,pos,after,none⟩ :: rest) e w Q:=A0K v (b0g h) hd k
end
def X6(P:Program)(T:TypeId):Bool:=match P.underlying T with
 | some (.struct _) | some (.array ..) | none=>false
 | _=>true
class o0S(P:Program)(T:TypeId):Prop where h:X6 P T=true
class Y6(P:Program)(T:TypeId)(E:outParam TypeId):Prop where h:P.underlying T=some (.slice E)
class h0P(P:Program)(T:TypeId):Prop where h:P.underlying T=some .string
def z0t(P:Program)(T:TypeId):Option (Nat×Nat×Option Value):=(P.info? T).map fun i=>(i.size,i.bytes,i.zero)
class Info(P:Program)(T:TypeId)(size bytes:outParam Nat)(z:outParam Value):Prop where h:z0t P T=some (size,bytes,some z)
def t0s(P:Program)(T:TypeId):Bool:=match P.underlying T with
 | some (.struct _) | some (.array ..)=>true
 | _=>false
class E0d(P:Program)(T:TypeId):Prop where h:t0s P T=true
def o0u(P:Program)(T:TypeId)(k:Nat):Option (Nat×Bool):=match P.underlying T with
 | some (.struct fs)=>match fs[k]? with
   | some f=>some (f.offset,match P.info? f.type with | some i=>!(i.size==0) | none=>false)
   | none=>none
 | _=>none
class t0i(P:Program)(T:TypeId)(k:Nat)(off:outParam Nat):Prop where h:o0u P T k=some (off,true)
def d0Q(P:Program)(f:Nat):Bool:=match P.funcs[f]? with
 | some fn => !(fn.name == "runtime.NumGoroutine") && fn.body.isSome
 | none=>false
class m0V(P:Program)(f:Nat):Prop where h:d0Q P f=true
theorem g0a{P:Program}{T:TypeId}{i:TypeInfo}(w:World)(h:P.info? T=some i):(typeInfo T).run P w=.ok i w:=by
 have hp:(program).run P w=.ok P w:=rfl;unfold typeInfo;rw[Sem.run_bind,hp];simp only[Result.andThen,h];rfl
theorem S7{P:Program}{T:TypeId}{i:TypeInfo}(w:World)(h:P.info? T=some i):(sizeOf T).run P w=.ok i.size w:=by
 unfold sizeOf; rw[Sem.run_bind,g0a w h]; rfl
theorem b0T{P:Program}{T:TypeId}{i:TypeInfo}{z:Value}(w:World)(h:P.info? T=some i)(hz:i.zero=some z):(zeroValue T).run P w=.ok z w:=by
 unfold zeroValue; rw[Sem.run_bind,g0a w h]; simp only[Result.andThen,hz]; rfl
theorem Info.get{P:Program}{T s y:Nat}{z:Value}(h:Info P T s y z):∃i,P.info? T=some i/\i.size=s/\i.bytes=y/\i.zero=some z:=by
 have hi:=h.h;unfold z0t at hi;cases hinfo:P.info? T with
 | none=>rw[hinfo] at hi; cases hi
 | some inf =>
   rw[hinfo] at hi;simp only[Option.map_some,oi,pj] at hi;exact⟨inf,rfl,hi.1,hi.2.1,hi.2.2⟩
def Blk(w:World)(b:Nat)(cs:List Value)(T:TypeId):Prop:=w.heap[b]?=some (.cells cs.toArray T (0,0))
def At(w:World)(b o:Nat)(cs:List Value):Prop:=∀i u,cs[i]?=some u->w.cell? ⟨b,o+i,none⟩=some u
abbrev Ext(w w':World):Prop:=Below w.heap.size w w'
theorem Ext.refl(w:World):Ext w w:=Below.refl _ _
theorem Ext.trans{a b c:World}(h:Ext a b)(k:Ext b c):Ext a c:=Below.trans h (Below.mono k h.size)
theorem Blk.lt{w:World}{b:Nat}{cs:List Value}{T:TypeId}(h:Blk w b cs T):b<w.heap.size:=by
 rcases Nat.lt_or_ge b w.heap.size with h' | h'
 ·exact h'
 ·unfold Blk at h; rw[Array.getElem?_eq_none h'] at h; cases h
theorem Blk.ext{w w':World}{b:Nat}{cs:List Value}{T:TypeId}(h:Blk w b cs T)(k:Ext w w'):Blk w' b cs T:=by
 unfold Blk; rw[k.block b h.lt]; exact h
theorem Blk.up{w w':World}{b:Nat}{cs:List Value}{T:TypeId}(h:Blk w b cs T)(k:Ext w w'):Blk w' b cs T:=h.ext k
theorem Blk.at{w:World}{b:Nat}{cs:List Value}{T:TypeId}(h:Blk w b cs T):At w b 0 cs:=by
 intro i u hu;unfold World.cell?;rw[show(⟨b,0+i,none⟩:Addr).block=b from rfl,h];simpa using hu
theorem At.lt{w:World}{b o:Nat}{cs:List Value}(h:At w b o cs)(hc:0<cs.length):b<w.heap.size:=by
 have h0:=h 0 cs[0] (by simp[hc]);rcases Nat.lt_or_ge b w.heap.size with h' | h'
 ·exact h'
 ·unfold World.cell? at h0; rw[show(⟨b,o+0,none⟩:Addr).block=b from rfl,Array.getElem?_eq_none h'] at h0; cases h0
theorem At.same{w w':World}{b o:Nat}{cs:List Value}(h:At w b o cs)(k:b<w.heap.size->w'.heap[b]?=w.heap[b]?):At w' b o cs:=by
 intro i u hu;have hl:0<cs.length:=by rcases Nat.lt_or_ge i cs.length with h' | h'; omega; rw[List.getElem?_eq_none h'] at hu; cases hu
 have:=h i u hu;rw[<- this];exact World.cell?_of_block (w:=w) (k (h.lt hl))
theorem At.ext{w w':World}{b o:Nat}{cs:List Value}(h:At w b o cs)(k:Ext w w'):At w' b o cs:=h.same (fun hb=>k.block b hb)
theorem At.up{w w':World}{b o:Nat}{cs:List Value}(h:At w b o cs)(k:Ext w w'):At w' b o cs:=h.ext k
theorem At.mid{w:World}{b o:Nat}{pre c post:List Value}(h:At w b o (pre++c++post)):At w b (o+pre.length) c:=by
 intro i u hu;have hl:i<c.length:=by rcases Nat.lt_or_ge i c.length with h' | h'; exact h'; rw[List.getElem?_eq_none h'] at hu; cases hu
 have:=h (pre.length+i) u (by rw[List.append_assoc,List.getElem?_append_right (by omega),List.getElem?_append_left (by omega)]; rw[<- hu]; congr 1; omega);rw[<- this,Nat.add_assoc]
structure L0x(w:World)(b:Nat)(w':World):Prop where
 eq:w.heap.size=b
 ext:Ext w w'
 size:w'.heap.size=b+1
structure Wr(b:Nat)(w w':World):Prop where
 os:w'.os=w.os
 tape:w'.tape=w.tape
 output:w'.output=w.output
 size:w'.heap.size=w.heap.size
 block:∀k,k≠b->w'.heap[k]?=w.heap[k]?
theorem Wr.below{b B:Nat}{w w':World}(h:Wr b w w')(hb:B<=b):Below B w w':=⟨h.os,h.tape,h.output,by rw[h.size]; exact Nat.le_refl _,fun k hk=>h.block k (by omega)⟩
theorem f0J(w:World)(o:Obj):L0x w w.heap.size (w.alloc o):=⟨rfl,(Below.refl _ _).alloc (Nat.le_refl _) _,by simp⟩
theorem h0I(w:World)(cs:Array Value)(T:TypeId):Blk (w.alloc (.cells cs T)) w.heap.size cs.toList T:=by
 unfold Blk World.alloc; simp
section
variable {P:Program} {n:Nat} {e:Env} {w:World} {Q:Exit->Act->World->Prop} {ops:Array Oper} {rest:List Oper}
 {d:Nat} {ty:TypeId} {pos:String} {after:Array Edge}
theorem h0U{T:TypeId}{x:Operand}{b o f off:Nat}[hf:t0i P T f off](hx:ev e x=some (.pointer (some ⟨b,o,none⟩))) :
  D7 P n e (.fieldAddr T x f) ty w (.pointer (some ⟨b,o+off,none⟩)) w:=by
 intro a dst pos after g ha;have h:=hf.h;unfold o0u at h;split at h
 ·rename_i fs hfs;split at h
  ·rename_i fl hfl;simp only[oi,pj] at h;obtain⟨h1,h2⟩:=h;split at h2
   ·rename_i i hi;have hs:¬i.size=0:=by simpa using h2
    have ha0:(Addr.mk b o none).add fl.offset=⟨b,o+off,none⟩:=by
     unfold Addr.add;rw[h1];split
     ·rename_i h0; subst h0; rfl
     ·rfl
    simp only[execOp,ha.ev hx];simp[Instr.fieldAt,run_underlying hfs,hfl,Instr.sureAddr,fieldPlace,S7 w hi,hs,Result.andThen,ha0]
   ·cases h2
  ·cases h
 ·cases h
theorem h0i{T:TypeId}{ad:Addr}{v:Value}[hT:o0S P T](h:w.cell? ad=some v):(loadVar T ad).run P w=.ok v w:=by
 have hn:=hT.h;unfold X6 at hn;split at hn
 ·cases hn
 ·cases hn
 ·cases hn
 ·rename_i h1 h2 h3;cases hu:P.underlying T with
  | none=>exact(h3 hu).elim
  | some dsc =>
    have:(isAgg T).run P w=.ok false w:=by
     unfold isAgg;simp only[Sem.run_bind,run_underlying hu,Result.andThen];cases dsc with
     | struct fs=>exact(h1 _ hu).elim
     | array a b=>exact(h2 _ _ hu).elim
     | _=>rfl
    simp[loadVar,this,h,load,Sem.run,Result.andThen]
theorem r0q{T:TypeId}{x:Operand}{ad:Addr}{v:Value}[o0S P T](hx:ev e x=some (.pointer (some ad)))(h:w.cell? ad=some v):D7 P n e (.load T x) ty w v w:=by
 intro a dst pos after g ha;simp only[execOp,ha.ev hx];simp[Instr.loadAt,Instr.sureAddr,h0i h,Result.andThen]
theorem h0j{T:TypeId}{b o s y:Nat}{z:Value}{cs:List Value}[hT:E0d P T][i:Info P T s y z](hl:cs.length=s)(h:At w b o cs):(loadVar T ⟨b,o,none⟩).run P w=.ok (.agg cs.toArray) w:=by
 have hn:=hT.h;unfold t0s at hn;obtain⟨inf,hinfo,h1,h2,h3⟩:=i.get;have hg:(isAgg T).run P w=.ok true w:=by
  split at hn
  ·rename_i fs hfs; unfold isAgg; simp[run_underlying hfs,Result.andThen]
  ·rename_i a b hfs; unfold isAgg; simp[run_underlying hfs,Result.andThen]
  ·cases hn
 have hc:=run_loadCells_list (P:=P) w ⟨b,o,none⟩ cs (fun j v hv=>by
  have:=h j v hv;rw[<- this];congr 1;unfold Addr.add;split
  ·rename_i h0; subst h0; rfl
  ·rfl)
 rw[hl,<- h1] at hc;simp[loadVar,hg,S7 w hinfo,Result.andThen,hc]
theorem p0m{T:TypeId}{x:Operand}{b o s y:Nat}{z:Value}{cs:List Value}[E0d P T][Info P T s y z](hx:ev e x=some (.pointer (some ⟨b,o,none⟩)))(hl:cs.length=s)(h:At w b o cs):D7 P n e (.load T x) ty w (.agg cs.toArray) w:=by
 intro a dst pos after g ha;simp only[execOp,ha.ev hx];simp[Instr.loadAt,Instr.sureAddr,h0j hl h,Result.andThen]
theorem u0m{T T':TypeId}{x y:Operand}{a b:Int}(hx:ev e x=some (.int .i64 a))(hy:ev e y=some (.int .i64 b))(hr : -9223372036854775808<=a+b/\a+b<=9223372036854775807) :
  D7 P n e (.binOp .add T x y T') ty w (.int .i64 (a+b)) w:=by
 intro ac dst pos after g ha;simp only[execOp,ha.ev hx,ha.ev hy];simp[eqGuard,binOp,Op.intArith,IntWalk.i64_in _ hr]
theorem u0c{T T':TypeId}{x y:Operand}{a b:Int}(hx:ev e x=some (.int .i64 a))(hy:ev e y=some (.int .i64 b))(hr : -9223372036854775808<=a-b/\a-b<=9223372036854775807) :
  D7 P n e (.binOp .sub T x y T') ty w (.int .i64 (a-b)) w:=by
 intro ac dst pos after g ha;simp only[execOp,ha.ev hx,ha.ev hy];simp[eqGuard,binOp,Op.intArith,IntWalk.i64_in _ hr]
theorem u0i{T T':TypeId}{x y:Operand}{a b:Int}(hx:ev e x=some (.int .i64 a))(hy:ev e y=some (.int .i64 b))(hr : -9223372036854775808<=a*b/\a*b<=9223372036854775807) :
  D7 P n e (.binOp .mul T x y T') ty w (.int .i64 (a*b)) w:=by
 intro ac dst pos after g ha;simp only[execOp,ha.ev hx,ha.ev hy];simp[eqGuard,binOp,Op.intArith,IntWalk.i64_in _ hr]
theorem u0l{T T':TypeId}{x y:Operand}{s t:ByteArray}(hx:ev e x=some (.string s))(hy:ev e y=some (.string t))(hr:s.size+t.size<=9223372036854775807) :
  D7 P n e (.binOp .add T x y T') ty w (.string (s++t)) w:=by
 intro ac dst pos after g ha;have hm':¬(9223372036854775807:Int) < (s.size:Int)+(t.size:Int):=by omega
 simp only[execOp,ha.ev hx,ha.ev hy];simp[eqGuard,binOp,Op.stringOp,hm']
theorem g0b{f:Nat}[h:m0V P f](args:Array Value):(callFunc f args).run P w=.ok (.enter f args) w:=by
 have hb:=h.h;unfold d0Q at hb;split at hb
 ·rename_i fn hfn;simp only[ba,Bool.not_eq_true',Option.isSome_iff_exists] at hb;obtain⟨h1,c,hc⟩:=hb;have hp:(program).run P w=.ok P w:=rfl;unfold callFunc;rw[Sem.run_bind,hp];simp only[Result.andThen,hfn,h1,hc,Option.isNone_some,Bool.false_eq_true,if_false];rfl
 ·cases hb
end
class K1(P:Program):Prop where h:P.follows .mixedOrders=true
section
variable {P:Program} {n:Nat} {e:Env} {w:World} {Q:Exit->Act->World->Prop} {ops:Array Oper} {rest:List Oper}
 {d:Nat} {ty:TypeId} {pos:String} {after:Array Edge}
end
class Rep(α:Type) where
 sz:Nat
 pos:0<sz
 rep:Nat->Nat->World->List Value->α->Prop
 len:∀{lo hi w cs x},rep lo hi w cs x->cs.length=sz
 same:∀{lo hi w w' cs x},rep lo hi w cs x->(∀k,lo<=k->k<hi->k<w.heap.size->w'.heap[k]?=w.heap[k]?)->rep lo hi w' cs x
 wide:∀{lo hi lo' hi' w cs x},rep lo hi w cs x->lo'<=lo->hi<=hi'->rep lo' hi' w cs x
def InI(x:Int):Prop := -9223372036854775808<=x/\x<=9223372036854775807
instance:Rep Int where
 sz:=1
 pos:=Nat.one_pos
 rep _ _ _ cs x:=cs=[.int .i64 x]/\InI x
 len h:=by rw[h.1]; rfl
 same h _:=h
 wide h _ _:=h
instance:Rep Bool where
 sz:=1
 pos:=Nat.one_pos
 rep _ _ _ cs x:=cs=[.bool x]
 len h:=by rw[h]; rfl
 same h _:=h
 wide h _ _:=h
instance:Rep ByteArray where
 sz:=1
 pos:=Nat.one_pos
 rep _ _ _ cs x:=cs=[.string x]/\x.size<=9223372036854775807
 len h:=by rw[h.1]; rfl
 same h _:=h
 wide h _ _:=h
section
variable {α:Type} [Rep α]
def All(lo hi:Nat)(w:World):List Value->List α->Prop
 | cs,[]=>cs=[]
 | cs,x :: r=>∃c d,cs=c++d/\Rep.rep lo hi w c x/\All lo hi w d r
theorem All.len{lo hi:Nat}{w:World}:∀{cs:List Value} {xs:List α},All lo hi w cs xs->cs.length=xs.length*Rep.sz α
 | cs,[],h=>by rw[show cs=[] from h]; simp
 | cs,x :: r,h=>by
   obtain⟨c,d,rfl,h1,h2⟩:=h;rw[List.length_append,Rep.len h1,All.len h2,List.length_cons,Nat.add_mul]; omega
theorem All.same{lo hi:Nat}{w w':World}(k:∀k,lo<=k->k<hi->k<w.heap.size->w'.heap[k]?=w.heap[k]?):∀{cs:List Value} {xs:List α},All lo hi w cs xs->All lo hi w' cs xs
 | _,[],h=>h
 | _,_ :: _,h=>by
   obtain⟨c,d,rfl,h1,h2⟩:=h;exact⟨c,d,rfl,Rep.same h1 k,All.same k h2⟩
theorem All.wide{lo hi lo' hi':Nat}{w:World}(hl:lo'<=lo)(hh:hi<=hi'):∀{cs:List Value} {xs:List α},All lo hi w cs xs->All lo' hi' w cs xs
 | _,[],h=>h
 | _,_ :: _,h=>by
   obtain⟨c,d,rfl,h1,h2⟩:=h;exact⟨c,d,rfl,Rep.wide h1 hl hh,All.wide hl hh h2⟩
theorem All.app{lo hi:Nat}{w:World}{ds:List Value}{ys:List α}(k:All lo hi w ds ys):∀{cs:List Value} {xs:List α},All lo hi w cs xs->All lo hi w (cs++ds) (xs++ys)
 | cs,[],h=>by rw[show cs=[] from h]; exact k
 | _,_ :: _,h=>by
   obtain⟨c,d,rfl,h1,h2⟩:=h;exact⟨c,d++ds,by simp,h1,All.app k h2⟩
theorem All.one{lo hi:Nat}{w:World}{c:List Value}{x:α}(h:Rep.rep lo hi w c x):All lo hi w c [x]:=⟨c,[],by simp,h,rfl⟩
theorem All.get{lo hi:Nat}{w:World}:∀{cs:List Value} {xs:List α} {i:Nat} (_:All lo hi w cs xs) (hi':i<xs.length),
  ∃pre c post,cs=pre++c++post/\pre.length=i*Rep.sz α/\Rep.rep lo hi w c xs[i]
 | _,x :: r,0,h,_=>by
   obtain⟨c,d,rfl,h1,h2⟩:=h;exact⟨[],c,d,by simp,by simp,h1⟩
 | _,x :: r,i+1,h,hi'=>by
   obtain⟨c,d,rfl,h1,h2⟩:=h;obtain⟨pre,c',post,rfl,h3,h4⟩:=All.get h2 (i:=i) (by simpa using hi');refine⟨c++pre,c',post,by simp,?_,h4⟩;rw[List.length_append,Rep.len h1,h3,Nat.add_mul]; omega
def SlR(lo hi:Nat)(w:World)(v:Value)(xs:List α):Prop :=
 ∃p cap,v=.slice p xs.length cap/\xs.length<=cap/\cap<=9223372036854775807 /\
  (xs=[]∨∃b o cs,p=some ⟨b,o,none⟩/\lo<=b/\b<hi/\At w b o cs/\All lo hi w cs xs)
theorem SlR.same{lo hi:Nat}{w w':World}{v:Value}{xs:List α}(h:SlR lo hi w v xs)(k:∀k,lo<=k->k<hi->k<w.heap.size->w'.heap[k]?=w.heap[k]?):SlR lo hi w' v xs:=by
 obtain⟨p,cap,h1,h2,h3,h4⟩:=h;refine⟨p,cap,h1,h2,h3,?_⟩;rcases h4 with h4 | ⟨b,o,cs,hp,hlo,hhi,hat,hall⟩
 ·exact .inl h4
 ·exact .inr ⟨b,o,cs,hp,hlo,hhi,hat.same (k b hlo hhi),hall.same k⟩
theorem SlR.wide{lo hi lo' hi':Nat}{w:World}{v:Value}{xs:List α}(h:SlR lo hi w v xs)(hl:lo'<=lo)(hh:hi<=hi'):SlR lo' hi' w v xs:=by
 obtain⟨p,cap,h1,h2,h3,h4⟩:=h;refine⟨p,cap,h1,h2,h3,?_⟩;rcases h4 with h4 | ⟨b,o,cs,hp,hlo,hhi,hat,hall⟩
 ·exact .inl h4
 ·exact .inr ⟨b,o,cs,hp,by omega,by omega,hat,hall.wide hl hh⟩
instance:Rep (List α) where
 sz:=1
 pos:=Nat.one_pos
 rep lo hi w cs xs:=∃v,cs=[v]/\SlR lo hi w v xs
 len:=by rintro lo hi w cs x ⟨v,rfl,_⟩; rfl
 same:=by rintro lo hi w w' cs x ⟨v,rfl,h⟩ k; exact⟨v,rfl,h.same k⟩
 wide:=by rintro lo hi lo' hi' w cs x ⟨v,rfl,h⟩ h1 h2; exact⟨v,rfl,h.wide h1 h2⟩
theorem Rep.up{lo hi:Nat}{w w':World}{cs:List Value}{x:α}(h:Rep.rep lo hi w cs x)(k:Ext w w'):Rep.rep lo hi w' cs x:=Rep.same h (fun i _ _ h3=>k.block i h3)
theorem Rep.below{lo hi B:Nat}{w w':World}{cs:List Value}{x:α}(h:Rep.rep lo hi w cs x)(k:Below B w w')(hB:hi<=B):Rep.rep lo hi w' cs x:=Rep.same h (fun i _ h2 _=>k.block i (by omega))
theorem SlR.up{lo hi:Nat}{w w':World}{v:Value}{xs:List α}(h:SlR lo hi w v xs)(k:Ext w w'):SlR lo hi w' v xs:=h.same (fun i _ _ h3=>k.block i h3)
theorem SlR.below{lo hi B:Nat}{w w':World}{v:Value}{xs:List α}(h:SlR lo hi w v xs)(k:Below B w w')(hB:hi<=B):SlR lo hi w' v xs:=h.same (fun i _ h2 _=>k.block i (by omega))
theorem SlR.len{lo hi:Nat}{w:World}{v:Value}{xs:List α}(h:SlR lo hi w v xs):∃p cap,v=.slice p xs.length cap:=by obtain⟨p,cap,h1,_⟩:=h; exact⟨p,cap,h1⟩
theorem SlR.le{lo hi:Nat}{w:World}{v:Value}{xs:List α}(h:SlR lo hi w v xs):xs.length<=9223372036854775807:=by obtain⟨p,cap,h1,h2,h3,_⟩:=h; omega
theorem SlR.nil{lo hi:Nat}{w:World}:SlR lo hi w (.slice none 0 0) ([]:List α):=⟨none,0,rfl,Nat.le_refl _,by omega,.inl rfl⟩
theorem SlR.get{lo hi:Nat}{w:World}{p:Option Addr}{len cap:Nat}{xs:List α}(h:SlR lo hi w (.slice p len cap) xs){i:Nat}(hi':i<xs.length) :
  len=xs.length/\∃b o c,p=some ⟨b,o,none⟩/\lo<=b/\b<hi/\At w b (o+i*Rep.sz α) c/\Rep.rep lo hi w c xs[i]:=by
 obtain⟨p',cap',h1,h2,h3,h4⟩:=h;simp only[Value.slice.injEq] at h1;obtain⟨rfl,rfl,rfl⟩:=h1;refine⟨rfl,?_⟩;rcases h4 with h4 | ⟨b,o,cs,hp,hlo,hhi,hat,hall⟩
 ·subst h4; simp at hi'
 ·obtain⟨pre,c,post,rfl,h5,h6⟩:=hall.get hi';refine⟨b,o,c,hp,hlo,hhi,?_,h6⟩;rw[<- h5]; exact hat.mid
end
section
variable {P:Program} {n:Nat} {e:Env} {w:World} {Q:Exit->Act->World->Prop} {ops:Array Oper} {rest:List Oper}
 {d:Nat} {ty:TypeId} {pos:String} {after:Array Edge}
theorem j0s{T E s y:Nat}{z:Value}{x ix:Operand}{b o len cap k:Nat}{kk:IntKind}[h:Y6 P T E][i:Info P E s y z](hx:ev e x=some (.slice (some ⟨b,o,none⟩) len cap))(hi:ev e ix=some (.int kk (k:Int)))(hk:k<len) :
  D7 P n e (.indexAddr T x ix) ty w (.pointer (some ⟨b,o+k*s,none⟩)) w:=by
 intro a dst pos after g ha;obtain⟨inf,hinfo,h1,h2,h3⟩:=i.get;have hadd:(Addr.mk b o none).add (k*s)=⟨b,o+k*s,none⟩:=by
  unfold Addr.add;split
  ·rename_i h0; rw[h0]; rfl
  ·rfl
 have hin:0<=(k:Int)/\(k:Int) < (len:Int):=oo;simp only[execOp,ha.ev hx,ha.ev hi];simp only[Instr.indexAt,asIntOf,Sem.run_bind,run_underlying h.h,Result.andThen,Sem.run_pure,hin,and_self,if_true,S7 w hinfo,h1,Int.toNat_natCast,hadd]
variable {α:Type} [Rep α]
end
def spl(cs:List Value)(o:Nat)(vs:List Value):List Value:=cs.take o++vs++cs.drop (o+vs.length)
def ones:List Value->Bool
 | []=>true
 | v :: r=>v.oneCell'&&ones r
theorem n0S:∀{vs:List Value},ones vs=true->∀v∈vs,v.oneCell'=true
 | [],_,_,h=>by cases h
 | u :: r,h,v,hv=>by
   simp only[ones,ba] at h;rcases List.mem_cons.1 hv with rfl | hv
   ·exact h.1
   ·exact n0S h.2 v hv
theorem b0N(w:World)(g k:Nat)(cs:Array Value)(h:k≠g):(w.setRow g cs).heap[k]?=w.heap[k]?:=by
 simp only[World.setRow,Array.getElem?_modify];rw[if_neg (by omega)]
theorem e0S(w:World)(g:Nat)(cs:Array Value):Wr g w (w.setRow g cs) :=
 ⟨rfl,rfl,rfl,by simp[World.setRow],fun k hk=>b0N w g k cs hk⟩
def j0K:List Value->Nat->Bool
 | [],0=>true
 | _ :: r,k+1=>j0K r k
 | _,_=>false
theorem e0e:∀{vs:List Value} {k:Nat},j0K vs k=true->vs.length=k
 | [],0,_=>rfl
 | _ :: r,k+1,h=>by simp[e0e (vs:=r) (k:=k) h]
 | [],_+1,h=>by cases h
 | _ :: _,0,h=>by cases h
section
variable {P:Program} {n:Nat} {e:Env} {w:World} {Q:Exit->Act->World->Prop} {ops:Array Oper} {rest:List Oper}
 {d:Nat} {ty:TypeId} {pos:String} {after:Array Edge}
theorem c0C{T T' s y:Nat}{z:Value}{b o:Nat}{cs vs:List Value}{v:Value}[i:Info P T s y z](hv:v.cells.toList=vs)(hl:vs.length=s)(h1:ones vs=true)(hB:Blk w b cs T')(ho:o+vs.length<=cs.length) :
  (storeVar T ⟨b,o,none⟩ v).run P w=.ok () (w.setRow b (spl cs o vs).toArray):=by
 obtain⟨inf,hinfo,h2,h3,h4⟩:=i.get;have hsz:v.cells.size=inf.size:=by rw[h2,<- hl,<- hv]; simp
 have hst:=run_storeCells_at (P:=P) b o T' vs 0 cs.toArray w hB (by simpa using ho) (n0S h1);unfold storeVar;simp only[Sem.run_bind,S7 w hinfo,Result.andThen,hsz,ne_eq,not_true_eq_false,if_false,hv];simpa [spl] using hst
def h0z(place:List (Nat×Nat)):List Value->List (Nat×Value)->Option (List Value)
 | cs,[]=>some cs
 | cs,(i,v) :: r=>match place[i]? with
   | none=>none
   | some p=>bif j0K v.cells.toList p.2&&Nat.ble (p.1+p.2) cs.length then h0z place (spl cs p.1 v.cells.toList) r else none
theorem t0W(v:Value)(r cs:List Value)(o:Nat)(h:o+(r.length+1)<=cs.length):spl cs o (v :: r)=spl (cs.set o v) (o+1) r:=by
 obtain⟨A,C,hA,rfl⟩:∃A C:List Value,A.length=o/\cs=A++C:=⟨cs.take o,cs.drop o,by simp; omega,by simp⟩;subst hA;cases C with
 | nil=>simp only[List.append_nil] at h; omega
 | cons x C =>
   simp only[spl,List.length_cons,List.set_append_right _ _ (Nat.le_refl _),Nat.sub_self,List.set_cons_zero];have e1:List.take A.length (A++x :: C)=A:=by simp
   have e2:List.take (A.length+1) (A++v :: C)=A++[v]:=by
    rw[List.take_append,List.take_of_length_le (by omega)]; simp
   have e3:List.drop (A.length+(r.length+1)) (A++x :: C)=List.drop r.length C:=by
    rw[List.drop_append,List.drop_eq_nil_of_le (by omega)]; simp
   have e4:List.drop (A.length+1+r.length) (A++v :: C)=List.drop r.length C:=by
    rw[show A.length+1+r.length=A.length+(r.length+1) by omega,List.drop_append,List.drop_eq_nil_of_le (by omega)]; simp
   rw[e1,e2,e3,e4]; simp
theorem l0o(off:Nat):∀(vs:List Value) (j:Nat) (cs:Array Value),off+j+vs.length<=cs.size ->
  ((vs.zipIdx j).foldl (fun cs (c,j)=>cs.setIfInBounds (off+j) c) cs).toList=spl cs.toList (off+j) vs
 | [],j,cs,h=>by simp[spl]
 | v :: r,j,cs,h=>by
   simp only[List.zipIdx_cons,List.foldl_cons];rw[l0o off r (j+1) _ (by simp at h ⊢; omega),t0W v r _ _ (by simp at h ⊢; omega)];simp[Nat.add_assoc]
theorem j0R(place:List (Nat×Nat)):∀(parts:List (Nat×Value)) (cs ds:List Value),h0z place cs parts=some ds->Instr.fill (fun i=>place[i]?) cs.toArray parts=some ds.toArray
 | [],cs,ds,h=>by simp only[h0z,oi] at h; subst h; rfl
 | (i,v) :: r,cs,ds,h=>by
   unfold h0z at h;split at h
   ·cases h
   ·rename_i p hp;cases hb:(j0K v.cells.toList p.2&&Nat.ble (p.1+p.2) cs.length) with
    | false=>rw[hb] at h; cases h
    | true =>
      rw[hb] at h;simp only[cond_true] at h;simp only[ba] at hb;have h1:=e0e hb.1;have h2:=Nat.le_of_ble_eq_true hb.2;have hs:v.cells.size=p.2:=by rw[<- h1]; simp
      have ih:=j0R place r _ _ h;unfold Instr.fill;simp only[hp];rw[if_neg (by simp[hs,h2])];have hf:=l0o p.1 v.cells.toList 0 cs.toArray (by simp[hs,h2]);have e1:Array.foldl (fun cs (x:Value×Nat)=>cs.setIfInBounds (p.1+x.2) x.1) cs.toArray v.cells.zipIdx=(spl cs p.1 v.cells.toList).toArray:=by
       rw[<- Array.foldl_toList];apply Array.ext';simpa using hf
      exact(congrArg (fun q=>Instr.fill (fun i=>place[i]?) q r) e1).trans ih
def g0Z(P:Program)(T:TypeId):Option (List (Nat×Nat)):=match P.underlying T with
 | some (.struct fs)=>some (fs.toList.map fun f=>(f.offset,match P.info? f.type with | some i=>i.size | none=>0))
 | _=>none
def g0I(P:Program)(T:TypeId):Bool:=match P.underlying T with
 | some (.struct fs)=>fs.toList.all fun f=>(P.info? f.type).isSome
 | _=>false
class o0R(P:Program)(T:TypeId)(pl:outParam (List (Nat×Nat))):Prop where
 h:g0Z P T=some pl
 ok:g0I P T=true
def evp(e:Env):List (Nat×Operand)->Option (List (Nat×Value))
 | []=>some []
 | (i,x) :: r=>match ev e x,evp e r with | some v,some vs=>some ((i,v) :: vs) | _,_=>none
theorem Agree.evp{a:Act}(h:Agree n e a):∀{xs:List (Nat×Operand)} {vs:List (Nat×Value)},evp e xs=some vs->xs.map (fun(i,x)=>(i,a.eval x))=vs
 | [],vs,hx=>by simp[Sv.evp] at hx; simp[hx]
 | (i,x) :: r,vs,hx=>by
   unfold Sv.evp at hx;split at hx
   ·rename_i v ws hv hws;simp at hx; subst hx;simp[h.ev hv,Agree.evp h hws]
   ·cases hx
theorem k0H(w:World):∀(fs:List Field),(fs.all fun f=>(P.info? f.type).isSome)=true ->
  (fs.mapM (fun f=>do Pure.pure (f.offset,<- sizeOf f.type):Field->Sem (Nat×Nat))).run P w=.ok (fs.map fun f=>(f.offset,match P.info? f.type with | some i=>i.size | none=>0)) w
 | [],_=>rfl
 | f :: r,h=>by
   simp only[List.all_cons,ba,Option.isSome_iff_exists] at h;obtain⟨⟨i,hi⟩,h2⟩:=h;rw[List.mapM_cons];simp only[Sem.run_bind,S7 w hi,Result.andThen,Sem.run_pure,k0H w r h2,List.map_cons,hi]
theorem p0p{T s y:Nat}{z:Value}{pl:List (Nat×Nat)}{parts:List (Nat×Operand)}{vs:List (Nat×Value)}{cs:List Value}[i:Info P T s y z][p:o0R P T pl](hx:evp e parts=some vs)(hf:h0z pl z.cells.toList vs=some cs) :
  D7 P n e (.build T parts.toArray) ty w (.agg cs.toArray) w:=by
 intro a dst pos after g ha;obtain⟨inf,hinfo,h2,h3,h4⟩:=i.get;have hp:=p.h;have hk:=p.ok;unfold g0Z at hp;unfold g0I at hk;split at hp
 ·rename_i fs hfs;rw[hfs] at hk;simp only[oi] at hp;have hm:=k0H (P:=P) w fs.toList hk;rw[hp] at hm;have hfill:=j0R pl vs z.cells.toList cs hf;have e1:parts.toArray.map (fun(i,x)=>(i,a.eval x))=vs.toArray:=by rw[<- Agree.evp ha hx]; simp
  have hm':(fs.mapM (fun f=>do Pure.pure (f.offset,<- sizeOf f.type):Field->Sem (Nat×Nat))).run P w=.ok pl.toArray w:=by
   rw[Array.mapM_eq_mapM_toList];show(Functor.map List.toArray (List.mapM _ fs.toList):Sem _).run P w=_;rw[map_eq_pure_bind,Sem.run_bind,hm];rfl
  have e2:(fun i:Nat=>pl.toArray[i]?)=(fun i:Nat=>pl[i]?):=by funext i; simp
  simp only[execOp,e1];simp only[Instr.build,Sem.run_bind,b0T w hinfo h4,Result.andThen,run_underlying hfs,hm',e2];rw[show z.cells=z.cells.toList.toArray by simp];simp only[hfill];rfl
 ·cases hp
class p0V(P:Program)(T:TypeId):Prop where h:P.underlying T=some .bool
theorem l0p(dd:Nat){T:TypeId}{a b:Bool}[h:p0V P T]:(Op.equalIn (dd+1) T (.bool a) (.bool b)).run P w=.ok (a==b) w:=by simp[Op.equalIn,run_underlying h.h]
theorem u0j{T T':TypeId}{x y:Operand}{a b:Bool}[h:p0V P T](hx:ev e x=some (.bool a))(hy:ev e y=some (.bool b)):D7 P n e (.binOp .eql T x y T') ty w (.bool (a==b)) w:=by
 intro ac dst pos after g ha;have he:(Op.equal T (.bool a) (.bool b)).run P w=.ok (a==b) w:=l0p 9999;simp only[execOp,ha.ev hx,ha.ev hy];simp[eqGuard,binOp,he,Result.andThen]
theorem u0h{T T':TypeId}{x y:Operand}{a b:Bool}[h:p0V P T](hx:ev e x=some (.bool a))(hy:ev e y=some (.bool b)):D7 P n e (.binOp .neq T x y T') ty w (.bool (!(a==b))) w:=by
 intro ac dst pos after g ha;have he:(Op.equal T (.bool a) (.bool b)).run P w=.ok (a==b) w:=l0p 9999;simp only[execOp,ha.ev hx,ha.ev hy];simp[eqGuard,binOp,he,Result.andThen]
theorem h0y(f g:Nat->Option (Nat×Nat)):∀(parts:List (Nat×Value)) (cs ds:Array Value),(∀i p,f i=some p->g i=some p)->Instr.fill f cs parts=some ds->Instr.fill g cs parts=some ds
 | [],_,_,_,h=>h
 | (i,v) :: r,cs,ds,hfg,h=>by
   unfold Instr.fill at h ⊢;cases hf:f i with
   | none=>rw[hf] at h; cases h
   | some p =>
     rw[hf] at h;rw[hfg i p hf];obtain⟨off,size⟩:=p;simp only at h ⊢;split at h
     ·cases h
     ·rename_i hc; rw[if_neg hc]; exact h0y f g r _ _ hfg h
def O1:Nat->List Value->List Value
 | 0,_=>[]
 | k+1,z=>z++O1 k z
def B8(s:ByteArray)(k:Nat):Int:=((s.data.toList.getD k 0).toNat:Int)
theorem s0R(s:ByteArray)(k:Nat):0<=B8 s k:=by unfold B8; omega
theorem s0S(s:ByteArray)(k:Nat):B8 s k<=255:=by unfold B8; have:=(s.data.toList.getD k 0).toNat_lt; omega
theorem p0n{T:TypeId}{x ix:Operand}{s:ByteArray}{k:Nat}{kk:IntKind}[h:h0P P T](hx:ev e x=some (.string s))(hi:ev e ix=some (.int kk (k:Int)))(hk:k<s.size) :
  D7 P n e (.index T x ix) ty w (.int .u8 (B8 s k)) w:=by
 intro a dst pos after g ha;have h0:0<=(k:Int):=by omega
 have hb:s[k]?=some s[k]:=by simp[hk]
 simp only[execOp,ha.ev hx,ha.ev hi];simp only[Instr.index,asIntOf,Sem.run_bind,Sem.run_pure,Result.andThen,run_underlying h.h,h0,if_true,Int.toNat_natCast,hb];congr 3;have hk':k<s.data.toList.length:=by simpa using hk
 have:s[k]=s.data.toList[k]:=rfl;rw[this];unfold B8;rw[gq,List.getElem?_eq_getElem hk']; rfl
end
class p0U(P:Program)(T:TypeId)(α:Type)[Rep α]:Prop where
 op:∀{H:Type} {enc:TypeId×Value->H} {w:World} {sp:Nat->Bool} {hl:Bool} {fuel:Nat} {cs:List Value} {x:DataW H×List MemPlace},
  DataW.trod enc P w 0 sp hl fuel T cs=some x->∃y:α,Rep.rep 0 w.heap.size w cs y
class L0y(P:Program)(T:TypeId):Prop where h:P.underlying T=some (.int .i64)
class z0Y(P:Program)(T:TypeId):Prop where h:P.underlying T=some (.int .u8)
instance:Rep UInt8 where
 sz:=1
 pos:=Nat.one_pos
 rep _ _ _ cs x:=cs=[.int .u8 (x.toNat:Int)]
 len h:=by rw[h]; rfl
 same h _:=h
 wide h _ _:=h
instance {P:Program}{T:TypeId}[hT:L0y P T]:p0U P T Int where
 op:=by
  intro H enc w sp hl fuel cs x h;obtain⟨n,rfl,_,hw⟩:=DataW.trod_int hT.h h;refine⟨n,rfl,?_⟩;simp only[Lit.wf,ba,dq] at hw;have h1:IntKind.i64.min = -9223372036854775808:=rfl;have h2:IntKind.i64.max=9223372036854775807:=rfl;rw[h1,h2] at hw;exact hw
instance {P:Program}{T:TypeId}[hT:z0Y P T]:p0U P T UInt8 where
 op:=by
  intro H enc w sp hl fuel cs x h;obtain⟨n,rfl,_,hw⟩:=DataW.trod_int hT.h h;simp only[Lit.wf,ba,dq] at hw;have h1:IntKind.u8.min=0:=rfl;have h2:IntKind.u8.max=255:=rfl;rw[h1,h2] at hw;refine⟨UInt8.ofNat n.toNat,?_⟩;show [Value.int .u8 n]=[Value.int .u8 _];have:(UInt8.ofNat n.toNat).toNat=n.toNat:=by simp; omega
  rw[this,Int.toNat_of_nonneg hw.1]
instance {P:Program}{T:TypeId}[hT:p0V P T]:p0U P T Bool where
 op:=by
  intro H enc w sp hl fuel cs x h;obtain⟨b,rfl,_⟩:=DataW.trod_bool hT.h h;exact⟨b,rfl⟩
instance {P:Program}{T:TypeId}[hT:h0P P T]:p0U P T ByteArray where
 op:=by
  intro H enc w sp hl fuel cs x h;obtain⟨s,rfl,_,hs⟩:=DataW.trod_string hT.h h;exact⟨s,rfl,by unfold maxLen at hs; omega⟩
theorem e0l{w:World}{base:Nat}{a:Addr}{n:Nat}{cs:List Value}(hn:0<n)(h:w.cells? base a n=some cs):a=⟨a.block,a.off,none⟩/\cs.length=n/\At w a.block a.off cs:=by
 obtain⟨_,hl,hc⟩:=World.cells?_some h;obtain⟨b,o,sp⟩:=a;have hsp:sp=none:=by
  have h0:=hc 0 hn;have e0:(Addr.mk b o sp).add 0=⟨b,o,sp⟩:=by simp[Addr.add]
  rw[e0,List.getElem?_eq_getElem (by omega)] at h0;cases sp with
  | none=>rfl
  | some q =>
    unfold World.cell? at h0;split at h0
    ·simp at h0
    ·cases h0
 subst hsp;refine⟨rfl,hl,fun i u hu=>?_⟩;have hi:i<n:=by rcases Nat.lt_or_ge i cs.length with h' | h'; omega; rw[List.getElem?_eq_none h'] at hu; cases hu
 have:=hc i hi;rw[hu] at this;rw[<- this];congr 1;unfold Addr.add;split
 ·rename_i h0; subst h0; rfl
 ·rfl
theorem At.app{w:World}{b o:Nat}{cs ds:List Value}(h:At w b o cs)(k:At w b (o+cs.length) ds):At w b o (cs++ds):=by
 intro i u hu;rcases Nat.lt_or_ge i cs.length with hi | hi
 ·rw[List.getElem?_append_left hi] at hu; exact h i u hu
 ·rw[List.getElem?_append_right hi] at hu;have:=k (i-cs.length) u hu;rw[<- this]; congr 2; omega
theorem o0K{w:World}{b o:Nat}:At w b o []:=fun i u hu=>by simp at hu
instance {P:Program}{T E:TypeId}{α:Type}[Rep α][hT:Y6 P T E][hE:p0U P E α]:p0U P T (List α) where
 op:=by
  intro H enc w sp hl fuel cs x h;rcases DataW.trod_slice hT.h h with ⟨rfl,_⟩ | ⟨a,len,cap,elems,rest,n,rfl,rfl,_,_,hlc,hcm,hel,hat,_,_⟩
  ·exact⟨[],_,rfl,SlR.nil⟩
  ·have hcap:cap<=9223372036854775807:=by unfold maxLen at hcm; omega
   -- each element's cells and what they read as
   have each:∀i,i<len->∃c:List Value,w.cells? 0 (a.add (i*P.cellsOf E)) (P.cellsOf E)=some c/\∃y:α,Rep.rep 0 w.heap.size w c y:=by
    intro i hi;have hi':=hat i hi;rw[List.getElem?_eq_getElem (by omega)] at hi';cases hc:w.cells? 0 (a.add (i*P.cellsOf E)) (P.cellsOf E) with
    | none=>rw[hc] at hi'; cases hi'
    | some c =>
      rw[hc] at hi';simp only[Option.bind_some] at hi';exact⟨c,rfl,hE.op hi'⟩
   by_cases h0:len=0
   ·subst h0;exact⟨[],_,rfl,some a,cap,rfl,Nat.zero_le _,hcap,.inl rfl⟩
   ·have hs:P.cellsOf E=Rep.sz α:=by
     obtain⟨c,hc,y,hy⟩:=each 0 (by omega);have:=(World.cells?_some hc).2.1;rw[<- this]; exact Rep.len hy
    have hsp:0<P.cellsOf E:=by rw[hs]; exact Rep.pos
    obtain⟨b,o,rfl⟩:∃b o,a=⟨b,o,none⟩:=by
     obtain⟨c,hc,_⟩:=each 0 (by omega);have e0:a.add (0*P.cellsOf E)=a:=by simp[Addr.add]
     rw[e0] at hc;exact⟨a.block,a.off,(e0l hsp hc).1⟩
    have hb:b<w.heap.size:=by
     obtain⟨c,hc,_⟩:=each 0 (by omega);have e0:(Addr.mk b o none).add (0*P.cellsOf E)=⟨b,o,none⟩:=by simp[Addr.add]
     rw[e0] at hc;have h1:=e0l hsp hc;exact h1.2.2.lt (by rw[h1.2.1]; exact hsp)
    have build:∀k,k<=len->∃(cs:List Value) (xs:List α),xs.length=k/\At w b o cs/\All 0 w.heap.size w cs xs:=by
     intro k
     induction k with
     | zero=>exact fun _=>⟨[],[],rfl,o0K,rfl⟩
     | succ k ih =>
       intro hk;obtain⟨cs,xs,h1,h2,h3⟩:=ih (by omega);obtain⟨c,hc,y,hy⟩:=each k (by omega);have hadd:(Addr.mk b o none).add (k*P.cellsOf E)=⟨b,o+k*P.cellsOf E,none⟩:=by
        unfold Addr.add;split
        ·rename_i h0; rw[h0]; rfl
        ·rfl
       rw[hadd] at hc;have h4:=(e0l hsp hc).2.2;refine⟨cs++c,xs++[y],by simp[h1],h2.app ?_,All.app (All.one hy) h3⟩;have:cs.length=k*P.cellsOf E:=by rw[h3.len,h1,hs]
       rw[this]; exact h4
    obtain⟨cs,xs,h1,h2,h3⟩:=build len (Nat.le_refl _);subst h1;exact⟨xs,_,rfl,some ⟨b,o,none⟩,cap,rfl,hlc,hcap,.inr ⟨b,o,cs,rfl,Nat.zero_le _,hb,h2,h3⟩⟩
theorem k0R{P:Program}{T:TypeId}{H:Type}{enc:TypeId×Value->H}{w:World}{sp:Nat->Bool}{hl:Bool}{fuel:Nat}{cs:List Value}{x:DataW H×List MemPlace}{fs:Array Field}
  (hT:P.underlying T=some (.struct fs)) (h:DataW.trod enc P w 0 sp hl fuel T cs=some x) :
  cs.length=P.cellsOf T/\∀(i:Nat) (f:Field),fs[i]?=some f->∃n y,DataW.trod enc P w 0 sp hl n f.type ((cs.drop f.offset).take (P.cellsOf f.type))=some y:=by
 obtain⟨xs,n,_,_,h1,h2,h3⟩:=DataW.trod_struct hT h;refine⟨h1,fun i f hf=>⟨n,?_⟩⟩;have:=h3 i f hf;have hi:i<fs.size:=(Array.getElem?_eq_some_iff.1 hf).1;rw[List.getElem?_eq_getElem (by omega)] at this;exact⟨_,this⟩
theorem f0a{H:Type}{enc:TypeId×Value->H}{P:Program}(hl:laidOutB P=true){W W':World}(hb:Below W.heap.size W W') :
  ∀{ts:List TypeId} {vs:List Value} {ds:List (DataW H)} {ps:List MemPlace},(ts.all fun t=>P.readableRec t&&decide (t<P.types.size))=true ->
   DataW.TrodAll enc P W 0 (fun _=>true) true ts vs ds ps->DataW.TrodAll enc P W' 0 (fun b=>decide (b<W.heap.size)) true ts vs ds ps
 | [],[],[],_,_,h=>h
 | t :: ts,v :: vs,d :: ds,ps,hr,h=>by
   obtain⟨p,q,h1,h2,rfl⟩:=h;simp only[List.all_cons,ba,dq] at hr;have hlt:∀x∈p,x.block<W.heap.size:=by
    obtain⟨f,hf⟩:=h1;exact DataW.trod_lt f t _ _ hf
   exact⟨p,q,Below.trod hl hr.1.1 hr.1.2 h1 hb hlt,f0a hl hb (by simpa using hr.2) h2,rfl⟩
 | [],[],_ :: _,_,_,h=>h.elim
 | [],_ :: _,_,_,_,h=>h.elim
 | _ :: _,[],_,_,_,h=>h.elim
 | _ :: _,_ :: _,[],_,_,h=>h.elim
section
variable {P:Program} {n:Nat} {e:Env} {w w0:World} {Q:Exit->Act->World->Prop} {l:List Oper} {fuel:Nat} {listed:Array Bool}
 {d:Nat} {op:Op} {ty:TypeId} {pos:String} {after:Array Edge}
end
section
variable {P:Program} {n:Nat} {e:Env} {w:World} {Q:Exit->Act->World->Prop} {ops:Array Oper} {rest:List Oper}
 {d:Nat} {ty:TypeId} {pos:String} {after:Array Edge}
theorem r0d{a b:Int}(ha:InI a)(hb:0<b) : -9223372036854775808<=a.tdiv b/\a.tdiv b<=9223372036854775807:=by
 unfold InI at ha;rcases Int.le_total 0 a with h0 | h0
 ·have h3:=Int.tdiv_nonneg h0 (Int.le_of_lt hb);have h:(a.tdiv b).natAbs=a.natAbs / b.natAbs:=Int.natAbs_tdiv a b;have h2:=Nat.div_le_self a.natAbs b.natAbs;generalize a.tdiv b=q at *
  generalize a.natAbs / b.natAbs=r at *
  omega
 ·have h3:=Int.tdiv_nonneg (show 0 <= -a by omega) (Int.le_of_lt hb);rw[Int.neg_tdiv] at h3;have h:(a.tdiv b).natAbs=a.natAbs / b.natAbs:=Int.natAbs_tdiv a b;have h2:=Nat.div_le_self a.natAbs b.natAbs;generalize a.tdiv b=q at *
  generalize a.natAbs / b.natAbs=r at *
  omega
theorem u0f{T T':TypeId}{x y:Operand}{a b:Int}(hx:ev e x=some (.int .i64 a))(hy:ev e y=some (.int .i64 b))(ha':InI a)(hb:0<b) :
  D7 P n e (.binOp .quo T x y T') ty w (.int .i64 (a.tdiv b)) w:=by
 intro ac dst pos after g ha;have h0:¬b=0:=by omega
 simp only[execOp,ha.ev hx,ha.ev hy];simp[eqGuard,binOp,Op.intDiv,h0,IntWalk.i64_in _ (r0d ha' hb)]
theorem u0e{T T':TypeId}{x y:Operand}{a b:Int}(hx:ev e x=some (.int .i64 a))(hy:ev e y=some (.int .i64 b))(hb:b≠0) :
  D7 P n e (.binOp .rem T x y T') ty w (.int .i64 (a.tmod b)) w:=by
 intro ac dst pos after g ha;simp only[execOp,ha.ev hx,ha.ev hy];simp[eqGuard,binOp,Op.intDiv,hb]
theorem u0g{T:TypeId}{x:Operand}{a:Int}(hx:ev e x=some (.int .i64 a))(hr : -9223372036854775808 <= -a /\ -a<=9223372036854775807) :
  D7 P n e (.unOp .neg T x) ty w (.int .i64 (-a)) w:=by
 intro ac dst pos after g ha;simp only[execOp,ha.ev hx];simp[Op.unary,Op.intArith,IntWalk.i64_in _ hr]
theorem p0k{T T' E:TypeId}{x:Operand}{b o cap m:Nat}{ms:List Int}[hs:Y6 P T E][hb:z0Y P E][ht:h0P P T'](hx:ev e x=some (.slice (some ⟨b,o,none⟩) m cap))(hm:ms.length=m)(hA:At w b o (ms.map (Value.int .u8))) :
  D7 P n e (.convert T T' x) ty w (.string (strOfNums ms)) w:=by
 intro ac dst pos after g ha;have h:=run_convert_bytes_arg (P:=P) w T E hs.h hb.h b o m cap ms hm (fun i hi=>hA i _ (by simp[List.getD,List.getElem?_eq_getElem (show i<ms.length by omega)])) T' ht.h;simp only[execOp,ha.ev hx];simp[h,Result.andThen]
theorem n0K(z:List Value):∀k,(O1 k z).length=k*z.length
 | 0=>by simp[O1]
 | k+1=>by rw[O1,List.length_append,n0K z k,Nat.add_mul]; omega
theorem n0L(z:List Value):∀(k j:Nat),j<k*z.length->(O1 k z)[j]?=z[j % z.length]?
 | 0,j,h=>by omega
 | k+1,j,h=>by
   have h':j<k*z.length+z.length:=by rwa [Nat.add_mul,Nat.one_mul] at h
   rw[O1];rcases Nat.lt_or_ge j z.length with hj | hj
   ·rw[List.getElem?_append_left hj,Nat.mod_eq_of_lt hj]
   ·rw[List.getElem?_append_right hj,n0L z k (j-z.length) (by omega)];congr 1;rw[Nat.mod_eq_sub_mod hj]
theorem i0b(z:Array Value)(k:Nat)(hz:0<z.size):madeCells z (k*z.size)=(O1 k z.toList).toArray:=by
 apply Array.ext';apply List.ext_getElem?;intro j;unfold madeCells;by_cases hj:j<k*z.size
 ·have hlt:j % z.size<z.size:=Nat.mod_lt _ hz;rw[show(O1 k z.toList).toArray.toList=O1 k z.toList by simp,n0L z.toList k j (by simpa using hj)];simp[hj];rw[Array.getElem!_eq_getD,Array.getD,dif_pos hlt];rw[Array.getElem?_eq_getElem hlt]; rfl
 ·rw[List.getElem?_eq_none (by simp; omega),List.getElem?_eq_none (by simp[n0K]; omega)]
theorem k0G{T E s y:Nat}{z:Value}{x x':Operand}{m:Nat}{zs:List Value}[hT:Y6 P T E][i:Info P E s y z](hx:ev e x=some (.int .i64 (m:Int)))(hx':ev e x'=some (.int .i64 (m:Int)))(hz:z.cells.toList=zs)(hl:j0K zs s=true)(hs:Nat.blt 0 s=true)
  (hm:m*y<=281474976710656) (hm':m<=9223372036854775807) :
  D7 P n e (.makeSlice T x x') ty w (.slice (some ⟨w.heap.size,0,none⟩) m m) (w.alloc (.cells (O1 m zs).toArray E)):=by
 intro a dst pos after g ha;obtain⟨inf,hinfo,h2,h3,h4⟩:=i.get;subst hz;have hl':=e0e hl;have hsz:z.cells.size=s:=by simpa using hl'
 have hb:(inf.bytes:Int)*(m:Int)<=281474976710656:=by
  have h:((inf.bytes*m:Nat):Int)<=281474976710656:=by rw[h3,Nat.mul_comm]; omega
  rwa [Int.natCast_mul] at h
 have h:=run_make (P:=P) w T E inf z hT.h hinfo h4 .i64 .i64 m m (by omega) (Int.le_refl _) hb (by omega);simp only[Int.toNat_natCast] at h;have hpos:0<z.cells.size:=by rw[hsz]; simpa using hs
 have hc:=i0b z.cells m hpos;rw[h2] at h;rw[hsz] at hc;rw[hc] at h;simp only[execOp,ha.ev hx,ha.ev hx'];simp[h,Result.andThen]
variable {w0:World} {l:List Oper} {fuel:Nat} {listed:Array Bool}
end
structure WE(g:Option Nat)(w w':World):Prop where
 os:w'.os=w.os
 tape:w'.tape=w.tape
 output:w'.output=w.output
 size:w.heap.size<=w'.heap.size
 block:∀k,k<w.heap.size->g≠some k->w'.heap[k]?=w.heap[k]?
theorem WE.of_ext{g:Option Nat}{w w':World}(h:Ext w w'):WE g w w':=⟨h.os,h.tape,h.output,h.size,fun k hk _=>h.block k hk⟩
theorem WE.of_wr{b:Nat}{w w':World}(h:Wr b w w'):WE (some b) w w':=⟨h.os,h.tape,h.output,by rw[h.size]; exact Nat.le_refl _,fun k _ hg=>h.block k (fun h'=>hg (by rw[h']))⟩
theorem WE.refl{g:Option Nat}(w:World):WE g w w:=⟨rfl,rfl,rfl,Nat.le_refl _,fun _ _ _=>rfl⟩
theorem WE.trans{g:Option Nat}{a b c:World}(h:WE g a b)(k:WE g b c):WE g a c :=
 ⟨k.os.trans h.os,k.tape.trans h.tape,k.output.trans h.output,Nat.le_trans h.size k.size,fun i hi hg=>(k.block i (Nat.lt_of_lt_of_le hi h.size) hg).trans (h.block i hi hg)⟩
theorem WE.below{g:Option Nat}{w w':World}{B:Nat}(h:WE g w w')(hg:∀k,g=some k->B<=k)(hB:B<=w.heap.size):Below B w w' :=
 ⟨h.os,h.tape,h.output,h.size,fun k hk=>h.block k (by omega) (fun e=>by have:=hg k e; omega)⟩
theorem WE.ext{w w':World}(h:WE none w w'):Ext w w':=h.below (fun _ e=>by cases e) (Nat.le_refl _)
theorem Blk.we{g:Option Nat}{w w':World}{b:Nat}{cs:List Value}{T:TypeId}(h:Blk w b cs T)(k:WE g w w')(hg:∀i,g=some i->b≠i):Blk w' b cs T:=by
 unfold Blk; rw[k.block b h.lt (fun e=>hg b e rfl)]; exact h
theorem At.we{g:Option Nat}{w w':World}{b o:Nat}{cs:List Value}(h:At w b o cs)(k:WE g w w')(hg:∀i,g=some i->b≠i):At w' b o cs:=h.same (fun hb=>k.block b hb (fun e=>hg b e rfl))
theorem SlR.we{α:Type}[Rep α]{g:Option Nat}{lo hi:Nat}{w w':World}{v:Value}{xs:List α}(h:SlR lo hi w v xs)(k:WE g w w')(hg:∀i,g=some i->i<lo∨hi<=i):SlR lo hi w' v xs :=
 h.same (fun i h1 h2 h3=>k.block i h3 (fun e=>by have:=hg i e; omega))
theorem Rep.rep.we{α:Type}[Rep α]{g:Option Nat}{lo hi:Nat}{w w':World}{cs:List Value}{x:α}(h:Rep.rep lo hi w cs x)(k:WE g w w')(hg:∀i,g=some i->i<lo∨hi<=i):Rep.rep lo hi w' cs x :=
 Rep.same h (fun i h1 h2 h3=>k.block i h3 (fun e=>by have:=hg i e; omega))
theorem Rep.rep.up{α:Type}[Rep α]{lo hi:Nat}{w w':World}{cs:List Value}{x:α}(h:Rep.rep lo hi w cs x)(k:Ext w w'):Rep.rep lo hi w' cs x:=Rep.up h k
theorem Rep.rep.wide{α:Type}[Rep α]{lo hi lo' hi':Nat}{w:World}{cs:List Value}{x:α}(h:Rep.rep lo hi w cs x)(h1:lo'<=lo)(h2:hi<=hi'):Rep.rep lo' hi' w cs x:=Rep.wide h h1 h2
def Own(w:World)(E:TypeId)(s:Nat)(g:Option Nat)(v:Value)(n:Nat)(cs:List Value):Prop :=
 (g=none/\n=0/\cs=[]/\∃p,v=.slice p 0 0) ∨
 ∃b o cap cur,g=some b/\v=.slice (some ⟨b,o,none⟩) n cap/\w.heap[b]?=some (.cells cur E (0,0))/\n<=cap/\cap<=maxLen/\cur.size=o+cap*s/\(cur.toList.drop o).take (n*s)=cs
theorem Own.nil{w:World}{E s:Nat}{p:Option Addr}:Own w E s none (.slice p 0 0) 0 []:=.inl ⟨rfl,rfl,rfl,p,rfl⟩
theorem Own.len{w:World}{E:TypeId}{s:Nat}{g:Option Nat}{v:Value}{n:Nat}{cs:List Value}(h:Own w E s g v n cs):∃p c,v=.slice p n c:=by
 rcases h with ⟨_,rfl,_,p,rfl⟩ | ⟨b,o,cap,cur,_,rfl,_⟩
 ·exact⟨_,_,rfl⟩
 ·exact⟨_,_,rfl⟩
theorem Own.clen{w:World}{E:TypeId}{s:Nat}{g:Option Nat}{v:Value}{n:Nat}{cs:List Value}(h:Own w E s g v n cs):cs.length=n*s:=by
 rcases h with ⟨_,rfl,rfl,_⟩ | ⟨b,o,cap,cur,_,rfl,_,h2,_,h4,rfl⟩
 ·simp
 ·have:=Nat.mul_le_mul_right s h2;rw[List.length_take,List.length_drop,Array.length_toList,h4]; omega
theorem Own.lt{w:World}{E:TypeId}{s:Nat}{g:Option Nat}{v:Value}{n:Nat}{cs:List Value}(h:Own w E s g v n cs):∀k,g=some k->k<w.heap.size:=by
 intro k hk;rcases h with ⟨rfl,_⟩ | ⟨b,o,cap,cur,rfl,rfl,h1,_⟩
 ·cases hk
 ·cases hk;rcases Nat.lt_or_ge k w.heap.size with h' | h'
  ·exact h'
  ·rw[Array.getElem?_eq_none h'] at h1; cases h1
theorem Own.we{g':Option Nat}{w w':World}{E:TypeId}{s:Nat}{g:Option Nat}{v:Value}{n:Nat}{cs:List Value}(h:Own w E s g v n cs)(k:WE g' w w')(hg:∀i,g'=some i->g≠some i):Own w' E s g v n cs:=by
 have hlt:=h.lt;rcases h with h | ⟨b,o,cap,cur,rfl,rfl,h1,h2⟩
 ·exact .inl h
 ·refine .inr ⟨b,o,cap,cur,rfl,rfl,?_,h2⟩;rw[k.block b (hlt b rfl) (fun e=>hg b e rfl)]; exact h1
theorem Own.up{w w':World}{E:TypeId}{s:Nat}{g:Option Nat}{v:Value}{n:Nat}{cs:List Value}(h:Own w E s g v n cs)(k:Ext w w'):Own w' E s g v n cs:=h.we (g':=none) (WE.of_ext k) (fun _ e=>by cases e)
theorem Own.at{w:World}{E:TypeId}{s:Nat}{b n:Nat}{v:Value}{cs:List Value}(h:Own w E s (some b) v n cs):∃o cap,v=.slice (some ⟨b,o,none⟩) n cap/\At w b o cs:=by
 rcases h with ⟨h,_⟩ | ⟨b',o,cap,cur,hb,rfl,h1,h2,h3,h4,rfl⟩
 ·cases h
 ·cases hb;refine⟨o,cap,rfl,fun i u hu=>?_⟩;unfold World.cell?;rw[show(⟨b,o+i,none⟩:Addr).block=b from rfl,h1];have hl:i<n*s:=by
   rcases Nat.lt_or_ge i (n*s) with h' | h'
   ·exact h'
   ·rw[List.getElem?_eq_none (by rw[List.length_take]; omega)] at hu; cases hu
  rw[List.getElem?_take_of_lt hl,List.getElem?_drop] at hu;simpa using hu
section
variable {P:Program} {n:Nat} {e:Env} {w:World} {Q:Exit->Act->World->Prop} {ops:Array Oper} {rest:List Oper}
 {d:Nat} {ty:TypeId} {pos:String} {after:Array Edge}
theorem r0t{T E s y:Nat}{z:Value}[hT:Y6 P T E][i:Info P E s y z](_hs:0<s)(hz:z.cells.size=s){g:Option Nat}{v:Value}{len m c b2 o2:Nat}{p2:Option Addr}{cs news:List Value}(h:Own w E s g v len cs)
  (hp:m=0∨p2=some ⟨b2,o2,none⟩) (hl:news.length=m*s) (hA:At w b2 o2 news) (h1:∀u∈news,u.oneCell'=true) (h63:len+m<=9223372036854775807) (hb:(len+m)*y<=140737488355328) :
  ∃v' w' g',(Builtin.append_ #[T,T] ty #[v,.slice p2 m c]).run P w=.ok v' w'/\Own w' E s g' v' (len+m) (cs++news)/\WE g w w'/\(g'=g∨g'=some w.heap.size):=by
 obtain⟨inf,hinfo,h2,h3,h4⟩:=i.get;by_cases hm:m=0
 ·subst hm;have hn:news=[]:=List.eq_nil_of_length_eq_zero (by simpa using hl);subst hn;have hcap:∃p cap,v=.slice p len cap/\len<=cap:=by
   rcases h with ⟨_,rfl,_,p,rfl⟩ | ⟨b,o,cap,cur,_,rfl,_,h2,_⟩
   ·exact⟨_,_,rfl,Nat.le_refl _⟩
   ·exact⟨_,_,rfl,h2⟩
  obtain⟨p,cap,rfl,hle⟩:=hcap;refine⟨_,w,g,?_,by simpa using h,WE.refl _,.inl rfl⟩;cases p <;> cases p2 <;> simp[Builtin.append_,run_underlying hT.h,sizeOf,typeInfo,hinfo,Builtin.lenOf,Builtin.firstCells,loadCells,loadCellsFrom,storeCells,hle]
 ·rcases hp with hp | rfl
  ·exact(hm hp).elim
  have hcell:∀j u,news[j]?=some u->w.cell? ((⟨b2,o2,none⟩:Addr).add j)=some u:=fun j u hj=>by
   have hadd:(Addr.mk b2 o2 none).add j=⟨b2,o2+j,none⟩:=by unfold Addr.add; split <;> simp_all
   rw[hadd]; exact hA j u hj
  have hbytes:m*inf.bytes<=140737488355328:=by
   rw[h3];exact Nat.le_trans (Nat.mul_le_mul_right y (Nat.le_add_left m len)) hb
  have grown:∀old,Own (w.drew.alloc (.cells (cs.toArray++news.toArray++Builtin.zeroCells z.cells (grownCap w (len+m) old E-(len+m))) E)) E s (some w.heap.size) (.slice (some ⟨w.heap.size,0,none⟩) (len+m) (grownCap w (len+m) old E)) (len+m) (cs++news):=fun old=>by
   have hge:=grownCap_ge w (len+m) old E;have hcl:=h.clen;refine .inr ⟨w.heap.size,0,_,_,rfl,rfl,_root_.Go.heap_alloc_new w.drew _,hge,grownCap_le_maxLen w (len+m) old E (by simp only[maxLen]; omega),?_,?_⟩
   ·simp only[Array.size_append,List.size_toArray,size_zeroCells,hz,hl,hcl,<- Nat.add_mul,Nat.zero_add];congr 1;omega
   ·simp only[Array.toList_append,List.drop_zero];rw[show(len+m)*s=(cs++news).length by rw[List.length_append,hcl,hl,Nat.add_mul]];exact List.take_left
  have hwe:∀(g:Option Nat) old,WE g w (w.drew.alloc (.cells (cs.toArray++news.toArray++Builtin.zeroCells z.cells (grownCap w (len+m) old E-(len+m))) E)):=fun g old=>⟨rfl,rfl,rfl,by simp,fun k hk _=>_root_.Go.heap_alloc_old w.drew _ hk⟩;have hcl:=h.clen;rcases h with ⟨rfl,rfl,rfl,p,rfl⟩ | ⟨b,o,cap,cur,rfl,rfl,g1,g2,g3,g4,g5⟩
  ·have g:=grown 0;have hw:=hwe none 0;simp only[Nat.zero_add,List.nil_append,Array.empty_append] at g hw;cases p with
   | none =>
     have hr:=run_append_nil (P:=P) w T ty E inf z hT.h hinfo h4 ⟨b2,o2,none⟩ m c news (by rw[h2]; exact hl) hcell (by omega) (by omega) (by omega);exact⟨_,_,_,hr,by simpa using g,hw,.inr rfl⟩
   | some a0 =>
     have hr:=run_append_grow (P:=P) w T ty E inf z hT.h hinfo h4 a0 0 0 [] (by simp) (fun j v hj=>by simp at hj) ⟨b2,o2,none⟩ m c news (by rw[h2]; exact hl) hcell (by omega) (by omega) (growslice_fits (by omega) (by simpa using hbytes));simp only[Nat.zero_add,Array.empty_append] at hr;exact⟨_,_,_,hr,by simpa using g,hw,.inr rfl⟩
  ·by_cases hroom:len+m<=cap
   ·have hfit:o+len*s+news.length<=cur.size:=by
     have:=Nat.mul_le_mul_right s hroom;rw[Nat.add_mul] at this;rw[hl,g4]; omega
    have hf:=run_firstCells_some (P:=P) w inf.size m ⟨b2,o2,none⟩ m c news (by rw[h2]; exact hl) hcell;have hst:=run_storeCells_at P b (o+len*s) E news 0 cur w g1 (by simpa using hfit) h1;simp only[Nat.add_zero] at hst;have hr:(Builtin.append_ #[T,T] ty #[.slice (some ⟨b,o,none⟩) len cap,.slice (some ⟨b2,o2,none⟩) m c]).run P w=.ok (.slice (some ⟨b,o,none⟩) (len+m) cap) (w.setRow b (cur.toList.take (o+len*s)++news++cur.toList.drop (o+len*s+news.length)).toArray):=by
     rw[h2] at hf;simp[Builtin.append_,run_underlying hT.h,sizeOf,typeInfo,hinfo,Builtin.lenOf,hroom,hf,Addr.add_lit,hst,h2]
    refine⟨_,_,some b,hr,.inr ⟨b,o,cap,_,rfl,rfl,setRow_heap w b cur _ E _ g1,hroom,g3,?_,?_⟩,⟨rfl,rfl,rfl,by simp[World.setRow],fun k _ hk=>b0N w b k _ (fun e=>hk (by rw[e]))⟩,.inl rfl⟩
    ·simp only[List.size_toArray,List.length_append,List.length_take,List.length_drop,Array.length_toList];omega
    ·show(List.drop o (cur.toList.take (o+len*s)++news++cur.toList.drop (o+len*s+news.length))).take ((len+m)*s)=cs++news;have e1:(cur.toList.take (o+len*s)).length=o+len*s:=by rw[List.length_take,Array.length_toList]; omega
     rw[List.append_assoc,List.drop_append_of_le_length (by omega),List.drop_take,show o+len*s-o=len*s by omega,g5,<- List.append_assoc];rw[show(len+m)*s=(cs++news).length by rw[List.length_append,hcl,hl,Nat.add_mul]];exact List.take_left
   ·have z0v:∀j u,cs[j]?=some u->w.cell? ((⟨b,o,none⟩:Addr).add j)=some u:=fun j u hu=>by
     have hadd:(Addr.mk b o none).add j=⟨b,o+j,none⟩:=by unfold Addr.add; split <;> simp_all
     rw[hadd];obtain⟨o0,c0,e0,hat⟩:=Own.at (.inr ⟨b,o,cap,cur,rfl,rfl,g1,g2,g3,g4,g5⟩:Own w E s (some b) (.slice (some ⟨b,o,none⟩) len cap) len cs);cases e0;exact hat j u hu
    have hr:=run_append_grow (P:=P) w T ty E inf z hT.h hinfo h4 ⟨b,o,none⟩ len cap cs (by rw[h2]; exact hcl) z0v ⟨b2,o2,none⟩ m c news (by rw[h2]; exact hl) hcell (by omega) (by omega) (growslice_fits (by omega) (by rw[h3]; exact hb));exact⟨_,_,_,hr,grown cap,hwe _ cap,.inr rfl⟩
theorem j0r{x:Operand}{ad:Addr}(hx:ev e x=some (.pointer (some ad))):D7 P n e (.nilCheck x) ty w (.pointer (some ad)) w:=by
 intro a dst pos after g ha;simp only[execOp,ha.ev hx];simp
end
end Go.Proofs.Sv
end
