/- A logic of symbolic frames: each step of a function's code is taken by one lemma, the frame is a short list of the slots that are known. Over any program. -/
import Derived.WalkKit
import Derived.Deep.LoopGhost
import Derived.IntWalk
import Derived.Deep.Quiet
import Derived.Laws.CopyRow
import Derived.ProofKit
import Derived.ChangeArms
import Derived.Carry
import Derived.Deep.RegionHeld3
import Derived.Laws.MakeOwn
import Derived.Laws.BytesArg
import Derived.Maps.AppendAt
import Derived.Deep.Upon
import Derived.Laws.StructEq
import Derived.Laws.Pointers
import Derived.Lib.Join
import Derived.Lib.ItoaLen
import Derived.Laws.Slices
set_option maxHeartbeats 0
namespace Go.Proofs
theorem oi {c:Type _} (a b:c):(some a=some b)=(a=b):=Option.some.injEq a b
theorem pj {e f:Type _} (a:e) (b:f) (c:e) (d:f):((a,b)=(c,d))=(a=c∧b=d):=Prod.mk.injEq a b c d
theorem ba (a b:Bool):((a&&b)=true)=(a=true∧b=true):=Bool.and_eq_true a b
theorem nb {n m:Nat} (h:n.beq m=true):n=m:=Nat.eq_of_beq_eq_true h
theorem ce {a:Sort _} (b:Bool) (t e:a):(bif b then t else e)=if b=true then t else e:=cond_eq_ite b t e
theorem gq {b:Type _} {l:List b} {i:Nat} {a:b}:l.getD i a=l[i]?.getD a:=List.getD_eq_getElem?_getD
theorem dq {p:Prop} [Decidable p]:(decide p=true)=p:=decide_eq_true_eq
theorem oo {a b:Prop} (h:a:=by omega) (k:b:=by omega):a∧b:=⟨h,k⟩
end Go.Proofs
section
namespace Go.Proofs.Sv
open Go Go.RowKit
abbrev C4:=List (Nat×Value)
def lk:C4->Nat->Option Value
 | [],_=>none
 | (d,v) :: e,t=>cond (Nat.beq d t) (some v) (lk e t)
def ev(e:C4):Operand->Option Value
 | .tmp t=>lk e t
 | .const v=>some v
 | .global g=>some (.pointer (some ⟨g,0,none⟩))
 | .func f=>some (.func (.func f) #[] #[])
def evl(e:C4):List Operand->Option (List Value)
 | []=>some []
 | x :: r=>match ev e x,evl e r with | some v,some vs=>some (v :: vs) | _,_=>none
def Agree(n:Nat)(e:C4)(a:Act):Prop:=a.defers=[]/\a.tmps.size=n/\∀t v,lk e t=some v->a.tmps.getD t undef=v
theorem CO(d:Nat)(v:Value)(e:C4)(t:Nat):lk ((d,v) :: e) t=if d=t then some v else lk e t:=by
 show cond (Nat.beq d t) (some v) (lk e t)=_
 simp_all
theorem Agree.ev{n:Nat}{e:C4}{a:Act}(h:Agree n e a){x:Operand}{v:Value}(b:ev e x=some v):a.eval x=v:=by
 cases x with
 | tmp t=>exact h.2.2 t v b
 | const u=>grind[Sv.ev,Act.eval]
 | global g=>grind[Sv.ev,Act.eval]
 | func f=>grind[Sv.ev,Act.eval]
theorem Agree.evl{n:Nat}{e:C4}{a:Act}(h:Agree n e a):∀{xs:List Operand} {vs:List Value},evl e xs=some vs->xs.map a.eval=vs
 | [],vs,hx=>by grind[Sv.evl]
 | x :: r,vs,hx=>by
   unfold Sv.evl at hx;split at hx
   ·rename_i v d c b;simp at hx; subst hx;simp[h.ev c,h.evl b]
   grind
theorem Agree.put{n:Nat}{e:C4}{a:Act}(h:Agree n e a)(d:Nat)(g:Nat.blt d n=true)(v:Value):Agree n ((d,v) :: e) (a.put (some d) v):=by
 have f:d<a.tmps.size:=by rw[h.2.1]; simpa using g
 refine⟨h.1,?_,fun t u b=>?_⟩
 ·simp[Act.put,h.2.1]
 ·rw[CO] at b;by_cases c:d=t
  ·subst c;simp only[if_true,oi] at b;subst b;simp[Act.put,f]
  ·simp only[c,if_false] at b;have:=h.2.2 t u b;simp only[Act.put]
   simp_all
def Nz(e' e:C4):Prop:=∀t v,lk e' t=some v->lk e t=some v
theorem Agree.sub{n:Nat}{e e':C4}{a:Act}(h:Agree n e a)(c:Nz e' e):Agree n e' a:=⟨h.1,h.2.1,fun t v b=>h.2.2 t v (c t v b)⟩
def VS(P:Program)(n:Nat)(c:Code)(e:C4)(w:World)(Q:Exit->Act->World->Prop):Prop:=∀a,Agree n e a->c.wp P Q a w
def VO(P:Program)(n:Nat)(ops:Array Oper)(l:List Oper)(e:C4)(w:World)(Q:Exit->Act->World->Prop):Prop:=∀a,Agree n e a->wpList P ops Q l a w
def Rl(n:Nat)(x:Exit)(e:C4)(w:World)(Q:Exit->Act->World->Prop):Prop:=∀a,Agree n e a->Q x a w
def Rm(P:Program)(y:Code)(Q:Exit->Act->World->Prop):Exit->Act->World->Prop:=Exit.then (y.wp P Q) Q
def NA(id:Nat)(Q:Exit->Act->World->Prop):Exit->Act->World->Prop:=Exit.inBlock id Q
section
variable {P:Program} {n:Nat} {e:C4} {w:World} {Q:Exit->Act->World->Prop}
theorem t0q{id:Nat}{l:List Oper}(h:VO P n l.toArray l e w Q):VS P n (.region id l.toArray false) e w Q:=fun a b=>wp_region_lit (h a b)
theorem E0u{x:Exit}{e':C4}(c:Nz e' e)(h:Rl n x e' w Q):Rl n x e w Q:=fun a b=>h a (b.sub c)
theorem D0r:Nz [] e:=fun _ _ h=>by cases h
theorem x0O{d:Nat}{v:Value}{e':C4}(h:lk e d=some v)(c:Nz e' e):Nz ((d,v) :: e') e:=by
 intro t u a;rw[CO] at a;by_cases b:d=t
 ·grind
 ·rw[if_neg b] at a; exact c t u a
end
def H4(P:Program)(n:Nat)(e:C4)(op:Op)(ty:TypeId)(w:World)(v:Value)(w':World):Prop :=
 ∀a dst pos after g,Agree n e a->(execOp a.eval ⟨dst,op,ty,pos,after,g⟩).run P w=.ok (.value v) w'
def L0N(P:Program)(n:Nat)(e:C4)(op:Op)(ty:TypeId)(w:World)(w':World):Prop :=
 ∀a dst pos after g,Agree n e a->(execOp a.eval ⟨dst,op,ty,pos,after,g⟩).run P w=.ok .skip w'
section
variable {P:Program} {n:Nat} {e:C4} {w:World} {Q:Exit->Act->World->Prop} {ops:Array Oper} {rest:List Oper}
theorem oN(h:Rl n .normal e w Q):VO P n ops [] e w Q:=fun a b=>wpList_nil (h a b)
theorem A0b{d:Nat}{b:Op}{ty:TypeId}{pos:String}{after:Array Edge}{w':World}(v:Value)(f:H4 P n e b ty w v w')(i:Nat.blt d n=true)
  (h:VO P n ops rest ((d,v) :: e) w' Q):VO P n ops (⟨some d,b,ty,pos,after,none⟩ :: rest) e w Q:=by
 intro a c;refine wpList_plain rfl fun K g=>?_;unfold Oper.wp;rw[f a (some d) pos after none c];exact g _ _ (h _ (c.put d i v))
theorem K0j{b:Op}{ty:TypeId}{pos:String}{after:Array Edge}{w':World}(d:L0N P n e b ty w w')
  (h:VO P n ops rest e w' Q):VO P n ops (⟨none,b,ty,pos,after,none⟩ :: rest) e w Q:=by
 intro a c;refine wpList_plain rfl fun K f=>?_;unfold Oper.wp;rw[d a none pos after none c];exact f _ _ (h _ c)
def JI:List Oper->Nat->Option Nat
 | [],_=>none
 | o :: _,0=>o.dst
 | _ :: r,j+1=>JI r j
def Rn(ops:Array Oper)(j:Nat):Option Nat:=JI ops.toList j
theorem q0U:∀(l:List Oper) (j:Nat),JI l j=(l[j]?).bind (·.dst)
 | [],_=>by simp[JI]
 | _ :: _,0=>by simp[JI]
 | _ :: r,j+1=>by simp[JI,q0U r j]
theorem z0r(ops:Array Oper)(j:Nat):Rn ops j=(ops[j]?).bind (·.dst):=by grind[Rn,q0U]
theorem r0w{a:Act}(k:Agree n e a){j d:Nat}{b:Bool}(g:Rn ops j=some d)(f:lk e d=some (.bool b)):yielded ops a.tmps j=some b:=by
 have h:=k.2.2 d _ f;unfold yielded;have i:((ops[j]?).bind (·.dst))=some d:=by rw[<- z0r]; exact g
 rw[i];have l:d<a.tmps.size:=by
  rcases Nat.lt_or_ge d a.tmps.size with c | c
  ·exact c
  ·rw[Array.getD_eq_getD_getElem?,Array.getElem?_eq_none c] at h; cases h
 simp_all
theorem IV{c:Nat}{i:Op}{ty:TypeId}{pos:String}{after:Array Edge}{j d:Nat}{b f:Bool}(l:Rn ops j=some d)(k:lk e d=some (.bool b))(m:(b==f)=false)(o:Nat.blt c n=true)
  (h:VO P n ops rest ((c,undef) :: e) w Q):VO P n ops (⟨some c,i,ty,pos,after,some (j,f)⟩ :: rest) e w Q:=by
 intro a g;refine wpList_skip ?_ (h _ (g.put c o undef));simp only[Region.wanted,r0w g l k]
 grind
def Xp:BinOp->Int->Int->Option Bool
 | .eql,a,b=>some (a==b)
 | .neq,a,b=>some (a != b)
 | .lss,a,b=>some (decide (a<b))
 | .leq,a,b=>some (decide (a<=b))
 | .gtr,a,b=>some (decide (a > b))
 | .geq,a,b=>some (decide (a≥b))
 | _,_,_=>none
def Ro:BinOp->ByteArray->ByteArray->Option Bool
 | .eql,a,b=>some (decide (a=b))
 | .neq,a,b=>some (!decide (a=b))
 | _,_,_=>none
def NB:BinOp->Value->Value->Option Value
 | op,.int k a,.int k' b=>if k=k' then(match Xp op a b with | some r=>some (.bool r) | none=>none) else none
 | op,.string a,.string b=>match Ro op a b with | some r=>some (.bool r) | none=>none
 | _,_,_=>none
def AR(e:C4):Op->Option Value
 | .move x=>ev e x
 | .assign x=>ev e x
 | .pick c a b=>match ev e c with
   | some (.bool true)=>ev e a
   | some (.bool false)=>ev e b
   | _=>none
 | .unOp .not _ x=>match ev e x with
   | some (.bool b)=>some (.bool (!b))
   | _=>none
 | .extract x i=>match ev e x with
   | some (.tuple vs)=>vs.toList[i]?
   | _=>none
 | .binOp op _ x y _=>match ev e x,ev e y with
   | some u,some v=>NB op u v
   | _,_=>none
 | .makeFunc fn first cap=>match evl e first.toList,evl e cap.toList with
   | some fs,some cs=>some (.func fn fs.toArray cs.toArray)
   | _,_=>none
 | _=>none
theorem z0C(a b:ByteArray):(a.toList==b.toList)=decide (a=b):=by
 rw[Bool.eq_iff_iff,beq_iff_eq,dq,ByteArray.toList_eq,ByteArray.toList_eq];constructor
 ·intro h; cases a; simp_all
 grind
theorem Cb{m:Op}{ty:TypeId}{v:Value}(h:AR e m=some v):H4 P n e m ty w v w:=by
 intro a z G l g b;unfold AR at h;split at h
 ·simp only[execOp,b.ev h]; rfl
 ·simp only[execOp,b.ev h]; rfl
 ·rename_i c x y;split at h
  ·rename_i f; simp only[execOp,b.ev f,<- b.ev h]; rfl
  ·rename_i f; simp only[execOp,b.ev f,<- b.ev h]; rfl
  grind
 ·split at h
  ·rename_i f; simp only[oi] at h; subst h; simp only[execOp,b.ev f]; rfl
  grind
 ·split at h
  ·rename_i V f; rw[Array.getElem?_toList] at h; simp only[execOp,b.ev f,Instr.extract,h]; rfl
  grind
 ·rename_i m T x y Y;split at h
  ·rename_i u v' o s;unfold NB at h;split at h
   ·rename_i k p X q;split at h
    ·rename_i F; subst F;split at h
     ·rename_i r d;simp only[oi] at h; subst h;unfold Xp at d;split at d <;> simp only[oi,reduceCtorEq] at d <;> subst d <;> simp[execOp,b.ev o,b.ev s,eqGuard,binOp,Op.intCmp]
     grind
    grind
   ·rename_i p q;split at h
    ·rename_i r d;simp only[oi] at h; subst h;unfold Ro at d;split at d <;> simp only[oi,reduceCtorEq] at d <;> subst d <;> simp[execOp,b.ev o,b.ev s,eqGuard,binOp,Op.stringOp,z0C]
    grind
   grind
  grind
 ·split at h
  ·rename_i Q W j i;simp only[oi] at h; subst h;have H:=b.evl j;have t:=b.evl i;have E:∀(x:Array Operand),x.map a.eval=(x.toList.map a.eval).toArray:=fun x=>by grind
   simp only[execOp,Instr.makeFunc,E,H,t];rfl
  grind
 grind
theorem Qa{d:Nat}{a:Op}{ty:TypeId}{pos:String}{after:Array Edge}{v:Value}(h:AR e a=some v)(b:Nat.blt d n=true)
 (k:VO P n ops rest ((d,v) :: e) w Q):VO P n ops (⟨some d,a,ty,pos,after,none⟩ :: rest) e w Q:=A0b v (Cb h) b k
end
def X9(P:Program)(T:TypeId):Bool:=match P.underlying T with
 | some (.struct _) | some (.array ..) | none=>false
 | _=>true
class Rp(P:Program)(T:TypeId):Prop where h:X9 P T=true
class AS(P:Program)(T:TypeId)(E:outParam TypeId):Prop where h:P.underlying T=some (.slice E)
class NC(P:Program)(T:TypeId):Prop where h:P.underlying T=some .string
def Rq(P:Program)(T:TypeId):Option (Nat×Nat×Option Value):=(P.info? T).map fun i=>(i.size,i.bytes,i.zero)
class Info(P:Program)(T:TypeId)(size bytes:outParam Nat)(z:outParam Value):Prop where h:Rq P T=some (size,bytes,some z)
def Bz(P:Program)(T:TypeId):Bool:=match P.underlying T with
 | some (.struct _) | some (.array ..)=>true
 | _=>false
class Rr(P:Program)(T:TypeId):Prop where h:Bz P T=true
def ND(P:Program)(T:TypeId)(k:Nat):Option (Nat×Bool):=match P.underlying T with
 | some (.struct fs)=>match fs[k]? with
   | some f=>some (f.offset,match P.info? f.type with | some i=>!(i.size==0) | none=>false)
   | none=>none
 | _=>none
class w0S(P:Program)(T:TypeId)(k:Nat)(off:outParam Nat):Prop where h:ND P T k=some (off,true)
def Ar(P:Program)(f:Nat):Bool:=match P.funcs[f]? with
 | some fn => !(fn.name == "runtime.NumGoroutine") && fn.body.isSome
 | none=>false
class Rs(P:Program)(f:Nat):Prop where h:Ar P f=true
theorem g0R{P:Program}{T:TypeId}{i:TypeInfo}(w:World)(h:P.info? T=some i):(typeInfo T).run P w=.ok i w:=by
 have a:(program).run P w=.ok P w:=rfl;unfold typeInfo
 simp_all
theorem Y0{P:Program}{T:TypeId}{i:TypeInfo}(w:World)(h:P.info? T=some i):(sizeOf T).run P w=.ok i.size w:=by
 unfold sizeOf; rw[Sem.run_bind,g0R w h]; rfl
theorem Rt{P:Program}{T:TypeId}{i:TypeInfo}{z:Value}(w:World)(h:P.info? T=some i)(hz:i.zero=some z):(zeroValue T).run P w=.ok z w:=by
 unfold zeroValue; rw[Sem.run_bind,g0R w h]; simp_all
theorem Info.get{P:Program}{T s y:Nat}{z:Value}(h:Info P T s y z):∃i,P.info? T=some i/\i.size=s/\i.bytes=y/\i.zero=some z:=by
 have hi:=h.h;unfold Rq at hi
 simp_all
def Blk(w:World)(b:Nat)(cs:List Value)(T:TypeId):Prop:=w.heap[b]?=some (.cells cs.toArray T (0,0))
def At(w:World)(b o:Nat)(cs:List Value):Prop:=∀i u,cs[i]?=some u->w.cell? ⟨b,o+i,none⟩=some u
abbrev Ext(w w':World):Prop:=Below w.heap.size w w'
theorem Ext.refl(w:World):Ext w w:=Below.refl _ _
theorem Ext.trans{a b c:World}(h:Ext a b)(k:Ext b c):Ext a c:=Below.trans h (Below.mono k h.size)
theorem Blk.lt{w:World}{b:Nat}{cs:List Value}{T:TypeId}(h:Blk w b cs T):b<w.heap.size:=by
 grind[Nat.lt_or_ge,Blk,Array.getElem?_eq_none]
theorem Blk.ext{w w':World}{b:Nat}{cs:List Value}{T:TypeId}(h:Blk w b cs T)(k:Ext w w'):Blk w' b cs T:=by
 unfold Blk; rw[k.block b h.lt]; exact h
theorem Blk.up{w w':World}{b:Nat}{cs:List Value}{T:TypeId}(h:Blk w b cs T)(k:Ext w w'):Blk w' b cs T:=h.ext k
theorem Blk.at{w:World}{b:Nat}{cs:List Value}{T:TypeId}(h:Blk w b cs T):At w b 0 cs:=by
 intro i u a;unfold World.cell?;rw[show(⟨b,0+i,none⟩:Addr).block=b from rfl,h]
 grind
theorem At.lt{w:World}{b o:Nat}{cs:List Value}(h:At w b o cs)(d:0<cs.length):b<w.heap.size:=by
 have c:=h 0 cs[0] (by grind);rcases Nat.lt_or_ge b w.heap.size with a | a
 ·exact a
 ·unfold World.cell? at c; grind
theorem At.same{w w':World}{b o:Nat}{cs:List Value}(h:At w b o cs)(k:b<w.heap.size->w'.heap[b]?=w.heap[b]?):At w' b o cs:=by
 intro i u a;have d:0<cs.length:=by rcases Nat.lt_or_ge i cs.length with c | c; omega; rw[List.getElem?_eq_none c] at a; cases a
 have:=h i u a;rw[<- this];exact World.cell?_of_block (w:=w) (k (h.lt d))
theorem At.ext{w w':World}{b o:Nat}{cs:List Value}(h:At w b o cs)(k:Ext w w'):At w' b o cs:=h.same (fun a=>k.block b a)
theorem At.up{w w':World}{b o:Nat}{cs:List Value}(h:At w b o cs)(k:Ext w w'):At w' b o cs:=h.ext k
theorem At.mid{w:World}{b o:Nat}{pre c post:List Value}(h:At w b o (pre++c++post)):At w b (o+pre.length) c:=by
 intro i u d;have e:i<c.length:=by rcases Nat.lt_or_ge i c.length with a | a; exact a; rw[List.getElem?_eq_none a] at d; cases d
 have:=h (pre.length+i) u (by grind)
 grind
structure R0F(w:World)(b:Nat)(w':World):Prop where
 eq:w.heap.size=b
 ext:Ext w w'
 size:w'.heap.size=b+1
structure Wr(b:Nat)(w w':World):Prop where
 os:w'.os=w.os
 tape:w'.tape=w.tape
 output:w'.output=w.output
 size:w'.heap.size=w.heap.size
 block:∀k,k≠b->w'.heap[k]?=w.heap[k]?
theorem Wr.below{b B:Nat}{w w':World}(h:Wr b w w')(a:B<=b):Below B w w':=⟨h.os,h.tape,h.output,by rw[h.size]; exact Nat.le_refl _,fun k c=>h.block k (by omega)⟩
theorem Xq(w:World)(o:Obj):R0F w w.heap.size (w.alloc o):=⟨rfl,(Below.refl _ _).alloc (Nat.le_refl _) _,by simp⟩
theorem Xr(w:World)(cs:Array Value)(T:TypeId):Blk (w.alloc (.cells cs T)) w.heap.size cs.toList T:=by
 unfold Blk World.alloc; simp
section
variable {P:Program} {n:Nat} {e:C4} {w:World} {Q:Exit->Act->World->Prop} {ops:Array Oper} {rest:List Oper}
 {d:Nat} {ty:TypeId} {pos:String} {after:Array Edge}
theorem j0k{T:TypeId}{x:Operand}{b o f c:Nat}[y:w0S P T f c](u:ev e x=some (.pointer (some ⟨b,o,none⟩))) :
  H4 P n e (.fieldAddr T x f) ty w (.pointer (some ⟨b,o+c,none⟩)) w:=by
 intro a t q l g z;have h:=y.h;unfold ND at h;split at h
 ·rename_i E j;split at h
  ·rename_i r d;simp only[oi,pj] at h;obtain⟨v,m⟩:=h;split at m
   ·rename_i i hi;have s:¬i.size=0:=by simpa using m
    have k:(Addr.mk b o none).add r.offset=⟨b,o+c,none⟩:=by
     unfold Addr.add;rw[v];split
     ·grind
     ·rfl
    simp only[execOp,z.ev u];simp[Instr.fieldAt,run_underlying j,d,Instr.sureAddr,fieldPlace,Y0 w hi,s,Result.andThen,k]
   grind
  grind
 grind
theorem i0q{T:TypeId}{e:Addr}{v:Value}[f:Rp P T](h:w.cell? e=some v):(loadVar T e).run P w=.ok v w:=by
 have c:=f.h;unfold X9 at c;split at c
 ·cases c
 ·cases c
 ·cases c
 ·rename_i j g k;cases hu:P.underlying T with
  | none=>grind
  | some d =>
    have:(isAgg T).run P w=.ok false w:=by
     unfold isAgg;simp only[Sem.run_bind,run_underlying hu,Result.andThen];cases d with
     | struct i=>grind
     | array a b=>grind
     | _=>rfl
    simp[loadVar,this,h,load,Sem.run,Result.andThen]
theorem u0M{T:TypeId}{x:Operand}{c:Addr}{v:Value}[Rp P T](i:ev e x=some (.pointer (some c)))(h:w.cell? c=some v):H4 P n e (.load T x) ty w v w:=by
 intro a f d b g j;simp only[execOp,j.ev i];simp[Instr.loadAt,Instr.sureAddr,i0q h,Result.andThen]
theorem i0r{T:TypeId}{b o s y:Nat}{z:Value}{cs:List Value}[m:Rr P T][i:Info P T s y z](g:cs.length=s)(h:At w b o cs):(loadVar T ⟨b,o,none⟩).run P w=.ok (.agg cs.toArray) w:=by
 have e:=m.h;unfold Bz at e;obtain⟨l,c,n,r,u⟩:=i.get;have k:(isAgg T).run P w=.ok true w:=by
  split at e
  ·rename_i t d; unfold isAgg; simp[run_underlying d,Result.andThen]
  ·rename_i a b d; unfold isAgg; simp[run_underlying d,Result.andThen]
  ·cases e
 have f:=run_loadCells_list (P:=P) w ⟨b,o,none⟩ cs (fun j v q=>by
  have:=h j v q
  grind[Addr.add])
 rw[g,<- n] at f;simp[loadVar,k,Y0 w c,Result.andThen,f]
theorem r0V{T:TypeId}{x:Operand}{b o s y:Nat}{z:Value}{cs:List Value}[Rr P T][Info P T s y z](j:ev e x=some (.pointer (some ⟨b,o,none⟩)))(d:cs.length=s)(h:At w b o cs):H4 P n e (.load T x) ty w (.agg cs.toArray) w:=by
 intro a i f c g k;simp only[execOp,k.ev j];simp[Instr.loadAt,Instr.sureAddr,i0r d h,Result.andThen]
theorem y0q{T T':TypeId}{x y:Operand}{a b:Int}(k:ev e x=some (.int .i64 a))(i:ev e y=some (.int .i64 b))(h : -9223372036854775808<=a+b/\a+b<=9223372036854775807) :
  H4 P n e (.binOp .add T x y T') ty w (.int .i64 (a+b)) w:=by
 intro l j f c g d;simp only[execOp,d.ev k,d.ev i];simp[eqGuard,binOp,Op.intArith,IntWalk.i64_in _ h]
theorem y0g{T T':TypeId}{x y:Operand}{a b:Int}(k:ev e x=some (.int .i64 a))(i:ev e y=some (.int .i64 b))(h : -9223372036854775808<=a-b/\a-b<=9223372036854775807) :
  H4 P n e (.binOp .sub T x y T') ty w (.int .i64 (a-b)) w:=by
 intro l j f c g d;simp only[execOp,d.ev k,d.ev i];simp[eqGuard,binOp,Op.intArith,IntWalk.i64_in _ h]
theorem y0m{T T':TypeId}{x y:Operand}{a b:Int}(k:ev e x=some (.int .i64 a))(i:ev e y=some (.int .i64 b))(h : -9223372036854775808<=a*b/\a*b<=9223372036854775807) :
  H4 P n e (.binOp .mul T x y T') ty w (.int .i64 (a*b)) w:=by
 intro l j f c g d;simp only[execOp,d.ev k,d.ev i];simp[eqGuard,binOp,Op.intArith,IntWalk.i64_in _ h]
theorem y0p{T T':TypeId}{x y:Operand}{s t:ByteArray}(i:ev e x=some (.string s))(f:ev e y=some (.string t))(j:s.size+t.size<=9223372036854775807) :
  H4 P n e (.binOp .add T x y T') ty w (.string (s++t)) w:=by
 intro k h d b g c;have a:¬(9223372036854775807:Int) < (s.size:Int)+(t.size:Int):=by omega
 simp only[execOp,c.ev i,c.ev f];simp[eqGuard,binOp,Op.stringOp,a]
theorem Xs{f:Nat}[h:Rs P f](a:Array Value):(callFunc f a).run P w=.ok (.enter f a) w:=by
 have b:=h.h;unfold Ar at b;split at b
 ·rename_i j d;simp only[ba,Bool.not_eq_true',Option.isSome_iff_exists] at b;obtain⟨i,c,g⟩:=b;have e:(program).run P w=.ok P w:=rfl;unfold callFunc
  simp_all
 grind
end
class K7(P:Program):Prop where h:P.follows .mixedOrders=true
section
variable {P:Program} {n:Nat} {e:C4} {w:World} {Q:Exit->Act->World->Prop} {ops:Array Oper} {rest:List Oper}
 {d:Nat} {ty:TypeId} {pos:String} {after:Array Edge}
end
class Rep(α:Type) where
 sz:Nat
 pos:0<sz
 rep:Nat->Nat->World->List Value->α->Prop
 len:∀{lo hi w cs x},rep lo hi w cs x->cs.length=sz
 same:∀{lo hi w w' cs x},rep lo hi w cs x->(∀k,lo<=k->k<hi->k<w.heap.size->w'.heap[k]?=w.heap[k]?)->rep lo hi w' cs x
 wide:∀{lo hi lo' hi' w cs x},rep lo hi w cs x->lo'<=lo->hi<=hi'->rep lo' hi' w cs x
def U0(x:Int):Prop := -9223372036854775808<=x/\x<=9223372036854775807
instance:Rep Int where
 sz:=1
 pos:=Nat.one_pos
 rep _ _ _ cs x:=cs=[.int .i64 x]/\U0 x
 len h:=by grind
 same h _:=h
 wide h _ _:=h
instance:Rep Bool where
 sz:=1
 pos:=Nat.one_pos
 rep _ _ _ cs x:=cs=[.bool x]
 len h:=by grind
 same h _:=h
 wide h _ _:=h
instance:Rep ByteArray where
 sz:=1
 pos:=Nat.one_pos
 rep _ _ _ cs x:=cs=[.string x]/\x.size<=9223372036854775807
 len h:=by grind
 same h _:=h
 wide h _ _:=h
section
variable {α:Type} [Rep α]
def All(lo hi:Nat)(w:World):List Value->List α->Prop
 | cs,[]=>cs=[]
 | cs,x :: r=>∃c d,cs=c++d/\Rep.rep lo hi w c x/\All lo hi w d r
theorem All.len{lo hi:Nat}{w:World}:∀{cs:List Value} {xs:List α},All lo hi w cs xs->cs.length=xs.length*Rep.sz α
 | cs,[],h=>by rw[show cs=[] from h]; simp
 | cs,x :: r,h=>by
   obtain⟨c,d,rfl,a,b⟩:=h;rw[List.length_append,Rep.len a,All.len b,List.length_cons,Nat.add_mul]; omega
theorem All.same{lo hi:Nat}{w w':World}(k:∀k,lo<=k->k<hi->k<w.heap.size->w'.heap[k]?=w.heap[k]?):∀{cs:List Value} {xs:List α},All lo hi w cs xs->All lo hi w' cs xs
 | _,[],h=>h
 | _,_ :: _,h=>by
   obtain⟨c,d,rfl,a,b⟩:=h;exact⟨c,d,rfl,Rep.same a k,All.same k b⟩
theorem All.wide{lo hi a b:Nat}{w:World}(e:a<=lo)(f:hi<=b):∀{cs:List Value} {xs:List α},All lo hi w cs xs->All a b w cs xs
 | _,[],h=>h
 | _,_ :: _,h=>by
   obtain⟨c,d,rfl,i,g⟩:=h;exact⟨c,d,rfl,Rep.wide i e f,All.wide e f g⟩
theorem All.app{lo hi:Nat}{w:World}{ds:List Value}{a:List α}(k:All lo hi w ds a):∀{cs:List Value} {xs:List α},All lo hi w cs xs->All lo hi w (cs++ds) (xs++a)
 | cs,[],h=>by rw[show cs=[] from h]; exact k
 | _,_ :: _,h=>by
   obtain⟨c,d,rfl,b,e⟩:=h;exact⟨c,d++ds,by simp,b,All.app k e⟩
theorem All.one{lo hi:Nat}{w:World}{c:List Value}{x:α}(h:Rep.rep lo hi w c x):All lo hi w c [x]:=⟨c,[],by simp,h,rfl⟩
theorem All.get{lo hi:Nat}{w:World}:∀{cs:List Value} {xs:List α} {i:Nat} (_:All lo hi w cs xs) (hi':i<xs.length),
  ∃pre c post,cs=pre++c++post/\pre.length=i*Rep.sz α/\Rep.rep lo hi w c xs[i]
 | _,x :: r,0,h,_=>by
   obtain⟨c,d,rfl,b,a⟩:=h;exact⟨[],c,d,by simp,by simp,b⟩
 | _,x :: r,i+1,h,hi'=>by
   obtain⟨c,d,rfl,b,a⟩:=h;obtain⟨pre,f,post,rfl,g,e⟩:=All.get a (i:=i) (by grind)
   grind[List.length_append,Rep.len,Nat.add_mul]
def SlR(lo hi:Nat)(w:World)(v:Value)(xs:List α):Prop :=
 ∃p cap,v=.slice p xs.length cap/\xs.length<=cap/\cap<=9223372036854775807 /\
  (xs=[]∨∃b o cs,p=some ⟨b,o,none⟩/\lo<=b/\b<hi/\At w b o cs/\All lo hi w cs xs)
theorem SlR.same{lo hi:Nat}{w w':World}{v:Value}{xs:List α}(h:SlR lo hi w v xs)(k:∀k,lo<=k->k<hi->k<w.heap.size->w'.heap[k]?=w.heap[k]?):SlR lo hi w' v xs:=by
 obtain⟨p,a,e,d,f,c⟩:=h;refine⟨p,a,e,d,f,?_⟩;rcases c with c | ⟨b,o,cs,hp,hlo,hhi,hat,hall⟩
 ·grind
 ·exact .inr ⟨b,o,cs,hp,hlo,hhi,hat.same (k b hlo hhi),hall.same k⟩
theorem SlR.wide{lo hi a c:Nat}{w:World}{v:Value}{xs:List α}(h:SlR lo hi w v xs)(f:a<=lo)(i:hi<=c):SlR a c w v xs:=by
 obtain⟨p,d,j,g,k,e⟩:=h;refine⟨p,d,j,g,k,?_⟩;rcases e with e | ⟨b,o,cs,hp,hlo,hhi,hat,hall⟩
 ·grind
 ·exact .inr ⟨b,o,cs,hp,by omega,by omega,hat,hall.wide f i⟩
instance:Rep (List α) where
 sz:=1
 pos:=Nat.one_pos
 rep lo hi w cs xs:=∃v,cs=[v]/\SlR lo hi w v xs
 len:=by grind
 same:=by rintro lo hi w w' cs x ⟨v,rfl,h⟩ k; exact⟨v,rfl,h.same k⟩
 wide:=by rintro lo hi lo' hi' w cs x ⟨v,rfl,h⟩ h1 h2; exact⟨v,rfl,h.wide h1 h2⟩
theorem Rep.up{lo hi:Nat}{w w':World}{cs:List Value}{x:α}(h:Rep.rep lo hi w cs x)(k:Ext w w'):Rep.rep lo hi w' cs x:=Rep.same h (fun i _ _ a=>k.block i a)
theorem Rep.below{lo hi B:Nat}{w w':World}{cs:List Value}{x:α}(h:Rep.rep lo hi w cs x)(k:Below B w w')(b:hi<=B):Rep.rep lo hi w' cs x:=Rep.same h (fun i _ a _=>k.block i (by omega))
theorem SlR.up{lo hi:Nat}{w w':World}{v:Value}{xs:List α}(h:SlR lo hi w v xs)(k:Ext w w'):SlR lo hi w' v xs:=h.same (fun i _ _ a=>k.block i a)
theorem SlR.below{lo hi B:Nat}{w w':World}{v:Value}{xs:List α}(h:SlR lo hi w v xs)(k:Below B w w')(b:hi<=B):SlR lo hi w' v xs:=h.same (fun i _ a _=>k.block i (by omega))
theorem SlR.len{lo hi:Nat}{w:World}{v:Value}{xs:List α}(h:SlR lo hi w v xs):∃p cap,v=.slice p xs.length cap:=by obtain⟨p,cap,a,_⟩:=h; grind
theorem SlR.le{lo hi:Nat}{w:World}{v:Value}{xs:List α}(h:SlR lo hi w v xs):xs.length<=9223372036854775807:=by obtain⟨p,a,b,d,c,_⟩:=h; omega
theorem SlR.nil{lo hi:Nat}{w:World}:SlR lo hi w (.slice none 0 0) ([]:List α):=⟨none,0,rfl,Nat.le_refl _,by omega,.inl rfl⟩
theorem SlR.get{lo hi:Nat}{w:World}{p:Option Addr}{a e:Nat}{xs:List α}(h:SlR lo hi w (.slice p a e) xs){i:Nat}(d:i<xs.length) :
  a=xs.length/\∃b o c,p=some ⟨b,o,none⟩/\lo<=b/\b<hi/\At w b (o+i*Rep.sz α) c/\Rep.rep lo hi w c xs[i]:=by
 obtain⟨r,j,k,q,s,g⟩:=h;simp only[Value.slice.injEq] at k;obtain⟨rfl,rfl,rfl⟩:=k;refine⟨rfl,?_⟩;rcases g with g | ⟨b,o,cs,hp,hlo,hhi,hat,hall⟩
 ·grind
 ·obtain⟨n,c,f,rfl,m,l⟩:=hall.get d;refine⟨b,o,c,hp,hlo,hhi,?_,l⟩;rw[<- m]; exact hat.mid
end
section
variable {P:Program} {n:Nat} {e:C4} {w:World} {Q:Exit->Act->World->Prop} {ops:Array Oper} {rest:List Oper}
 {d:Nat} {ty:TypeId} {pos:String} {after:Array Edge}
theorem Xt{T E s y:Nat}{z:Value}{x ix:Operand}{b o d j k:Nat}{t:IntKind}[h:AS P T E][i:Info P E s y z](F:ev e x=some (.slice (some ⟨b,o,none⟩) d j))(hi:ev e ix=some (.int t (k:Int)))(Q:k<d) :
  H4 P n e (.indexAddr T x ix) ty w (.pointer (some ⟨b,o+k*s,none⟩)) w:=by
 intro a u r m g q;obtain⟨v,c,G,H,V⟩:=i.get;have f:(Addr.mk b o none).add (k*s)=⟨b,o+k*s,none⟩:=by
  unfold Addr.add;split
  ·grind
  ·rfl
 have l:0<=(k:Int)/\(k:Int) < (d:Int):=oo;simp only[execOp,q.ev F,q.ev hi];simp only[Instr.indexAt,asIntOf,Sem.run_bind,run_underlying h.h,Result.andThen,Sem.run_pure,l,and_self,if_true,Y0 w c,G,Int.toNat_natCast,f]
variable {α:Type} [Rep α]
end
def B7(cs:List Value)(o:Nat)(vs:List Value):List Value:=cs.take o++vs++cs.drop (o+vs.length)
def ones:List Value->Bool
 | []=>true
 | v :: r=>v.oneCell'&&ones r
theorem q0m:∀{vs:List Value},ones vs=true->∀v∈vs,v.oneCell'=true
 | [],_,_,h=>by cases h
 | u :: r,h,v,hv=>by
   simp only[ones,ba] at h;rcases List.mem_cons.1 hv with rfl | hv
   ·grind
   ·exact q0m h.2 v hv
theorem Xu(w:World)(g k:Nat)(cs:Array Value)(h:k≠g):(w.setRow g cs).heap[k]?=w.heap[k]?:=by
 grind[World.setRow]
theorem NE(w:World)(g:Nat)(cs:Array Value):Wr g w (w.setRow g cs) :=
 ⟨rfl,rfl,rfl,by simp_all,fun k a=>Xu w g k cs a⟩
def CP:List Value->Nat->Bool
 | [],0=>true
 | _ :: r,k+1=>CP r k
 | _,_=>false
theorem JJ:∀{vs:List Value} {k:Nat},CP vs k=true->vs.length=k
 | [],0,_=>rfl
 | _ :: r,k+1,h=>by simp[JJ (vs:=r) (k:=k) h]
 | [],_+1,h=>by cases h
 | _ :: _,0,h=>by cases h
section
variable {P:Program} {n:Nat} {e:C4} {w:World} {Q:Exit->Act->World->Prop} {ops:Array Oper} {rest:List Oper}
 {d:Nat} {ty:TypeId} {pos:String} {after:Array Edge}
theorem Ru{T T' s y:Nat}{z:Value}{b o:Nat}{cs vs:List Value}{v:Value}[i:Info P T s y z](e:v.cells.toList=vs)(f:vs.length=s)(k:ones vs=true)(l:Blk w b cs T')(j:o+vs.length<=cs.length) :
  (storeVar T ⟨b,o,none⟩ v).run P w=.ok () (w.setRow b (B7 cs o vs).toArray):=by
 obtain⟨d,a,g,n,m⟩:=i.get;have c:v.cells.size=d.size:=by rw[g,<- f,<- e]; simp
 have h:=run_storeCells_at (P:=P) b o T' vs 0 cs.toArray w l (by simpa using j) (q0m k);unfold storeVar;simp only[Sem.run_bind,Y0 w a,Result.andThen,c,ne_eq,not_true_eq_false,if_false,e]
 grind[B7]
def Cc(place:List (Nat×Nat)):List Value->List (Nat×Value)->Option (List Value)
 | cs,[]=>some cs
 | cs,(i,v) :: r=>match place[i]? with
   | none=>none
   | some p=>bif CP v.cells.toList p.2&&Nat.ble (p.1+p.2) cs.length then Cc place (B7 cs p.1 v.cells.toList) r else none
theorem x0X(v:Value)(r cs:List Value)(o:Nat)(h:o+(r.length+1)<=cs.length):B7 cs o (v :: r)=B7 (cs.set o v) (o+1) r:=by
 obtain⟨A,C,b,rfl⟩:∃A C:List Value,A.length=o/\cs=A++C:=⟨cs.take o,cs.drop o,by grind,by simp⟩;subst b;cases C with
 | nil=>grind
 | cons x C =>
   simp only[B7,List.length_cons,List.set_append_right _ _ (Nat.le_refl _),Nat.sub_self,List.set_cons_zero];have e:List.take A.length (A++x :: C)=A:=by simp
   have c:List.take (A.length+1) (A++v :: C)=A++[v]:=by
    rw[List.take_append,List.take_of_length_le (by omega)]; simp
   have d:List.drop (A.length+(r.length+1)) (A++x :: C)=List.drop r.length C:=by
    rw[List.drop_append,List.drop_eq_nil_of_le (by omega)]; simp
   have a:List.drop (A.length+1+r.length) (A++v :: C)=List.drop r.length C:=by
    rw[show A.length+1+r.length=A.length+(r.length+1) by omega,List.drop_append,List.drop_eq_nil_of_le (by omega)]; simp
   rw[e,c,d,a]; simp
theorem n0r(a:Nat):∀(vs:List Value) (j:Nat) (cs:Array Value),a+j+vs.length<=cs.size ->
  ((vs.zipIdx j).foldl (fun cs (c,j)=>cs.setIfInBounds (a+j) c) cs).toList=B7 cs.toList (a+j) vs
 | [],j,cs,h=>by simp[B7]
 | v :: r,j,cs,h=>by
   simp only[List.zipIdx_cons,List.foldl_cons];rw[n0r a r (j+1) _ (by grind),x0X v r _ _ (by omega)]
   grind
theorem Rv(place:List (Nat×Nat)):∀(parts:List (Nat×Value)) (cs ds:List Value),Cc place cs parts=some ds->Instr.fill (fun i=>place[i]?) cs.toArray parts=some ds.toArray
 | [],cs,ds,h=>by simp only[Cc,oi] at h; subst h; rfl
 | (i,v) :: r,cs,ds,h=>by
   unfold Cc at h;split at h
   ·cases h
   ·rename_i p c;cases hb:(CP v.cells.toList p.2&&Nat.ble (p.1+p.2) cs.length) with
    | false=>grind
    | true =>
      rw[hb] at h;simp only[cond_true] at h;simp only[ba] at hb;have f:=JJ hb.1;have a:=Nat.le_of_ble_eq_true hb.2;have b:v.cells.size=p.2:=by rw[<- f]; simp
      have d:=Rv place r _ _ h;unfold Instr.fill;simp only[c];rw[if_neg (by simp[b,a])];have g:=n0r p.1 v.cells.toList 0 cs.toArray (by simp[b,a]);have e:Array.foldl (fun cs (x:Value×Nat)=>cs.setIfInBounds (p.1+x.2) x.1) cs.toArray v.cells.zipIdx=(B7 cs p.1 v.cells.toList).toArray:=by
       rw[<- Array.foldl_toList];apply Array.ext';simpa using g
      exact(congrArg (fun q=>Instr.fill (fun i=>place[i]?) q r) e).trans d
def JK(P:Program)(T:TypeId):Option (List (Nat×Nat)):=match P.underlying T with
 | some (.struct fs)=>some (fs.toList.map fun f=>(f.offset,match P.info? f.type with | some i=>i.size | none=>0))
 | _=>none
def NF(P:Program)(T:TypeId):Bool:=match P.underlying T with
 | some (.struct fs)=>fs.toList.all fun f=>(P.info? f.type).isSome
 | _=>false
class r0u(P:Program)(T:TypeId)(pl:outParam (List (Nat×Nat))):Prop where
 h:JK P T=some pl
 ok:NF P T=true
def evp(e:C4):List (Nat×Operand)->Option (List (Nat×Value))
 | []=>some []
 | (i,x) :: r=>match ev e x,evp e r with | some v,some vs=>some ((i,v) :: vs) | _,_=>none
theorem Agree.evp{a:Act}(h:Agree n e a):∀{xs:List (Nat×Operand)} {vs:List (Nat×Value)},evp e xs=some vs->xs.map (fun(i,x)=>(i,a.eval x))=vs
 | [],vs,hx=>by grind[Sv.evp]
 | (i,x) :: r,vs,hx=>by
   unfold Sv.evp at hx;split at hx
   ·rename_i v d c b;simp at hx; subst hx;simp[h.ev c,Agree.evp h b]
   grind
theorem m0C(w:World):∀(fs:List Field),(fs.all fun f=>(P.info? f.type).isSome)=true ->
  (fs.mapM (fun f=>do Pure.pure (f.offset,<- sizeOf f.type):Field->Sem (Nat×Nat))).run P w=.ok (fs.map fun f=>(f.offset,match P.info? f.type with | some i=>i.size | none=>0)) w
 | [],_=>rfl
 | f :: r,h=>by
   simp only[List.all_cons,ba,Option.isSome_iff_exists] at h;obtain⟨⟨i,hi⟩,a⟩:=h;rw[List.mapM_cons];simp only[Sem.run_bind,Y0 w hi,Result.andThen,Sem.run_pure,m0C w r a,List.map_cons,hi]
theorem r0Y{T s y:Nat}{z:Value}{pl:List (Nat×Nat)}{b:List (Nat×Operand)}{vs:List (Nat×Value)}{cs:List Value}[i:Info P T s y z][p:r0u P T pl](V:evp e b=some vs)(u:Cc pl z.cells.toList vs=some cs) :
  H4 P n e (.build T b.toArray) ty w (.agg cs.toArray) w:=by
 intro a v G q g Q;obtain⟨E,c,W,X,t⟩:=i.get;have j:=p.h;have o:=p.ok;unfold JK at j;unfold NF at o;split at j
 ·rename_i k d;rw[d] at o;simp only[oi] at j;have r:=m0C (P:=P) w k.toList o;rw[j] at r;have l:=Rv pl vs z.cells.toList cs u;have F:b.toArray.map (fun(i,x)=>(i,a.eval x))=vs.toArray:=by rw[<- Agree.evp Q V]; simp
  have m:(k.mapM (fun f=>do Pure.pure (f.offset,<- sizeOf f.type):Field->Sem (Nat×Nat))).run P w=.ok pl.toArray w:=by
   rw[Array.mapM_eq_mapM_toList];show(Functor.map List.toArray (List.mapM _ k.toList):Sem _).run P w=_;rw[map_eq_pure_bind,Sem.run_bind,r];rfl
  have H:(fun i:Nat=>pl.toArray[i]?)=(fun i:Nat=>pl[i]?):=by funext i; simp
  simp only[execOp,F];simp only[Instr.build,Sem.run_bind,Rt w c t,Result.andThen,run_underlying d,m,H]
  simp_all
 grind
class JL(P:Program)(T:TypeId):Prop where h:P.underlying T=some .bool
theorem n0w(dd:Nat){T:TypeId}{a b:Bool}[h:JL P T]:(Op.equalIn (dd+1) T (.bool a) (.bool b)).run P w=.ok (a==b) w:=by simp[Op.equalIn,run_underlying h.h]
theorem y0n{T T':TypeId}{x y:Operand}{a b:Bool}[h:JL P T](l:ev e x=some (.bool a))(j:ev e y=some (.bool b)):H4 P n e (.binOp .eql T x y T') ty w (.bool (a==b)) w:=by
 intro m k i c g d;have f:(Op.equal T (.bool a) (.bool b)).run P w=.ok (a==b) w:=n0w 9999;simp only[execOp,d.ev l,d.ev j];simp[eqGuard,binOp,f,Result.andThen]
theorem y0l{T T':TypeId}{x y:Operand}{a b:Bool}[h:JL P T](l:ev e x=some (.bool a))(j:ev e y=some (.bool b)):H4 P n e (.binOp .neq T x y T') ty w (.bool (!(a==b))) w:=by
 intro m k i c g d;have f:(Op.equal T (.bool a) (.bool b)).run P w=.ok (a==b) w:=n0w 9999;simp only[execOp,d.ev l,d.ev j];simp[eqGuard,binOp,f,Result.andThen]
theorem Xw(f g:Nat->Option (Nat×Nat)):∀(parts:List (Nat×Value)) (cs ds:Array Value),(∀i p,f i=some p->g i=some p)->Instr.fill f cs parts=some ds->Instr.fill g cs parts=some ds
 | [],_,_,_,h=>h
 | (i,v) :: r,cs,ds,hfg,h=>by
   unfold Instr.fill at h ⊢;cases hf:f i with
   | none=>grind
   | some p =>
     rw[hf] at h;rw[hfg i p hf];obtain⟨b,a⟩:=p;simp only at h ⊢;split at h
     ·cases h
     ·rename_i c; rw[if_neg c]; exact Xw f g r _ _ hfg h
def R3:Nat->List Value->List Value
 | 0,_=>[]
 | k+1,z=>z++R3 k z
def F5(s:ByteArray)(k:Nat):Int:=((s.data.toList.getD k 0).toNat:Int)
theorem w0y(s:ByteArray)(k:Nat):0<=F5 s k:=by grind[F5]
theorem w0z(s:ByteArray)(k:Nat):F5 s k<=255:=by unfold F5; have:=(s.data.toList.getD k 0).toNat_lt; omega
theorem r0W{T:TypeId}{x ix:Operand}{s:ByteArray}{k:Nat}{l:IntKind}[h:NC P T](o:ev e x=some (.string s))(hi:ev e ix=some (.int l (k:Int)))(c:k<s.size) :
  H4 P n e (.index T x ix) ty w (.int .u8 (F5 s k)) w:=by
 intro a m f b g d;have j:0<=(k:Int):=by omega
 have i:s[k]?=some s[k]:=by simp[c]
 simp only[execOp,d.ev o,d.ev hi];simp only[Instr.index,asIntOf,Sem.run_bind,Sem.run_pure,Result.andThen,run_underlying h.h,j,if_true,Int.toNat_natCast,i];congr 3;have q:k<s.data.toList.length:=by simpa using c
 have:s[k]=s.data.toList[k]:=rfl
 grind[F5,List.getElem?_eq_getElem]
end
class JM(P:Program)(T:TypeId)(α:Type)[Rep α]:Prop where
 op:∀{H:Type} {enc:TypeId×Value->H} {w:World} {sp:Nat->Bool} {hl:Bool} {fuel:Nat} {cs:List Value} {x:DataW H×List MemPlace},
  DataW.trod enc P w 0 sp hl fuel T cs=some x->∃y:α,Rep.rep 0 w.heap.size w cs y
class R0G(P:Program)(T:TypeId):Prop where h:P.underlying T=some (.int .i64)
class Xx(P:Program)(T:TypeId):Prop where h:P.underlying T=some (.int .u8)
instance:Rep UInt8 where
 sz:=1
 pos:=Nat.one_pos
 rep _ _ _ cs x:=cs=[.int .u8 (x.toNat:Int)]
 len h:=by grind
 same h _:=h
 wide h _ _:=h
instance {P:Program}{T:TypeId}[hT:R0G P T]:JM P T Int where
 op:=by
  intro H enc w sp hl fuel cs x h;obtain⟨n,rfl,_,hw⟩:=DataW.trod_int hT.h h;refine⟨n,rfl,?_⟩;simp only[Lit.wf,ba,dq] at hw;have h1:IntKind.i64.min = -9223372036854775808:=rfl;have h2:IntKind.i64.max=9223372036854775807:=rfl;rw[h1,h2] at hw;exact hw
instance {P:Program}{T:TypeId}[hT:Xx P T]:JM P T UInt8 where
 op:=by
  intro H enc w sp hl fuel cs x h;obtain⟨n,rfl,_,hw⟩:=DataW.trod_int hT.h h;simp only[Lit.wf,ba,dq] at hw;have h1:IntKind.u8.min=0:=rfl;have h2:IntKind.u8.max=255:=rfl;rw[h1,h2] at hw;refine⟨UInt8.ofNat n.toNat,?_⟩;show [Value.int .u8 n]=[Value.int .u8 _];have:(UInt8.ofNat n.toNat).toNat=n.toNat:=by simp; omega
  grind
instance {P:Program}{T:TypeId}[hT:JL P T]:JM P T Bool where
 op:=by
  intro H enc w sp hl fuel cs x h;obtain⟨b,rfl,_⟩:=DataW.trod_bool hT.h h;exact⟨b,rfl⟩
instance {P:Program}{T:TypeId}[hT:NC P T]:JM P T ByteArray where
 op:=by
  intro H enc w sp hl fuel cs x h;obtain⟨s,rfl,_,hs⟩:=DataW.trod_string hT.h h;exact⟨s,rfl,by grind[maxLen]⟩
theorem JN{w:World}{base:Nat}{a:Addr}{n:Nat}{cs:List Value}(g:0<n)(h:w.cells? base a n=some cs):a=⟨a.block,a.off,none⟩/\cs.length=n/\At w a.block a.off cs:=by
 obtain⟨_,d,j⟩:=World.cells?_some h;obtain⟨b,o,sp⟩:=a;have c:sp=none:=by
  have f:=j 0 g;have e:(Addr.mk b o sp).add 0=⟨b,o,sp⟩:=by simp[Addr.add]
  rw[e,List.getElem?_eq_getElem (by omega)] at f;cases sp with
  | none=>rfl
  | some q =>
    grind[World.cell?]
 subst c;refine⟨rfl,d,fun i u k=>?_⟩
 grind[Nat.lt_or_ge,List.getElem?_eq_none,Addr.add]
theorem At.app{w:World}{b o:Nat}{cs ds:List Value}(h:At w b o cs)(k:At w b (o+cs.length) ds):At w b o (cs++ds):=by
 intro i u a;rcases Nat.lt_or_ge i cs.length with hi | hi
 ·rw[List.getElem?_append_left hi] at a; exact h i u a
 ·rw[List.getElem?_append_right hi] at a;have:=k (i-cs.length) u a
  grind
theorem Rw{w:World}{b o:Nat}:At w b o []:=fun i u a=>by grind
instance {P:Program}{T E:TypeId}{α:Type}[Rep α][hT:AS P T E][hE:JM P E α]:JM P T (List α) where
 op:=by
  intro H enc w sp hl fuel cs x h;rcases DataW.trod_slice hT.h h with ⟨rfl,_⟩ | ⟨a,len,cap,elems,rest,n,rfl,rfl,_,_,hlc,hcm,hel,hat,_,_⟩
  ·exact⟨[],_,rfl,SlR.nil⟩
  ·have hcap:cap<=9223372036854775807:=by unfold maxLen at hcm; omega
   -- each element's cells and what they read as
   have each:∀i,i<len->∃c:List Value,w.cells? 0 (a.add (i*P.cellsOf E)) (P.cellsOf E)=some c/\∃y:α,Rep.rep 0 w.heap.size w c y:=by
    intro i hi;have hi':=hat i hi;rw[List.getElem?_eq_getElem (by omega)] at hi';cases hc:w.cells? 0 (a.add (i*P.cellsOf E)) (P.cellsOf E) with
    | none=>rw[hc] at hi'; cases hi'
    | some c =>
      rw[hc] at hi';simp only[Option.bind_some] at hi';exact⟨c,rfl,hE.op hi'⟩
   by_cases h0:len=0
   ·subst h0;exact⟨[],_,rfl,some a,cap,rfl,Nat.zero_le _,hcap,.inl rfl⟩
   ·have hs:P.cellsOf E=Rep.sz α:=by
     obtain⟨c,hc,y,hy⟩:=each 0 (by omega);have:=(World.cells?_some hc).2.1;rw[<- this]; exact Rep.len hy
    have hsp:0<P.cellsOf E:=by rw[hs]; exact Rep.pos
    obtain⟨b,o,rfl⟩:∃b o,a=⟨b,o,none⟩:=by
     obtain⟨c,hc,_⟩:=each 0 (by omega);have e0:a.add (0*P.cellsOf E)=a:=by simp[Addr.add]
     rw[e0] at hc;exact⟨a.block,a.off,(JN hsp hc).1⟩
    have hb:b<w.heap.size:=by
     obtain⟨c,hc,_⟩:=each 0 (by omega);have e0:(Addr.mk b o none).add (0*P.cellsOf E)=⟨b,o,none⟩:=by simp[Addr.add]
     rw[e0] at hc;have h1:=JN hsp hc;exact h1.2.2.lt (by rw[h1.2.1]; exact hsp)
    have build:∀k,k<=len->∃(cs:List Value) (xs:List α),xs.length=k/\At w b o cs/\All 0 w.heap.size w cs xs:=by
     intro k
     induction k with
     | zero=>exact fun _=>⟨[],[],rfl,Rw,rfl⟩
     | succ k ih =>
       intro hk;obtain⟨cs,xs,h1,h2,h3⟩:=ih (by omega);obtain⟨c,hc,y,hy⟩:=each k (by omega);have hadd:(Addr.mk b o none).add (k*P.cellsOf E)=⟨b,o+k*P.cellsOf E,none⟩:=by
        unfold Addr.add;split
        ·rename_i h0; rw[h0]; rfl
        ·rfl
       rw[hadd] at hc;have h4:=(JN hsp hc).2.2;refine⟨cs++c,xs++[y],by simp[h1],h2.app ?_,All.app (All.one hy) h3⟩;have:cs.length=k*P.cellsOf E:=by rw[h3.len,h1,hs]
       rw[this]; exact h4
    obtain⟨cs,xs,h1,h2,h3⟩:=build len (Nat.le_refl _);subst h1;exact⟨xs,_,rfl,some ⟨b,o,none⟩,cap,rfl,hlc,hcap,.inr ⟨b,o,cs,rfl,Nat.zero_le _,hb,h2,h3⟩⟩
theorem m0N{P:Program}{T:TypeId}{H:Type}{enc:TypeId×Value->H}{w:World}{sp:Nat->Bool}{b:Bool}{a:Nat}{cs:List Value}{x:DataW H×List MemPlace}{c:Array Field}
  (d:P.underlying T=some (.struct c)) (h:DataW.trod enc P w 0 sp b a T cs=some x) :
  cs.length=P.cellsOf T/\∀(i:Nat) (f:Field),c[i]?=some f->∃n y,DataW.trod enc P w 0 sp b n f.type ((cs.drop f.offset).take (P.cellsOf f.type))=some y:=by
 obtain⟨g,n,_,_,j,e,k⟩:=DataW.trod_struct d h
 grind
theorem f0F{H:Type}{enc:TypeId×Value->H}{P:Program}(c:laidOutB P=true){W g:World}(e:Below W.heap.size W g) :
  ∀{ts:List TypeId} {vs:List Value} {ds:List (DataW H)} {ps:List MemPlace},(ts.all fun t=>P.readableRec t&&decide (t<P.types.size))=true ->
   DataW.TrodAll enc P W 0 (fun _=>true) true ts vs ds ps->DataW.TrodAll enc P g 0 (fun b=>decide (b<W.heap.size)) true ts vs ds ps
 | [],[],[],_,_,h=>h
 | t :: ts,v :: vs,d :: ds,ps,hr,h=>by
   obtain⟨p,q,i,j,rfl⟩:=h;simp only[List.all_cons,ba,dq] at hr;have a:∀x∈p,x.block<W.heap.size:=by
    obtain⟨f,k⟩:=i;exact DataW.trod_lt f t _ _ k
   exact⟨p,q,Below.trod c hr.1.1 hr.1.2 i e a,f0F c e (by grind) j,rfl⟩
 | [],[],_ :: _,_,_,h=>h.elim
 | [],_ :: _,_,_,_,h=>h.elim
 | _ :: _,[],_,_,_,h=>h.elim
 | _ :: _,_ :: _,[],_,_,h=>h.elim
section
variable {P:Program} {n:Nat} {e:C4} {w w0:World} {Q:Exit->Act->World->Prop} {l:List Oper} {fuel:Nat} {listed:Array Bool}
 {d:Nat} {op:Op} {ty:TypeId} {pos:String} {after:Array Edge}
end
section
variable {P:Program} {n:Nat} {e:C4} {w:World} {Q:Exit->Act->World->Prop} {ops:Array Oper} {rest:List Oper}
 {d:Nat} {ty:TypeId} {pos:String} {after:Array Edge}
theorem u0q{a b:Int}(g:U0 a)(c:0<b) : -9223372036854775808<=a.tdiv b/\a.tdiv b<=9223372036854775807:=by
 unfold U0 at g;rcases Int.le_total 0 a with d | d
 ·have e:=Int.tdiv_nonneg d (Int.le_of_lt c);have h:(a.tdiv b).natAbs=a.natAbs / b.natAbs:=Int.natAbs_tdiv a b;have f:=Nat.div_le_self a.natAbs b.natAbs;omega
 ·have e:=Int.tdiv_nonneg (show 0 <= -a by omega) (Int.le_of_lt c);rw[Int.neg_tdiv] at e;have h:(a.tdiv b).natAbs=a.natAbs / b.natAbs:=Int.natAbs_tdiv a b;have f:=Nat.div_le_self a.natAbs b.natAbs;omega
theorem y0j{T T':TypeId}{x y:Operand}{a b:Int}(m:ev e x=some (.int .i64 a))(k:ev e y=some (.int .i64 b))(c:U0 a)(i:0<b) :
  H4 P n e (.binOp .quo T x y T') ty w (.int .i64 (a.tdiv b)) w:=by
 intro o l h d g f;have j:¬b=0:=by omega
 simp only[execOp,f.ev m,f.ev k];simp[eqGuard,binOp,Op.intDiv,j,IntWalk.i64_in _ (u0q c i)]
theorem y0i{T T':TypeId}{x y:Operand}{a b:Int}(k:ev e x=some (.int .i64 a))(i:ev e y=some (.int .i64 b))(h:b≠0) :
  H4 P n e (.binOp .rem T x y T') ty w (.int .i64 (a.tmod b)) w:=by
 intro l j f c g d;simp only[execOp,d.ev k,d.ev i];simp[eqGuard,binOp,Op.intDiv,h]
theorem y0k{T:TypeId}{x:Operand}{a:Int}(h:ev e x=some (.int .i64 a))(d : -9223372036854775808 <= -a /\ -a<=9223372036854775807) :
  H4 P n e (.unOp .neg T x) ty w (.int .i64 (-a)) w:=by
 intro j f c b g i;simp only[execOp,i.ev h];simp[Op.unary,Op.intArith,IntWalk.i64_in _ d]
theorem r0U{T T' E:TypeId}{x:Operand}{b o a m:Nat}{c:List Int}[q:AS P T E][k:Xx P E][f:NC P T'](t:ev e x=some (.slice (some ⟨b,o,none⟩) m a))(u:c.length=m)(l:At w b o (c.map (Value.int .u8))) :
  H4 P n e (.convert T T' x) ty w (.string (strOfNums c)) w:=by
 intro v r j d g s;have h:=run_convert_bytes_arg (P:=P) w T E q.h k.h b o m a c u (fun i hi=>l i _ (by grind)) T' f.h;simp only[execOp,s.ev t]
 simp_all
theorem q0d(z:List Value):∀k,(R3 k z).length=k*z.length
 | 0=>by simp[R3]
 | k+1=>by rw[R3,List.length_append,q0d z k,Nat.add_mul]; omega
theorem q0e(z:List Value):∀(k j:Nat),j<k*z.length->(R3 k z)[j]?=z[j % z.length]?
 | 0,j,h=>by omega
 | k+1,j,h=>by
   have b:j<k*z.length+z.length:=by rwa [Nat.add_mul,Nat.one_mul] at h
   rw[R3];rcases Nat.lt_or_ge j z.length with a | a
   ·rw[List.getElem?_append_left a,Nat.mod_eq_of_lt a]
   ·rw[List.getElem?_append_right a,q0e z k (j-z.length) (by omega)]
    grind[Nat.mod_eq_sub_mod]
theorem j0r(z:Array Value)(k:Nat)(hz:0<z.size):madeCells z (k*z.size)=(R3 k z.toList).toArray:=by
 apply Array.ext';apply List.ext_getElem?;intro j;unfold madeCells;by_cases b:j<k*z.size
 ·have a:j % z.size<z.size:=Nat.mod_lt _ hz;rw[show(R3 k z.toList).toArray.toList=R3 k z.toList by simp,q0e z.toList k j (by omega)]
  grind
 grind[List.getElem?_eq_none,q0d]
theorem m0B{T E s y:Nat}{z:Value}{x r:Operand}{m:Nat}{zs:List Value}[F:AS P T E][i:Info P E s y z](Y:ev e x=some (.int .i64 (m:Int)))(l:ev e r=some (.int .i64 (m:Int)))(hz:z.cells.toList=zs)(Q:CP zs s=true)(X:Nat.blt 0 s=true)
  (hm:m*y<=281474976710656) (G:m<=9223372036854775807) :
  H4 P n e (.makeSlice T x r) ty w (.slice (some ⟨w.heap.size,0,none⟩) m m) (w.alloc (.cells (R3 m zs).toArray E)):=by
 intro a H V j g q;obtain⟨b,c,u,W,v⟩:=i.get;subst hz;have k:=JJ Q;have d:z.cells.size=s:=by simpa using k
 have t:(b.bytes:Int)*(m:Int)<=281474976710656:=by
  have h:((b.bytes*m:Nat):Int)<=281474976710656:=by rw[W,Nat.mul_comm]; omega
  rwa [Int.natCast_mul] at h
 have h:=run_make (P:=P) w T E b z F.h c v .i64 .i64 m m (by omega) (Int.le_refl _) t (by omega);simp only[Int.toNat_natCast] at h;have f:0<z.cells.size:=by rw[d]; simpa using X
 have o:=j0r z.cells m f;rw[u] at h;rw[d] at o;rw[o] at h;simp only[execOp,q.ev Y,q.ev l]
 simp_all
variable {w0:World} {l:List Oper} {fuel:Nat} {listed:Array Bool}
end
structure WE(g:Option Nat)(w w':World):Prop where
 os:w'.os=w.os
 tape:w'.tape=w.tape
 output:w'.output=w.output
 size:w.heap.size<=w'.heap.size
 block:∀k,k<w.heap.size->g≠some k->w'.heap[k]?=w.heap[k]?
theorem WE.of_ext{g:Option Nat}{w w':World}(h:Ext w w'):WE g w w':=⟨h.os,h.tape,h.output,h.size,fun k a _=>h.block k a⟩
theorem WE.of_wr{b:Nat}{w w':World}(h:Wr b w w'):WE (some b) w w':=⟨h.os,h.tape,h.output,by rw[h.size]; exact Nat.le_refl _,fun k _ c=>h.block k (fun a=>c (by rw[a]))⟩
theorem WE.refl{g:Option Nat}(w:World):WE g w w:=⟨rfl,rfl,rfl,Nat.le_refl _,fun _ _ _=>rfl⟩
theorem WE.trans{g:Option Nat}{a b c:World}(h:WE g a b)(k:WE g b c):WE g a c :=
 ⟨k.os.trans h.os,k.tape.trans h.tape,k.output.trans h.output,Nat.le_trans h.size k.size,fun i hi d=>(k.block i (Nat.lt_of_lt_of_le hi h.size) d).trans (h.block i hi d)⟩
theorem WE.below{g:Option Nat}{w w':World}{B:Nat}(h:WE g w w')(c:∀k,g=some k->B<=k)(a:B<=w.heap.size):Below B w w' :=
 ⟨h.os,h.tape,h.output,h.size,fun k b=>h.block k (by omega) (fun e=>by grind)⟩
theorem WE.ext{w w':World}(h:WE none w w'):Ext w w':=h.below (fun _ e=>by cases e) (Nat.le_refl _)
theorem Blk.we{g:Option Nat}{w w':World}{b:Nat}{cs:List Value}{T:TypeId}(h:Blk w b cs T)(k:WE g w w')(a:∀i,g=some i->b≠i):Blk w' b cs T:=by
 unfold Blk; rw[k.block b h.lt (fun e=>a b e rfl)]; exact h
theorem At.we{g:Option Nat}{w w':World}{b o:Nat}{cs:List Value}(h:At w b o cs)(k:WE g w w')(c:∀i,g=some i->b≠i):At w' b o cs:=h.same (fun a=>k.block b a (fun e=>c b e rfl))
theorem SlR.we{a:Type}[Rep a]{g:Option Nat}{lo hi:Nat}{w w':World}{v:Value}{xs:List a}(h:SlR lo hi w v xs)(k:WE g w w')(d:∀i,g=some i->i<lo∨hi<=i):SlR lo hi w' v xs :=
 h.same (fun i f c b=>k.block i b (fun e=>by grind))
theorem Rep.rep.we{a:Type}[Rep a]{g:Option Nat}{lo hi:Nat}{w w':World}{cs:List Value}{x:a}(h:Rep.rep lo hi w cs x)(k:WE g w w')(d:∀i,g=some i->i<lo∨hi<=i):Rep.rep lo hi w' cs x :=
 Rep.same h (fun i f c b=>k.block i b (fun e=>by grind))
theorem Rep.rep.up{a:Type}[Rep a]{lo hi:Nat}{w w':World}{cs:List Value}{x:a}(h:Rep.rep lo hi w cs x)(k:Ext w w'):Rep.rep lo hi w' cs x:=Rep.up h k
theorem Rep.rep.wide{c:Type}[Rep c]{lo hi a b:Nat}{w:World}{cs:List Value}{x:c}(h:Rep.rep lo hi w cs x)(e:a<=lo)(d:hi<=b):Rep.rep a b w cs x:=Rep.wide h e d
def Own(w:World)(E:TypeId)(s:Nat)(g:Option Nat)(v:Value)(n:Nat)(cs:List Value):Prop :=
 (g=none/\n=0/\cs=[]/\∃p,v=.slice p 0 0) ∨
 ∃b o cap cur,g=some b/\v=.slice (some ⟨b,o,none⟩) n cap/\w.heap[b]?=some (.cells cur E (0,0))/\n<=cap/\cap<=maxLen/\cur.size=o+cap*s/\(cur.toList.drop o).take (n*s)=cs
theorem Own.nil{w:World}{E s:Nat}{p:Option Addr}:Own w E s none (.slice p 0 0) 0 []:=.inl ⟨rfl,rfl,rfl,p,rfl⟩
theorem Own.len{w:World}{E:TypeId}{s:Nat}{g:Option Nat}{v:Value}{n:Nat}{cs:List Value}(h:Own w E s g v n cs):∃p c,v=.slice p n c:=by
 rcases h with ⟨_,rfl,_,p,rfl⟩ | ⟨b,o,cap,cur,_,rfl,_⟩
 ·grind
 grind
theorem Own.clen{w:World}{E:TypeId}{s:Nat}{g:Option Nat}{v:Value}{n:Nat}{cs:List Value}(h:Own w E s g v n cs):cs.length=n*s:=by
 rcases h with ⟨_,rfl,rfl,_⟩ | ⟨b,o,cap,cur,_,rfl,_,h2,_,h4,rfl⟩
 ·simp
 simp_all
theorem Own.lt{w:World}{E:TypeId}{s:Nat}{g:Option Nat}{v:Value}{n:Nat}{cs:List Value}(h:Own w E s g v n cs):∀k,g=some k->k<w.heap.size:=by
 intro k a;rcases h with ⟨rfl,_⟩ | ⟨b,o,cap,cur,rfl,rfl,h1,_⟩
 ·cases a
 grind
theorem Own.we{g':Option Nat}{w w':World}{E:TypeId}{s:Nat}{g:Option Nat}{v:Value}{n:Nat}{cs:List Value}(h:Own w E s g v n cs)(k:WE g' w w')(c:∀i,g'=some i->g≠some i):Own w' E s g v n cs:=by
 have a:=h.lt;rcases h with h | ⟨b,o,cap,cur,rfl,rfl,h1,h2⟩
 ·exact .inl h
 ·refine .inr ⟨b,o,cap,cur,rfl,rfl,?_,h2⟩;rw[k.block b (a b rfl) (fun e=>c b e rfl)]; exact h1
theorem Own.up{w w':World}{E:TypeId}{s:Nat}{g:Option Nat}{v:Value}{n:Nat}{cs:List Value}(h:Own w E s g v n cs)(k:Ext w w'):Own w' E s g v n cs:=h.we (g':=none) (WE.of_ext k) (fun _ e=>by cases e)
theorem Own.at{w:World}{E:TypeId}{s:Nat}{b n:Nat}{v:Value}{cs:List Value}(h:Own w E s (some b) v n cs):∃o cap,v=.slice (some ⟨b,o,none⟩) n cap/\At w b o cs:=by
 rcases h with ⟨h,_⟩ | ⟨b',o,cap,cur,hb,rfl,h1,h2,h3,h4,rfl⟩
 ·cases h
 ·cases hb;refine⟨o,cap,rfl,fun i u a=>?_⟩;unfold World.cell?
  grind
section
variable {P:Program} {n:Nat} {e:C4} {w:World} {Q:Exit->Act->World->Prop} {ops:Array Oper} {rest:List Oper}
 {d:Nat} {ty:TypeId} {pos:String} {after:Array Edge}
theorem u0P{T E s y:Nat}{z:Value}[X:AS P T E][i:Info P E s y z](_:0<s)(hz:z.cells.size=s){g:Option Nat}{v:Value}{a m c F G:Nat}{p2:Option Addr}{cs d:List Value}(h:Own w E s g v a cs)
  (hp:m=0∨p2=some ⟨F,G,none⟩) (hl:d.length=m*s) (hA:At w F G d) (h1:∀u∈d,u.oneCell'=true) (aH:a+m<=9223372036854775807) (hb:(a+m)*y<=140737488355328) :
  ∃v' w' g',(Builtin.append_ #[T,T] ty #[v,.slice p2 m c]).run P w=.ok v' w'/\Own w' E s g' v' (a+m) (cs++d)/\WE g w w'/\(g'=g∨g'=some w.heap.size):=by
 obtain⟨t,l,h2,h3,h4⟩:=i.get;by_cases hm:m=0
 ·subst hm;have hn:d=[]:=List.eq_nil_of_length_eq_zero (by omega);subst hn;have Y:∃p f,v=.slice p a f/\a<=f:=by
   rcases h with ⟨_,rfl,_,p,rfl⟩ | ⟨b,o,f,cur,_,rfl,_,h2,_⟩
   ·grind
   ·grind
  obtain⟨p,f,rfl,aD⟩:=Y;refine⟨_,w,g,?_,by simpa using h,WE.refl _,.inl rfl⟩;cases p <;> cases p2 <;> simp[Builtin.append_,run_underlying X.h,sizeOf,typeInfo,l,Builtin.lenOf,Builtin.firstCells,loadCells,loadCellsFrom,storeCells,aD]
 ·rcases hp with hp | rfl
  ·exact(hm hp).elim
  have n:∀j u,d[j]?=some u->w.cell? ((⟨F,G,none⟩:Addr).add j)=some u:=fun j u hj=>by
   have x:(Addr.mk F G none).add j=⟨F,G+j,none⟩:=by unfold Addr.add; split <;> simp_all
   rw[x]; exact hA j u hj
  have aA:m*t.bytes<=140737488355328:=by
   rw[h3];exact Nat.le_trans (Nat.mul_le_mul_right y (Nat.le_add_left m a)) hb
  have V:∀q,Own (w.drew.alloc (.cells (cs.toArray++d.toArray++Builtin.zeroCells z.cells (grownCap w (a+m) q E-(a+m))) E)) E s (some w.heap.size) (.slice (some ⟨w.heap.size,0,none⟩) (a+m) (grownCap w (a+m) q E)) (a+m) (cs++d):=fun q=>by
   have aF:=grownCap_ge w (a+m) q E;have Q:=h.clen;refine .inr ⟨w.heap.size,0,_,_,rfl,rfl,_root_.Go.heap_alloc_new w.drew _,aF,grownCap_le_maxLen w (a+m) q E (by grind[maxLen]),?_,?_⟩
   ·simp only[Array.size_append,List.size_toArray,size_zeroCells,hz,hl,Q,<- Nat.add_mul,Nat.zero_add]
    grind
   grind[Array.toList_append,List.length_append,Nat.add_mul,List.take_left]
  have aC:∀(g:Option Nat) q,WE g w (w.drew.alloc (.cells (cs.toArray++d.toArray++Builtin.zeroCells z.cells (grownCap w (a+m) q E-(a+m))) E)):=fun g q=>⟨rfl,rfl,rfl,by simp,fun k hk _=>_root_.Go.heap_alloc_old w.drew _ hk⟩;have Q:=h.clen;rcases h with ⟨rfl,rfl,rfl,p,rfl⟩ | ⟨b,o,f,cur,rfl,rfl,g1,g2,g3,g4,g5⟩
  ·have g:=V 0;have hw:=aC none 0;simp only[Nat.zero_add,List.nil_append,Array.empty_append] at g hw;cases p with
   | none =>
     have H:=run_append_nil (P:=P) w T ty E t z X.h l h4 ⟨F,G,none⟩ m c d (by grind) n (by omega) (by omega) (by omega);exact⟨_,_,_,H,by simpa using g,hw,.inr rfl⟩
   | some a0 =>
     have H:=run_append_grow (P:=P) w T ty E t z X.h l h4 a0 0 0 [] (by simp) (fun j v hj=>by grind) ⟨F,G,none⟩ m c d (by grind) n (by omega) (by omega) (growslice_fits (by omega) (by grind));simp only[Nat.zero_add,Array.empty_append] at H;exact⟨_,_,_,H,by simpa using g,hw,.inr rfl⟩
  ·by_cases r:a+m<=f
   ·have aG:o+a*s+d.length<=cur.size:=by
     have:=Nat.mul_le_mul_right s r;rw[Nat.add_mul] at this;rw[hl,g4]; omega
    have hf:=run_firstCells_some (P:=P) w t.size m ⟨F,G,none⟩ m c d (by grind) n;have W:=run_storeCells_at P b (o+a*s) E d 0 cur w g1 (by omega) h1;simp only[Nat.add_zero] at W;have H:(Builtin.append_ #[T,T] ty #[.slice (some ⟨b,o,none⟩) a f,.slice (some ⟨F,G,none⟩) m c]).run P w=.ok (.slice (some ⟨b,o,none⟩) (a+m) f) (w.setRow b (cur.toList.take (o+a*s)++d++cur.toList.drop (o+a*s+d.length)).toArray):=by
     rw[h2] at hf;simp[Builtin.append_,run_underlying X.h,sizeOf,typeInfo,l,Builtin.lenOf,r,hf,Addr.add_lit,W,h2]
    refine⟨_,_,some b,H,.inr ⟨b,o,f,_,rfl,rfl,setRow_heap w b cur _ E _ g1,r,g3,?_,?_⟩,⟨rfl,rfl,rfl,by simp[World.setRow],fun k _ hk=>Xu w b k _ (fun e=>hk (by rw[e]))⟩,.inl rfl⟩
    ·simp only[List.size_toArray,List.length_append,List.length_take,List.length_drop,Array.length_toList];omega
    ·show(List.drop o (cur.toList.take (o+a*s)++d++cur.toList.drop (o+a*s+d.length))).take ((a+m)*s)=cs++d;have e1:(cur.toList.take (o+a*s)).length=o+a*s:=by rw[List.length_take,Array.length_toList]; omega
     rw[List.append_assoc,List.drop_append_of_le_length (by omega),List.drop_take,show o+a*s-o=a*s by omega,g5,<- List.append_assoc];rw[show(a+m)*s=(cs++d).length by rw[List.length_append,Q,hl,Nat.add_mul]];exact List.take_left
   ·have Vx:∀j u,cs[j]?=some u->w.cell? ((⟨b,o,none⟩:Addr).add j)=some u:=fun j u hu=>by
     have x:(Addr.mk b o none).add j=⟨b,o+j,none⟩:=by unfold Addr.add; split <;> simp_all
     rw[x];obtain⟨o0,c0,e0,aB⟩:=Own.at (.inr ⟨b,o,f,cur,rfl,rfl,g1,g2,g3,g4,g5⟩:Own w E s (some b) (.slice (some ⟨b,o,none⟩) a f) a cs);cases e0;exact aB j u hu
    have H:=run_append_grow (P:=P) w T ty E t z X.h l h4 ⟨b,o,none⟩ a f cs (by grind) Vx ⟨F,G,none⟩ m c d (by grind) n (by omega) (by omega) (growslice_fits (by omega) (by grind))
    grind
theorem k0S{x:Operand}{c:Addr}(h:ev e x=some (.pointer (some c))):H4 P n e (.nilCheck x) ty w (.pointer (some c)) w:=by
 intro a f d b g i;simp only[execOp,i.ev h];simp
end
end Go.Proofs.Sv
end
section
namespace Go.Proofs.Xv
open Go Go.RowKit Go.Proofs.Sv
inductive Ty
 | int (k:IntKind) | bool | str | sl (e:Ty) | pt (e:Ty) | pr (a b:Ty)
 deriving DecidableEq
@[reducible] def j6:Ty->Type
  | .int _=>Int
  | .bool=>Bool
  | .str=>ByteArray
  | .sl e=>List (j6 e)
  | .pt e=>j6 e
  | .pr a b=>j6 a×j6 b
def sz:Ty->Nat
 | .pr a b=>sz a+sz b
 | _=>1
theorem Rx:∀t,0<sz t
 | .int _ | .bool | .str | .sl _ | .pt _=>Nat.one_pos
 | .pr a b=>by have:=Rx a; grind[sz]
def a6:(t:Ty)->j6 t
 | .int _=>(0:Int)
 | .bool=>false
 | .str=>(⟨#[]⟩:ByteArray)
 | .sl _=>[]
 | .pt e=>a6 e
 | .pr a b=>(a6 a,a6 b)
def lo:IntKind->Int
 | .i8 => -128 | .i16 => -32768 | .i32 => -2147483648 | .i64 => -9223372036854775808 | _=>0
def hi:IntKind->Int
 | .i8=>127 | .i16=>32767 | .i32=>2147483647 | .i64=>9223372036854775807 | .u8=>255 | .u16=>65535 | .u32=>4294967295 | .u64=>18446744073709551615
def wf:(t:Ty)->j6 t->Prop
 | .int k,x=>lo k<=x/\x<=hi k
 | .bool,_=>True
 | .str,s=>s.size<=9223372036854775807
 | .sl e,xs=>xs.length<=9223372036854775807/\∀x∈xs,wf e x
 | .pt e,x=>wf e x
 | .pr a b,x=>wf a x.1/\wf b x.2
def UF(w:World)(k:Nat):Prop:=∃c T,w.heap[k]?=some (.cells c T (0,0))
theorem UF.lt{w:World}{k:Nat}(h:UF w k):k<w.heap.size:=by
 obtain⟨c,T,h⟩:=h
 grind
theorem UF.same{w w':World}{k:Nat}(h:UF w k)(e:w'.heap[k]?=w.heap[k]?):UF w' k:=by
 obtain⟨c,T,h⟩:=h;exact⟨c,T,e.trans h⟩
def UFg(w:World)(n k:Nat):Prop:=k<w.heap.size/\(n<=k->UF w k)
theorem UFg.lt{w:World}{n k:Nat}(h:UFg w n k):k<w.heap.size:=h.1
theorem UFg.same{w w':World}{n k:Nat}(h:UFg w n k)(b:w.heap.size<=w'.heap.size)(e:w'.heap[k]?=w.heap[k]?):UFg w' n k:=⟨Nat.lt_of_lt_of_le h.1 b,fun a=>(h.2 a).same e⟩
theorem UF.g{w:World}{n k:Nat}(h:UF w k):UFg w n k:=⟨h.lt,fun _=>h⟩
theorem FT{w:World}{E s:Nat}{b:Nat}{v:Value}{n:Nat}{cs:List Value}(h:Own w E s (some b) v n cs):UF w b:=by
 rcases h with ⟨h,_⟩ | ⟨b',o,cap,cur,hb,_,h,_⟩
 ·cases h
 ·cases hb; exact⟨_,_,h⟩
theorem Xy{w:World}{b:Nat}{cs:List Value}{T:TypeId}(h:Blk w b cs T):UF w b:=⟨_,_,h⟩
def AllR{α:Type}(R:List Value->α->Prop):List Value->List α->Prop
 | cs,[]=>cs=[]
 | cs,x :: r=>∃c d,cs=c++d/\R c x/\AllR R d r
def RT(K:Nat->Prop)(w:World):(t:Ty)->List Value->j6 t->Prop
 | .int k,cs,x=>cs=[.int k x]/\(lo k<=x/\x<=hi k)
 | .bool,cs,x=>cs=[.bool x]
 | .str,cs,s=>cs=[.string s]/\s.size<=9223372036854775807
 | .sl e,cs,xs=>∃p cap,cs=[.slice p xs.length cap]/\xs.length<=cap/\cap<=9223372036854775807 /\
    (xs=[]∨∃b o ds,p=some ⟨b,o,none⟩/\K b/\At w b o ds/\AllR (RT K w e) ds xs)
 | .pt e,cs,x=>∃b o ds,cs=[.pointer (some ⟨b,o,none⟩)]/\K b/\At w b o ds/\RT K w e ds x
 | .pr a b,cs,x=>∃c d,cs=c++d/\RT K w a c x.1/\RT K w b d x.2
theorem AllR.mapR{a:Type}{R R':List Value->a->Prop}(h:∀c x,R c x->R' c x):∀{cs:List Value} {xs:List a},AllR R cs xs->AllR R' cs xs
 | _,[],k=>k
 | _,_ :: _,⟨c,d,e,k1,k2⟩=>⟨c,d,e,h _ _ k1,AllR.mapR h k2⟩
theorem AllR.mem{a:Type}{R:List Value->a->Prop}:∀{cs:List Value} {xs:List a},AllR R cs xs->∀x∈xs,∃c,R c x
 | _,[],_,x,hx=>by cases hx
 | _,_ :: _,⟨c,d,e,k1,k2⟩,x,hx=>by
   rcases List.mem_cons.1 hx with rfl | hx
   ·grind
   ·exact AllR.mem k2 x hx
theorem AllR.len{b:Type}{R:List Value->b->Prop}{s:Nat}(a:∀c x,R c x->c.length=s):∀{cs:List Value} {xs:List b},AllR R cs xs->cs.length=xs.length*s
 | cs,[],h=>by rw[show cs=[] from h]; simp
 | cs,x :: r,⟨c,d,e,k1,k2⟩=>by
   subst e;rw[List.length_append,a _ _ k1,AllR.len a k2,List.length_cons,Nat.add_mul]; omega
theorem AllR.app{a:Type}{R:List Value->a->Prop}{ds:List Value}{b:List a}(k:AllR R ds b):∀{cs:List Value} {xs:List a},AllR R cs xs->AllR R (cs++ds) (xs++b)
 | cs,[],h=>by rw[show cs=[] from h]; exact k
 | _,_ :: _,⟨c,d,e,h1,h2⟩=>⟨c,d++ds,by rw[e]; simp,h1,AllR.app k h2⟩
theorem AllR.one{a:Type}{R:List Value->a->Prop}{c:List Value}{x:a}(h:R c x):AllR R c [x]:=⟨c,[],by simp,h,rfl⟩
theorem AllR.get{a:Type}{R:List Value->a->Prop}{s:Nat}(b:∀c x,R c x->c.length=s):∀{cs:List Value} {xs:List a} {i:Nat} (_:AllR R cs xs) (hi:i<xs.length),
  ∃pre c post,cs=pre++c++post/\pre.length=i*s/\R c xs[i]
 | _,x :: r,0,⟨c,d,e,h1,h2⟩,_=>⟨[],c,d,by simp[e],by simp,h1⟩
 | _,x :: r,i+1,⟨c,d,e,h1,h2⟩,hi=>by
   obtain⟨pre,h,post,f,j,g⟩:=AllR.get b h2 (i:=i) (by grind)
   grind
theorem AllR.set{b:Type}{R:List Value->b->Prop}{s:Nat}(h:∀c x,R c x->c.length=s){a:List Value}{y:b}(g:R a y):∀{cs:List Value} {xs:List b} {i:Nat} (_:AllR R cs xs) (_:i<xs.length),
  AllR R (cs.take (i*s)++a++cs.drop ((i+1)*s)) (xs.set i y)
 | _,x :: r,0,⟨c,d,e,h1,h2⟩,_=>by
   subst e;refine⟨a,d,?_,g,h2⟩
   grind
 | _,x :: r,i+1,⟨c,d,e,h1,h2⟩,hi=>by
   subst e;have f:=h _ _ h1;refine⟨c,d.take (i*s)++a++d.drop ((i+1)*s),?_,h1,AllR.set h g h2 (by simpa using hi)⟩;have k:(i+1)*s=c.length+i*s:=by rw[f,Nat.add_mul]; omega
   have j:(i+1+1)*s=c.length+(i+1)*s:=by rw[f,Nat.add_mul (i+1)]; omega
   rw[j,List.drop_length_add_append,k,List.take_length_add_append];simp
theorem RT.len{K:Nat->Prop}{w:World}:∀{t:Ty} {cs:List Value} {x:j6 t},RT K w t cs x->cs.length=sz t
 | .int _,_,_,h=>by rw[h.1]; rfl
 | .bool,_,_,h=>by rw[show _=_ from h]; rfl
 | .str,_,_,h=>by rw[h.1]; rfl
 | .sl _,_,_,⟨_,_,h,_⟩=>by rw[h]; rfl
 | .pt _,_,_,⟨_,_,_,h,_⟩=>by rw[h]; rfl
 | .pr a b,_,_,⟨c,d,h,h1,h2⟩=>by rw[h,List.length_append,RT.len h1,RT.len h2]; rfl
theorem RT.same{K K':Nat->Prop}{w w':World}(g:∀k,K k->k<w.heap.size->K' k/\w'.heap[k]?=w.heap[k]?):∀{t:Ty} {cs:List Value} {x:j6 t},RT K w t cs x->RT K' w' t cs x
 | .int _,_,_,h=>h
 | .bool,_,_,h=>h
 | .str,_,_,h=>h
 | .sl e,_,xs,⟨p,cap,h1,h2,h3,i⟩=>by
   refine⟨p,cap,h1,h2,h3,?_⟩;rcases i with i | ⟨b,o,ds,hp,hb,hat,hall⟩
   ·grind
   ·rcases Nat.eq_zero_or_pos ds.length with hz | hz
    ·left;have:=hall.len (fun c x h=>RT.len h)
     grind[Nat.mul_eq_zero,List.eq_nil_of_length_eq_zero,Rx]
    ·have f:=hat.lt hz;exact .inr ⟨b,o,ds,hp,(g b hb f).1,hat.same (fun _=>(g b hb f).2),hall.mapR (fun c x h=>RT.same g h)⟩
 | .pt e,_,x,⟨b,o,ds,h1,hb,hat,h2⟩=>by
   have hz:0<ds.length:=by rw[RT.len h2]; exact Rx e
   have f:=hat.lt hz;exact⟨b,o,ds,h1,(g b hb f).1,hat.same (fun _=>(g b hb f).2),RT.same g h2⟩
 | .pr a b,_,x,⟨c,d,h,h1,h2⟩=>⟨c,d,h,RT.same g h1,RT.same g h2⟩
def D4:Ty->Bool
 | .int _ | .bool | .str=>true
 | .sl _ | .pt _=>false
 | .pr a b=>D4 a&&D4 b
theorem RT.free{K K':Nat->Prop}{w w':World}:∀{t:Ty} {cs:List Value} {x:j6 t},D4 t=true->RT K w t cs x->RT K' w' t cs x
 | .int _,_,_,_,h=>h
 | .bool,_,_,_,h=>h
 | .str,_,_,_,h=>h
 | .pr a b,_,x,hk,⟨c,d,h,h1,h2⟩=>by
   simp only[D4,ba] at hk;exact⟨c,d,h,RT.free hk.1 h1,RT.free hk.2 h2⟩
theorem RT.up{K K':Nat->Prop}{w:World}{t:Ty}{cs:List Value}{x:j6 t}(h:RT K w t cs x)(a:∀k,K k->K' k):RT K' w t cs x:=RT.same (fun k b _=>⟨a k b,rfl⟩) h
theorem RT.wf{K:Nat->Prop}{w:World}:∀{t:Ty} {cs:List Value} {x:j6 t},RT K w t cs x->Xv.wf t x
 | .int _,_,_,h=>h.2
 | .bool,_,_,_=>trivial
 | .str,_,_,h=>h.2
 | .sl e,_,xs,⟨p,cap,h1,h2,h3,h4⟩=>by
   refine⟨by omega,fun x f=>?_⟩;rcases h4 with rfl | ⟨b,o,ds,hp,hb,hat,hall⟩
   ·cases f
   ·obtain⟨c,g⟩:=hall.mem x f;exact RT.wf g
 | .pt e,_,x,⟨b,o,ds,h1,hb,hat,h2⟩=>RT.wf (t:=e) h2
 | .pr a b,_,x,⟨c,d,h,h1,h2⟩=>⟨RT.wf h1,RT.wf h2⟩
theorem RT.one{K:Nat->Prop}{w:World}:∀{t:Ty} {cs:List Value} {x:j6 t},RT K w t cs x->∀u∈cs,u.oneCell'=true
 | .int _,_,_,h,u,e=>by rw[h.1] at e; cases List.mem_singleton.1 e; rfl
 | .bool,_,_,h,u,e=>by rw[show _=_ from h] at e; cases List.mem_singleton.1 e; rfl
 | .str,_,_,h,u,e=>by rw[h.1] at e; cases List.mem_singleton.1 e; rfl
 | .sl _,_,_,⟨_,_,h,_⟩,u,e=>by rw[h] at e; cases List.mem_singleton.1 e; rfl
 | .pt _,_,_,⟨_,_,_,h,_⟩,u,e=>by rw[h] at e; cases List.mem_singleton.1 e; rfl
 | .pr a b,_,_,⟨c,d,h,h1,h2⟩,u,e=>by
   rw[h] at e;rcases List.mem_append.1 e with e | e
   ·exact RT.one h1 u e
   ·exact RT.one h2 u e
theorem RT.get{K:Nat->Prop}{w:World}{e:Ty}{p:Option Addr}{n a:Nat}{xs:List (j6 e)}(h:RT K w (.sl e) [.slice p n a] xs){i:Nat}(hi:i<xs.length) :
  n=xs.length/\∃b o c,p=some ⟨b,o,none⟩/\K b/\At w b (o+i*sz e) c/\RT K w e c xs[i]:=by
 obtain⟨r,g,j,q,s,f⟩:=h;simp only[List.cons.injEq,Value.slice.injEq,and_true] at j;obtain⟨rfl,rfl,rfl⟩:=j;refine⟨rfl,?_⟩;rcases f with f | ⟨b,o,ds,hp,hb,hat,hall⟩
 ·grind
 ·obtain⟨m,c,d,rfl,l,k⟩:=hall.get (fun c x h=>RT.len h) hi;refine⟨b,o,c,hp,hb,?_,k⟩;rw[<- l]; exact hat.mid
inductive AV
 | v (x:Value)
 | d (fr:Bool) (t:Ty) (x:j6 t)
 | agg (xs:List AV)
 | tup (xs:List AV)
 | ptr (id off:Nat)
 | pel (id ver k s off:Nat)
 | os (id ver:Nat)
 | fn (f:FuncId) (caps:List AV)
 | ow (T:TypeId) (fr:Bool) (t:Ty) (xs:List (j6 t))
 | gel (id k:Nat)
 | og (id:Nat)
 | ob (T:TypeId) (cs:List AV)
inductive Ob
 | box (T:TypeId) (cs:List AV)
 | arr (T:TypeId) (fr:Bool) (t:Ty) (xs:List (j6 t)) (ver:Nat)
 | grd (T Te:TypeId) (fr:Bool) (t:Ty) (xs:List (List (j6 t))) (hole:Option Nat)
def b9{β:Type}:List (Nat×β)->Nat->Option β
 | [],_=>none
 | (d,v) :: e,t=>bif Nat.beq d t then some v else b9 e t
theorem lK{a:Type}(d:Nat)(v:a)(e:List (Nat×a))(t:Nat):b9 ((d,v) :: e) t=if d=t then some v else b9 e t:=by
 show(bif Nat.beq d t then some v else b9 e t)=_
 simp_all
structure Gh where
 ρ:Nat->Value
 γ:Nat->Option Nat
 K:Nat->Prop
 w:World
 o:List (Nat×Ob)
 B:Nat
 δ:Nat->Nat->Prop
def rg(G:Gh)(fr:Bool)(k:Nat):Prop:=G.K k/\(fr=true->G.B<=k)
mutual
def AVR(G:Gh):AV->Value->Prop
 | .v x,u=>u=x
 | .d fr t x,u=>RT (rg G fr) G.w t [u] x
 | .agg xs,u=>∃us:List Value,u=.agg us.toArray/\AVRs G xs us
 | .tup xs,u=>∃us:List Value,u=.tuple us.toArray/\AVRs G xs us
 | .ptr id off,u=>(∃T cs,b9 G.o id=some (.box T cs))/\∃b,G.ρ id=.pointer (some ⟨b,0,none⟩)/\u=.pointer (some ⟨b,off,none⟩)
 | .pel id ver k s off,u=>u.oneCell'=true/\∃T fr t xs ver',b9 G.o id=some (.arr T fr t xs ver')/\ver<=ver'/\(ver=ver'->∃b o n c,G.ρ id=.slice (some ⟨b,o,none⟩) n c/\u=.pointer (some ⟨b,o+(k*s+off),none⟩))
 | .os id ver,u=>u.oneCell'=true/\∃T fr t xs ver',b9 G.o id=some (.arr T fr t xs ver')/\ver<=ver'/\(ver=ver'->u=G.ρ id)
 | .fn f caps,u=>∃us:List Value,u=.func (.func f) #[] us.toArray/\AVRs G caps us
 | .ow ..,_=>False
 | .ob ..,_=>False
 | .gel id k,u=>(∃T Te fr t xs hole,b9 G.o id=some (.grd T Te fr t xs hole))/\∃b o n c,G.ρ id=.slice (some ⟨b,o,none⟩) n c/\u=.pointer (some ⟨b,o+k,none⟩)
 | .og id,u=>u.oneCell'=true/\(∃T Te fr t xs hole,b9 G.o id=some (.grd T Te fr t xs hole))/\u=G.ρ id
def AVRs(G:Gh):List AV->List Value->Prop
 | [],us=>us=[]
 | a :: r,us=>∃u us',us=u :: us'/\AVR G a u/\AVRs G r us'
end
theorem AVRs.len{G:Gh}:∀{as:List AV} {us:List Value},AVRs G as us->us.length=as.length
 | [],us,h=>by rw[show us=[] from h]; rfl
 | a :: r,us,⟨u,us',e,_,h⟩=>by rw[e]; simp[AVRs.len h]
theorem AVRs.app{G:Gh}{b:List AV}{vs:List Value}(k:AVRs G b vs):∀{as:List AV} {us:List Value},AVRs G as us->AVRs G (as++b) (us++vs)
 | [],us,h=>by rw[show us=[] from h]; exact k
 | a :: r,us,⟨u,us',e,h1,h2⟩=>⟨u,us'++vs,by rw[e]; rfl,h1,AVRs.app k h2⟩
theorem AVRs.split{G:Gh}{b:List AV}:∀{as:List AV} {us:List Value},AVRs G (as++b) us->∃us1 us2,us=us1++us2/\AVRs G as us1/\AVRs G b us2
 | [],us,h=>⟨[],us,rfl,rfl,h⟩
 | a :: r,us,⟨u,us',e,h1,h2⟩=>by
   obtain⟨c,f,i,g,d⟩:=AVRs.split h2;exact⟨u :: c,f,by grind,⟨u,c,rfl,h1,g⟩,d⟩
theorem AVRs.take{G:Gh}{a:List AV}{us:List Value}(h:AVRs G a us)(k:Nat):AVRs G (a.take k) (us.take k)/\AVRs G (a.drop k) (us.drop k):=by
 rw[<- List.take_append_drop k a] at h;obtain⟨g,i,e,d,c⟩:=h.split;have f:=d.len;have b:=c.len
 grind[List.length_take,List.drop_eq_nil_of_le,List.take_of_length_le]
theorem AVRs.get{G:Gh}:∀{as:List AV} {us:List Value} {i:Nat} {a:AV},AVRs G as us->as[i]?=some a->∃u,us[i]?=some u/\AVR G a u
 | a :: r,us,0,x,⟨u,us',e,h1,h2⟩,hx=>by
   grind
 | a :: r,us,i+1,x,⟨u,us',e,h1,h2⟩,hx=>by
   obtain⟨v,c,b⟩:=AVRs.get h2 (i:=i) (by simpa using hx)
   grind
def Ry:AV->Bool
 | .v x=>x.oneCell'
 | .d _ t _=>match t with | .pr _ _=>false | _=>true
 | .agg _ | .tup _ | .ow .. | .ob ..=>false
 | _=>true
theorem AVR.one{G:Gh}:∀{a:AV} {u:Value},AVR G a u->Ry a=true->u.oneCell'=true
 | .v x,u,h,ho=>by rw[show u=x from h]; exact ho
 | .d _ t x,u,h,_=>RT.one h u (List.mem_singleton.2 rfl)
 | .ptr _ _,u,⟨_,_,_,h⟩,_=>by rw[h]; rfl
 | .pel ..,u,h,_=>h.1
 | .os ..,u,h,_=>h.1
 | .fn ..,u,⟨_,h,_⟩,_=>by rw[h]; rfl
 | .gel ..,u,⟨_,_,_,_,_,_,h⟩,_=>by rw[h]; rfl
 | .og ..,u,h,_=>h.1
 | .ow ..,_,h,_=>h.elim
 | .ob ..,_,h,_=>h.elim
structure Rows(G:Gh)(id:Nat)(Te:TypeId)(fr:Bool)(t:Ty)(xs:List (List (j6 t)))(hole:Option Nat)(vs:List Value)(bs:Nat->Option Nat):Prop where
 len:vs.length=xs.length
 blk:∀b,G.δ id b↔∃k,k<xs.length/\hole≠some k/\bs k=some b
 inj:∀k k' b,k<xs.length->k'<xs.length->hole≠some k->hole≠some k'->bs k=some b->bs k'=some b->k=k'
 row:∀k,k<xs.length->hole≠some k->∃cs,Own G.w Te (sz t) (bs k) (vs.getD k (.bool false)) (xs.getD k []).length cs/\AllR (RT (rg G fr) G.w t) cs (xs.getD k [])/\∀b,bs k=some b->G.B<=b
 one:∀v∈vs,v.oneCell'=true
def ObR(G:Gh)(id:Nat):Ob->Prop
 | .box T cs=>∃b us,G.γ id=some b/\G.ρ id=.pointer (some ⟨b,0,none⟩)/\Blk G.w b us T/\AVRs G cs us
 | .arr T fr t xs _=>∃cs,Own G.w T (sz t) (G.γ id) (G.ρ id) xs.length cs/\AllR (RT (rg G fr) G.w t) cs xs/\∀b,G.γ id=some b->G.B<=b
 | .grd T Te fr t xs hole=>∃vs bs,Own G.w T 1 (G.γ id) (G.ρ id) xs.length vs/\Rows G id Te fr t xs hole vs bs/\∀b,G.γ id=some b->G.B<=b
def I2:Option Ob->Bool
 | some (.grd ..)=>true
 | _=>false
structure Cx where
 P:Program
 n:Nat
 w0:World
 io:Nat->Prop
 K0:Nat->Prop
 pin:Nat->Value->Prop
 base:Nat
structure Sat(X:Cx)(G:Gh):Prop where
 base:G.B=X.base/\X.base<=X.w0.heap.size
 os:G.w.os=X.w0.os
 tape:G.w.tape=X.w0.tape
 output:G.w.output=X.w0.output
 size:X.w0.heap.size<=G.w.heap.size
 block:∀k,k<X.w0.heap.size->¬X.io k->G.w.heap[k]?=X.w0.heap[k]?
 obs:∀id o,b9 G.o id=some o->ObR G id o
 inj:∀id id' o o' b,b9 G.o id=some o->b9 G.o id'=some o'->G.γ id=some b->G.γ id'=some b->id=id'
 imm:∀id o b,b9 G.o id=some o->G.γ id=some b->¬G.K b
 own:∀id o b,b9 G.o id=some o->G.γ id=some b->X.w0.heap.size<=b∨X.io b
 klt:∀k,G.K k->UFg G.w X.w0.heap.size k
 kfrom:∀k,G.K k->X.K0 k∨X.base<=k
 sep:∀id b,G.δ id b->I2 (b9 G.o id)=true->(X.w0.heap.size<=b∨X.io b)/\¬G.K b/\(∀i o,b9 G.o i=some o->G.γ i≠some b)/\∀i,G.δ i b->I2 (b9 G.o i)=true->id=i
 pin:∀i v,X.pin i v->AVR G (.ptr (500000+i) 0) v
theorem Sat.le{X:Cx}{G:Gh}(S:Sat X G):G.B<=X.w0.heap.size:=by
 rw[S.base.1]; exact S.base.2
structure GLe(G G':Gh):Prop where
 hB:G'.B=G.B
 hK:∀k,G.K k->k<G.w.heap.size->G'.K k/\G'.w.heap[k]?=G.w.heap[k]?
 hbox:∀id T cs,b9 G.o id=some (.box T cs)->G'.ρ id=G.ρ id/\∃T' cs',b9 G'.o id=some (.box T' cs')
 hgrd:∀id T Te fr t xs hole,b9 G.o id=some (.grd T Te fr t xs hole)->G'.ρ id=G.ρ id/\∃T' Te' fr' t' xs' hole',b9 G'.o id=some (.grd T' Te' fr' t' xs' hole')
 harr:∀id T fr t xs ver,b9 G.o id=some (.arr T fr t xs ver)->∃T' fr' t' xs' ver',b9 G'.o id=some (.arr T' fr' t' xs' ver')/\ver<=ver'/\(ver=ver'->G'.ρ id=G.ρ id)
theorem GLe.hR{G a:Gh}(h:GLe G a){fr:Bool}:∀k,rg G fr k->k<G.w.heap.size->rg a fr k/\a.w.heap[k]?=G.w.heap[k]?:=fun k ⟨c,d⟩ b=>⟨⟨(h.hK k c b).1,fun e=>by rw[h.hB]; exact d e⟩,(h.hK k c b).2⟩
mutual
theorem AVR.mono{G r:Gh}(h:GLe G r):∀{a:AV} {u:Value},AVR G a u->AVR r a u
 | .v _,_,k=>k
 | .d _ _ _,_,k=>RT.same h.hR k
 | .agg _,_,⟨us,e,k⟩=>⟨us,e,AVRs.mono h k⟩
 | .tup _,_,⟨us,e,k⟩=>⟨us,e,AVRs.mono h k⟩
 | .ptr id off,u,⟨⟨T,cs,h1⟩,b,h2,h3⟩=>by
   obtain⟨e,j⟩:=h.hbox id T cs h1;exact⟨j,b,by grind,h3⟩
 | .pel id ver k s off,u,⟨h0,T,fr,t,xs,ver',h1,h2,h3⟩=>by
   obtain⟨l,g,m,i,f,q,x,w⟩:=h.harr id T fr t xs ver' h1;refine⟨h0,l,g,m,i,f,q,by omega,fun e=>?_⟩
   grind
 | .os id ver,u,⟨h0,T,fr,t,xs,ver',h1,h2,h3⟩=>by
   obtain⟨l,g,m,i,f,q,x,w⟩:=h.harr id T fr t xs ver' h1;exact⟨h0,l,g,m,i,f,q,by omega,fun e=>by grind⟩
 | .fn _ _,_,⟨us,e,k⟩=>⟨us,e,AVRs.mono h k⟩
 | .ow ..,_,k=>k
 | .ob ..,_,k=>k
 | .gel id k,u,⟨⟨T,Te,fr,t,xs,hole,h1⟩,b,o,n,c,h2,h3⟩=>by
   obtain⟨e,j⟩:=h.hgrd id T Te fr t xs hole h1;exact⟨j,b,o,n,c,by grind,h3⟩
 | .og id,u,⟨h0,⟨T,Te,fr,t,xs,hole,h1⟩,h2⟩=>by
   obtain⟨e,j⟩:=h.hgrd id T Te fr t xs hole h1;exact⟨h0,j,by grind⟩
theorem AVRs.mono{G a:Gh}(h:GLe G a):∀{as:List AV} {us:List Value},AVRs G as us->AVRs a as us
 | [],_,k=>k
 | _ :: _,_,⟨u,us',e,k1,k2⟩=>⟨u,us',e,AVR.mono h k1,AVRs.mono h k2⟩
end
theorem GLe.refl(G:Gh):GLe G G:=⟨rfl,fun _ h _=>⟨h,rfl⟩,fun _ _ _ h=>⟨rfl,_,_,h⟩,fun _ _ _ _ _ _ _ h=>⟨rfl,_,_,_,_,_,_,h⟩,fun _ _ _ _ _ _ h=>⟨_,_,_,_,_,h,Nat.le_refl _,fun _=>rfl⟩⟩
theorem GLe.trans{A B C:Gh}(h:GLe A B)(k:GLe B C)(Q:A.w.heap.size<=B.w.heap.size):GLe A C:=by
 refine⟨k.hB.trans h.hB,fun i hi y=>?_,fun i T x hi=>?_,fun i T z r t m f hi=>?_,fun i T r t m n hi=>?_⟩
 ·obtain⟨g,d⟩:=h.hK i hi y;obtain⟨l,s⟩:=k.hK i g (by omega)
  grind
 ·obtain⟨g,e,o,d⟩:=h.hbox i T x hi;obtain⟨l,s⟩:=k.hbox i e o d
  grind
 ·obtain⟨g,e,Te',a,q,c,b,d⟩:=h.hgrd i T z r t m f hi;obtain⟨l,s⟩:=k.hgrd i e Te' a q c b d
  grind
 ·obtain⟨e,a,q,c,j,g,d,P⟩:=h.harr i T r t m n hi;obtain⟨F,E,G,v,u,l,s,H⟩:=k.harr i e a q c j g
  grind
theorem Rows.up{G f:Gh}{id:Nat}{Te:TypeId}{fr:Bool}{t:Ty}{xs:List (List (j6 t))}{a:Option Nat}{vs:List Value}{l:Nat->Option Nat}(h:Rows G id Te fr t xs a vs l)(d:GLe G f)(i:∀b,f.δ id b↔G.δ id b){go:Option Nat}(u:WE go G.w f.w)(g:∀b,G.δ id b->go≠some b):Rows f id Te fr t xs a vs l:=by
 refine⟨h.len,fun b=>(i b).trans (h.blk b),h.inj,fun k n m=>?_,h.one⟩;obtain⟨s,v,q,y⟩:=h.row k n m;exact⟨s,v.we u (fun j r e=>g j ((h.blk j).2 ⟨k,n,m,e⟩) r),q.mapR (fun c x o=>RT.same (w:=G.w) d.hR o),by rw[d.hB]; exact y⟩
theorem NG{o:Option Ob}(h:I2 o=true):∃T Te fr t xs hole,o=some (.grd T Te fr t xs hole):=by
 unfold I2 at h
 grind
theorem Sat.dlt{X:Cx}{G:Gh}(S:Sat X G){id b:Nat}(h:G.δ id b)(e:I2 (b9 G.o id)=true):b<G.w.heap.size:=by
 obtain⟨T,r,n,t,s,c,f⟩:=NG e;obtain⟨m,l,_,a,_⟩:=S.obs id _ f;obtain⟨k,i,g,d⟩:=(a.blk b).1 h;obtain⟨q,j,_⟩:=a.row k i g;exact j.lt b d
theorem Sat.duf{X:Cx}{G:Gh}(S:Sat X G){id b:Nat}(h:G.δ id b)(d:I2 (b9 G.o id)=true):UF G.w b:=by
 obtain⟨T,q,m,t,s,c,e⟩:=NG d;obtain⟨l,j,_,a,_⟩:=S.obs id _ e;obtain⟨k,g,f,i⟩:=(a.blk b).1 h;obtain⟨n,r,_⟩:=a.row k g f
 grind[FT]
theorem Sat.ext{X:Cx}{G:Gh}(S:Sat X G){w':World}(h:Ext G.w w'):Sat X { G with w:=w' }/\GLe G { G with w:=w' }:=by
 have a:GLe G { G with w:=w' }:=⟨rfl,fun k d n=>⟨d,h.block k n⟩,fun _ _ _ h=>⟨rfl,_,_,h⟩,fun _ _ _ _ _ _ _ h=>⟨rfl,_,_,_,_,_,_,h⟩,fun _ _ _ _ _ _ h=>⟨_,_,_,_,_,h,Nat.le_refl _,fun _=>rfl⟩⟩;refine⟨⟨S.base,h.os.trans S.os,h.tape.trans S.tape,h.output.trans S.output,Nat.le_trans S.size h.size,fun k d hi=>(h.block k (Nat.lt_of_lt_of_le d S.size)).trans (S.block k d hi),?_,S.inj,S.imm,S.own,fun k d=>(S.klt k d).same h.size (a.hK k d (S.klt k d).lt).2,S.kfrom,S.sep,fun i v h=>(S.pin i v h).mono a⟩,a⟩;intro id o u;have:=S.obs id o u;cases o with
 | box T m =>
   obtain⟨b,r,g,f,j,E⟩:=this;exact⟨b,r,g,f,j.ext h,AVRs.mono a E⟩
 | arr T z t H F =>
   obtain⟨m,g,f,j⟩:=this;exact⟨m,g.up h,f.mapR (fun c x q=>RT.same (w:=G.w) a.hR q),j⟩
 | grd T P z t H l =>
   obtain⟨s,y,g,f,j⟩:=this;exact⟨s,y,g.up h,f.up a (fun _=>Iff.rfl) (go:=none) (WE.of_ext h) (fun _ _ e=>by cases e),j⟩
def Gh.put(G:Gh)(id:Nat)(ob:Ob)(r:Value)(g:Option Nat)(w':World):Gh :=
 ⟨fun i=>if i=id then r else G.ρ i,fun i=>if i=id then g else G.γ i,G.K,w',(id,ob) :: G.o,G.B,fun i b=>i≠id/\G.δ i b⟩
def w0R(G:Gh)(id:Nat)(ob:Ob)(r:Value):Prop :=
 (∀T cs,b9 G.o id=some (.box T cs)->r=G.ρ id/\∃T' cs',ob=.box T' cs') /\
 (∀T fr t xs ver,b9 G.o id=some (.arr T fr t xs ver)->∃T' fr' t' xs' ver',ob=.arr T' fr' t' xs' ver'/\ver<=ver'/\(ver=ver'->r=G.ρ id))/\I2 (b9 G.o id)=false
theorem Sat.put{X:Cx}{G:Gh}(S:Sat X G){id:Nat}{ob:Ob}{r:Value}{g:Option Nat}{w':World}{go:Option Nat}
  (Y:w0R G id ob r) (y:∀b,go=some b->(∃o,b9 G.o id=some o)/\G.γ id=some b) (f:WE go G.w w') (hg:∀b,g=some b->go=some b∨G.w.heap.size<=b)
  (aO:GLe G (G.put id ob r g w')->ObR (G.put id ob r g w') id ob):Sat X (G.put id ob r g w')/\GLe G (G.put id ob r g w'):=by
 have n:∀i,b9 (G.put id ob r g w').o i=if id=i then some ob else b9 G.o i:=fun i=>lK _ _ _ _
 have aC:∀k,G.K k->go≠some k:=fun k q e=>by
  obtain⟨⟨o,d⟩,m⟩:=y k e;exact S.imm id o k d m q
 have u:GLe G (G.put id ob r g w'):=by
  refine⟨rfl,fun k q hl=>⟨q,f.block k hl (aC k q)⟩,fun i T cs hi=>?_,fun i T Te fr t xs F hi=>?_,fun i T fr t xs W hi=>?_⟩
  ·rw[n];by_cases e:id=i
   ·subst e;obtain⟨s,T',aN,E⟩:=Y.1 T cs hi
    grind[Gh.put]
   grind[Gh.put]
  ·rw[n];by_cases e:id=i
   ·subst e;have:=Y.2.2;rw[hi] at this;cases this
   grind[Gh.put]
  ·rw[n];by_cases e:id=i
   ·subst e;obtain⟨T',aH,t',aJ,aG,s,E,h3⟩:=Y.2.1 T fr t xs W hi;simp only[Gh.put,if_true]
    grind
   ·simp only[Gh.put,if_neg e,if_neg (Ne.symm e)]
    grind
 have H:∀i o b,i≠id->b9 G.o i=some o->G.γ i=some b->go≠some b:=fun i o b hi d a e=>by
  obtain⟨⟨V,l⟩,m⟩:=y b e;exact hi (S.inj i id o V b d l a m)
 have aK:∀i o b,b9 G.o i=some o->G.γ i=some b->b<G.w.heap.size:=fun i o b d a=>by
  have:=S.obs i o d;cases o with
  | box T cs=>obtain⟨b',us,s,E,h3,h4⟩:=this; rw[a] at s; cases s; exact h3.lt
  | arr T fr t xs W=>obtain⟨cs,s,E,_⟩:=this; exact s.lt b a
  | grd T Te fr t xs F=>obtain⟨vs,bs,s,_⟩:=this; exact s.lt b a
 have aD:∀b,g=some b->∀i o,i≠id->b9 G.o i=some o->G.γ i≠some b:=fun b a i o hi d e=>by
  grind
 have aM:=hg;refine⟨⟨S.base,f.os.trans S.os,f.tape.trans S.tape,f.output.trans S.output,Nat.le_trans S.size f.size,fun k q hi=>?_,?_,?_,?_,?_,fun k q=>(S.klt k q).same f.size (u.hK k q (S.klt k q).lt).2,S.kfrom,?_,fun i v h=>(S.pin i v h).mono u⟩,u⟩
 ·refine(f.block k (Nat.lt_of_lt_of_le q S.size) (fun e=>?_)).trans (S.block k q hi);obtain⟨⟨o,d⟩,m⟩:=y k e;rcases S.own id o k d m with h | h
  ·omega
  grind
 ·intro i o d;rw[n] at d;by_cases e:id=i
  ·grind
  ·rw[if_neg e] at d;have:=S.obs i o d;cases o with
   | box T cs =>
     obtain⟨b,us,s,E,h3,h4⟩:=this;refine⟨b,us,?_,?_,?_,AVRs.mono u h4⟩
     ·grind[Gh.put]
     ·grind[Gh.put]
     ·exact h3.we f (fun j P z=>by grind)
   | arr T fr t xs W =>
     obtain⟨cs,s,E,h3⟩:=this;refine⟨cs,?_,?_,by grind[Gh.put]⟩
     ·simp only[Gh.put,if_neg (Ne.symm e)];exact s.we f (fun j P z=>H i _ j (Ne.symm e) d z P)
     ·exact E.mapR (fun c x hr=>RT.same (w:=G.w) u.hR hr)
   | grd T Te fr t xs F =>
     obtain⟨vs,bs,s,E,h3⟩:=this;refine⟨vs,bs,?_,?_,by grind[Gh.put]⟩
     ·simp only[Gh.put,if_neg (Ne.symm e)];exact s.we f (fun j P z=>H i _ j (Ne.symm e) d z P)
     ·refine E.up u (fun b=>⟨fun h=>h.2,fun h=>⟨Ne.symm e,h⟩⟩) f (fun b a aB=>?_);obtain⟨⟨V,l⟩,m⟩:=y b aB;exact(S.sep i b a (by rw[d]; rfl)).2.2.1 id V l m
 ·intro i i' o V b d l a Q;rw[n] at d l;simp only[Gh.put] at a Q;by_cases e:i=id
  ·grind
  ·rw[if_neg e] at a;rw[if_neg (Ne.symm e)] at d;by_cases e':i'=id
   ·grind
   ·rw[if_neg e'] at Q;rw[if_neg (Ne.symm e')] at l;exact S.inj i i' o V b d l a Q
 ·intro i o b d a q;rw[n] at d;simp only[Gh.put] at a q;by_cases e:i=id
  ·rw[if_pos e] at a;rcases hg b a with h | h
   ·grind
   ·have:=(S.klt b q).lt; omega
  ·rw[if_neg e] at a;rw[if_neg (Ne.symm e)] at d;exact S.imm i o b d a q
 ·intro i o b d a;rw[n] at d;simp only[Gh.put] at a;by_cases e:i=id
  ·rw[if_pos e] at a;rcases hg b a with h | h
   ·obtain⟨⟨V,l⟩,m⟩:=y b h;exact S.own id V b l m
   ·exact .inl (Nat.le_trans S.size h)
  ·rw[if_neg e] at a;rw[if_neg (Ne.symm e)] at d;exact S.own i o b d a
 ·intro i b a hg;obtain⟨aA,a⟩:=a;rw[n,if_neg (Ne.symm aA)] at hg;obtain⟨s1,s2,s3,s4⟩:=S.sep i b a hg;have aL:=S.dlt a hg;refine⟨s1,s2,fun j o d P=>?_,fun j P aI=>?_⟩
  ·grind[Gh.put]
  ·obtain⟨aF,P⟩:=P
   grind
def Gh.grd(G:Gh)(id:Nat)(ob:Ob)(D:Nat->Prop)(w':World):Gh :=
 ⟨G.ρ,G.γ,G.K,w',(id,ob) :: G.o,G.B,fun i b=>(i=id/\D b)∨(i≠id/\G.δ i b)⟩
theorem Sat.grd{X:Cx}{G:Gh}(S:Sat X G){id:Nat}{T Te T' Te':TypeId}{fr fr':Bool}{t t':Ty}{xs:List (List (j6 t))}{xs':List (List (j6 t'))}{P hole':Option Nat}{D:Nat->Prop}{w':World}{go:Option Nat}
  (H:b9 G.o id=some (.grd T Te fr t xs P)) (u:∀b,go=some b->G.γ id=some b) (d:WE go G.w w')
  (hD:∀b,D b->(X.w0.heap.size<=b∨X.io b)/\¬G.K b/\(∀i o,b9 G.o i=some o->G.γ i≠some b)/\∀i,i≠id->G.δ i b->I2 (b9 G.o i)=true->False)
  (aC:GLe G (G.grd id (.grd T' Te' fr' t' xs' hole') D w')->ObR (G.grd id (.grd T' Te' fr' t' xs' hole') D w') id (.grd T' Te' fr' t' xs' hole')) :
  Sat X (G.grd id (.grd T' Te' fr' t' xs' hole') D w')/\GLe G (G.grd id (.grd T' Te' fr' t' xs' hole') D w'):=by
 have F:∀i,b9 (G.grd id (.grd T' Te' fr' t' xs' hole') D w').o i=if id=i then some (.grd T' Te' fr' t' xs' hole') else b9 G.o i:=fun i=>lK _ _ _ _
 have a:∀i o,b9 (G.grd id (.grd T' Te' fr' t' xs' hole') D w').o i=some o->∃o',b9 G.o i=some o':=fun i o h=>by
  grind
 have q:∀i,I2 (b9 (G.grd id (.grd T' Te' fr' t' xs' hole') D w').o i)=I2 (b9 G.o i):=fun i=>by
  rw[F];by_cases e:id=i
  ·subst e; rw[if_pos rfl,H]; rfl
  grind
 have aB:∀k,G.K k->go≠some k:=fun k n e=>S.imm id _ k H (u k e) n;have m:GLe G (G.grd id (.grd T' Te' fr' t' xs' hole') D w'):=by
  refine⟨rfl,fun k n hl=>⟨n,d.block k hl (aB k n)⟩,fun i V cs hi=>⟨rfl,?_⟩,fun i V Te0 f0 t0 x0 h0 hi=>⟨rfl,?_⟩,fun i V f0 t0 x0 aA hi=>?_⟩
  ·grind
  ·grind
  ·rw[F];by_cases e:id=i
   ·grind
   ·rw[if_neg e]; exact⟨_,_,_,_,_,hi,Nat.le_refl _,fun _=>rfl⟩
 have y:∀i o b,i≠id->b9 G.o i=some o->G.γ i=some b->go≠some b:=fun i o b hi h f e=>hi (S.inj i id o _ b h H f (u b e));refine⟨⟨S.base,d.os.trans S.os,d.tape.trans S.tape,d.output.trans S.output,Nat.le_trans S.size d.size,fun k n hi=>?_,?_,?_,?_,?_,fun k n=>(S.klt k n).same d.size (m.hK k n (S.klt k n).lt).2,S.kfrom,?_,fun i v h=>(S.pin i v h).mono m⟩,m⟩
 ·refine(d.block k (Nat.lt_of_lt_of_le n S.size) (fun e=>?_)).trans (S.block k n hi);rcases S.own id _ k H (u k e) with h | h
  ·omega
  grind
 ·intro i o hi;rw[F] at hi;by_cases e:id=i
  ·grind
  ·rw[if_neg e] at hi;have:=S.obs i o hi;cases o with
   | box T cs =>
     obtain⟨b,us,g,z,Q,h4⟩:=this;exact⟨b,us,g,z,Q.we d (fun j l r=>by grind),h4.mono m⟩
   | arr T fr t xs aA =>
     obtain⟨cs,g,z,Q⟩:=this;exact⟨cs,g.we d (fun j l r=>y i _ j (Ne.symm e) hi r l),z.mapR (fun c x hr=>RT.same (w:=G.w) m.hR hr),Q⟩
   | grd V Te0 f0 t0 x0 h0 =>
     obtain⟨vs,bs,g,z,Q⟩:=this;refine⟨vs,bs,g.we d (fun j l r=>y i _ j (Ne.symm e) hi r l),z.up m (fun b=>⟨fun h=>?_,fun h=>.inr ⟨Ne.symm e,h⟩⟩) d (fun b f q=>?_),Q⟩
     ·rcases h with ⟨h,_⟩ | ⟨_,h⟩
      ·omega
      omega
     ·exact(S.sep i b f (by rw[hi]; rfl)).2.2.1 id _ H (u b q)
 ·intro i i' o o' b h h' f W;obtain⟨s,g⟩:=a i o h;obtain⟨o2,z⟩:=a i' o' h';exact S.inj i i' s o2 b g z f W
 ·intro i o b h f;obtain⟨s,g⟩:=a i o h;exact S.imm i s b g f
 ·intro i o b h f;obtain⟨s,g⟩:=a i o h;exact S.own i s b g f
 ·intro i b f hg;rw[q] at hg;rcases f with ⟨rfl,f⟩ | ⟨hne,f⟩
  ·obtain⟨s1,s2,Y,s4⟩:=hD b f;refine⟨s1,s2,fun j o h l=>?_,fun j l E=>?_⟩
   ·obtain⟨s,g⟩:=a j o h;exact Y j s g l
   ·rw[q] at E;rcases l with ⟨e,_⟩ | ⟨e,l⟩
    ·omega
    grind
  ·obtain⟨s1,s2,Y,s4⟩:=S.sep i b f hg;refine⟨s1,s2,fun j o h l=>?_,fun j l E=>?_⟩
   ·obtain⟨s,g⟩:=a j o h;exact Y j s g l
   ·rw[q] at E;rcases l with ⟨rfl,l⟩ | ⟨e,l⟩
    ·grind
    grind
def Y1(t t':Ty)(x:j6 t):Option (j6 t'):=if h:t=t' then some (h ▸ x) else none
theorem DN{t t':Ty}{x:j6 t}{y:j6 t'}(h:Y1 t t' x=some y):∃e:t=t',y=e ▸ x:=by
 unfold Y1 at h
 grind
def AT(o:List (Nat×Ob))(rec:(t:Ty)->List AV->Option (j6 t×List Nat×Bool)):(t:Ty)->AV->Option (j6 t×List Nat×Bool)
 | t,.d fr t' x=>match Y1 t' t x with
   | some y=>some (y,[],fr||D4 t)
   | none=>none
 | .sl _,.v (.slice none 0 0)=>some ([],[],true)
 | .sl e,.os id ver=>match b9 o id with
   | some (.arr _ fr e' xs ver')=>bif Nat.beq ver ver' then(match Y1 (.sl e') (.sl e) xs with
     | some y=>some (y,[id],fr||D4 e)
     | none=>none) else none
   | _=>none
 | .pt e,.ptr id off=>match b9 o id with
   | some (.box _ cs)=>match rec e ((cs.drop off).take (sz e)) with
     | some (x,l,_)=>some (x,id :: l,false)
     | none=>none
   | _=>none
 | _,_=>none
def F8(o:List (Nat×Ob)):Nat->(t:Ty)->List AV->Option (j6 t×List Nat×Bool)
 | 0,_,_=>none
 | n+1,.pr a b,cs=>match F8 o n a (cs.take (sz a)) with
   | some (x,l,f)=>match F8 o n b (cs.drop (sz a)) with
     | some (y,m,g)=>some ((x,y),l++m,f&&g)
     | none=>none
   | none=>none
 | n+1,t,cs=>match cs with
   | [c]=>AT o (F8 o n) t c
   | _=>none
def rk(G:Gh)(K':Nat->Prop)(fl:Bool)(k:Nat):Prop:=K' k/\(fl=true->G.B<=k)
theorem s0u{X:Cx}{G:Gh}(S:Sat X G){K':Nat->Prop}(W:∀k,G.K k->K' k){q:(t:Ty)->List AV->Option (j6 t×List Nat×Bool)}
  (m:∀{t:Ty} {cs:List AV} {us:List Value} {x:j6 t} {l:List Nat} {n:Bool},q t cs=some (x,l,n)->(∀id∈l,∀b,G.γ id=some b->K' b)->AVRs G cs us->RT (rk G K' n) G.w t us x)
  {t:Ty} {c:AV} {u:Value} {x:j6 t} {l:List Nat} {n:Bool} (h:AT G.o q t c=some (x,l,n)) (P:∀id∈l,∀b,G.γ id=some b->K' b) (d:AVR G c u):RT (rk G K' n) G.w t [u] x:=by
 unfold AT at h;split at h
 ·rename_i t0 fr t' x0;split at h
  ·rename_i y Q;simp only[oi,pj] at h;obtain⟨rfl,rfl,rfl⟩:=h;obtain⟨e,rfl⟩:=DN Q;subst e;by_cases hf:D4 t'=true
   ·exact RT.free hf d
   ·exact RT.up d (fun k f=>⟨W k f.1,fun e=>f.2 (by grind)⟩)
  grind
 ·simp only[oi,pj] at h;obtain⟨rfl,rfl,rfl⟩:=h;have:u=_:=d;subst this;exact⟨none,0,rfl,Nat.le_refl _,by omega,.inl rfl⟩
 ·rename_i e id aC;split at h
  ·rename_i T fr e' Y aA F;rw[ce] at h;split at h
   ·rename_i E;split at h
    ·rename_i y Q;simp only[oi,pj] at h;obtain⟨rfl,rfl,rfl⟩:=h;obtain⟨z,rfl⟩:=DN Q;cases z;obtain⟨_,T1,aG,t1,aD,aB,H,h2,h3⟩:=d;rw[F] at H;cases H;have d:=h3 (nb E);subst d;obtain⟨cs,r,hA,hB⟩:=S.obs id _ F;have a:AllR (RT (rk G K' (fr||D4 e)) G.w e) cs Y:=hA.mapR (fun c x hr=>by
      by_cases hf:D4 e=true
      ·grind[RT.free]
      ·exact RT.up hr (fun k f=>⟨W k f.1,fun e'=>f.2 (by grind)⟩))
     cases hg:G.γ id with
     | none =>
       rw[hg] at r;rcases r with ⟨_,hn,_,p,hp⟩ | ⟨b,_,_,_,s,_⟩
       ·have:Y=[]:=List.eq_nil_of_length_eq_zero hn;subst this;exact⟨p,0,by grind,Nat.le_refl _,by omega,.inl rfl⟩
       grind
     | some b =>
       rw[hg] at r;obtain⟨o0,c0,z,j⟩:=r.at;rcases r with ⟨h,_⟩ | ⟨b',o1,cap,cur,s,hv2,k1,k2,k3,k4,k5⟩
       ·cases h
       ·cases s;rw[hv2] at z; cases z;exact⟨_,c0,by rw[hv2],k2,(by grind[maxLen]),.inr ⟨b,o0,cs,rfl,⟨P id (by simp) b hg,fun _=>hB b hg⟩,j,a⟩⟩
    grind
   grind
  grind
 ·rename_i e id g;split at h
  ·rename_i T aF F;split at h
   ·rename_i x1 l1 f1 H;simp only[oi,pj] at h;obtain⟨rfl,rfl,rfl⟩:=h;obtain⟨_,b,s,rfl⟩:=d;obtain⟨b',us,g1,g2,g3,g4⟩:=S.obs id _ F;rw[s] at g2;cases g2;have a:=((g4.take g).2.take (sz e)).1;have hR:=m H (fun i hi=>P i (by grind)) a;refine⟨b,g,_,rfl,⟨P id (by simp) b g1,(fun e=>by cases e)⟩,?_,RT.up hR (fun k f=>⟨f.1,(fun e=>by cases e)⟩)⟩;have j:=g3.at;intro i v E;have hi:i<sz e:=by
     rcases Nat.lt_or_ge i (sz e) with V | V
     ·exact V
     ·grind
    rw[List.getElem?_take_of_lt hi,List.getElem?_drop] at E;have:=j (g+i) v E
    grind
   grind
  grind
 grind
theorem DO{X:Cx}{G:Gh}(S:Sat X G){K':Nat->Prop}(H:∀k,G.K k->K' k):∀(n:Nat) {t:Ty} {cs:List AV} {us:List Value} {x:j6 t} {l:List Nat} {fl:Bool},
  F8 G.o n t cs=some (x,l,fl)->(∀id∈l,∀b,G.γ id=some b->K' b)->AVRs G cs us->RT (rk G K' fl) G.w t us x:=by
 intro n
 induction n with
 | zero=>grind[F8]
 | succ n s =>
   intro t cs us x l fl h v y;have q:∀(t:Ty) (x:j6 t) (r:Option (j6 t×List Nat×Bool)),r=some (x,l,fl)->r=(match(generalizing:=false) cs with | [c]=>AT G.o (F8 G.o n) t c | _=>none)->RT (rk G K' fl) G.w t us x:=by
    intro t x r m g;rw[m] at g;have h:=g.symm;split at h
    ·rename_i c;obtain⟨u,j,rfl,Q,z⟩:=y;have:j=[]:=z
     grind[s0u]
    ·cases h
   cases t with
   | pr a b =>
     unfold F8 at h;split at h
     ·rename_i P W T F;split at h
      ·rename_i y1 V Y E;simp only[oi,pj] at h;obtain⟨rfl,rfl,rfl⟩:=h;have d:=AVRs.take y (sz a);refine⟨us.take (sz a),us.drop (sz a),(List.take_append_drop _ _).symm,RT.up (s F (fun id i=>v id (by grind)) d.1) (fun k f=>⟨f.1,fun e=>f.2 ?_⟩),RT.up (s E (fun id i=>v id (by grind)) d.2) (fun k f=>⟨f.1,fun e=>f.2 ?_⟩)⟩
       ·grind
       grind
      grind
     grind
   | _=>exact q _ _ _ h rfl
theorem Xz{X:Cx}{G:Gh}(S:Sat X G){n:Nat}{t:Ty}{cs:List AV}{us:List Value}{x:j6 t}{a:Bool}(h:F8 G.o n t cs=some (x,[],a))(b:AVRs G cs us):RT (rg G a) G.w t us x :=
 DO S (K':=G.K) (fun _ h=>h) n h (fun _ h=>by cases h) b
def r5(fr:Bool):(t:Ty)->j6 t->List AV
 | .pr a b,x=>r5 fr a x.1++r5 fr b x.2
 | .int k,x=>[.d fr (.int k) x]
 | .bool,x=>[.d fr .bool x]
 | .str,x=>[.d fr .str x]
 | .sl e,x=>[.d fr (.sl e) x]
 | .pt e,x=>[.d fr (.pt e) x]
theorem AU{G:Gh}{fr:Bool}:∀{t:Ty} {us:List Value} {x:j6 t},RT (rg G fr) G.w t us x->AVRs G (r5 fr t x) us
 | .pr a b,_,x,⟨c,d,e,h1,h2⟩=>by rw[e]; exact AVRs.app (AU h2) (AU h1)
 | .int _,us,x,h=>⟨_,[],h.1,⟨rfl,h.2⟩,rfl⟩
 | .bool,us,x,h=>⟨_,[],(show us=_ from h),rfl,rfl⟩
 | .str,us,x,h=>⟨_,[],h.1,⟨rfl,h.2⟩,rfl⟩
 | .sl e,us,x,⟨p,cap,h1,h⟩=>⟨_,[],h1,⟨p,cap,rfl,h⟩,rfl⟩
 | .pt e,us,x,⟨b,o,ds,h1,h⟩=>⟨_,[],h1,⟨b,o,ds,rfl,h⟩,rfl⟩
def FU(fr:Bool):(t:Ty)->j6 t->Nat->Option AV
 | t,x,0=>some (.d fr (.pt t) x)
 | .pr a b,x,off=>bif Nat.ble (sz a) off then FU fr b x.2 (off-sz a) else FU fr a x.1 off
 | _,_,_=>none
theorem p0a{G:Gh}{fr:Bool}{b:Nat}(j:rg G fr b):∀{t:Ty} {x:j6 t} {off o:Nat} {ds:List Value} {a:AV},FU fr t x off=some a->At G.w b o ds->RT (rg G fr) G.w t ds x->AVR G a (.pointer (some ⟨b,o+off,none⟩)):=by
 intro t
 induction t with
 | pr r q i n =>
   intro x off o ds a h e f;cases off with
   | zero=>simp only[FU,oi] at h; subst h; exact⟨b,o,ds,rfl,j,e,f⟩
   | succ off =>
     simp only[FU,ce] at h;split at h
     ·rename_i g;have g:=Nat.le_of_ble_eq_true g;obtain⟨c,d,rfl,l,m⟩:=f;have k:At G.w b (o+c.length) d:=At.mid (pre:=c) (c:=d) (post:=[]) (by grind)
      grind[RT.len,sz]
     ·obtain⟨c,d,rfl,l,m⟩:=f;exact i h (At.mid (pre:=[]) (c:=c) (post:=d) (by grind)) l
 | _ =>
   intro x off o ds a h e f;cases off with
   | zero=>simp only[FU,oi] at h; subst h; exact⟨b,o,ds,rfl,j,e,f⟩
   | succ off=>grind[FU]
abbrev Pa:=List (Nat×Bool)
structure Sl where
 p:Pa
 a:AV
structure St where
 e:List (Nat×Sl)
 o:List (Nat×Ob)
def Rz(p q:Pa):Bool:=p.all fun x=>q.any fun y=>Nat.beq x.1 y.1&&(x.2==y.2)
def PathP(p:Pa)(a:Act):Prop:=∀x∈p,a.tmps.getD x.1 undef=.bool x.2
theorem PathP.sub{p q:Pa}{a:Act}(h:PathP q a)(c:Rz p q=true):PathP p a:=by
 intro x f;simp only[Rz,List.all_eq_true,List.any_eq_true,ba,beq_iff_eq] at c;obtain⟨y,e,b,d⟩:=c x f;have b:=nb b;rw[b,d]; exact h y e
structure EnvR(n:Nat)(G:Gh)(e:List (Nat×Sl))(a:Act):Prop where
 defers:a.defers=[]
 size:a.tmps.size=n
 val:∀t s,b9 e t=some s->(PathP s.p a->AVR G s.a (a.tmps.getD t undef))/\(¬PathP s.p a->a.tmps.getD t undef=undef)
theorem EnvR.mono{n:Nat}{G c:Gh}{e:List (Nat×Sl)}{a:Act}(h:EnvR n G e a)(d:GLe G c):EnvR n c e a :=
 ⟨h.defers,h.size,fun t s b=>⟨fun f=>((h.val t s b).1 f).mono d,(h.val t s b).2⟩⟩
def NH:Value->Option AV
 | .int k n=>bif decide (lo k<=n)&&decide (n<=hi k) then some (.d true (.int k) n) else none
 | .bool b=>some (.d true .bool b)
 | .string s=>bif decide (s.size<=9223372036854775807) then some (.d true .str s) else none
 | .agg _=>none
 | .tuple _=>none
 | u=>some (.v u)
def AW:List Value->Option (List AV)
 | []=>some []
 | u :: r=>match NH u with
   | some a=>match AW r with
     | some l=>some (a :: l)
     | none=>none
   | none=>none
theorem k0A{G:Gh}{u:Value}{a:AV}(h:NH u=some a):AVR G a u:=by
 unfold NH at h;split at h
 ·rw[ce] at h;split at h
  ·rename_i b;simp only[ba,dq] at b;simp only[oi] at h; subst h; exact⟨rfl,b⟩
  grind
 ·simp only[oi] at h; subst h; exact rfl
 ·rw[ce] at h;split at h
  ·rename_i b;simp only[dq] at b;simp only[oi] at h; subst h; exact⟨rfl,b⟩
  grind
 ·cases h
 ·cases h
 ·simp only[oi] at h; subst h; exact rfl
theorem JO{G:Gh}:∀{us:List Value} {as:List AV},AW us=some as->AVRs G as us
 | [],as,h=>by simp[AW] at h; subst h; exact rfl
 | u :: r,as,h=>by
   unfold AW at h;split at h
   ·rename_i a c;split at h
    ·rename_i l b;simp at h; subst h; exact⟨u,r,rfl,k0A c,JO b⟩
    grind
   grind
def RA:Value->Option AV
 | .agg cs=>match AW cs.toList with
   | some l=>some (.agg l)
   | none=>none
 | u=>NH u
theorem s0z{G:Gh}{u:Value}{a:AV}(h:RA u=some a):AVR G a u:=by
 unfold RA at h;split at h
 ·rename_i c;split at h
  ·rename_i l b;simp at h; subst h; exact⟨c.toList,by simp,JO b⟩
  grind
 grind[k0A]
def rd(st:St)(p:Pa):Operand->Option AV
 | .tmp t=>match b9 st.e t with
   | some s=>bif Rz s.p p then some s.a else none
   | none=>none
 | .const v=>RA v
 | .func f=>some (.fn f [])
 | .global g=>some (.v (.pointer (some ⟨g,0,none⟩)))
theorem D0{n:Nat}{G:Gh}{st:St}{a:Act}{p:Pa}(d:EnvR n G st.e a)(c:PathP p a){x:Operand}{v:AV}(h:rd st p x=some v):AVR G v (a.eval x):=by
 unfold rd at h;split at h
 ·rename_i t;split at h
  ·rename_i s f;rw[ce] at h;split at h
   ·rename_i b;simp at h; subst h;exact(d.val t s f).1 (c.sub b)
   grind
  grind
 ·exact s0z h
 ·simp at h; subst h; exact⟨[],rfl,rfl⟩
 ·simp at h; subst h; exact rfl
def L9(st:St)(p:Pa):List Operand->Option (List AV)
 | []=>some []
 | x :: r=>match rd st p x with
   | some a=>match L9 st p r with
     | some l=>some (a :: l)
     | none=>none
   | none=>none
theorem AX{n:Nat}{G:Gh}{st:St}{a:Act}{p:Pa}(c:EnvR n G st.e a)(d:PathP p a):∀{xs:List Operand} {vs:List AV},L9 st p xs=some vs->AVRs G vs (xs.map a.eval)
 | [],vs,h=>by simp[L9] at h; subst h; exact rfl
 | x :: r,vs,h=>by
   unfold L9 at h;split at h
   ·rename_i b g;split at h
    ·rename_i l f;simp at h; subst h; exact⟨_,_,rfl,D0 c d g,AX c d f⟩
    grind
   grind
inductive Kd
 | agg (pl:List (Nat×Nat)) (e:Bool) (ag:List Bool) | sl (E:TypeId) | arr (m:Nat) (E:TypeId) | str | bool | int (k:IntKind) | oth | ptr
structure TI where
 size:Nat
 bytes:Nat
 zero:Value
 kd:Kd
 ty:Ty
def RC(P:Program)(T:TypeId):Nat->List (Nat×Nat)->Prop
 | _,[]=>True
 | k,(off,_) :: r=>ND P T k=some (off,true)/\RC P T (k+1) r
def M0Y(P:Program)(t:TypeId):Bool:=match P.underlying t with
 | some (.int _)=>true
 | _=>false
def RD(P:Program):Nat->List Field->Bool
 | _,[]=>true
 | k, f :: r => decide (f.name ≠ "_") && Nat.beq f.offset k && M0Y P f.type && RD P (k + 1) r
def XA(P:Program)(T:TypeId):Bool:=match P.underlying T with
 | some (.struct fs)=>!P.stoodInHeld T&&!P.eqGuardType P.depth T&&RD P 0 fs.toList
 | _=>false
def XB(P:Program)(T:TypeId):Option (List (Bool×Bool)):=match P.underlying T with
 | some (.struct fs)=>some (fs.toList.map fun f=>(Bz P f.type,X9 P f.type))
 | _=>none
def RE(P:Program)(T:TypeId):Kd->Prop
 | .agg pl e ag=>Bz P T=true/\JK P T=some pl/\NF P T=true/\RC P T 0 pl/\(e=true->XA P T=true)/\XB P T=some (ag.map fun b=>(b,!b))
 | .arr m E=>Bz P T=true/\P.underlying T=some (.array m E)
 | .sl E=>X9 P T=true/\P.underlying T=some (.slice E)
 | .str=>X9 P T=true/\P.underlying T=some .string
 | .bool=>X9 P T=true/\P.underlying T=some .bool
 | .int k=>X9 P T=true/\P.underlying T=some (.int k)
 | .oth=>X9 P T=true
 | .ptr=>X9 P T=true/\P.underlying T=some (.pointer (P.pointee T))
def HI(P:Program)(T:TypeId)(ti:TI):Prop :=
 Rq P T=some (ti.size,ti.bytes,some ti.zero)/\CP ti.zero.cells.toList ti.size=true/\Nat.blt 0 ti.size=true/\ones ti.zero.cells.toList=true/\RE P T ti.kd
abbrev p5:=List (Nat×TI)
def x9(P:Program)(Γ:p5):Prop:=∀T ti,b9 Γ T=some ti->HI P T ti
theorem g0X{P:Program}{T:TypeId}:∀{pl:List (Nat×Nat)} {j k:Nat} {x:Nat×Nat},RC P T j pl->pl[k]?=some x->ND P T (j+k)=some (x.1,true)
 | (off,s) :: r,j,0,x,h,hx=>by simp at hx; subst hx; exact h.1
 | (off,s) :: r,j,k+1,x,h,hx=>by
   have:=g0X (j:=j+1) (k:=k) h.2 (by simpa using hx);rw[show j+(k+1)=j+1+k by omega]; exact this
def isAgg:Kd->Bool
 | .agg .. | .arr ..=>true
 | _=>false
theorem B0X{P:Program}{T:TypeId}{a:Kd}(h:RE P T a):(isAgg a=true->Bz P T=true)/\(isAgg a=false->X9 P T=true):=by
 cases a with
 | agg c e b=>exact⟨fun _=>h.1,(fun e=>by cases e)⟩
 | arr m E=>exact⟨fun _=>h.1,(fun e=>by cases e)⟩
 | oth=>exact⟨(fun e=>by cases e),fun _=>h⟩
 | _=>exact⟨(fun e=>by cases e),fun _=>h.1⟩
def D5(a:Act):List Operand->C4
 | []=>[]
 | .tmp t :: r=>(t,a.tmps.getD t undef) :: D5 a r
 | _ :: r=>D5 a r
theorem NI{a:Act}{t:Nat}{v:Value}:∀{xs:List Operand},lk (D5 a xs) t=some v->a.tmps.getD t undef=v
 | [],h=>by cases h
 | .tmp s :: r,h=>by
   rw[D5,CO] at h;by_cases e:s=t
   ·grind
   ·rw[if_neg e] at h; exact NI h
 | .const _ :: r,h=>NI (xs:=r) h
 | .global _ :: r,h=>NI (xs:=r) h
 | .func _ :: r,h=>NI (xs:=r) h
theorem XC{n:Nat}{G:Gh}{e:List (Nat×Sl)}{a:Act}(h:EnvR n G e a)(xs:List Operand):Agree n (D5 a xs) a:=⟨h.defers,h.size,fun _ _ b=>NI b⟩
theorem r0f{a:Act}{t:Nat}:∀{xs:List Operand},.tmp t∈xs->lk (D5 a xs) t=some (a.tmps.getD t undef)
 | y :: r,h=>by
   have d:Operand.tmp t∈r->lk (D5 a (y :: r)) t=some (a.tmps.getD t undef):=fun c=>by
    have b:=r0f (a:=a) c;cases y with
    | tmp s =>
      rw[D5,CO];by_cases e:s=t
      ·subst e; simp
      ·rw[if_neg e]; exact b
    | _=>exact b
   grind[D5,CO]
theorem K1{a:Act}{xs:List Operand}{x:Operand}(h:x∈xs):ev (D5 a xs) x=some (a.eval x):=by
 cases x with
 | tmp t=>exact r0f h
 | _=>rfl
def M6(X:Cx)(G:Gh)(a:Act)(op:Op)(ty:TypeId)(av:AV):Prop :=
 ∃v,(∀dst pos after g,(execOp a.eval ⟨dst,op,ty,pos,after,g⟩).run X.P G.w=.ok (.value v) G.w)/\AVR G av v
theorem B8{X:Cx}{G:Gh}{a:Act}{st:St}{f:Op}{ty:TypeId}{av:AV}{v:Value}(i:EnvR X.n G st.e a)(xs:List Operand)(h:H4 X.P X.n (D5 a xs) f ty G.w v G.w)(j:AVR G av v):M6 X G a f ty av :=
 ⟨v,fun d c b g=>h a d c b g (XC i xs),j⟩
def CQ:AV->Option (List AV)
 | .agg xs=>bif xs.all Ry then some xs else none
 | a=>bif Ry a then some [a] else none
theorem RF:∀{us:List Value},(∀u∈us,u.oneCell'=true)->ones us=true
 | [],_=>rfl
 | u :: r,h=>by
   have a:=h u (by simp);have c:=RF (us:=r) (fun v b=>h v (by grind))
   grind[ones,Value.oneCell']
theorem AVRs.ones{G:Gh}:∀{as:List AV} {us:List Value},AVRs G as us->as.all Ry=true->∀u∈us,u.oneCell'=true
 | [],us,h,_,u,hu=>by rw[show us=[] from h] at hu; cases hu
 | a :: r,us,⟨u,us',e,h1,h2⟩,ho,x,hx=>by
   simp only[List.all_cons,ba] at ho;rw[e] at hx;rcases List.mem_cons.1 hx with rfl | hx
   ·exact h1.one ho.1
   ·exact AVRs.ones h2 ho.2 x hx
theorem w0u{u:Value}(h:u.oneCell'=true):u.cells.toList=[u]:=by cases u <;> first | rfl | cases h
theorem NJ{G:Gh}{a:AV}{cs:List AV}{u:Value}(h:CQ a=some cs)(d:AVR G a u):AVRs G cs u.cells.toList/\ones u.cells.toList=true:=by
 unfold CQ at h;split at h
 ·rename_i g;rw[ce] at h;split at h
  ·rename_i c;simp at h; subst h;obtain⟨e,rfl,b⟩:=d;simp only[Value.cells,List.toList_toArray];exact⟨b,RF (b.ones c)⟩
  grind
 ·rw[ce] at h;split at h
  ·rename_i c;simp at h; subst h;have b:=d.one c;rw[w0u b];exact⟨⟨u,[],rfl,d,rfl⟩,RF (fun v f=>by grind)⟩
  grind
def JP(ti:TI)(cs:List AV):Option AV :=
 bif isAgg ti.kd then(bif Nat.ble ti.size cs.length then some (.agg (cs.take ti.size)) else none)
 else match cs with
  | c :: _=>some c
  | []=>none
theorem XD{w:World}{b o:Nat}{us:List Value}(h:At w b o us)(k:Nat):At w b o (us.take k):=by
 intro i u a;rcases Nat.lt_or_ge i k with c | c
 ·rw[List.getElem?_take_of_lt c] at a; exact h i u a
 grind
theorem XE{w:World}{b o:Nat}{us:List Value}(h:At w b o us)(k:Nat):At w b (o+k) (us.drop k):=by
 intro i u a;rw[List.getElem?_drop] at a;have:=h (k+i) u a
 grind
theorem q0F{X:Cx}{G:Gh}{a:Act}{st:St}{T:TypeId}{d:TI}{x:Operand}{b o:Nat}{us:List Value}{cs:List AV}{av:AV}{ty:TypeId}(m:EnvR X.n G st.e a)(l:HI X.P T d)
  (z:a.eval x=.pointer (some ⟨b,o,none⟩)) (g:At G.w b o us) (k:AVRs G cs us) (h:JP d cs=some av):M6 X G a (.load T x) ty av:=by
 obtain⟨hi,y,_,_,j⟩:=l;have j:=B0X j;have i:ev (D5 a [x]) x=some (.pointer (some ⟨b,o,none⟩)):=by grind[K1]
 unfold JP at h;rw[ce] at h;split at h
 ·rename_i q;rw[ce] at h;split at h
  ·rename_i f;simp at h; subst h;have f:=Nat.le_of_ble_eq_true f
   haveI:Rr X.P T:=⟨j.1 q⟩
   haveI:Info X.P T d.size d.bytes d.zero:=⟨hi⟩
   have s:=k.len;exact B8 m [x] (r0V i (by grind) (XD g d.size)) ⟨us.take d.size,rfl,(k.take _).1⟩
  grind
 ·rename_i q;split at h
  ·rename_i c r;simp at h; subst h
   haveI:Rp X.P T:=⟨j.2 (by grind)⟩
   obtain⟨u,t,rfl,v,_⟩:=k;exact B8 m [x] (u0M i (by simpa using g 0 u rfl)) v
  grind
def XF(a b:Operand)(x y z:Bool):Bool:=match b with
 | .const (.bool false)=>x&&y
 | _=>match a with
   | .const (.bool true)=>x||z
   | _=>bif x then y else z
theorem evB{st:St}{p:Pa}{v:Bool}{f:Bool}{y:Bool}(h:rd st p (.const (.bool v))=some (.d f .bool y)):y=v:=by
 grind[rd,RA,NH]
theorem v0x{st:St}{p q:Pa}{a b:Operand}{f g x y z:Bool}(e:rd st p a=some (.d f .bool y))(c:rd st q b=some (.d g .bool z)):XF a b x y z=bif x then y else z:=by
 unfold XF
 grind[evB]
def DP(k:IntKind)(r:Int):Prop:=lo k<=r/\r<=hi k
def CR(k k':IntKind)(r:Bool):Option (Prop×AV):=bif decide (k=k') then some (True,.d true .bool r) else none
def RG(a b:Int):Bool:=a==b
def neI(a b:Int):Bool:=a != b
def ltI(a b:Int):Bool:=decide (a<b)
def leI(a b:Int):Bool:=decide (a<=b)
def N0l(a b:Int):Option (Prop×AV):=some (DP .i64 (a+b),.d true (.int .i64) (a+b))
def L0V(a b:Int):Option (Prop×AV):=some (DP .i64 (a-b),.d true (.int .i64) (a-b))
def M0U(a b:Int):Option (Prop×AV):=some (DP .i64 (a*b),.d true (.int .i64) (a*b))
def M0l(a b:Int):Option (Prop×AV):=some (0<b,.d true (.int .i64) (a.tdiv b))
def L0Y(a b:Int):Option (Prop×AV):=some (0<b,.d true (.int .i64) (a.tmod b))
def L0W(a b:Int):Option (Prop×AV):=some ((0<=b/\b<=62)/\DP .i64 (a*2 ^ b.toNat),.d true (.int .i64) (a*2 ^ b.toNat))
def RH(k:IntKind)(a b:Int):Option (Prop×AV):=some ((0<=b/\b<=62)/\DP k (a.fdiv (2 ^ b.toNat)),.d true (.int k) (a.fdiv (2 ^ b.toNat)))
def RJ(a b:ByteArray):Bool:=decide (a=b)
def N0k(a b:ByteArray):Option (Prop×AV):=some (a.size+b.size<=9223372036854775807,.d true .str (a++b))
def HJ:List AV->List AV->Option Bool
 | [],[]=>some true
 | .d _ (.int k) a :: r,.d _ (.int k') b :: s=>bif decide (k=k') then(match HJ r s with | some e=>some (RG a b&&e) | none=>none) else none
 | _,_=>none
def RL(ti:Option TI)(xs ys:List AV):Option Bool:=match ti with
 | some ⟨_,_,_,.agg pl true _,_⟩=>bif Nat.beq pl.length xs.length then HJ xs ys else none
 | _=>none
def RM(k:IntKind)(a b:Int):Option (Prop×AV):=some (0<=a/\0<=b,.d true (.int k) ((a.toNat &&& b.toNat:Nat):Int))
def NK(ti:Option TI):BinOp->AV->AV->Option (Prop×AV)
 | .eql,.d _ (.int k) a,.d _ (.int k') b=>CR k k' (RG a b)
 | .neq,.d _ (.int k) a,.d _ (.int k') b=>CR k k' (neI a b)
 | .lss,.d _ (.int k) a,.d _ (.int k') b=>CR k k' (ltI a b)
 | .leq,.d _ (.int k) a,.d _ (.int k') b=>CR k k' (leI a b)
 | .gtr,.d _ (.int k) a,.d _ (.int k') b=>CR k k' (ltI b a)
 | .geq,.d _ (.int k) a,.d _ (.int k') b=>CR k k' (leI b a)
 | .add,.d _ (.int .i64) a,.d _ (.int .i64) b=>N0l a b
 | .sub,.d _ (.int .i64) a,.d _ (.int .i64) b=>L0V a b
 | .mul,.d _ (.int .i64) a,.d _ (.int .i64) b=>M0U a b
 | .quo,.d _ (.int .i64) a,.d _ (.int .i64) b=>M0l a b
 | .rem,.d _ (.int .i64) a,.d _ (.int .i64) b=>L0Y a b
 | .eql,.d _ .str a,.d _ .str b=>some (True,.d true .bool (RJ a b))
 | .neq,.d _ .str a,.d _ .str b=>some (True,.d true .bool (!RJ a b))
 | .add,.d _ .str a,.d _ .str b=>N0k a b
 | .eql,.d _ .bool a,.d _ .bool b=>match ti with
   | some ⟨_,_,_,.bool,_⟩=>some (True,.d true .bool (a==b))
   | _=>none
 | .neq,.d _ .bool a,.d _ .bool b=>match ti with
   | some ⟨_,_,_,.bool,_⟩=>some (True,.d true .bool (!(a==b)))
   | _=>none
 | .shl,.d _ (.int .i64) a,.d _ (.int _) b=>L0W a b
 | .shr,.d _ (.int .i64) a,.d _ (.int _) b=>RH .i64 a b
 | .shr,.d _ (.int .u64) a,.d _ (.int _) b=>RH .u64 a b
 | .eql,.agg xs,.agg ys=>match RL ti xs ys with
   | some e=>some (True,.d true .bool e)
   | none=>none
 | .neq,.agg xs,.agg ys=>match RL ti xs ys with
   | some e=>some (True,.d true .bool (!e))
   | none=>none
 | .add,.d _ (.int .u8) a,.d _ (.int .u8) b=>some (DP .u8 (a+b),.d true (.int .u8) (a+b))
 | .sub,.d _ (.int .u8) a,.d _ (.int .u8) b=>some (DP .u8 (a-b),.d true (.int .u8) (a-b))
 | .eql,.d _ (.pt _) _,.v (.pointer none)=>match ti with
   | some ⟨_,_,_,.ptr,_⟩=>some (True,.d true .bool false)
   | _=>none
 | .neq,.d _ (.pt _) _,.v (.pointer none)=>match ti with
   | some ⟨_,_,_,.ptr,_⟩=>some (True,.d true .bool true)
   | _=>none
 | .eql,.v (.pointer none),.v (.pointer none)=>match ti with
   | some ⟨_,_,_,.ptr,_⟩=>some (True,.d true .bool true)
   | _=>none
 | .neq,.v (.pointer none),.v (.pointer none)=>match ti with
   | some ⟨_,_,_,.ptr,_⟩=>some (True,.d true .bool false)
   | _=>none
 | .and,.d _ (.int .i64) a,.d _ (.int .i64) b=>RM .i64 a b
 | .and,.d _ (.int .u64) a,.d _ (.int .u64) b=>RM .u64 a b
 | .add,.d _ (.int .u64) a,.d _ (.int .u64) b=>some (True,.d true (.int .u64) ((a+b) % 18446744073709551616))
 | .mul,.d _ (.int .u64) a,.d _ (.int .u64) b=>some (True,.d true (.int .u64) ((a*b) % 18446744073709551616))
 | _,_,_=>none
theorem D9{G:Gh}{fr:Bool}{k:IntKind}{x:Int}{u:Value}(h:AVR G (.d fr (.int k) x) u):u=.int k x/\lo k<=x/\x<=hi k:=⟨by have:=h.1; simpa using this,h.2⟩
theorem BA{G:Gh}{fr:Bool}{x:Bool}{u:Value}(h:AVR G (.d fr .bool x) u):u=.bool x:=by have:[u]=_:=h; simpa using this
theorem RN{G:Gh}{fr:Bool}{s:ByteArray}{u:Value}(h:AVR G (.d fr .str s) u):u=.string s/\s.size<=9223372036854775807:=⟨by have:=h.1; simpa using this,h.2⟩
theorem D0E{i j:Int}(c:U0 j)(a:0<j):U0 (i.tmod j):=by
 have b:=Int.tmod_lt_of_pos i a;have d : -j<i.tmod j:=by
  have:=Int.tmod_lt_of_pos (-i) a;rw[Int.neg_tmod] at this; omega
 grind[U0]
theorem RO(k:IntKind){n:Int}(h:lo k<=n/\n<=hi k):k.wrap n=n:=by
 cases k <;> simp only[lo,hi] at h
 ·grind[IntWalk.i8_in]
 ·grind[IntWalk.i16_in]
 ·grind[IntWalk.i32_in]
 ·grind[IntWalk.i64_in]
 ·grind[IntWalk.u8_in]
 ·grind[IntWalk.u16_in]
 ·grind[IntWalk.u32_in]
 grind[IntWalk.u64_in]
theorem y0h{P:Program}{n:Nat}{e:C4}{w:World}{T T' ty:TypeId}{x y:Operand}{k:IntKind}{a b:Int}(l:ev e x=some (.int .i64 a))(i:ev e y=some (.int k b))(m:0<=b/\b<=62)(h:lo .i64<=a*2 ^ b.toNat/\a*2 ^ b.toNat<=hi .i64) :
  H4 P n e (.binOp .shl T x y T') ty w (.int .i64 (a*2 ^ b.toNat)) w:=by
 intro q j f c g d;have o:¬b<0:=by omega
 have r:min b.toNat IntKind.i64.bits=b.toNat:=Nat.min_eq_left (by show b.toNat<=64; omega);simp only[execOp,d.ev l,d.ev i];simp[eqGuard,binOp,RO .i64 h]
theorem p0Y{P:Program}{n:Nat}{e:C4}{w:World}{T T' ty:TypeId}{x y:Operand}{k c:IntKind}{a b:Int}(m:ev e x=some (.int c a))(j:ev e y=some (.int k b))(q:0<=b/\b<=62)(s:64<=c.bits) :
  H4 P n e (.binOp .shr T x y T') ty w (.int c (a.fdiv (2 ^ b.toNat))) w:=by
 intro r l h d g f;have i:¬b<0:=by omega
 have o:min b.toNat c.bits=b.toNat:=Nat.min_eq_left (by omega);simp only[execOp,f.ev m,f.ev j];simp[eqGuard,binOp,Op.shift,i,o]
theorem u0N{P:Program}{n:Nat}{e:C4}{w:World}{T T' ty:TypeId}{x y:Operand}{a b r:Int}{c:BinOp}(o:ev e x=some (.int .u8 a))(k:ev e y=some (.int .u8 b))(l:(c=.add/\r=a+b)∨(c=.sub/\r=a-b))(j:lo .u8<=r/\r<=hi .u8) :
  H4 P n e (.binOp c T x y T') ty w (.int .u8 r) w:=by
 intro q m i d g h;simp only[execOp,h.ev o,h.ev k];have f:=RO .u8 j;rcases l with ⟨rfl,rfl⟩ | ⟨rfl,rfl⟩
 ·simp[eqGuard,binOp,Op.intArith,f]
 ·simp[eqGuard,binOp,Op.intArith,f]
theorem p0Z{P:Program}{n:Nat}{e:C4}{w:World}{T T' ty:TypeId}{x y:Operand}{k:IntKind}{a b:Int}(f:k=.i64∨k=.u64)(F:ev e x=some (.int k a))(z:ev e y=some (.int k b))(s:0<=a/\a<=hi k)(l:0<=b/\b<=hi k) :
  H4 P n e (.binOp .and T x y T') ty w (.int k ((a.toNat &&& b.toNat:Nat):Int)) w/\0<=((a.toNat &&& b.toNat:Nat):Int)/\((a.toNat &&& b.toNat:Nat):Int)<=hi k:=by
 have v:((a.toNat &&& b.toNat:Nat):Int)<=a:=by
  have:=Nat.and_le_left (n:=a.toNat) (m:=b.toNat);omega
 have u:(0:Int)<=((a.toNat &&& b.toNat:Nat):Int):=Int.natCast_nonneg _;have d:∀x:Int,x<=hi k->x<18446744073709551616:=fun x h=>by
  rcases f with rfl | rfl
  ·have:hi .i64=9223372036854775807:=rfl;omega
  ·have:hi .u64=18446744073709551615:=rfl;omega
 have i:lo k<=((a.toNat &&& b.toNat:Nat):Int):=by
  rcases f with rfl | rfl
  ·have:lo .i64 = -9223372036854775808:=rfl;omega
  ·have:lo .u64=0:=rfl;omega
 have r:=RO k ⟨i,(by omega:((a.toNat &&& b.toNat:Nat):Int)<=hi k)⟩;refine⟨?_,u,by omega⟩;intro G E t j g c;simp only[execOp,c.ev F,c.ev z];have q:a % 18446744073709551616=a:=Int.emod_eq_of_lt s.1 (d a s.2);have o:b % 18446744073709551616=b:=Int.emod_eq_of_lt l.1 (d b l.2);rcases f with rfl | rfl
 ·simp[eqGuard,binOp,Op.intBits,show IntKind.bits .i64=64 from rfl,q,o,r]
 ·simp[eqGuard,binOp,Op.intBits,show IntKind.bits .u64=64 from rfl,q,o,r]
theorem p0X{P:Program}{n:Nat}{e:C4}{w:World}{T T' ty:TypeId}{x y:Operand}{a b r:Int}{c:BinOp}(m:ev e x=some (.int .u64 a))(j:ev e y=some (.int .u64 b))(k:(c=.add/\r=a+b)∨(c=.mul/\r=a*b)) :
  H4 P n e (.binOp c T x y T') ty w (.int .u64 (r % 18446744073709551616)) w:=by
 intro o l i d g h;simp only[execOp,h.ev m,h.ev j];have f:IntKind.wrap .u64 r=r % 18446744073709551616:=by
  unfold IntKind.wrap;simp[IntKind.signed,IntKind.bits]
 rcases k with ⟨rfl,rfl⟩ | ⟨rfl,rfl⟩
 ·simp[eqGuard,binOp,Op.intArith,f]
 ·simp[eqGuard,binOp,Op.intArith,f]
theorem w0c{P:Program}{w:World}{G:Gh}{d:Nat}{xs c:Array Value}:∀{fs:List Field} {k:Nat} {as bs:List AV} {e:Bool},RD P k fs=true->fs.length=as.length->HJ as bs=some e->AVRs G as (xs.toList.drop k)->AVRs G bs (c.toList.drop k) ->
  (Op.eqFields (d+1) xs c fs).run P w=.ok e w
 | [],k,[],bs,e,_,_,h,_,_=>by
   cases bs with
   | nil=>simp only[HJ,oi] at h; subst h; simp[Op.eqFields]
   | cons b r=>grind[HJ]
 | f :: r,k,a :: as,bs,e,hf,hl,h,hx,hy=>by
   unfold HJ at h;split at h
   ·grind
   ·rename_i g q x X g' H y T V;cases V;rw[ce] at h;split at h
    ·rename_i s;have s:q=H:=by simpa using s
     subst s;split at h
     ·rename_i e' m;simp only[oi] at h; subst h;simp only[RD,ba,dq] at hf;obtain⟨⟨⟨Q,j⟩,hi⟩,F⟩:=hf;have j:=nb j;obtain⟨u,t,E,W,o⟩:=hx;obtain⟨v,z,ev,hv,n⟩:=hy;obtain⟨rfl,_⟩:=D9 W;obtain⟨rfl,_⟩:=D9 hv;have gx:xs[f.offset]?=some (.int q x):=by
       have:(xs.toList.drop k)[0]?=some (.int q x):=by rw[E]; rfl
       rw[List.getElem?_drop] at this;rw[j]; simpa using this
      have gy:c[f.offset]?=some (.int q y):=by
       have:(c.toList.drop k)[0]?=some (.int q y):=by rw[ev]; rfl
       rw[List.getElem?_drop] at this;rw[j]; simpa using this
      have dx:t=xs.toList.drop (k+1):=by
       have:(xs.toList.drop k).drop 1=t:=by rw[E]; rfl
       rw[List.drop_drop] at this; exact this.symm
      have dy:z=c.toList.drop (k+1):=by
       have:(c.toList.drop k).drop 1=z:=by rw[ev]; rfl
       rw[List.drop_drop] at this; exact this.symm
      subst dx; subst dy;have ih:=w0c (w:=w) (d:=d) F (by simpa using hl) m o n;unfold M0Y at hi;split at hi
      ·rename_i k0 i;have p1:(part f.type xs f.offset).run P w=.ok (.int q x) w:=by simp[part,Go.isAgg,run_underlying i,gx]
       have Y:(part f.type c f.offset).run P w=.ok (.int q y) w:=by simp[part,Go.isAgg,run_underlying i,gy]
       have p3:=run_equalIn_int w d f.type q k0 x y i;simp only[Op.eqFields,Q,ne_eq,not_false_eq_true,if_true,Sem.run_bind,p1,Y,p3,Result.andThen_ok];by_cases l:x=y
       ·grind[RG]
       ·simp[RG,l]
      grind
     grind
    grind
   grind
theorem y0o{P:Program}{n:Nat}{l:C4}{w:World}{G:Gh}{T T' ty:TypeId}{x y:Operand}{us vs:List Value}{k u:List AV}{e:Bool}{pl:List (Nat×Nat)}(v:ev l x=some (.agg us.toArray))(t:ev l y=some (.agg vs.toArray))
  (W:AVRs G k us) (E:AVRs G u vs) {Y:List Bool} (Q:RE P T (.agg pl true Y)) (V:pl.length=k.length) (h:HJ k u=some e) :
  H4 P n l (.binOp .eql T x y T') ty w (.bool e) w/\H4 P n l (.binOp .neq T x y T') ty w (.bool (!e)) w:=by
 obtain⟨_,j,_,_,c,_⟩:=Q;have c:=c rfl;unfold XA at c;split at c
 ·rename_i r s;simp only[ba,Bool.not_eq_true'] at c;obtain⟨⟨X,z⟩,H⟩:=c;have o:P.fieldsOf T=r:=by unfold Program.fieldsOf; rw[s]
  have f:r.toList.length=k.length:=by
   unfold JK at j;rw[s] at j;simp only[oi] at j;rw[<- V,<- j,List.length_map]
  have i:(Op.equalIn 10000 T (.agg us.toArray) (.agg vs.toArray)).run P w=.ok e w:=by
   rw[run_equalIn_struct w 9999 T _ _ (by grind) X,o];exact w0c (d:=9998) H f h W E
  constructor
  ·intro F m q b g a;simp only[execOp,a.ev v,a.ev t];simp[run_eqGuard_agg w .eql T x y us.toArray vs.toArray z,run_eql_struct,i]
  ·intro F m q b g a;simp only[execOp,a.ev v,a.ev t];simp[run_eqGuard_agg w .neq T x y us.toArray vs.toArray z,run_neq_struct,i]
 grind
theorem k0v{X:Cx}{G:Gh}{a:Act}{st:St}{T T' ty:TypeId}{k:Option TI}{x y:Operand}{i j:List AV}{e:Bool}(g:EnvR X.n G st.e a)(f:∀t,k=some t->HI X.P T t)
  (u:AVR G (.agg i) (a.eval x)) (z:AVR G (.agg j) (a.eval y)) (h:RL k i j=some e):M6 X G a (.binOp .eql T x y T') ty (.d true .bool e)/\M6 X G a (.binOp .neq T x y T') ty (.d true .bool (!e)):=by
 have b:ev (D5 a [x,y]) x=some (a.eval x):=K1 (by simp);have c:ev (D5 a [x,y]) y=some (a.eval y):=K1 (by simp);unfold RL at h;split at h
 ·rw[ce] at h;split at h
  ·rename_i l;obtain⟨E,q,v⟩:=u;obtain⟨F,o,m⟩:=z;rw[q] at b;rw[o] at c;obtain⟨r,s⟩:=y0o (P:=X.P) (n:=X.n) (w:=G.w) (T':=T') (ty:=ty) b c v m (f _ rfl).2.2.2.2 (nb l) h;exact⟨B8 g [x,y] r rfl,B8 g [x,y] s rfl⟩
  grind
 grind
theorem k0c{P:Program}{n:Nat}{e:C4}{ty:TypeId}{w:World}{T T':TypeId}{x y:Operand}{q:Option Addr}(j:P.underlying T=some (.pointer (P.pointee T)))(i:Sv.ev e x=some (.pointer q))(f:Sv.ev e y=some (.pointer none)) :
  H4 P n e (.binOp .eql T x y T') ty w (.bool q.isNone) w:=by
 intro a h d b g c;have:=run_eql_pointer_nil w T q j;simp only[execOp,c.ev i,c.ev f];simp[eqGuard,this,Result.andThen]
theorem UY{P:Program}{n:Nat}{e:C4}{ty:TypeId}{w:World}{T T':TypeId}{x y:Operand}{q:Option Addr}(j:P.underlying T=some (.pointer (P.pointee T)))(i:Sv.ev e x=some (.pointer q))(f:Sv.ev e y=some (.pointer none)) :
  H4 P n e (.binOp .neq T x y T') ty w (.bool (!q.isNone)) w:=by
 intro a h d b g c;have:=run_neq_pointer_nil w T q j;simp only[execOp,c.ev i,c.ev f];simp[eqGuard,this,Result.andThen]
theorem s0B{X:Cx}{G:Gh}{a:Act}{st:St}{op:BinOp}{T T' ty:TypeId}{ti:Option TI}{x y:Operand}{u v r:AV}{q:Prop}(z:EnvR X.n G st.e a)(Q:∀t,ti=some t->HI X.P T t)
  (F:AVR G u (a.eval x)) (H:AVR G v (a.eval y)) (h:NK ti op u v=some (q,r)) (E:q):M6 X G a (.binOp op T x y T') ty r:=by
 have c:ev (D5 a [x,y]) x=some (a.eval x):=K1 (by simp);have l:ev (D5 a [x,y]) y=some (a.eval y):=K1 (by simp);have V:∀{o:BinOp} {f g:Bool} {k k':IntKind} {i j:Int} {aA:Bool} {q':Prop} {r':AV},u=.d f (.int k) i->v=.d g (.int k') j->CR k k' aA=some (q',r')->Xp o i j=some aA->op=o->r'=r ->
   M6 X G a (.binOp op T x y T') ty r:=by
  intro o f g k k' i j aA q' r' e1 e2 hb hc ho hr;subst e1; subst e2;unfold CR at hb;rw[ce] at hb;split at hb
  ·rename_i hk;have hk:k=k':=by simpa using hk
   subst hk;simp only[oi,pj] at hb;obtain⟨_,rfl⟩:=hb;obtain⟨m,_⟩:=D9 F;obtain⟨s,_⟩:=D9 H;rw[m] at c;rw[s] at l;refine B8 z [x,y] (v:=.bool aA) (Cb ?_) ?_
   ·grind[AR,NB]
   ·rw[<- hr]; exact rfl
  ·cases hb
 have ar:∀{f g:Bool} {i j:Int},u=.d f (.int .i64) i->v=.d g (.int .i64) j->ev (D5 a [x,y]) x=some (.int .i64 i)/\ev (D5 a [x,y]) y=some (.int .i64 j)/\U0 i/\U0 j:=by
  intro f g i j e1 e2;subst e1; subst e2;obtain⟨m,W⟩:=D9 F;obtain⟨s,Y⟩:=D9 H;rw[m] at c;rw[s] at l;exact⟨c,l,W,Y⟩
 have sr:∀{f g:Bool} {i j:ByteArray},u=.d f .str i->v=.d g .str j->ev (D5 a [x,y]) x=some (.string i)/\ev (D5 a [x,y]) y=some (.string j):=by
  intro f g i j e1 e2;subst e1; subst e2;rw[(RN F).1] at c;rw[(RN H).1] at l;exact⟨c,l⟩
 have br:∀{f g i j:Bool},u=.d f .bool i->v=.d g .bool j->ev (D5 a [x,y]) x=some (.bool i)/\ev (D5 a [x,y]) y=some (.bool j):=by
  intro f g i j e1 e2;subst e1; subst e2;rw[BA F] at c;rw[BA H] at l;exact⟨c,l⟩
 unfold NK at h;split at h
 ·exact V rfl rfl h rfl rfl rfl
 ·exact V rfl rfl h rfl rfl rfl
 ·exact V rfl rfl h rfl rfl rfl
 ·exact V rfl rfl h rfl rfl rfl
 ·exact V rfl rfl h rfl rfl rfl
 ·exact V rfl rfl h rfl rfl rfl
 ·simp only[N0l,oi,pj] at h;obtain⟨rfl,rfl⟩:=h;obtain⟨m,s,_⟩:=ar rfl rfl;exact B8 z [x,y] (y0q m s E) ⟨rfl,E⟩
 ·simp only[L0V,oi,pj] at h;obtain⟨rfl,rfl⟩:=h;obtain⟨m,s,_⟩:=ar rfl rfl;exact B8 z [x,y] (y0g m s E) ⟨rfl,E⟩
 ·simp only[M0U,oi,pj] at h;obtain⟨rfl,rfl⟩:=h;obtain⟨m,s,_⟩:=ar rfl rfl;exact B8 z [x,y] (y0m m s E) ⟨rfl,E⟩
 ·simp only[M0l,oi,pj] at h;obtain⟨rfl,rfl⟩:=h;obtain⟨m,s,h3,_⟩:=ar rfl rfl;exact B8 z [x,y] (y0j m s h3 E) ⟨rfl,u0q h3 E⟩
 ·simp only[L0Y,oi,pj] at h;obtain⟨rfl,rfl⟩:=h;obtain⟨m,s,h3,h4⟩:=ar rfl rfl;exact B8 z [x,y] (y0i m s (by omega)) ⟨rfl,D0E h4 E⟩
 ·simp only[oi,pj] at h;obtain⟨rfl,rfl⟩:=h;obtain⟨m,s⟩:=sr rfl rfl;exact B8 z [x,y] (Cb (by grind[AR,NB,Ro,RJ])) rfl
 ·simp only[oi,pj] at h;obtain⟨rfl,rfl⟩:=h;obtain⟨m,s⟩:=sr rfl rfl;exact B8 z [x,y] (Cb (by grind[AR,NB,Ro,RJ])) rfl
 ·simp only[N0k,oi,pj] at h;obtain⟨rfl,rfl⟩:=h;obtain⟨m,s⟩:=sr rfl rfl;exact B8 z [x,y] (y0p m s E) ⟨rfl,by grind⟩
 ·split at h
  ·simp only[oi,pj] at h;obtain⟨rfl,rfl⟩:=h;obtain⟨m,s⟩:=br rfl rfl
   haveI:JL X.P T:=⟨(Q _ rfl).2.2.2.2.2⟩
   exact B8 z [x,y] (y0n m s) rfl
  grind
 ·split at h
  ·simp only[oi,pj] at h;obtain⟨rfl,rfl⟩:=h;obtain⟨m,s⟩:=br rfl rfl
   haveI:JL X.P T:=⟨(Q _ rfl).2.2.2.2.2⟩
   exact B8 z [x,y] (y0l m s) rfl
  grind
 ·simp only[L0W,oi,pj] at h;obtain⟨rfl,rfl⟩:=h;obtain⟨m,_⟩:=D9 F;obtain⟨s,_⟩:=D9 H;rw[m] at c;rw[s] at l;exact B8 z [x,y] (y0h c l E.1 E.2) ⟨rfl,E.2⟩
 ·simp only[RH,oi,pj] at h;obtain⟨rfl,rfl⟩:=h;obtain⟨m,_⟩:=D9 F;obtain⟨s,_⟩:=D9 H;rw[m] at c;rw[s] at l;exact B8 z [x,y] (p0Y c l E.1 (Nat.le_refl 64)) ⟨rfl,E.2⟩
 ·simp only[RH,oi,pj] at h;obtain⟨rfl,rfl⟩:=h;obtain⟨m,_⟩:=D9 F;obtain⟨s,_⟩:=D9 H;rw[m] at c;rw[s] at l;exact B8 z [x,y] (p0Y c l E.1 (Nat.le_refl 64)) ⟨rfl,E.2⟩
 ·grind[oi,pj,k0v]
 ·split at h
  ·rename_i he;simp only[oi,pj] at h;obtain⟨rfl,rfl⟩:=h;exact(k0v z Q F H he).2
  grind
 ·simp only[oi,pj] at h;obtain⟨rfl,rfl⟩:=h;obtain⟨m,_⟩:=D9 F;obtain⟨s,_⟩:=D9 H;rw[m] at c;rw[s] at l;exact B8 z [x,y] (u0N c l (.inl ⟨rfl,rfl⟩) E) ⟨rfl,E⟩
 ·simp only[oi,pj] at h;obtain⟨rfl,rfl⟩:=h;obtain⟨m,_⟩:=D9 F;obtain⟨s,_⟩:=D9 H;rw[m] at c;rw[s] at l;exact B8 z [x,y] (u0N c l (.inr ⟨rfl,rfl⟩) E) ⟨rfl,E⟩
 ·split at h
  ·simp only[oi,pj] at h;obtain⟨rfl,rfl⟩:=h;obtain⟨b,o,ds,m,_⟩:=F;simp only[List.cons.injEq,and_true] at m;have s:a.eval y=.pointer none:=H;rw[m] at c;rw[s] at l;exact B8 z [x,y] (k0c (Q _ rfl).2.2.2.2.2 c l) rfl
  grind
 ·split at h
  ·simp only[oi,pj] at h;obtain⟨rfl,rfl⟩:=h;obtain⟨b,o,ds,m,_⟩:=F;simp only[List.cons.injEq,and_true] at m;have s:a.eval y=.pointer none:=H;rw[m] at c;rw[s] at l;exact B8 z [x,y] (UY (Q _ rfl).2.2.2.2.2 c l) rfl
  grind
 ·split at h
  ·simp only[oi,pj] at h;obtain⟨rfl,rfl⟩:=h;have m:a.eval x=.pointer none:=F;have s:a.eval y=.pointer none:=H;rw[m] at c;rw[s] at l;exact B8 z [x,y] (k0c (Q _ rfl).2.2.2.2.2 c l) rfl
  grind
 ·split at h
  ·simp only[oi,pj] at h;obtain⟨rfl,rfl⟩:=h;have m:a.eval x=.pointer none:=F;have s:a.eval y=.pointer none:=H;rw[m] at c;rw[s] at l;exact B8 z [x,y] (UY (Q _ rfl).2.2.2.2.2 c l) rfl
  grind
 ·simp only[RM,oi,pj] at h;obtain⟨rfl,rfl⟩:=h;obtain⟨m,W⟩:=D9 F;obtain⟨s,Y⟩:=D9 H;rw[m] at c;rw[s] at l;obtain⟨hr,aB,aC⟩:=p0Z (P:=X.P) (n:=X.n) (w:=G.w) (T:=T) (T':=T') (ty:=ty) (.inl rfl) c l ⟨E.1,W.2⟩ ⟨E.2,Y.2⟩;have h0:lo .i64<=0:=by decide
  exact B8 z [x,y] hr ⟨rfl,Int.le_trans h0 aB,aC⟩
 ·simp only[RM,oi,pj] at h;obtain⟨rfl,rfl⟩:=h;obtain⟨m,W⟩:=D9 F;obtain⟨s,Y⟩:=D9 H;rw[m] at c;rw[s] at l;obtain⟨hr,aB,aC⟩:=p0Z (P:=X.P) (n:=X.n) (w:=G.w) (T:=T) (T':=T') (ty:=ty) (.inr rfl) c l ⟨E.1,W.2⟩ ⟨E.2,Y.2⟩;have h0:lo .u64<=0:=by decide
  exact B8 z [x,y] hr ⟨rfl,Int.le_trans h0 aB,aC⟩
 ·simp only[oi,pj] at h;obtain⟨rfl,rfl⟩:=h;obtain⟨m,_⟩:=D9 F;obtain⟨s,_⟩:=D9 H;rw[m] at c;rw[s] at l;exact B8 z [x,y] (p0X c l (.inl ⟨rfl,rfl⟩)) ⟨rfl,Int.emod_nonneg _ (by decide),Int.le_of_lt_add_one (Int.emod_lt_of_pos _ (by decide))⟩
 ·simp only[oi,pj] at h;obtain⟨rfl,rfl⟩:=h;obtain⟨m,_⟩:=D9 F;obtain⟨s,_⟩:=D9 H;rw[m] at c;rw[s] at l;exact B8 z [x,y] (p0X c l (.inr ⟨rfl,rfl⟩)) ⟨rfl,Int.emod_nonneg _ (by decide),Int.le_of_lt_add_one (Int.emod_lt_of_pos _ (by decide))⟩
 grind
def B9{β:Type}:List β->Nat->Option β
 | [],_=>none
 | x :: _,0=>some x
 | _ :: r,n+1=>B9 r n
theorem W3{a:Type}:∀(l:List a) (n:Nat),B9 l n=l[n]?
 | [],_=>by simp[B9]
 | _ :: _,0=>by simp[B9]
 | _ :: r,n+1=>by simp[B9,W3 r n]
def Y2(o:List (Nat×Ob)):AV->Option (List AV×List Nat)
 | .ptr id off=>match b9 o id with
   | some (.box _ cs)=>some (cs.drop off,[id])
   | _=>none
 | .pel id ver k s off=>match b9 o id with
   | some (.arr _ fr t xs ver')=>bif Nat.beq ver ver'&&Nat.beq s (sz t) then some ((r5 fr t (xs.getD k (a6 t))).drop off,[id]) else none
   | _=>none
 | .d fr (.pt t) x=>some (r5 fr t x,[])
 | _=>none
def Cd(o:List (Nat×Ob)):AV->Prop
 | .pel id _ k _ _=>match b9 o id with
   | some (.arr _ _ _ xs _)=>k<xs.length
   | _=>True
 | _=>True
theorem v0b{w:World}{T:TypeId}{s n b d o j g:Nat}{v:Value}{cs:List Value}(h:Own w T s (some b) v n cs)(i:v=.slice (some ⟨d,o,none⟩) j g){k:Nat}{c pre post:List Value}(e:cs=pre++c++post)(l:pre.length=k*s):b=d/\At w b (o+k*s) c:=by
 obtain⟨q,m,f,a⟩:=h.at;rw[i] at f;cases f;rw[e] at a;have:=a.mid
 grind
theorem XG{X:Cx}{G:Gh}(S:Sat X G){p:AV}{u:Value}{cs:List AV}{l:List Nat}(h:Y2 G.o p=some (cs,l))(hq:Cd G.o p)(v:AVR G p u):∃b o us,u=.pointer (some ⟨b,o,none⟩)/\At G.w b o us/\AVRs G cs us:=by
 unfold Y2 at h;split at h
 ·rename_i id a;split at h
  ·rename_i T aD d;simp only[oi,pj] at h;obtain⟨rfl,rfl⟩:=h;obtain⟨_,b,j,rfl⟩:=v;obtain⟨z,us,g1,Y,g3,g4⟩:=S.obs id _ d;rw[j] at Y;cases Y;exact⟨b,a,us.drop a,rfl,by simpa using XE g3.at a,(g4.take a).2⟩
  grind
 ·rename_i id aB k s a;split at h
  ·rename_i T fr t r V d;rw[ce] at h;split at h
   ·rename_i y;simp only[ba] at y;have m:=nb y.1;have q:=nb y.2;subst m; subst q;simp only[oi,pj] at h;obtain⟨rfl,rfl⟩:=h;have P:k<r.length:=by simpa only[Cd,d] using hq
    obtain⟨_,T1,aF,t1,aC,W,g,h2,h3⟩:=v;rw[d] at g;cases g;obtain⟨b,o,n,c,hr,rfl⟩:=h3 rfl;obtain⟨cs,i,hA,aG⟩:=S.obs id _ d;obtain⟨aA,c',Q,e,hp,H⟩:=hA.get (fun c x h=>RT.len h) P;cases hg:G.γ id with
    | none =>
      rw[hg] at i;rcases i with ⟨_,hn,_⟩ | ⟨z,_,_,_,j,_⟩
      ·omega
      grind
    | some z =>
      rw[hg] at i;obtain⟨F,f⟩:=v0b i hr e hp;subst F;have hD:=AU H;have E:r.getD k (a6 t)=r[k]:=by simp[P]
      rw[E];exact⟨z,o+(k*sz t+a),c'.drop a,rfl,by rw[<- Nat.add_assoc]; exact XE f a,(hD.take a).2⟩
   grind
  grind
 ·rename_i fr t x;simp only[oi,pj] at h;obtain⟨rfl,rfl⟩:=h;obtain⟨b,o,ds,g,j,f,H⟩:=v;simp only[List.cons.injEq,and_true] at g
  grind[AU]
 grind
def RP:AV->Nat->Option AV
 | .ptr id off,k=>some (.ptr id (off+k))
 | .pel id ver i s off,k=>some (.pel id ver i s (off+k))
 | .d fr (.pt t) x,k=>FU fr t x k
 | _,_=>none
theorem s0j{X:Cx}{G:Gh}(_:Sat X G){p r:AV}{u:Value}{k:Nat}{cs:List AV}{l:List Nat}(q:Y2 G.o p=some (cs,l))(h:RP p k=some r)(f:AVR G p u):∃b o,u=.pointer (some ⟨b,o,none⟩)/\AVR G r (.pointer (some ⟨b,o+k,none⟩)):=by
 unfold RP at h;split at h
 ·simp at h; subst h;obtain⟨T,b,m,rfl⟩:=f;exact⟨b,_,rfl,T,b,m,rfl⟩
 ·rename_i id E i s F;simp at h; subst h;obtain⟨V,z,j,P,g,a,d,y,Q⟩:=f;simp only[Y2,d,ce] at q;split at q
  ·rename_i v;simp only[ba] at v;have e:=nb v.1;obtain⟨b,o,n,c,w,rfl⟩:=Q e;exact⟨b,_,rfl,rfl,z,j,P,g,a,d,y,fun _=>⟨b,o,n,c,w,by grind⟩⟩
  grind
 ·rename_i Y t x;obtain⟨b,o,ds,d,m,H,W⟩:=f;simp only[List.cons.injEq,and_true] at d
  grind[p0a]
 grind
def JQ(n:Int)(len:Nat):Prop:=0<=n/\n < (len:Int)
def JR(Γ:p5)(o:List (Nat×Ob))(T:TypeId)(v:AV)(n:Int):Option (Prop×AV×List Nat):=match v,b9 Γ T with
 | .d fr (.sl t) xs,some ⟨_,_,_,.sl E,_⟩=>match b9 Γ E with
   | some te=>bif Nat.beq te.size (sz t) then some (JQ n xs.length,.d fr (.pt t) (xs.getD n.toNat (a6 t)),[]) else none
   | none=>none
 | .os id ver,some ⟨_,_,_,.sl E,_⟩=>match b9 Γ E,b9 o id with
   | some te,some (.arr _ _ t xs ver')=>bif Nat.beq ver ver'&&Nat.beq te.size (sz t) then some (JQ n xs.length,.pel id ver n.toNat (sz t) 0,[id]) else none
   | _,_=>none
 | .ptr id off,some ⟨_,_,_,.arr m E,_⟩=>match b9 Γ E with
   | some te=>some (JQ n m,.ptr id (off+n.toNat*te.size),[])
   | none=>none
 | .og id,some ⟨_,_,_,.sl E,_⟩=>match b9 Γ E,b9 o id with
   | some te,some (.grd _ _ _ _ xs _)=>bif Nat.beq te.size 1 then some (JQ n xs.length,.gel id n.toNat,[id]) else none
   | _,_=>none
 | _,_=>none
theorem o0x{P:Program}{n:Nat}{e:C4}{ty:TypeId}{w:World}{T E s y m k b o:Nat}{z:Value}{x ix:Operand}{r:IntKind}(h:P.underlying T=some (.array m E))[i:Info P E s y z](v:ev e x=some (.pointer (some ⟨b,o,none⟩)))(hi:ev e ix=some (.int r (k:Int)))(H:k<m) :
  H4 P n e (.indexAddr T x ix) ty w (.pointer (some ⟨b,o+k*s,none⟩)) w:=by
 intro a t q j g l;obtain⟨u,c,F,G,Q⟩:=i.get;have d:(Addr.mk b o none).add (k*s)=⟨b,o+k*s,none⟩:=by
  unfold Addr.add;split
  ·grind
  ·rfl
 have f:0<=(k:Int)/\(k:Int) < (m:Int):=oo;simp only[execOp,l.ev v,l.ev hi];simp only[Instr.indexAt,asIntOf,Sem.run_bind,run_underlying h,Instr.sureAddr,Result.andThen,Sem.run_pure,f,and_self,if_true,Y0 w c,F,Int.toNat_natCast,d]
theorem v0N{X:Cx}{G:Gh}{a:Act}{st:St}{Γ:p5}(j:x9 X.P Γ)(S:Sat X G)(hE:EnvR X.n G st.e a){T ty:TypeId}{x ix:Operand}{v r:AV}{n:Int}{f:Bool}{k:IntKind}{q:Prop}{l:List Nat}
  (hx:AVR G v (a.eval x)) (hn:AVR G (.d f (.int k) n) (a.eval ix)) (h:JR Γ G.o T v n=some (q,r,l)) (F:q):M6 X G a (.indexAddr T x ix) ty r:=by
 have g:ev (D5 a [x,ix]) x=some (a.eval x):=K1 (by simp);have w:ev (D5 a [x,ix]) ix=some (a.eval ix):=K1 (by simp);rw[(D9 hn).1] at w;unfold JR at h;split at h
 ·rename_i fr t Y s0 y0 z0 E Q H;split at h
  ·rename_i s u;rw[ce] at h;split at h
   ·rename_i y;have y:=nb y;simp only[oi,pj] at h;obtain⟨rfl,rfl,rfl⟩:=h
    haveI:AS X.P T E:=⟨(j T _ H).2.2.2.2.2⟩
    haveI:Info X.P E s.size s.bytes s.zero:=⟨(j E _ u).1⟩
    obtain⟨i,rfl⟩:=Int.eq_ofNat_of_zero_le F.1;have hi:i<Y.length:=by have:=F.2; omega
    obtain⟨p,aA,z,_⟩:=id hx;simp only[List.cons.injEq,and_true] at z;have aB:=hx;rw[z] at aB g;obtain⟨_,b,o,c,rfl,W,aM,hR⟩:=RT.get aB hi;refine B8 hE [x,ix] (Xt g w hi) ?_;simp only[Int.toNat_natCast,gq,List.getElem?_eq_getElem hi,Option.getD_some];exact⟨b,o+i*s.size,c,rfl,W,by grind,hR⟩
   grind
  grind
 ·rename_i id aJ s0 y0 z0 E Q H;split at h
  ·rename_i s T' fr t Y aG u V;rw[ce] at h;split at h
   ·rename_i y;simp only[ba] at y;have aC:=nb y.1;have aI:=nb y.2;clear y;subst aC;simp only[oi,pj] at h;obtain⟨rfl,rfl,rfl⟩:=h
    haveI:AS X.P T E:=⟨(j T _ H).2.2.2.2.2⟩
    haveI:Info X.P E s.size s.bytes s.zero:=⟨(j E _ u).1⟩
    obtain⟨i,rfl⟩:=Int.eq_ofNat_of_zero_le F.1;have hi:i<Y.length:=by have:=F.2; omega
    obtain⟨_,T1,aN,t1,aL,aH,h1,h2,h3⟩:=hx;rw[V] at h1;cases h1;have hu:=h3 rfl;obtain⟨cs,hO,hA,aO⟩:=S.obs id _ V;rcases hO with ⟨_,hn,_⟩ | ⟨b,o,aA,cur,W,z,_⟩
    ·omega
    ·rw[hu,z] at g;refine B8 hE [x,ix] (Xt g w hi) ?_;simp only[Int.toNat_natCast];exact⟨rfl,_,_,_,_,_,V,Nat.le_refl _,fun _=>⟨b,o,_,_,z,by grind⟩⟩
   grind
  grind
 ·rename_i id aK s0 y0 z0 m E Q H;split at h
  ·rename_i s u;simp only[oi,pj] at h;obtain⟨rfl,rfl,rfl⟩:=h
   haveI:Info X.P E s.size s.bytes s.zero:=⟨(j E _ u).1⟩
   obtain⟨i,rfl⟩:=Int.eq_ofNat_of_zero_le F.1;have hi:i<m:=by have:=F.2; omega
   obtain⟨aD,b,W,z⟩:=hx;rw[z] at g;refine B8 hE [x,ix] (o0x (j T _ H).2.2.2.2.2 g w hi) ?_;simp only[Int.toNat_natCast];exact⟨aD,b,W,rfl⟩
  grind
 ·rename_i id s0 y0 z0 E Q H;split at h
  ·rename_i s T' Te fr t Y aF u V;rw[ce] at h;split at h
   ·rename_i y;have y:=nb y;simp only[oi,pj] at h;obtain⟨rfl,rfl,rfl⟩:=h
    haveI:AS X.P T E:=⟨(j T _ H).2.2.2.2.2⟩
    haveI:Info X.P E s.size s.bytes s.zero:=⟨(j E _ u).1⟩
    obtain⟨i,rfl⟩:=Int.eq_ofNat_of_zero_le F.1;have hi:i<Y.length:=by have:=F.2; omega
    obtain⟨_,_,hu⟩:=hx;obtain⟨vs,bs,hO,_,_⟩:=S.obs id _ V;rcases hO with ⟨_,hn,_⟩ | ⟨b,o,aA,cur,W,z,_⟩
    ·omega
    ·rw[hu,z] at g;refine B8 hE [x,ix] (Xt g w hi) ?_;simp only[Int.toNat_natCast,y,Nat.mul_one];exact⟨⟨_,_,_,_,_,_,V⟩,b,o,_,_,z,rfl⟩
   grind
  grind
 grind
def FV(cs:List AV)(o:Nat)(vs:List AV):List AV:=cs.take o++vs++cs.drop (o+vs.length)
theorem XH{G:Gh}{cs vs:List AV}{us a:List Value}{o:Nat}(h:AVRs G cs us)(k:AVRs G vs a)(_:o+vs.length<=cs.length):AVRs G (FV cs o vs) (B7 us o a):=by
 unfold FV B7;rw[k.len];exact AVRs.app (h.take _).2 (AVRs.app k (h.take o).1)
def AY(st:St)(p:Pa)(pl:List (Nat×Nat)):List AV->List (Nat×Operand)->Option (List AV)
 | cs,[]=>some cs
 | cs,(i,x) :: r=>match B9 pl i with
   | some (off,s)=>match rd st p x with
     | some v=>match CQ v with
       | some vs=>bif Nat.beq vs.length s&&Nat.ble (off+vs.length) cs.length then AY st p pl (FV cs off vs) r else none
       | none=>none
     | none=>none
   | none=>none
theorem XI:∀{us:List Value} {k:Nat},us.length=k->CP us k=true
 | [],0,_=>rfl
 | _ :: r,k+1,h=>XI (us:=r) (by grind)
 | [],_+1,h=>by grind
 | _ :: _,0,h=>by grind
theorem XJ{a:Act}{xs:List Operand}:∀{ps:List (Nat×Operand)},(∀q∈ps,q.2∈xs)->evp (D5 a xs) ps=some (ps.map fun q=>(q.1,a.eval q.2))
 | [],_=>rfl
 | (i,x) :: r,h=>by
   have b:=K1 (a:=a) (h (i,x) (by simp));have d:=XJ (a:=a) (ps:=r) (fun q c=>h q (by grind))
   grind[evp]
theorem XK{n:Nat}{G:Gh}{a:Act}{st:St}{p:Pa}{pl:List (Nat×Nat)}(k:EnvR n G st.e a)(j:PathP p a):∀{ps:List (Nat×Operand)} {cs r:List AV} {us:List Value},AY st p pl cs ps=some r->AVRs G cs us ->
  ∃ws,Cc pl us (ps.map fun q=>(q.1,a.eval q.2))=some ws/\AVRs G r ws
 | [],cs,r,us,h,hA=>by simp[AY] at h; subst h; exact⟨us,rfl,hA⟩
 | (i,x) :: q,cs,r,us,h,hA=>by
   unfold AY at h;split at h
   ·rename_i b s hi;split at h
    ·rename_i v u;split at h
     ·rename_i E c;rw[ce] at h;split at h
      ·rename_i g;simp only[ba] at g;have o:=nb g.1;have d:=Nat.le_of_ble_eq_true g.2;have t:=D0 k j u;obtain⟨m,_⟩:=NJ c t;have l:=m.len;have f:=hA.len;obtain⟨ws,z,w⟩:=XK k j h (XH hA m d);refine⟨ws,?_,w⟩;simp only[List.map_cons];unfold Cc;rw[W3] at hi;simp only[hi];have y:(CP (a.eval x).cells.toList s&&Nat.ble (b+s) us.length)=true:=by
        rw[ba];exact⟨XI (by omega),Nat.ble_eq_true_of_le (by omega)⟩
       grind
      grind
     grind
    grind
   grind
end Go.Proofs.Xv
end
section
namespace Go.Proofs.Sv
open Go Go.RowKit
section
variable {P:Program} {n:Nat} {e:C4} {w:World} {Q:Exit->Act->World->Prop} {l:List Oper} {fuel:Nat} {listed:Array Bool} {S:World->Prop} {ops:Array Oper} {rest:List Oper}
 {d:Nat} {op:Op} {ty:TypeId} {pos:String} {after:Array Edge}
end
section
variable {P:Program} {ops:Array Oper} {Q:Exit->Act->World->Prop} {S:World->Prop} {st:Nat}
end
section
variable {P:Program} {n:Nat} {e:C4} {w:World} {Q:Exit->Act->World->Prop} {l:List Oper} {fuel:Nat} {listed:Array Bool} {S:World->Prop} {st:Nat}
 {d:Nat} {op:Op} {ty:TypeId} {pos:String} {after:Array Edge}
end
theorem Own.set{w w':World}{E s:Nat}{g g' n m c k o:Nat}{v:Value}{cs vs:List Value}(h:Own w E s (some g) v n cs)(d:v=.slice (some ⟨g',o,none⟩) m c)(r:k<n)(l:vs.length=s)(q:∀cur:Array Value,w.heap[g]?=some (.cells cur E (0,0))->w'.heap[g]?=some (.cells (B7 cur.toList (o+k*s) vs).toArray E (0,0))) :
  Own w' E s (some g) v n (B7 cs (k*s) vs):=by
 rcases h with ⟨h,_⟩ | ⟨b,o',cap,cur,hb,hv2,h1,h2,h3,h4,rfl⟩
 ·cases h
 ·cases hb;rw[d] at hv2;cases hv2;refine .inr ⟨g,o,c,_,rfl,d,q cur h1,h2,h3,?_,?_⟩
  ·have a:(k+1)*s<=c*s:=Nat.mul_le_mul_right s (by omega);rw[Nat.add_mul] at a;simp only[B7,List.size_toArray,List.length_append,List.length_take,List.length_drop,Array.length_toList];omega
  ·have a:(k+1)*s<=n*s:=Nat.mul_le_mul_right s (by omega);have f:n*s<=c*s:=Nat.mul_le_mul_right s h2;rw[Nat.add_mul] at a;have j:List.drop o (B7 cur.toList (o+k*s) vs)=B7 (cur.toList.drop o) (k*s) vs:=by
    unfold B7;rw[List.append_assoc,List.append_assoc,List.drop_append,List.drop_take,List.length_take,List.drop_drop,Array.length_toList];rw[show o+k*s-o=k*s by omega,show o-min (o+k*s) cur.size=0 by omega,List.drop_zero,Nat.add_assoc]
   show(List.drop o (B7 cur.toList (o+k*s) vs)).take (n*s)=_;rw[j];have i:(cur.toList.drop o).length=c*s:=by rw[List.length_drop,Array.length_toList]; omega
   generalize cur.toList.drop o=C at i;simp only[B7];have e:(List.take (k*s) C).length=k*s:=by rw[List.length_take]; omega
   rw[List.append_assoc,List.take_append,List.take_append,e,l,List.append_assoc];congr 1
   ·rw[List.take_of_length_le (by rw[e]; omega),List.take_take]; congr 1; omega
   ·congr 1
    ·rw[List.take_of_length_le (by omega)]
    ·rw[List.drop_take]; congr 1; omega
end Go.Proofs.Sv
end
section
namespace Go.Proofs.Sv
open Go
theorem SlR.ins{lo hi:Nat}{w:World}{v:Value}{xs:List Int}(h:SlR lo hi w v xs):∀x∈xs,U0 x:=by
 intro x c;obtain⟨i,a,rfl⟩:=List.getElem_of_mem c;obtain⟨p,d,rfl⟩:=h.len;obtain⟨_,_,_,_,_,_,_,_,b⟩:=h.get a;exact b.2
section
open Go.RowKit
variable {P:Program} {n:Nat} {e:C4} {w:World} {Q:Exit->Act->World->Prop} {ops:Array Oper} {rest:List Oper}
 {d:Nat} {ty:TypeId} {pos:String} {after:Array Edge}
end
end Go.Proofs.Sv
end
section
namespace Go.Proofs.Sv
open Go Go.RowKit
def OwnI(w:World)(E:TypeId)(g:Option Nat)(v:Value)(xs:List Int):Prop:=Own w E 1 g v xs.length (xs.map (Value.int .i64))/\∀x∈xs,U0 x
theorem OwnI.up{w w':World}{E:TypeId}{g:Option Nat}{v:Value}{xs:List Int}(h:OwnI w E g v xs)(k:Ext w w'):OwnI w' E g v xs:=⟨h.1.up k,h.2⟩
theorem OwnI.we{g':Option Nat}{w w':World}{E:TypeId}{g:Option Nat}{v:Value}{xs:List Int}(h:OwnI w E g v xs)(k:WE g' w w')(a:∀i,g'=some i->g≠some i):OwnI w' E g v xs:=⟨h.1.we k a,h.2⟩
theorem OwnI.lt{w:World}{E:TypeId}{g:Option Nat}{v:Value}{xs:List Int}(h:OwnI w E g v xs):∀k,g=some k->k<w.heap.size:=h.1.lt
theorem OwnI.len{w:World}{E:TypeId}{g:Option Nat}{v:Value}{xs:List Int}(h:OwnI w E g v xs):∃p c,v=.slice p xs.length c:=h.1.len
theorem All.ints{lo hi:Nat}{w:World}:∀{cs:List Value} {xs:List Int},All lo hi w cs xs->cs=xs.map (Value.int .i64)
 | _,[],h=>h
 | _,x :: r,h=>by
   obtain⟨c,d,rfl,a,b⟩:=h;rw[a.1,All.ints b]; rfl
theorem SlR.src{lo hi:Nat}{w:World}{v:Value}{xs:List Int}(h:SlR lo hi w v xs):∃p cap b o,v=.slice p xs.length cap/\(xs.length=0∨p=some ⟨b,o,none⟩)/\At w b o (xs.map (Value.int .i64)):=by
 obtain⟨p,cap,rfl,_,_,c⟩:=h;rcases c with rfl | ⟨b,o,cs,rfl,_,_,hat,hall⟩
 ·exact⟨p,cap,0,0,rfl,.inl rfl,fun i u a=>by simp at a⟩
 ·rw[hall.ints] at hat;exact⟨_,cap,b,o,rfl,.inr rfl,hat⟩
theorem WE.then{g g':Option Nat}{w a b:World}(h:WE g w a)(k:WE g' a b)(d:∀i,g'=some i->w.heap.size<=i∨g=some i):WE g w b :=
 ⟨k.os.trans h.os,k.tape.trans h.tape,k.output.trans h.output,Nat.le_trans h.size k.size,fun i hi c=>(k.block i (Nat.lt_of_lt_of_le hi h.size) (fun e=>by
   grind)).trans (h.block i hi c)⟩
section
variable {P:Program} {n:Nat} {e:C4} {w:World} {ty:TypeId}
end
theorem At.tail{w:World}{b o:Nat}{c:Value}{cs:List Value}(h:At w b o (c :: cs)):At w b (o+1) cs:=by
 intro i u a;have:=h (i+1) u (by grind)
 grind
theorem SlR.tail{lo hi:Nat}{w:World}{p:Option Addr}{e a:Nat}{xs:List Int}(h:SlR lo hi w (.slice p e a) xs)(t:1<=e):SlR lo hi w (.slice (if a=1 then p else p.map (·.add (1*1))) (e-1) (a-1)) xs.tail:=by
 obtain⟨q,k,m,l,j,g⟩:=h;cases m;cases xs with
 | nil=>grind
 | cons x r =>
   refine⟨if a=1 then p else p.map (·.add (1*1)),a-1,rfl,by grind,by omega,?_⟩;by_cases s:a=1
   ·grind
   ·right;rcases g with g | ⟨b,o,cs,rfl,hlo,hhi,hat,hall⟩
    ·cases g
    ·obtain⟨c,d,rfl,i,n⟩:=hall;have f:=i.1;subst f;refine⟨b,o+1,d,?_,hlo,hhi,hat.tail,n⟩
     grind[Addr.add]
end Go.Proofs.Sv
end
section
namespace Go.Proofs.Xv
open Go Go.RowKit Go.Proofs.Sv
def I0C:IntKind->IntKind->Int->Option Int
 | .i64,.i64,n=>some n
 | .u8,.u8,n=>some n
 | .u8,.i64,n=>some n
 | .i64,.u8,n=>some (n % 256)
 | _,_,_=>none
def XL(k k':IntKind)(n:Int):Prop×Int:=match I0C k k' n with
 | some m=>(True,m)
 | none=>(DP k' n,n)
def HK(a b:Int):Int:=min a b
def HL(a b:Int):Int:=max a b
def NL(l h:Int)(n:Nat):Prop:=0<=l/\l<=h/\h<=(n:Int)
def U3(st:St)(p:Pa):Option Operand->Option (Option Int)
 | none=>some none
 | some x=>match rd st p x with
   | some (.d _ (.int _) n)=>some (some n)
   | _=>none
def HM{α:Type}(xs:List α):Option Int->Option Int->List α
 | none,none=>xs
 | some l,none=>xs.drop l.toNat
 | none,some h=>xs.take h.toNat
 | some l,some h=>(xs.take h.toNat).drop l.toNat
def CS:Nat->Nat->Nat->List (Nat×Nat)
 | 0,_,_=>[]
 | m+1,k,s=>(k*s,s) :: CS m (k+1) s
theorem m0L{s:Nat}:∀{m k i:Nat} {q:Nat×Nat},(CS m k s)[i]?=some q->q=((k+i)*s,s)
 | 0,k,i,q,h=>by grind[CS]
 | m+1,k,0,q,h=>by grind[CS,List.getElem?_cons_zero,oi]
 | m+1,k,i+1,q,h=>by
   simp only[CS,List.getElem?_cons_succ] at h;have:=m0L h
   grind
theorem k0U{P:Program}{n:Nat}{e:C4}{ty:TypeId}{w:World}{T E s y k X m:Nat}{z u:Value}{b:List (Nat×Operand)}{vs:List (Nat×Value)}{cs:List Value}(V:P.underlying T=some (.array m E))[i:Info P T s y z][j:Info P E k X u](Y:evp e b=some vs)(t:Cc (CS m 0 k) z.cells.toList vs=some cs) :
  H4 P n e (.build T b.toArray) ty w (.agg cs.toArray) w:=by
 intro a v Q l g W;obtain⟨F,h,h2,h3,r⟩:=i.get;obtain⟨q,d,o,_,_⟩:=j.get;have f:=Rv (CS m 0 k) vs z.cells.toList cs t;have c:=Xw (fun i:Nat=>(CS m 0 k)[i]?) (fun i:Nat=>some (i*k,k)) vs _ _ (fun i p H=>by rw[m0L H,Nat.zero_add]) f;have G:b.toArray.map (fun(i,x)=>(i,a.eval x))=vs.toArray:=by rw[<- Agree.evp W Y]; simp
 simp only[execOp,G];simp only[Instr.build,Sem.run_bind,Rt w h r,Result.andThen,run_underlying V,Y0 w d,o];rw[show z.cells=z.cells.toList.toArray by simp];simp only[c];rfl
def XM(ti:TI)(cs:List AV)(f:Nat):Option AV:=match ti.kd with
 | .agg pl _ ag=>match B9 pl f,B9 ag f with
   | some (off,s),some true=>bif Nat.ble (off+s) cs.length then some (.agg ((cs.drop off).take s)) else none
   | some (off,_),some false=>B9 cs off
   | _,_=>none
 | _=>none
def I6(Γ:p5)(st:St)(p:Pa):Op->Option (Prop×AV×List Nat)
 | .move x | .assign x=>match rd st p x with
   | some a=>some (True,a,[])
   | none=>none
 | .nilCheck x=>match rd st p x with
   | some v=>match Y2 st.o v with
     | some (_,l)=>some (Cd st.o v,v,l)
     | none=>none
   | none=>none
 | .pick c a b=>match c with
   | .tmp s=>match rd st p (.tmp s),rd st ((s,true) :: p) a,rd st ((s,false) :: p) b with
     | some (.d _ .bool x),some (.d _ .bool y),some (.d _ .bool z)=>some (True,.d true .bool (XF a b x y z),[])
     | _,_,_=>none
   | _=>none
 | .binOp op T x y _=>match rd st p x,rd st p y with
   | some u,some v=>match NK (b9 Γ T) op u v with
     | some (q,r)=>some (q,r,[])
     | none=>none
   | _,_=>none
 | .unOp .not _ x=>match rd st p x with
   | some (.d _ .bool b)=>some (True,.d true .bool (!b),[])
   | _=>none
 | .unOp .neg _ x=>match rd st p x with
   | some (.d _ (.int .i64) n)=>some (DP .i64 (-n),.d true (.int .i64) (-n),[])
   | _=>none
 | .convert S T x=>match rd st p x,b9 Γ S,b9 Γ T with
   | some (.d _ (.int k) n),some ⟨_,_,_,.int _,_⟩,some ⟨_,_,_,.int k',_⟩=>match XL k k' n with
     | (q,m)=>some (q,.d true (.int k') m,[])
   | some (.os id ver),some ⟨_,_,_,.sl E,_⟩,some ⟨_,_,_,.str,_⟩=>match b9 st.o id,b9 Γ E with
     | some (.arr _ _ (.int .u8) xs ver'),some ⟨_,_,_,.int .u8,_⟩=>bif Nat.beq ver ver' then some (0<xs.length,.d true .str (strOfNums xs),[id]) else none
     | _,_=>none
   | _,_,_=>none
 | .fieldAddr T x f=>match rd st p x,b9 Γ T with
   | some v,some ⟨_,_,_,.agg pl _ _,_⟩=>match B9 pl f,Y2 st.o v with
     | some (off,_),some (_,l)=>match RP v off with
       | some r=>some (True,r,l)
       | none=>none
     | _,_=>none
   | _,_=>none
 | .load T x=>match rd st p x,b9 Γ T with
   | some v,some ti=>match Y2 st.o v with
     | some (cs,l)=>match JP ti cs with
       | some r=>some (Cd st.o v,r,l)
       | none=>none
     | none=>none
   | _,_=>none
 | .indexAddr T x i=>match rd st p x,rd st p i with
   | some v,some (.d _ (.int _) n)=>JR Γ st.o T v n
   | _,_=>none
 | .index T x i=>match rd st p x,rd st p i,b9 Γ T with
   | some (.d _ .str s),some (.d _ (.int _) n),some ⟨_,_,_,.str,_⟩=>some (JQ n s.size,.d true (.int .u8) (F5 s n.toNat),[])
   | _,_,_=>none
 | .extract x i=>match rd st p x with
   | some (.tup l)=>match B9 l i with
     | some r=>some (True,r,[])
     | none=>none
   | _=>none
 | .field T x f=>match rd st p x,b9 Γ T with
   | some (.agg cs),some ti=>match XM ti cs f with
     | some r=>some (True,r,[])
     | none=>none
   | _,_=>none
 | .makeFunc (.func f) first cap=>match first.toList,L9 st p cap.toList with
   | [],some l=>some (True,.fn f l,[])
   | _,_=>none
 | .build T parts=>match b9 Γ T with
   | some ⟨_,_,z,.agg pl _ _,_⟩=>match AW z.cells.toList with
     | some cs=>match AY st p pl cs parts.toList with
       | some r=>some (True,.agg r,[])
       | none=>none
     | none=>none
   | some ⟨_,_,z,.arr m E,_⟩=>match b9 Γ E,AW z.cells.toList with
     | some te,some cs=>match AY st p (CS m 0 te.size) cs parts.toList with
       | some r=>some (True,.agg r,[])
       | none=>none
     | _,_=>none
   | _=>none
 | .slice T x l h none=>match rd st p x,U3 st p l,U3 st p h,b9 Γ T with
   | some (.d fr (.sl t) xs),some lo,some hi,some ⟨_,_,_,.sl E,_⟩=>match b9 Γ E with
     | some te=>bif Nat.beq te.size (sz t) then some (NL (lo.getD 0) (hi.getD xs.length) xs.length,.d fr (.sl t) (HM xs lo hi),[]) else none
     | none=>none
   | _,_,_,_=>none
 | .call ⟨.builtin .len,xs,Ts⟩=>match L9 st p xs.toList,Ts.toList with
   | some [.d _ (.sl _) l],[T]=>match b9 Γ T with
     | some ⟨_,_,_,.sl _,_⟩=>some (True,.d true (.int .i64) (l.length:Int),[])
     | _=>none
   | some [.os id ver],[T]=>match b9 Γ T,b9 st.o id with
     | some ⟨_,_,_,.sl _,_⟩,some (.arr _ _ _ l ver')=>bif Nat.beq ver ver' then some (True,.d true (.int .i64) (l.length:Int),[id]) else none
     | _,_=>none
   | some [.v (.slice none 0 0)],[T]=>match b9 Γ T with
     | some ⟨_,_,_,.sl _,_⟩=>some (True,.d true (.int .i64) (0:Int),[])
     | _=>none
   | some [.d _ .str s],[T]=>match b9 Γ T with
     | some ⟨_,_,_,.str,_⟩=>some (True,.d true (.int .i64) (s.size:Int),[])
     | _=>none
   | _,_=>none
 | .call ⟨.builtin .min,xs,_⟩=>match L9 st p xs.toList with
   | some [.d _ (.int .i64) a,.d _ (.int .i64) b]=>some (True,.d true (.int .i64) (HK a b),[])
   | _=>none
 | .call ⟨.builtin .max,xs,_⟩=>match L9 st p xs.toList with
   | some [.d _ (.int .i64) a,.d _ (.int .i64) b]=>some (True,.d true (.int .i64) (HL a b),[])
   | _=>none
 | _=>none
theorem AllR.takeD{a:Type}{R:List Value->a->Prop}{s:Nat}(b:∀c x,R c x->c.length=s):∀{cs:List Value} {xs:List a} (k:Nat),AllR R cs xs->AllR R (cs.take (k*s)) (xs.take k)/\AllR R (cs.drop (k*s)) (xs.drop k)
 | cs,xs,0,h=>by simpa using (⟨rfl,h⟩:AllR R [] ([]:List a)/\AllR R cs xs)
 | cs,[],k+1,h=>by rw[show cs=[] from h]; simpa using (⟨rfl,rfl⟩:AllR R [] ([]:List a)/\AllR R [] ([]:List a))
 | _,x :: r,k+1,⟨c,d,e,h1,h2⟩=>by
   subst e;have g:=b _ _ h1;have i:(k+1)*s=c.length+k*s:=by rw[g,Nat.add_mul]; omega
   rw[i,List.take_length_add_append,List.drop_length_add_append];have f:=AllR.takeD b k h2;exact⟨⟨c,_,rfl,h1,f.1⟩,f.2⟩
theorem AllR.cut{b:Type}{R:List Value->b->Prop}{s:Nat}(a:∀c x,R c x->c.length=s){cs:List Value}{xs:List b}{l h:Nat}(d:AllR R cs xs)(_:l<=h)(_:h<=xs.length):AllR R ((cs.take (h*s)).drop (l*s)) ((xs.take h).drop l) :=
 (AllR.takeD a l (AllR.takeD a h d).1).2
theorem j0{n:Int}(h : -9223372036854775808<=n/\n<=9223372036854775807):lo .i64<=n/\n<=hi .i64:=h
theorem v0v{a b:Int}(h:U0 a)(k:U0 b):U0 (HK a b)/\U0 (HL a b):=by grind[U0,HK,HL]
theorem D0Q(a b:Int):(if b<a then b else a)=HK a b:=by grind[HK]
theorem D0U(a b:Int):(if b > a then b else a)=HL a b:=by grind[HL]
section
variable {X:Cx} {G:Gh} {a:Act} {st:St} {Γ:p5} {p:Pa}
theorem RQ(c:EnvR X.n G st.e a)(b:PathP p a){o:Option Operand}{r:Option Int}(h:U3 st p o=some r):(o=none/\r=none)∨∃x n k,o=some x/\r=some n/\a.eval x=.int k n:=by
 unfold U3 at h;split at h
 ·grind
 ·rename_i x;split at h
  ·rename_i k n d;simp at h;exact .inr ⟨x,n,k,rfl,h.symm,(D9 (D0 c b d)).1⟩
  grind
theorem w0o{a:Type}(xs:List a)(lo hi:Option Int)(h:NL (lo.getD 0) (hi.getD xs.length) xs.length):HM xs lo hi=(xs.take (hi.getD xs.length).toNat).drop (lo.getD 0).toNat:=by
 cases lo <;> cases hi <;> simp[HM]
theorem o0v(F:x9 X.P Γ)(hE:EnvR X.n G st.e a)(hp:PathP p a){T E ty:TypeId}{s0 y0:Nat}{z0:Value}{aD:Ty}{x:Operand}{l h:Option Operand}{lo hi:Option Int}{fr:Bool}{t:Ty}{xs:List (j6 t)}{s:TI}
  (hT:b9 Γ T=some ⟨s0,y0,z0,.sl E,aD⟩) (aC:b9 Γ E=some s) (hs:s.size=sz t) (hx:AVR G (.d fr (.sl t) xs) (a.eval x)) (hl:U3 st p l=some lo) (hh:U3 st p h=some hi) (hq:NL (lo.getD 0) (hi.getD xs.length) xs.length) :
  M6 X G a (.slice T x l h none) ty (.d fr (.sl t) (HM xs lo hi)):=by
 obtain⟨pp,j,H,aH,aF,h4⟩:=id hx;simp only[List.cons.injEq,and_true] at H;have Y:=(F T _ hT).2.2.2.2.2;have hI:Info X.P E s.size s.bytes s.zero:=⟨(F E _ aC).1⟩;obtain⟨aG,i,W,h3,h5⟩:=hI.get;rw[w0o xs lo hi hq];obtain⟨q1,q2,q3⟩:=hq;have aB:(∃n k,l=some n/\a.eval n=.int k (lo.getD 0))∨(l=none/\lo.getD 0=0):=by
  rcases RQ hE hp hl with ⟨q,u⟩ | ⟨y,n,k,q,u,e3⟩
  ·grind
  ·grind
 have aA:(∃n k,h=some n/\a.eval n=.int k (hi.getD xs.length))∨(h=none/\hi.getD xs.length=(xs.length:Int)):=by
  rcases RQ hE hp hh with ⟨q,u⟩ | ⟨y,n,k,q,u,e3⟩
  ·grind
  ·grind
 generalize lo.getD 0=l0 at *
 generalize hi.getD xs.length=h0 at *
 have r1:∀(y:Nat) (f:BoundsCode) (k:IntKind),h0<=y->(Instr.sliceBound (.int k h0) y f).run X.P G.w=.ok h0.toNat G.w:=fun y f k V=>run_sliceBound (P:=X.P) (w:=G.w) k h0 y f (by omega) V;have r2:∀(y:Nat) (f:BoundsCode) (k:IntKind),l0<=y->(Instr.sliceBound (.int k l0) y f).run X.P G.w=.ok l0.toNat G.w:=fun y f k V=>run_sliceBound (P:=X.P) (w:=G.w) k l0 y f q1 V;have v:∀z Q m g,(execOp a.eval ⟨z,.slice T x l h none,ty,Q,m,g⟩).run X.P G.w=.ok (.value (.slice (if j=l0.toNat then pp else pp.map (·.add (l0.toNat*s.size))) (h0.toNat-l0.toNat) (j-l0.toNat))) G.w:=by
  intro z Q m g;rcases aB with ⟨n1,k1,rfl,q⟩ | ⟨rfl,q⟩ <;> rcases aA with ⟨n2,k2,rfl,u⟩ | ⟨rfl,u⟩
  ·simp[execOp,H,Instr.sliceAt,Instr.slice,Instr.sliceBounds,run_underlying Y,Result.andThen,Y0 G.w i,W,q,u,r1 j .sliceAcap k2 (by omega),r2 h0.toNat .sliceB k1 (by omega)]
  ·have:h0.toNat=xs.length:=by omega
   simp[execOp,H,Instr.sliceAt,Instr.slice,Instr.sliceBounds,run_underlying Y,Result.andThen,Y0 G.w i,W,q,this,r2 xs.length .sliceB k1 (by omega)]
  ·simp[execOp,H,Instr.sliceAt,Instr.slice,Instr.sliceBounds,run_underlying Y,Result.andThen,Y0 G.w i,W,q,u,r1 j .sliceAcap k2 (by omega)]
  ·have:h0.toNat=xs.length:=by omega
   simp[execOp,H,Instr.sliceAt,Instr.slice,Instr.sliceBounds,run_underlying Y,Result.andThen,Y0 G.w i,W,q,this]
 refine⟨_,v,?_⟩;have r:((xs.take h0.toNat).drop l0.toNat).length=h0.toNat-l0.toNat:=by rw[List.length_drop,List.length_take]; omega
 rw[<- r];refine⟨_,_,rfl,by rw[r]; omega,by omega,?_⟩;by_cases hc:j=l0.toNat
 ·grind
 ·rcases h4 with h4 | ⟨b,o,ds,rfl,hb,hat,hall⟩
  ·grind
  ·right;have hR:=fun(c:List Value) (y:j6 t) (V:RT (rg G fr) G.w t c y)=>RT.len V;refine⟨b,o+l0.toNat*s.size,(ds.take (h0.toNat*sz t)).drop (l0.toNat*sz t),?_,hb,?_,?_⟩
   ·grind[Addr.add]
   ·grind[XE,XD]
   grind[AllR.cut]
theorem o0R(j:EnvR X.n G st.e a){T ty:TypeId}{x ix:Operand}{s:ByteArray}{n:Int}{f g:Bool}{k:IntKind}(o:X.P.underlying T=some .string)(m:AVR G (.d f .str s) (a.eval x))(l:AVR G (.d g (.int k) n) (a.eval ix))(h:JQ n s.size) :
  M6 X G a (.index T x ix) ty (.d true (.int .u8) (F5 s n.toNat)):=by
 haveI:NC X.P T:=⟨o⟩
 have b:ev (D5 a [x,ix]) x=some (a.eval x):=K1 (by simp);have c:ev (D5 a [x,ix]) ix=some (a.eval ix):=K1 (by simp);rw[(RN m).1] at b;rw[(D9 l).1] at c;obtain⟨i,rfl⟩:=Int.eq_ofNat_of_zero_le h.1;have hi:i<s.size:=by have:=h.2; omega
 exact B8 j [x,ix] (r0W b c hi) ⟨rfl,w0y _ _,w0z _ _⟩
theorem s0y(_:EnvR X.n G st.e a){S T ty:TypeId}{x:Operand}{f:Bool}{k y b:IntKind}{n m:Int}(s:X.P.underlying S=some (.int y))(t:X.P.underlying T=some (.int b))(w:AVR G (.d f (.int k) n) (a.eval x)){q:Prop}(h:XL k b n=(q,m))(l:q) :
  M6 X G a (.convert S T x) ty (.d true (.int b) m):=by
 obtain⟨u,c⟩:=D9 w;have j:b.wrap n=m/\lo b<=m/\m<=hi b:=by
  unfold XL at h;split at h
  case h_2 =>
   simp only[pj] at h;obtain⟨rfl,rfl⟩:=h;exact⟨RO _ l,l⟩
  rename_i z o;simp only[pj] at h;obtain⟨_,rfl⟩:=h;have h:=o;unfold I0C at h;split at h <;> simp only[oi,reduceCtorEq] at h
  ·subst h; exact⟨IntWalk.i64_in _ c,c⟩
  ·subst h; exact⟨IntWalk.u8_in _ c,c⟩
  ·grind[lo,hi,IntWalk.i64_in]
  ·grind[lo,hi,IntKind.wrap_u8]
 refine⟨.int b m,fun v r i g=>?_,rfl,j.2⟩;rw[<- j.1];simp[execOp,u,convert,run_underlying t,run_underlying s,Conv.intToInt,Result.andThen]
theorem o0p(S:Sat X G)(Y:EnvR X.n G st.e a){q T E ty T':TypeId}{x:Operand}{id ver:Nat}{fr:Bool}{xs:List Int}(F:X.P.underlying q=some (.slice E))(l:X.P.underlying E=some (.int .u8))(Q:X.P.underlying T=some .string)(z:AVR G (.os id ver) (a.eval x))(v:b9 G.o id=some (.arr T' fr (.int .u8) xs ver))(hq:0<xs.length) :
  M6 X G a (.convert q T x) ty (.d true .str (strOfNums xs)):=by
 obtain⟨_,T2,aA,t2,W,u,y,g2,V⟩:=z;rw[v] at y;cases y;have z:=V rfl;obtain⟨i,hO,hA,_⟩:=S.obs id _ v;have f:∀{xs:List Int} {i:List Value},AllR (RT (rg G fr) G.w (.int .u8)) i xs->i=xs.map (Value.int .u8):=by
  intro xs
  induction xs with
  | nil=>intro i h; exact h
  | cons x r H =>
    rintro i ⟨c,d,e,s,j⟩;rw[e,s.1,H j]; rfl
 have f:=f hA;subst f
 haveI:AS X.P q E:=⟨F⟩
 haveI:Xx X.P E:=⟨l⟩
 haveI:NC X.P T:=⟨Q⟩
 rcases hO with ⟨_,h0,_⟩ | ⟨b,o,cap,cur,hb,hv,s,j,h3,h4,h5⟩
 ·omega
 ·have m:Own G.w T' 1 (some b) (G.ρ id) xs.length (xs.map (Value.int .u8)):=.inr ⟨b,o,cap,cur,rfl,hv,s,j,h3,h4,h5⟩;obtain⟨o2,g,e2,t⟩:=m.at;have k:ev (D5 a [x]) x=some (.slice (some ⟨b,o2,none⟩) xs.length g):=by grind[K1]
  refine B8 Y [x] (r0U k rfl t) ⟨rfl,?_⟩;rw[strOfNums_size];have:cap<=9223372036854775807:=h3;omega
theorem i0K(h:x9 X.P Γ)(S:Sat X G)(z:EnvR X.n G st.e a){T ty:TypeId}{x:Operand}{f c m q E:Nat}{F:Value}{i:Ty}{pl:List (Nat×Nat)}{u:Bool}{d:List Bool}{v r:AV}{cs:List AV}{l:List Nat}
  (s:b9 Γ T=some ⟨m,q,F,.agg pl u d,i⟩) (j:B9 pl f=some (c,E)) (H:AVR G v (a.eval x)) (t:Y2 G.o v=some (cs,l)) (w:RP v c=some r):M6 X G a (.fieldAddr T x f) ty r:=by
 obtain⟨b,o,Q,k⟩:=s0j S t w H;have y:=(h T _ s).2.2.2.2.2.2.2.1;rw[W3] at j
 haveI:w0S X.P T f c:=⟨by have:=g0X y j; simpa using this⟩
 have g:ev (D5 a [x]) x=some (.pointer (some ⟨b,o,none⟩)):=by grind[K1]
 exact B8 z [x] (j0k g) k
theorem m0E{P:Program}{w:World}{T:TypeId}{i:TypeInfo}{xs:Array Value}{a:Nat}(c:Bz P T=true)(hi:P.info? T=some i):(part T xs a).run P w=.ok (.agg (xs.extract a (a+i.size))) w:=by
 unfold Bz at c;split at c
 ·rename_i b;simp[part,Go.isAgg,run_underlying b,Y0 w hi,Result.andThen]
 ·rename_i b;simp[part,Go.isAgg,run_underlying b,Y0 w hi,Result.andThen]
 grind
theorem m0D{P:Program}{w:World}{T:TypeId}{xs:Array Value}{a:Nat}{v:Value}(b:X9 P T=true)(c:xs[a]?=some v):(part T xs a).run P w=.ok v w:=by
 unfold X9 at b;cases hu:P.underlying T with
 | none=>grind
 | some d=>cases d <;> simp[hu] at b <;> simp[part,Go.isAgg,run_underlying hu,c]
theorem o0X(hE:EnvR X.n G st.e a){T ty:TypeId}{ti:TI}{x:Operand}{f:Nat}{cs:List AV}{r:AV}(hT:HI X.P T ti)(hx:AVR G (.agg cs) (a.eval x))(h:XM ti cs f=some r):M6 X G a (.field T x f) ty r:=by
 obtain⟨_,_,_,_,Y⟩:=hT;obtain⟨w,eu,hA⟩:=hx;unfold XM at h;split at h
 ·rename_i pl e ag V;rw[V] at Y;obtain⟨_,t,h3,_,_,z⟩:=Y;unfold JK at t;unfold NF at h3;unfold XB at z;split at t
  ·rename_i E H;simp only[H,oi] at t h3 z;have q:∀{d s:Nat} {b:Bool},B9 pl f=some (d,s)->B9 ag f=some b->∃c i,E[f]?=some c/\X.P.info? c.type=some i/\d=c.offset/\s=i.size/\Bz X.P c.type=b/\X9 X.P c.type=!b:=by
    intro d s b j l;rw[W3] at j l;rw[<- t,List.getElem?_map] at j;have g3:(E.toList.map fun f=>(Bz X.P f.type,X9 X.P f.type))[f]?=some (b,!b):=by rw[z,List.getElem?_map,l]; rfl
    rw[List.getElem?_map] at g3;cases o:E.toList[f]? with
    | none=>rw[o] at j; cases j
    | some c =>
      grind
   have m:ev (D5 a [x]) x=some (.agg w.toArray):=by grind[K1]
   split at h
   ·rename_i d s j l;obtain⟨c,i,o,hi,rfl,rfl,y,_⟩:=q j l;rw[ce] at h;split at h
    ·simp only[oi] at h; subst h;refine B8 hE [x] (v:=.agg (w.toArray.extract c.offset (c.offset+i.size))) ?_ ⟨(w.drop c.offset).take i.size,?_,?_⟩
     ·intro ac F Q k g W;simp only[execOp,W.ev m];simp[Instr.field,run_underlying H,o,asAgg,m0E y hi]
     ·grind
     ·exact((hA.take c.offset).2.take i.size).1
    grind
   ·rename_i d s j l;obtain⟨c,i,o,hi,rfl,rfl,_,y⟩:=q j l;rw[W3] at h;obtain⟨u,aA,hr⟩:=hA.get h;refine B8 hE [x] (v:=u) ?_ hr;intro ac F Q k g W;simp only[execOp,W.ev m];simp[Instr.field,run_underlying H,o,asAgg,m0D y (show w.toArray[c.offset]?=some u by grind)]
   grind
  grind
 grind
theorem n0L(d:x9 X.P Γ)(l:EnvR X.n G st.e a)(v:PathP p a){T ty:TypeId}{j k:Nat}{g:Value}{h:Ty}{pl:List (Nat×Nat)}{u:Bool}{c:List Bool}{b:Array (Nat×Operand)}{cs r:List AV}
  (s:b9 Γ T=some ⟨j,k,g,.agg pl u c,h⟩) (hz:AW g.cells.toList=some cs) (m:AY st p pl cs b.toList=some r):M6 X G a (.build T b) ty (.agg r):=by
 obtain⟨y,x,o⟩:=XK l v m (JO (G:=G) hz);have f:=(d T _ s)
 haveI:Info X.P T j k g:=⟨f.1⟩
 haveI:r0u X.P T pl:=⟨f.2.2.2.2.2.1,f.2.2.2.2.2.2.1⟩
 have t:=XJ (a:=a) (xs:=b.toList.map (·.2)) (ps:=b.toList) (fun q z=>List.mem_map_of_mem z);have i:=r0Y (P:=X.P) (T:=T) (n:=X.n) (w:=G.w) (ty:=ty) t x;rw[Array.toArray_toList] at i;exact B8 l _ i ⟨y,rfl,o⟩
theorem j0u(c:x9 X.P Γ)(k:EnvR X.n G st.e a)(s:PathP p a){T E ty:TypeId}{j l m:Nat}{f:Value}{g:Ty}{d:TI}{b:Array (Nat×Operand)}{cs r:List AV}
  (o:b9 Γ T=some ⟨j,l,f,.arr m E,g⟩) (h:b9 Γ E=some d) (hz:AW f.cells.toList=some cs) (t:AY st p (CS m 0 d.size) cs b.toList=some r):M6 X G a (.build T b) ty (.agg r):=by
 obtain⟨x,y,u⟩:=XK k s t (JO (G:=G) hz)
 haveI:Info X.P T j l f:=⟨(c T _ o).1⟩
 haveI:Info X.P E d.size d.bytes d.zero:=⟨(c E _ h).1⟩
 have v:=XJ (a:=a) (xs:=b.toList.map (·.2)) (ps:=b.toList) (fun q z=>List.mem_map_of_mem z);have i:=k0U (P:=X.P) (T:=T) (n:=X.n) (w:=G.w) (ty:=ty) (c T _ o).2.2.2.2.2 v y;rw[Array.toArray_toList] at i;exact B8 k _ i ⟨x,rfl,u⟩
theorem j0q(i:EnvR X.n G st.e a)(d:PathP p a){f:FuncId}{first b:Array Operand}{ty:TypeId}{l:List AV}(r:first.toList=[])(h:L9 st p b.toList=some l):M6 X G a (.makeFunc (.func f) first b) ty (.fn f l):=by
 have j:=AX i d h;refine⟨.func (.func f) #[] (b.toList.map a.eval).toArray,fun o k c g=>?_,_,rfl,j⟩;have q:first=#[]:=by cases first; simp_all
 have m:b.map a.eval=(b.toList.map a.eval).toArray:=by grind
 subst q;simp only[execOp,Instr.makeFunc,m];simp
theorem C0d{xs:Array Operand}{u:Value}(h:xs.toList.map a.eval=[u]):xs.map a.eval=#[u]:=by
 grind
theorem XN{T ty:TypeId}{E:TypeId}{xs:Array Operand}{e:Array TypeId}{j:Option Addr}{m c:Nat}(o:X.P.underlying T=some (.slice E))(n:xs.toList.map a.eval=[.slice j m c])(h:e.toList=[T])(q:m<=9223372036854775807) :
  M6 X G a (.call ⟨.builtin .len,xs,e⟩) ty (.d true (.int .i64) (m:Int)):=by
 have l:=C0d n;have i:e=#[T]:=Array.ext' (by omega);subst i;refine⟨.int .i64 m,fun k f b g=>?_,rfl,j0 (by omega)⟩;simp only[execOp,resolve,l];simp[invoke,builtin,Builtin.len_,run_underlying o,goInt,Result.andThen]
theorem s0n{T ty:TypeId}{xs:Array Operand}{c:Array TypeId}{s:ByteArray}(l:X.P.underlying T=some .string)(k:xs.toList.map a.eval=[.string s])(f:c.toList=[T])(m:s.size<=9223372036854775807) :
  M6 X G a (.call ⟨.builtin .len,xs,c⟩) ty (.d true (.int .i64) (s.size:Int)):=by
 have j:=C0d k;have h:c=#[T]:=Array.ext' (by omega);subst h;refine⟨.int .i64 s.size,fun i e b g=>?_,rfl,j0 (by omega)⟩;simp only[execOp,resolve,j];simp[invoke,builtin,Builtin.len_,run_underlying l,goInt,Result.andThen]
theorem g0W{ty:TypeId}{xs:Array Operand}{i:Array TypeId}{u v:Int}(k:xs.toList.map a.eval=[.int .i64 u,.int .i64 v])(h:U0 u)(j:U0 v) :
  M6 X G a (.call ⟨.builtin .min,xs,i⟩) ty (.d true (.int .i64) (HK u v))/\M6 X G a (.call ⟨.builtin .max,xs,i⟩) ty (.d true (.int .i64) (HL u v)):=by
 have f:xs.map a.eval=#[.int .i64 u,.int .i64 v]:=by apply Array.ext'; simpa using k
 refine⟨⟨.int .i64 (HK u v),fun e c b g=>?_,rfl,(v0v h j).1⟩,⟨.int .i64 (HL u v),fun e c b g=>?_,rfl,(v0v h j).2⟩⟩
 ·rw[<- D0Q];simp only[execOp,resolve,f];simp[invoke,builtin,Builtin.min_,Builtin.min2]
 ·rw[<- D0U];simp only[execOp,resolve,f];simp[invoke,builtin,Builtin.max_,Builtin.max2]
end
theorem s0G{X:Cx}{G:Gh}{a:Act}{st:St}{Γ:p5}{p:Pa}(w:x9 X.P Γ)(S:Sat X G)(ho:G.o=st.o)(d:EnvR X.n G st.e a)(H:PathP p a){op:Op}{ty:TypeId}{q:Prop}{r:AV}{l:List Nat}
  (h:I6 Γ st p op=some (q,r,l)) (hq:q):M6 X G a op ty r:=by
 unfold I6 at h;split at h
 ·rename_i x;split at h
  ·rename_i v Q;simp only[oi,pj] at h;obtain⟨_,rfl,_⟩:=h;exact B8 d [x] (Cb (by grind[AR,K1])) (D0 d H Q)
  grind
 ·rename_i x;split at h
  ·rename_i v Q;simp only[oi,pj] at h;obtain⟨_,rfl,_⟩:=h;exact B8 d [x] (Cb (by grind[AR,K1])) (D0 d H Q)
  grind
 ·rename_i x;split at h
  ·rename_i v Q;split at h
   ·rename_i cs l' hd;simp only[oi,pj] at h;obtain⟨rfl,rfl,_⟩:=h;rw[<- ho] at hd hq;have hx:=D0 d H Q;obtain⟨b,o,us,e,_⟩:=XG S hd hq hx;have aA:ev (D5 a [x]) x=some (.pointer (some ⟨b,o,none⟩)):=by grind[K1]
    rw[e] at hx;exact B8 d [x] (k0S aA) hx
   grind
  grind
 ·rename_i c x y;split at h
  ·rename_i s;split at h
   ·rename_i f1 vx f2 vy f3 vz j F V;simp only[oi,pj] at h;obtain⟨_,rfl,_⟩:=h;have e1:=BA (D0 d H j);rw[v0x F V];have hc:ev (D5 a [.tmp s,x,y]) (.tmp s)=some (.bool vx):=by grind[K1]
    cases vx with
    | true =>
      have aC:PathP ((s,true) :: p) a:=by
       intro z hz;rcases List.mem_cons.1 hz with rfl | hz
       ·exact e1
       ·exact H z hz
      have e2:=BA (D0 d aC F);exact B8 d [.tmp s,x,y] (v:=.bool vy) (Cb (by grind[AR,K1])) rfl
    | false =>
      have aC:PathP ((s,false) :: p) a:=by
       intro z hz;rcases List.mem_cons.1 hz with rfl | hz
       ·exact e1
       ·exact H z hz
      have e2:=BA (D0 d aC V);exact B8 d [.tmp s,x,y] (v:=.bool vz) (Cb (by grind[AR,K1])) rfl
   grind
  grind
 ·split at h
  ·rename_i u v j F;split at h
   ·rename_i q' r' hb;simp only[oi,pj] at h;obtain⟨rfl,rfl,_⟩:=h;exact s0B d (fun t ht=>w _ t ht) (D0 d H j) (D0 d H F) hb hq
   grind
  grind
 ·rename_i x;split at h
  ·rename_i f b j;simp only[oi,pj] at h;obtain⟨_,rfl,_⟩:=h;have e1:=BA (D0 d H j);have aA:ev (D5 a [x]) x=some (.bool b):=by grind[K1]
   exact B8 d [x] (Cb (by grind[AR])) rfl
  grind
 ·rename_i x;split at h
  ·rename_i f n j;simp only[oi,pj] at h;obtain⟨rfl,rfl,_⟩:=h;have e1:=(D9 (D0 d H j)).1;have aA:ev (D5 a [x]) x=some (.int .i64 n):=by grind[K1]
   exact B8 d [x] (y0k aA hq) ⟨rfl,hq⟩
  grind
 ·split at h
  ·rename_i f k n _ _ _ k0 _ _ _ _ k' _ j F V;split at h;rename_i q' m hm;simp only[oi,pj] at h;obtain⟨rfl,rfl,_⟩:=h;exact s0y d (w _ _ F).2.2.2.2.2 (w _ _ V).2.2.2.2.2 (D0 d H j) hm hq
  ·rename_i id aJ _ _ _ E _ _ _ _ _ j F V;split at h
   ·rename_i E' fr xs aF _ _ _ _ h4 h5;rw[ce] at h;split at h
    ·rename_i Q;have Q:=nb Q;subst Q;simp only[oi,pj] at h;obtain⟨rfl,rfl,_⟩:=h;exact o0p S d (w _ _ F).2.2.2.2.2 (w _ _ h5).2.2.2.2.2 (w _ _ V).2.2.2.2.2 (D0 d H j) (by rw[ho]; exact h4) hq
    grind
   grind
  grind
 ·split at h
  ·rename_i v _ _ _ pl _ j F;split at h
   ·rename_i aN s1 cs l' hf hd;split at h
    ·rename_i r' hm;simp only[oi,pj] at h;obtain⟨_,rfl,_⟩:=h;rw[<- ho] at hd;exact i0K w S d F hf (D0 d H j) hd hm
    grind
   grind
  grind
 ·split at h
  ·rename_i v ti j F;split at h
   ·rename_i cs l' hd;split at h
    ·rename_i r' hm;simp only[oi,pj] at h;obtain⟨rfl,rfl,_⟩:=h;rw[<- ho] at hd hq;obtain⟨b,o,us,e,aK,hA⟩:=XG S hd hq (D0 d H j);exact q0F d (w _ _ F) e aK hA hm
    grind
   grind
  grind
 ·split at h
  ·rename_i v f k n j F;rw[<- ho] at h;exact v0N w S d (D0 d H j) (D0 d H F) h hq
  grind
 ·split at h
  ·rename_i f s g k n _ _ _ _ j F V;simp only[oi,pj] at h;obtain⟨rfl,rfl,_⟩:=h;exact o0R d (w _ _ V).2.2.2.2.2 (D0 d H j) (D0 d H F) hq
  grind
 ·rename_i x i;split at h
  ·rename_i l' j;split at h
   ·rename_i r' F;simp only[oi,pj] at h;obtain⟨_,rfl,_⟩:=h;obtain⟨us,e,hA⟩:=D0 d H j;rw[W3] at F;obtain⟨u,W,hr⟩:=hA.get F;have aA:ev (D5 a [x]) x=some (.tuple us.toArray):=by grind[K1]
    exact B8 d [x] (Cb (by grind[AR])) hr
   grind
  grind
 ·split at h
  ·rename_i cs ti j F;split at h
   ·rename_i r' V;simp only[oi,pj] at h;obtain⟨_,rfl,_⟩:=h;exact o0X d (w _ _ F) (D0 d H j) V
   grind
  grind
 ·grind[oi,pj,j0q]
 ·grind[oi,pj,n0L,j0u]
 ·split at h
  ·rename_i j F V h4;split at h
   ·rename_i te h5;rw[ce] at h
    grind[oi,pj,o0v,nb,D0]
   grind
  grind
 ·rename_i xs Ts;split at h
  ·rename_i f t l' T j F;split at h
   ·rename_i V;simp only[oi,pj] at h;obtain⟨_,rfl,_⟩:=h;obtain⟨u,Y,e,W,hr⟩:=AX d H j;have:Y=[]:=hr;subst this;obtain⟨p0,aH,Q,aL,aB,_⟩:=W;simp only[List.cons.injEq,and_true] at Q;rw[Q] at e;exact XN (w _ _ V).2.2.2.2.2 e F (by omega)
   grind
  ·rename_i id aJ T j F;split at h
   ·rename_i _ _ _ _ T' fr t l' aF V h4;rw[ce] at h;split at h
    ·rename_i Q;have Q:=nb Q;simp only[oi,pj] at h;obtain⟨_,rfl,_⟩:=h;obtain⟨u,Y,e,W,hr⟩:=AX d H j;have:Y=[]:=hr;subst this;obtain⟨_,T1,aP,t1,aO,aM,g1,g2,g3⟩:=W;rw[<- ho] at h4;rw[h4] at g1;cases g1;have W:=g3 Q;obtain⟨cs,hO,_,_⟩:=S.obs id _ h4;have aB:l'.length<=9223372036854775807:=by
      rcases hO with ⟨_,hn,_⟩ | ⟨b,o,aH,cur,_,_,_,aL,aB,_⟩
      ·omega
      ·grind[maxLen]
     obtain⟨p0,c0,aG⟩:=hO.len;rw[W,aG] at e;exact XN (w _ _ V).2.2.2.2.2 e F aB
    grind
   grind
  ·rename_i T j F;split at h
   ·rename_i V;simp only[oi,pj] at h;obtain⟨_,rfl,_⟩:=h;obtain⟨u,Y,e,W,hr⟩:=AX d H j;have:Y=[]:=hr;subst this;have W:u=_:=W;rw[W] at e;exact XN (w _ _ V).2.2.2.2.2 e F (Nat.zero_le _)
   grind
  ·rename_i f s T j F;split at h
   ·rename_i V;simp only[oi,pj] at h;obtain⟨_,rfl,_⟩:=h;obtain⟨u,Y,e,W,hr⟩:=AX d H j;have:Y=[]:=hr;subst this;obtain⟨Q,hm⟩:=RN W;rw[Q] at e;exact s0n (w _ _ V).2.2.2.2.2 e F hm
   grind
  grind
 ·rename_i xs Ts;split at h
  ·rename_i f u g v j;simp only[oi,pj] at h;obtain⟨_,rfl,_⟩:=h;obtain⟨x1,aI,e1,W,x2,aD,e2,Q,e3⟩:=AX d H j;have e3:aD=[]:=e3;subst e3; subst e2;obtain⟨g1,g2⟩:=D9 W;obtain⟨g3,g4⟩:=D9 Q;rw[g1,g3] at e1;exact(g0W e1 g2 g4).1
  grind
 ·rename_i xs Ts;split at h
  ·rename_i f u g v j;simp only[oi,pj] at h;obtain⟨_,rfl,_⟩:=h;obtain⟨x1,aI,e1,W,x2,aD,e2,Q,e3⟩:=AX d H j;have e3:aD=[]:=e3;subst e3; subst e2;obtain⟨g1,g2⟩:=D9 W;obtain⟨g3,g4⟩:=D9 Q;rw[g1,g3] at e1;exact(g0W e1 g2 g4).2
  grind
 grind
def CT(o:List (Nat×Ob)):AV->Option ((t:Ty)×List (j6 t)×List Nat×Bool)
 | .d fr (.sl t) xs=>some ⟨t,xs,[],fr||D4 t⟩
 | .os id ver=>match b9 o id with
   | some (.arr _ fr t xs ver')=>bif Nat.beq ver ver' then some ⟨t,xs,[id],fr||D4 t⟩ else none
   | _=>none
 | _=>none
def RR(n m y:Nat):Prop:=n+m<=9223372036854775807/\(n+m)*y<=140737488355328
def RS(n n':Int)(y:Nat):Prop:=0<=n/\n'=n/\n.toNat*y<=281474976710656/\n<=9223372036854775807
def DQ(st:St)(p:Pa)(t:Ty):Nat->List (Nat×Operand)->Option (List (j6 t)×Bool)
 | _,[]=>some ([],true)
 | k,(i,x) :: r=>bif Nat.beq i k then(match rd st p x with
   | some v=>match CQ v with
     | some cs=>match F8 st.o 24 t cs with
       | some (y,[],f)=>match DQ st p t (k+1) r with
         | some (ys,g)=>some (y :: ys,f&&g)
         | none=>none
       | _=>none
     | none=>none
   | none=>none) else none
def AZ(o:List (Nat×Ob))(d:Nat):Bool:=match b9 o d with
 | none=>true
 | some _=>false
def RU:TI->Option (TypeId×Ty)
 | ⟨1,_,.slice none 0 0,.sl Te,.sl t⟩=>some (Te,t)
 | _=>none
def Ba(Γ:p5)(st:St)(p:Pa)(d:Nat):Op->Option (Prop×AV×(Nat×Ob)×List Nat)
 | .alloc T=>match b9 Γ T with
   | some ti=>match AW ti.zero.cells.toList with
     | some cs=>bif AZ st.o d then some (True,.ptr d 0,(d,.box T cs),[d]) else none
     | none=>none
   | none=>none
 | .box T x=>match rd st p x with
   | some v=>match CQ v with
     | some cs=>bif AZ st.o d then some (True,.ptr d 0,(d,.box T cs),[d]) else none
     | none=>none
   | none=>none
 | .makeSlice T l c=>match rd st p l,rd st p c,b9 Γ T with
   | some (.d _ (.int .i64) n),some (.d _ (.int .i64) n'),some ⟨_,_,_,.sl E,_⟩=>match b9 Γ E with
     | some te=>match RU te with
       | some (Te,t)=>bif AZ st.o d then some (RS n n' te.bytes,.og d,(d,.grd E Te true t (List.replicate n.toNat []) none),[d]) else none
       | none=>match AW te.zero.cells.toList with
         | some cs=>match F8 st.o 24 te.ty cs with
           | some (z,[],f)=>bif AZ st.o d&&Nat.beq te.size (sz te.ty) then some (RS n n' te.bytes,.os d 0,(d,.arr E f te.ty (List.replicate n.toNat z) 0),[d]) else none
           | _=>none
         | none=>none
     | none=>none
   | _,_,_=>none
 | .buildSlice T n parts=>match b9 Γ T with
   | some ⟨_,_,_,.sl E,_⟩=>match b9 Γ E with
     | some te=>match DQ st p te.ty 0 parts.toList with
       | some (xs,f)=>bif AZ st.o d&&Nat.beq te.size (sz te.ty)&&Nat.beq parts.toList.length n&&Nat.ble (n*te.size) 16777216 then some (True,.os d 0,(d,.arr E f te.ty xs 0),[d]) else none
       | none=>none
     | none=>none
   | _=>none
 | .call ⟨.builtin .append,xs,Ts⟩=>match L9 st p xs.toList,Ts.toList with
   | some [.os id ver,v],[T,T2]=>match b9 Γ T,b9 st.o id,CT st.o v with
     | some ⟨_,_,_,.sl E,_⟩,some (.arr E' fr t l ver'),some ⟨t',m,ids,f⟩=>match b9 Γ E,Y1 (.sl t') (.sl t) m with
       | some te,some m'=>bif Nat.beq ver ver'&&Nat.beq E E'&&Nat.beq te.size (sz t)&&Nat.beq T T2 then some (RR l.length m'.length te.bytes,.os id (ver+1),(id,.arr E (fr&&f) t (l++m') (ver+1)),id :: ids) else none
       | _,_=>none
     | _,_,_=>none
   | some [.v (.slice none 0 0),v],[T,T2]=>match b9 Γ T,CT st.o v with
     | some ⟨_,_,_,.sl E,_⟩,some ⟨t,m,ids,f⟩=>match b9 Γ E with
       | some te=>bif AZ st.o d&&Nat.beq te.size (sz t)&&Nat.beq T T2 then some (RR 0 m.length te.bytes,.os d 0,(d,.arr E f t m 0),d :: ids) else none
       | none=>none
     | _,_=>none
   | _,_=>none
 | _=>none
def Ce(Γ:p5)(st:St)(p:Pa):Op->Option (Prop×(Nat×Ob)×List Nat)
 | .store T x y=>match rd st p x,rd st p y,b9 Γ T with
   | some (.ptr id off),some v,some ti=>match b9 st.o id,CQ v with
     | some (.box T' cs),some vs=>bif Nat.beq vs.length ti.size&&Nat.ble (off+vs.length) cs.length then some (True,(id,.box T' (FV cs off vs)),[id]) else none
     | _,_=>none
   | some (.pel id ver k s off),some v,some ti=>match b9 st.o id,CQ v with
     | some (.arr E fr t l ver'),some vs=>match F8 st.o 24 t (FV (r5 fr t (l.getD k (a6 t))) off vs) with
       | some (y,[],f)=>bif Nat.beq ver ver'&&Nat.beq s (sz t)&&Nat.beq vs.length ti.size&&Nat.ble (off+vs.length) (sz t) then some (k<l.length,(id,.arr E (fr&&f) t (l.set k y) ver'),[id]) else none
       | _=>none
     | _,_=>none
   | _,_,_=>none
 | _=>none
def Mk(X:Cx)(G:Gh)(a:Act)(op:Op)(ty:TypeId)(av:AV)(w:Nat×Ob):Prop :=
 ∃v G',(∀dst pos after g,(execOp a.eval ⟨dst,op,ty,pos,after,g⟩).run X.P G.w=.ok (.value v) G'.w)/\Sat X G'/\GLe G G'/\G'.o=w :: G.o/\AVR G' av v
theorem FW{o:List (Nat×Ob)}{d:Nat}(h:AZ o d=true):b9 o d=none:=by
 grind[AZ]
section
variable {X:Cx} {G:Gh} {a:Act} {st:St} {Γ:p5} {p:Pa}
theorem RV{d:Nat}{ob:Ob}{r:Value}(h:b9 G.o d=none):w0R G d ob r:=⟨(fun _ _ a=>by grind),(fun _ _ _ _ _ a=>by grind),by rw[h]; rfl⟩
theorem B0T(S:Sat X G){d:Nat}{T:TypeId}{cs:List AV}{us:Array Value}(i:b9 G.o d=none)(f:AVRs G cs us.toList) :
  ∃G',G'.w=G.w.alloc (.cells us T)/\Sat X G'/\GLe G G'/\G'.o=(d,.box T cs) :: G.o/\AVR G' (.ptr d 0) (.pointer (some ⟨G.w.heap.size,0,none⟩)):=by
 have c:=Xq G.w (.cells us T);have j:=Xr G.w us T;have h:=S.put (id:=d) (ob:=.box T cs) (r:=.pointer (some ⟨G.w.heap.size,0,none⟩)) (g:=some G.w.heap.size) (w':=G.w.alloc (.cells us T)) (go:=none) (RV i) (fun _ e=>by cases e) (WE.of_ext c.ext) (fun b e=>by cases e; exact .inr (Nat.le_refl _))
  (fun a=>⟨G.w.heap.size,us.toList,by simp[Gh.put],by simp[Gh.put],j,f.mono a⟩)
 exact⟨_,rfl,h.1,h.2,rfl,⟨T,cs,by rw[show(Gh.put G d (.box T cs) _ _ _).o=(d,.box T cs) :: G.o from rfl,lK]; simp⟩,_,by simp[Gh.put],rfl⟩
theorem B0U(S:Sat X G){d:Nat}{E:TypeId}{fr:Bool}{t:Ty}{xs:List (j6 t)}{us:Array Value}(l:b9 G.o d=none)(i:AllR (RT (rg G fr) G.w t) us.toList xs)(n:xs.length<=9223372036854775807) :
  ∃G',G'.w=G.w.alloc (.cells us E)/\Sat X G'/\GLe G G'/\G'.o=(d,.arr E fr t xs 0) :: G.o/\AVR G' (.os d 0) (.slice (some ⟨G.w.heap.size,0,none⟩) xs.length xs.length):=by
 have j:=Xq G.w (.cells us E);have m:=Xr G.w us E;have a:=i.len (fun c x h=>RT.len h);have h:=S.put (id:=d) (ob:=.arr E fr t xs 0) (r:=.slice (some ⟨G.w.heap.size,0,none⟩) xs.length xs.length) (g:=some G.w.heap.size) (w':=G.w.alloc (.cells us E)) (go:=none) (RV l) (fun _ e=>by cases e) (WE.of_ext j.ext) (fun b e=>by grind)
  (fun f=>⟨us.toList,by
    simp only[Gh.put,if_true];exact .inr ⟨G.w.heap.size,0,xs.length,us,rfl,rfl,by simpa [Blk] using m,Nat.le_refl _,by simp only[maxLen]; omega,by simpa using a,by rw[List.drop_zero,<- a,List.take_length]⟩,i.mapR (fun c x k=>RT.same (w:=G.w) f.hR k),fun b e=>by simp only[Gh.put,if_true] at e ⊢; cases e; exact Nat.le_trans S.le S.size⟩)
 exact⟨_,rfl,h.1,h.2,rfl,rfl,E,fr,t,xs,0,by rw[show(Gh.put G d (.arr E fr t xs 0) _ _ _).o=(d,.arr E fr t xs 0) :: G.o from rfl,lK]; simp,Nat.le_refl _,fun _=>by simp[Gh.put]⟩
theorem I0i(S:Sat X G){d n:Nat}{E Te:TypeId}{t:Ty}(m:b9 G.o d=none)(i:n<=9223372036854775807) :
  ∃G',G'.w=G.w.alloc (.cells (R3 n [.slice none 0 0]).toArray E)/\Sat X G'/\GLe G G'/\G'.o=(d,.grd E Te true t (List.replicate n []) none) :: G.o/\AVR G' (.og d) (.slice (some ⟨G.w.heap.size,0,none⟩) n n):=by
 have c:=Xq G.w (.cells (R3 n [.slice none 0 0]).toArray E);have f:=Xr G.w (R3 n [.slice none 0 0]).toArray E;have q:R3 n [Value.slice none 0 0]=List.replicate n (.slice none 0 0):=by
  clear c f i
  induction n with
  | zero=>rfl
  | succ n s=>grind[R3]
 have h:=S.put (id:=d) (ob:=.grd E Te true t (List.replicate n []) none) (r:=.slice (some ⟨G.w.heap.size,0,none⟩) n n) (g:=some G.w.heap.size) (w':=G.w.alloc (.cells (R3 n [.slice none 0 0]).toArray E)) (go:=none) (RV m) (fun _ e=>by cases e) (WE.of_ext c.ext) (fun b e=>by grind)
  (fun j=>⟨List.replicate n (.slice none 0 0),fun _=>none,by
    simp only[Gh.put,if_true,List.length_replicate];exact .inr ⟨G.w.heap.size,0,n,_,rfl,rfl,by simpa [Blk] using f,Nat.le_refl _,by grind[maxLen],by grind,by grind⟩,⟨by simp,fun b=>⟨fun h=>(h.1 rfl).elim,fun⟨_,_,_,h⟩=>by cases h⟩,(fun _ _ _ _ _ _ _ h=>by cases h),fun k a _=>by
     rw[List.length_replicate] at a;refine⟨[],?_,?_,(fun _ h=>by cases h)⟩
     ·simp only[gq,List.getElem?_replicate,a,if_true,Option.getD_some];exact Own.nil
     ·simp only[gq,List.getElem?_replicate,a,if_true,Option.getD_some];rfl,fun v l=>by rw[(List.mem_replicate.1 l).2]; rfl⟩,fun b e=>by simp only[Gh.put,if_true] at e ⊢; cases e; exact Nat.le_trans S.le S.size⟩)
 exact⟨_,rfl,h.1,h.2,rfl,rfl,⟨E,Te,true,t,List.replicate n [],none,by rw[show(Gh.put G d (.grd E Te true t (List.replicate n []) none) _ _ _).o=(d,.grd E Te true t (List.replicate n []) none) :: G.o from rfl,lK]; simp⟩,by simp[Gh.put]⟩
theorem z0t{a:TI}{Te:TypeId}{t:Ty}(h:RU a=some (Te,t)):a.size=1/\a.zero=.slice none 0 0/\a.ty=.sl t:=by
 unfold RU at h
 grind
theorem j0p(j:x9 X.P Γ)(S:Sat X G)(r:EnvR X.n G st.e a)(y:PathP p a){d T E ty F Q Te:Nat}{z0:Value}{v t:Ty}{l c:Operand}{n x:Int}{b:TI}{f g:Bool}
  (hl:rd st p l=some (.d f (.int .i64) n)) (hc:rd st p c=some (.d g (.int .i64) x)) (W:b9 Γ T=some ⟨F,Q,z0,.sl E,v⟩) (s:b9 Γ E=some b) (hg:RU b=some (Te,t))
  (Y:b9 G.o d=none) (hq:RS n x b.bytes):Mk X G a (.makeSlice T l c) ty (.og d) (d,.grd E Te true t (List.replicate n.toNat []) none):=by
 obtain⟨q1,rfl,z,q3⟩:=hq;obtain⟨m,rfl⟩:=Int.eq_ofNat_of_zero_le q1;simp only[Int.toNat_natCast] at z ⊢;have h:=j E _ s
 haveI:AS X.P T E:=⟨(j T _ W).2.2.2.2.2⟩
 haveI:Info X.P E b.size b.bytes b.zero:=⟨h.1⟩
 obtain⟨_,e0,_⟩:=z0t hg;obtain⟨G',h1,H,h3,V,h5⟩:=I0i S (E:=E) (Te:=Te) (t:=t) (d:=d) (n:=m) Y (by omega);have e1:=(D9 (D0 r y hl)).1;have e2:=(D9 (D0 r y hc)).1;have w:ev (D5 a [l,c]) l=some (.int .i64 (m:Int)):=by grind[K1]
 have u:ev (D5 a [l,c]) c=some (.int .i64 (m:Int)):=by grind[K1]
 refine⟨_,G',fun k q i g=>?_,H,h3,V,h5⟩;rw[h1];have hz:b.zero.cells.toList=[.slice none 0 0]:=by rw[e0]; rfl
 exact m0B (P:=X.P) (n:=X.n) w u hz (by rw[<- hz]; exact h.2.1) h.2.2.1 z (by omega) a k q i g (XC r _)
theorem p0n(e:x9 X.P Γ)(S:Sat X G){d T ty:Nat}{c:TI}{cs:List AV}(j:b9 Γ T=some c)(hz:AW c.zero.cells.toList=some cs)(k:b9 G.o d=none):Mk X G a (.alloc T) ty (.ptr d 0) (d,.box T cs):=by
 obtain⟨l,t,h,u,i,v⟩:=B0T S (T:=T) k (JO (G:=G) hz);have m:Info X.P T c.size c.bytes c.zero:=⟨(e T _ j).1⟩;obtain⟨q,b,x,y,n⟩:=m.get;refine⟨_,l,fun r s f g=>?_,h,u,i,v⟩;have hz:=Rt G.w b n;simp only[execOp,Instr.alloc,Sem.run_bind,hz,Result.andThen,t];rfl
theorem w0A(S:Sat X G)(f:EnvR X.n G st.e a)(c:PathP p a){d T ty:Nat}{x:Operand}{v:AV}{cs:List AV}(q:rd st p x=some v)(r:CQ v=some cs)(w:b9 G.o d=none):Mk X G a (.box T x) ty (.ptr d 0) (d,.box T cs):=by
 obtain⟨i,_⟩:=NJ r (D0 f c q);obtain⟨k,t,j,u,m,s⟩:=B0T S (T:=T) (us:=(a.eval x).cells) w i;refine⟨_,k,fun l h b g=>?_,j,u,m,s⟩;simp only[execOp,t];rfl
theorem n0R{a:Type}{R:List Value->a->Prop}{zs:List Value}{z:a}(h:R zs z):∀k,AllR R (R3 k zs) (List.replicate k z)
 | 0=>rfl
 | k+1=>⟨zs,R3 k zs,rfl,h,n0R h k⟩
theorem i0p(j:x9 X.P Γ)(S:Sat X G)(r:EnvR X.n G st.e a)(H:PathP p a){d T E ty W y0:Nat}{z0:Value}{x:Ty}{l c:Operand}{n F:Int}{b:TI}{cs:List AV}{z:j6 b.ty}{f g s:Bool}
  (hl:rd st p l=some (.d f (.int .i64) n)) (hc:rd st p c=some (.d g (.int .i64) F)) (hT:b9 Γ T=some ⟨W,y0,z0,.sl E,x⟩) (u:b9 Γ E=some b) (hz:AW b.zero.cells.toList=some cs) (hn:F8 G.o 24 b.ty cs=some (z,[],s))
  (hd:b9 G.o d=none) (_:b.size=sz b.ty) (hq:RS n F b.bytes):Mk X G a (.makeSlice T l c) ty (.os d 0) (d,.arr E s b.ty (List.replicate n.toNat z) 0):=by
 obtain⟨q1,rfl,Q,q3⟩:=hq;obtain⟨m,rfl⟩:=Int.eq_ofNat_of_zero_le q1;simp only[Int.toNat_natCast] at Q ⊢;have h:=j E _ u
 haveI:AS X.P T E:=⟨(j T _ hT).2.2.2.2.2⟩
 haveI:Info X.P E b.size b.bytes b.zero:=⟨h.1⟩
 have t:=Xz S hn (JO (G:=G) hz);have hA:=n0R (R:=RT (rg G s) G.w b.ty) t m;obtain⟨G',h1,Y,h3,h4,V⟩:=B0U S (E:=E) (d:=d) (us:=(R3 m b.zero.cells.toList).toArray) hd (by omega) (by grind);rw[List.length_replicate] at V;have e1:=(D9 (D0 r H hl)).1;have e2:=(D9 (D0 r H hc)).1;have y:ev (D5 a [l,c]) l=some (.int .i64 (m:Int)):=by grind[K1]
 have v:ev (D5 a [l,c]) c=some (.int .i64 (m:Int)):=by grind[K1]
 refine⟨_,G',fun k q i g=>?_,Y,h3,h4,V⟩;rw[h1];exact m0B (P:=X.P) (n:=X.n) y v rfl h.2.1 h.2.2.1 Q (by omega) a k q i g (XC r _)
theorem u0z(pre post c:List Value)(k:Nat)(h:pre.length=k):B7 (pre++post) k c=pre++(c++post.drop c.length):=by
 unfold B7;subst h
 simp_all
theorem k0g(S:Sat X G)(F:G.o=st.o)(u:EnvR X.n G st.e a)(s:PathP p a){t:Ty}{place:List (Nat×Nat)}:∀{ps:List (Nat×Operand)} {k:Nat} {ys:List (j6 t)} {fl:Bool} {pre post:List Value},DQ st p t k ps=some (ys,fl)->pre.length=k*sz t->post.length=ps.length*sz t ->
  (∀i,i<k+ps.length->place[i]?=some (i*sz t,sz t))->∃ws,Cc place (pre++post) (ps.map fun q=>(q.1,a.eval q.2))=some (pre++ws)/\AllR (RT (rg G fl) G.w t) ws ys/\ys.length=ps.length
 | [],k,ys,fl,pre,post,h,h1,h2,hpl=>by
   simp only[DQ,oi,pj] at h; obtain⟨rfl,rfl⟩:=h;have:post=[]:=List.eq_nil_of_length_eq_zero (by grind);subst this;exact⟨[],by simp[Cc],rfl,rfl⟩
 | (i,x) :: r,k,ys,fl,pre,post,h,h1,h2,hpl=>by
   unfold DQ at h;rw[ce] at h;split at h
   ·rename_i hi;have hi:=nb hi;subst hi;split at h
    ·rename_i v T;split at h
     ·rename_i cs l;split at h
      ·rename_i y f z;split at h
       ·rename_i V g m;simp only[oi,pj] at h; obtain⟨rfl,rfl⟩:=h;obtain⟨P,_⟩:=NJ l (D0 u s T);rw[<- F] at z;have E:=Xz S z P;have d:=RT.len E;rw[List.length_cons,Nat.add_mul] at h2;obtain⟨ws,W,Q,g3⟩:=k0g S F u s (k:=i+1) (pre:=pre++(a.eval x).cells.toList) (post:=post.drop (sz t)) m (by grind) (by grind) (fun j Y=>hpl j (by grind));refine⟨(a.eval x).cells.toList++ws,?_,⟨_,ws,rfl,RT.up E (fun k b=>⟨b.1,fun e=>b.2 (by grind)⟩),Q.mapR (fun c x h=>RT.up h (fun k b=>⟨b.1,fun e=>b.2 (by grind)⟩))⟩,by grind⟩;simp only[List.map_cons];unfold Cc;rw[hpl i (by grind)];have H:(CP (a.eval x).cells.toList (sz t)&&Nat.ble (i*sz t+sz t) (pre++post).length)=true:=by
         rw[ba];exact⟨XI d,Nat.ble_eq_true_of_le (by grind)⟩
        simp only[H,cond_true]
        grind[u0z,List.append_assoc]
       grind
      grind
     grind
    grind
   grind
theorem h0g(s:x9 X.P Γ)(S:Sat X G)(ho:G.o=st.o)(hE:EnvR X.n G st.e a)(hp:PathP p a){d T E ty s0 y0 n:Nat}{z0:Value}{aB:Ty}{f:Array (Nat×Operand)}{b:TI}{xs:List (j6 b.ty)}{fr:Bool}
  (hT:b9 Γ T=some ⟨s0,y0,z0,.sl E,aB⟩) (Y:b9 Γ E=some b) (aD:DQ st p b.ty 0 f.toList=some (xs,fr)) (hd:b9 G.o d=none) (hs:b.size=sz b.ty) (hn:f.toList.length=n) (aI:n*b.size<=16777216) :
  Mk X G a (.buildSlice T n f) ty (.os d 0) (d,.arr E fr b.ty xs 0):=by
 have m:=s E _ Y;have hU:=(s T _ hT).2.2.2.2.2;have hI:Info X.P E b.size b.bytes b.zero:=⟨m.1⟩;obtain⟨V,j,k1,k2,k3⟩:=hI.get;have F:=JJ m.2.1;have hz:b.zero.cells.size=b.size:=by simpa using F
 have t:0<b.size:=by have:=m.2.2.1; simpa using this
 let place:List (Nat×Nat):=(List.range n).map fun i=>(i*sz b.ty,sz b.ty)
 have k:∀i,i<n->place[i]?=some (i*sz b.ty,sz b.ty):=fun i hi=>by grind
 let zs:=((Array.range (n*b.size)).map (b.zero.cells[· % b.zero.cells.size]!)).toList
 have aA:zs.length=n*sz b.ty:=by simp[zs,hs]
 obtain⟨z,g1,g2,g3⟩:=k0g S ho hE hp (place:=place) (pre:=[]) (post:=zs) aD (by simp) (by grind) (fun i hi=>k i (by omega));simp only[List.nil_append] at g1;have hf:=Rv place _ zs z g1;have r:=Xw (fun i:Nat=>place[i]?) (fun i:Nat=>some (i*b.size,b.size)) _ _ _ (fun i q hi=>by
  grind) hf
 have aF:=g2.len (fun c x h=>RT.len h);obtain⟨G',h1,h2,h3,h4,h5⟩:=B0U S (E:=E) (d:=d) (us:=z.toArray) hd (by omega) (by have:=Nat.le_mul_of_pos_right n t; omega);have Q:xs.length=n:=by omega
 rw[Q] at h5;refine⟨_,G',fun aG aH W g=>?_,h2,h3,h4,h5⟩;rw[h1];have e1:f.map (fun(i,x)=>(i,a.eval x))=(f.toList.map fun q=>(q.1,a.eval q.2)).toArray:=by
  apply Array.ext';simp only[Array.toList_map]
 have u:¬n*b.size > 2 ^ 24:=by omega
 have l:∀w:World,(newRow E z.toArray).run X.P w=.ok ⟨w.heap.size,0,none⟩ (w.alloc (.cells z.toArray E)):=fun _=>rfl;have aC:V.size=b.size:=k1;simp only[execOp,e1];simp only[Instr.buildSlice,Sem.run_bind,run_underlying hU,Result.andThen,Y0 G.w j,aC,u,if_false];by_cases v:n*b.size=0
 ·have H:n=0:=by rcases Nat.mul_eq_zero.1 v with h' | h'; exact h'; omega
  have y:Array.map (fun x=>(#[]:Array Value)[x % (#[]:Array Value).size]!) (Array.range (n*b.size))=zs.toArray:=by
   have:zs.length=0:=by rw[aA,H]; simp
   rw[List.eq_nil_of_length_eq_zero this,v];simp
  simp only[v] at y ⊢;simp only[if_true,Sem.run_bind,Sem.run_pure,Result.andThen,y,r,l]
 ·have y:(Array.range (n*b.size)).map (fun x=>b.zero.cells[x % b.zero.cells.size]!)=zs.toArray:=Array.toArray_toList.symm;simp only[v,if_false,Sem.run_bind,Sem.run_pure,Result.andThen,Rt G.w j k3,y,r,l]
theorem k0x(S:Sat X G){v:AV}{u:Value}{t:Ty}{f:List (j6 t)}{k:List Nat}{q:Bool}(h:CT G.o v=some ⟨t,f,k,q⟩)(j:AVR G v u) :
  ∃p2 c b2 o2 news,u=.slice p2 f.length c/\(f.length=0∨p2=some ⟨b2,o2,none⟩)/\At G.w b2 o2 news/\AllR (RT (rg G q) G.w t) news f:=by
 have g:∀{l:Bool} {t:Ty} {c:List Value} {x:j6 t},RT (rg G l) G.w t c x->RT (rg G (l||D4 t)) G.w t c x:=fun {l t c x} h=>by
  grind[D4,RT.free,RT.up]
 unfold CT at h;split at h
 ·simp only[oi] at h; cases h;obtain⟨p,a,d,h2,h3,P⟩:=j;simp only[List.cons.injEq,and_true] at d;rcases P with rfl | ⟨b,o,ds,n,hb,e,hall⟩
  ·exact⟨p,a,0,0,[],d,.inl rfl,Rw,rfl⟩
  ·exact⟨p,a,b,o,ds,d,.inr n,e,hall.mapR (fun c x h=>g h)⟩
 ·rename_i id W;split at h
  ·rename_i E T t' xs y r;rw[ce] at h;split at h
   ·rename_i d;have d:=nb d;simp only[oi] at h; cases h;obtain⟨_,T1,aA,t1,Y,z,s,g2,Q⟩:=j;rw[r] at s;cases s;have j:=Q d;obtain⟨V,i,hA,aB⟩:=S.obs id _ r;cases hg:G.γ id with
    | none =>
      rw[hg] at i;rcases i with ⟨_,H,_,p,n⟩ | ⟨b,_,_,_,hb,_⟩
      ·have:f=[]:=List.eq_nil_of_length_eq_zero H;subst this;exact⟨p,0,0,0,[],by grind,.inl rfl,Rw,rfl⟩
      grind
    | some b =>
      rw[hg] at i;obtain⟨o0,F,m,e⟩:=i.at;rcases i with ⟨h,_⟩ | ⟨b',o1,a,cur,hb,hv2,_⟩
      ·cases h
      ·cases hb;rw[hv2] at m; cases m;exact⟨_,F,b,o0,V,by grind,.inr rfl,e,hA.mapR (fun c x h=>g h)⟩
   grind
  grind
 grind
theorem XO{K:Nat->Prop}{w:World}{t:Ty}:∀{news:List Value} {ys:List (j6 t)},AllR (RT K w t) news ys->∀u∈news,u.oneCell'=true
 | news,[],h,u,a=>by rw[show news=[] from h] at a; cases a
 | _,y :: r,⟨c,d,e,h1,h2⟩,u,a=>by
   rw[e] at a;rcases List.mem_append.1 a with a | a
   ·grind[RT.one]
   ·exact XO h2 u a
theorem i0Y{xs:Array Operand}{b:Array TypeId}{T ty:TypeId}{u v r:Value}{w':World}(f:xs.toList.map a.eval=[u,v])(h:b.toList=[T,T])(c:(Builtin.append_ #[T,T] ty #[u,v]).run X.P G.w=.ok r w') :
  ∀dst pos after g,(execOp a.eval ⟨dst,.call ⟨.builtin .append,xs,b⟩,ty,pos,after,g⟩).run X.P G.w=.ok (.value r) w':=by
 intro dst pos after g;have e:xs.map a.eval=#[u,v]:=by apply Array.ext'; simpa using f
 have d:b=#[T,T]:=Array.ext' (by omega);subst d;simp only[execOp,resolve,e];simp[invoke,builtin,c,Result.andThen]
theorem n0Q(n:x9 X.P Γ)(S:Sat X G){T E ty s0 y0 id ver:Nat}{z0:Value}{aF:Ty}{xs:Array Operand}{Ts:Array TypeId}{d:TI}{fr i:Bool}{t:Ty}{l m:List (j6 t)}{aG:List Nat}{u w:Value}{v:AV}
  (hT:b9 Γ T=some ⟨s0,y0,z0,.sl E,aF⟩) (W:b9 Γ E=some d) (s:b9 G.o id=some (.arr E fr t l ver)) (hs:d.size=sz t) (aC:Ts.toList=[T,T])
  (hx:xs.toList.map a.eval=[u,w]) (F:AVR G (.os id ver) u) (hv:CT G.o v=some ⟨t,m,aG,i⟩) (hw:AVR G v w) (hq:RR l.length m.length d.bytes) :
  Mk X G a (.call ⟨.builtin .append,xs,Ts⟩) ty (.os id (ver+1)) (id,.arr E (fr&&i) t (l++m) (ver+1)):=by
 have f:=n E _ W
 haveI:AS X.P T E:=⟨(n T _ hT).2.2.2.2.2⟩
 haveI:Info X.P E d.size d.bytes d.zero:=⟨f.1⟩
 have hz:d.zero.cells.size=d.size:=by simpa using JJ f.2.1
 obtain⟨p2,c,b2,o2,j,rfl,z,V,Y⟩:=k0x S hv hw;obtain⟨_,T1,aL,t1,aK,aH,g1,g2,g3⟩:=F;rw[s] at g1;cases g1;have F:=g3 rfl;obtain⟨cs,hO,hA,aA⟩:=S.obs id _ s;rw[<- hs] at hO;obtain⟨v',w',g',y,aD,H,Q⟩:=u0P (P:=X.P) (T:=T) (ty:=ty) (c:=c) (by have:=f.2.2.1; simpa using this) hz hO z (by rw[Y.len (fun c x h=>RT.len h),hs]) V (XO Y) hq.1 hq.2;have h:=S.put (id:=id) (ob:=.arr E (fr&&i) t (l++m) (ver+1)) (r:=v') (g:=g') (w':=w') (go:=G.γ id) ⟨(fun T cs h=>by grind),(fun T aI t' aJ aM h=>by grind),by rw[s]; rfl⟩
  (fun b hb=>⟨⟨_,s⟩,hb⟩) H (fun b hb=>by grind)
  (fun aB=>⟨cs++j,by grind[Gh.put],((Y.mapR (fun c x h=>RT.up h (fun k q=>⟨q.1,fun e=>q.2 (by grind)⟩))).app (hA.mapR (fun c x h=>RT.up h (fun k q=>⟨q.1,fun e=>q.2 (by grind)⟩)))).mapR (fun c x y=>RT.same (w:=G.w) aB.hR y),fun b e=>by
    simp only[Gh.put,if_true] at e ⊢;rcases Q with h | h
    ·exact aA b (h ▸ e)
    ·rw[h] at e; cases e; exact Nat.le_trans S.le S.size⟩)
 rw[F] at hx;refine⟨v',_,i0Y hx aC y,h.1,h.2,rfl,?_,E,fr&&i,t,l++m,ver+1,by rw[show(Gh.put G id (.arr E (fr&&i) t (l++m) (ver+1)) _ _ _).o=(id,.arr E (fr&&i) t (l++m) (ver+1)) :: G.o from rfl,lK]; simp,Nat.le_refl _,fun _=>by simp[Gh.put]⟩;obtain⟨p,c,e⟩:=aD.len;rw[e]; rfl
theorem h0h(l:x9 X.P Γ)(S:Sat X G){T E ty s0 y0 d:Nat}{z0:Value}{W:Ty}{xs:Array Operand}{Ts:Array TypeId}{f:TI}{j:Bool}{t:Ty}{m:List (j6 t)}{aA:List Nat}{w:Value}{v:AV}
  (hT:b9 Γ T=some ⟨s0,y0,z0,.sl E,W⟩) (H:b9 Γ E=some f) (hd:b9 G.o d=none) (hs:f.size=sz t) (V:Ts.toList=[T,T])
  (hx:xs.toList.map a.eval=[.slice none 0 0,w]) (hv:CT G.o v=some ⟨t,m,aA,j⟩) (hw:AVR G v w) (hq:RR 0 m.length f.bytes) :
  Mk X G a (.call ⟨.builtin .append,xs,Ts⟩) ty (.os d 0) (d,.arr E j t m 0):=by
 have i:=l E _ H
 haveI:AS X.P T E:=⟨(l T _ hT).2.2.2.2.2⟩
 haveI:Info X.P E f.size f.bytes f.zero:=⟨i.1⟩
 have hz:f.zero.cells.size=f.size:=by simpa using JJ i.2.1
 obtain⟨p2,c,b2,o2,k,rfl,u,F,Q⟩:=k0x S hv hw;obtain⟨v',w',g',q,n,y,z⟩:=u0P (P:=X.P) (T:=T) (ty:=ty) (c:=c) (by have:=i.2.2.1; simpa using this) hz (Own.nil (w:=G.w) (E:=E) (s:=f.size) (p:=none)) u (by rw[Q.len (fun c x h=>RT.len h),hs]) F (XO Q) hq.1 hq.2;simp only[Nat.zero_add,List.nil_append] at n;have h:=S.put (id:=d) (ob:=.arr E j t m 0) (r:=v') (g:=g') (w':=w') (go:=none) (RV hd) (fun _ e=>by cases e) y (fun b hb=>by grind)
  (fun Y=>⟨k,by grind[Gh.put],Q.mapR (fun c x q=>RT.same (w:=G.w) Y.hR q),fun b e=>by
    simp only[Gh.put,if_true] at e ⊢;rcases z with h | h
    ·rw[h] at e; cases e
    ·rw[h] at e; cases e; exact Nat.le_trans S.le S.size⟩)
 refine⟨v',_,i0Y hx V q,h.1,h.2,rfl,?_,E,j,t,m,0,by rw[show(Gh.put G d (.arr E j t m 0) _ _ _).o=(d,.arr E j t m 0) :: G.o from rfl,lK]; simp,Nat.le_refl _,fun _=>by simp[Gh.put]⟩;obtain⟨p,c,e⟩:=n.len;rw[e]; rfl
def Us(X:Cx)(G:Gh)(a:Act)(op:Op)(ty:TypeId)(w:Nat×Ob):Prop :=
 ∃G',(∀dst pos after g,(execOp a.eval ⟨dst,op,ty,pos,after,g⟩).run X.P G.w=.ok .skip G'.w)/\Sat X G'/\GLe G G'/\G'.o=w :: G.o
theorem RW{T ty:TypeId}{x y:Operand}{b o:Nat}{w':World}(c:a.eval x=.pointer (some ⟨b,o,none⟩))(h:(storeVar T ⟨b,o,none⟩ (a.eval y)).run X.P G.w=.ok () w') :
  ∀dst pos after g,(execOp a.eval ⟨dst,.store T x y,ty,pos,after,g⟩).run X.P G.w=.ok .skip w':=by
 intro dst pos after g;simp only[execOp,c];simp[Instr.storeAt,Instr.sureAddr,h,Result.andThen]
theorem m0t(l:x9 X.P Γ)(S:Sat X G){T T' ty id c:Nat}{x y:Operand}{f:TI}{cs vs:List AV}{v:AV}(Q:b9 Γ T=some f)(z:b9 G.o id=some (.box T' cs))(hx:AVR G (.ptr id c) (a.eval x))(hv:AVR G v (a.eval y))(hc:CQ v=some vs)
  (hl:vs.length=f.size) (n:c+vs.length<=cs.length):Us X G a (.store T x y) ty (id,.box T' (FV cs c vs)):=by
 haveI:Info X.P T f.size f.bytes f.zero:=⟨(l T _ Q).1⟩
 obtain⟨_,b,H,k⟩:=hx;obtain⟨u,i,g1,F,s,t⟩:=S.obs id _ z;rw[H] at F;cases F;obtain⟨E,h1⟩:=NJ hc hv;have q:=E.len;have m:=t.len;have j:=Ru (P:=X.P) (T:=T) (o:=c) (v:=a.eval y) rfl (by omega) h1 s (by omega);have hW:=NE G.w b (B7 i c (a.eval y).cells.toList).toArray;have V:=setRow_heap G.w b i.toArray (B7 i c (a.eval y).cells.toList).toArray T' (0,0) s;have h:=S.put (id:=id) (ob:=.box T' (FV cs c vs)) (r:=G.ρ id) (g:=some b) (w':=G.w.setRow b (B7 i c (a.eval y).cells.toList).toArray) (go:=some b) ⟨(fun T cs h=>⟨rfl,_,_,rfl⟩),(fun T W t' Y aA h=>by grind),by rw[z]; rfl⟩
  (fun u e=>by grind) (WE.of_wr hW) (fun u e=>.inl e) (fun d=>⟨b,_,by simp[Gh.put],by grind[Gh.put],V,XH (t.mono d) (E.mono d) n⟩)
 exact⟨_,RW k j,h.1,h.2,rfl⟩
theorem x0L{a vs:List Value}{o k:Nat}(h:o+vs.length<=k)(c:k<=a.length):(B7 a o vs).take k=B7 (a.take k) o vs:=by
 unfold B7;have b:(List.take o a).length=o:=by rw[List.length_take]; omega
 rw[List.append_assoc,List.take_append,List.take_append,b,List.append_assoc];congr 1
 ·rw[List.take_of_length_le (by rw[b]; omega),List.take_take]; congr 1; omega
 ·congr 1
  ·rw[List.take_of_length_le (by omega)]
  ·rw[List.drop_take]; congr 1; omega
theorem z0H{a vs:List Value}{o k:Nat}(h:o<=a.length):(B7 a (o+k) vs).drop o=B7 (a.drop o) k vs:=by
 grind[B7,List.append_assoc,List.drop_append,List.drop_take,List.length_take,List.drop_drop,min,Nat.add_assoc]
theorem x0W{cs vs:List Value}{o:Nat}(h:o+vs.length<=cs.length):(B7 cs o vs).length=cs.length:=by
 grind[B7,List.length_append,List.length_take,List.length_drop]
theorem m0s(aD:x9 X.P Γ)(S:Sat X G){T E ty id ver k d:Nat}{x y:Operand}{u:TI}{fr V:Bool}{t:Ty}{l:List (j6 t)}{vs:List AV}{v:AV}{z:j6 t}(hT:b9 Γ T=some u)(ho:b9 G.o id=some (.arr E fr t l ver))(hx:AVR G (.pel id ver k (sz t) d) (a.eval x))
  (hv:AVR G v (a.eval y)) (hc:CQ v=some vs) (hl:vs.length=u.size) (aT:d+vs.length<=sz t) (j:k<l.length) (hd:F8 G.o 24 t (FV (r5 fr t (l.getD k (a6 t))) d vs)=some (z,[],V)):Us X G a (.store T x y) ty (id,.arr E (fr&&V) t (l.set k z) ver):=by
 haveI:Info X.P T u.size u.bytes u.zero:=⟨(aD T _ hT).1⟩
 obtain⟨_,T1,aQ,t1,aP,aM,g1,g2,g3⟩:=hx;rw[ho] at g1;cases g1;obtain⟨b,o,n0,c0,W,aB⟩:=g3 rfl;obtain⟨cs,hO,hA,aR⟩:=S.obs id _ ho;obtain⟨hV,h1⟩:=NJ hc hv;have aJ:=hV.len;rcases hO with ⟨_,hn,_⟩ | ⟨b',o',cap,cur,hb,hv2,k1,k2,k3,k4,k5⟩
 ·omega
 have q:b'=b/\o'=o:=by rw[W] at hv2; simp only[Value.slice.injEq,oi,Addr.mk.injEq] at hv2; exact⟨hv2.1.1.symm,hv2.1.2.1.symm⟩
 obtain⟨q,aI⟩:=q;subst q; subst aI;obtain⟨i,c,f,e,hp,hR⟩:=hA.get (fun c x h=>RT.len h) j;have aG:=RT.len hR;have Y:(k+1)*sz t<=l.length*sz t:=Nat.mul_le_mul_right _ j;rw[Nat.add_mul] at Y;have aL:l.length*sz t<=cap*sz t:=Nat.mul_le_mul_right _ k2;have hB:Blk G.w b' cur.toList E:=by unfold Blk; rw[Array.toArray_toList]; exact k1
 have aK:cur.toList.length=o'+cap*sz t:=by omega
 have aA:=Ru (P:=X.P) (T:=T) (o:=o'+(k*sz t+d)) (v:=a.eval y) rfl (by omega) h1 hB (by omega);have hW:=NE G.w b' (B7 cur.toList (o'+(k*sz t+d)) (a.eval y).cells.toList).toArray;have aH:=setRow_heap G.w b' cur (B7 cur.toList (o'+(k*sz t+d)) (a.eval y).cells.toList).toArray E (0,0) k1;have hD:=AU hR;have aF:l.getD k (a6 t)=l[k]:=by simp[j]
 rw[aF] at hd;have aC:=hD.len;have F:=Xz S hd (XH hD hV (by omega));have n:=AllR.set (R:=RT (rg G (fr&&V)) G.w t) (s:=sz t) (fun c x h=>RT.len h) (RT.up F (fun k j=>⟨j.1,fun e=>j.2 (by grind)⟩)) (hA.mapR (fun c x h=>RT.up h (fun k j=>⟨j.1,fun e=>j.2 (by grind)⟩))) j;have m:cs.take (k*sz t)++B7 c d (a.eval y).cells.toList++cs.drop ((k+1)*sz t)=((B7 cur.toList (o'+(k*sz t+d)) (a.eval y).cells.toList).drop o').take (l.length*sz t):=by
  rw[z0H (by omega),x0L (by omega) (by rw[List.length_drop]; omega),k5,e];have e1:(i++c++f).take (k*sz t)=i:=by rw[List.append_assoc,<- hp,List.take_left]
  have e2:(i++c++f).drop ((k+1)*sz t)=f:=by
   have:(k+1)*sz t=(i++c).length:=by rw[List.length_append,hp,aG,Nat.add_mul]; omega
   rw[this,List.drop_left]
  rw[e1,e2];unfold B7;rw[<- hp];have f1:List.take (i.length+d) (i++c++f)=i++c.take d:=by
   rw[List.append_assoc,List.take_length_add_append,List.take_append_of_le_length (by omega)]
  have f2:List.drop (i.length+d+(a.eval y).cells.toList.length) (i++c++f)=c.drop (d+(a.eval y).cells.toList.length)++f:=by
   rw[List.append_assoc,Nat.add_assoc,List.drop_length_add_append,List.drop_append_of_le_length (by omega)]
  rw[f1,f2];simp
 rw[m] at n;have h:=S.put (id:=id) (ob:=.arr E (fr&&V) t (l.set k z) ver) (r:=G.ρ id) (g:=some b') (w':=G.w.setRow b' (B7 cur.toList (o'+(k*sz t+d)) (a.eval y).cells.toList).toArray) (go:=some b') ⟨(fun T cs h=>by grind),(fun T aN t' aO aS h=>by grind),by rw[ho]; rfl⟩
  (fun b2 H=>by grind) (WE.of_wr hW) (fun b2 H=>.inl H)
  (fun Q=>⟨_,by
    simp only[Gh.put,if_true,List.length_set];exact .inr ⟨b',o',cap,_,rfl,hv2,aH,k2,k3,by grind[List.size_toArray,x0W],by grind⟩,n.mapR (fun c x W=>RT.same (w:=G.w) Q.hR W),fun b e=>by grind[Gh.put]⟩)
 exact⟨_,RW aB aA,h.1,h.2,rfl⟩
theorem s0I(aB:x9 X.P Γ)(S:Sat X G)(ho:G.o=st.o)(hE:EnvR X.n G st.e a)(hp:PathP p a){op:Op}{ty:TypeId}{d:Nat}{q:Prop}{r:AV}{w:Nat×Ob}{l:List Nat}
  (h:Ba Γ st p d op=some (q,r,w,l)) (hq:q):Mk X G a op ty r w:=by
 unfold Ba at h;split at h
 ·split at h
  ·rename_i ti hT;split at h
   ·rename_i Y hz;rw[ce] at h
    grind[oi,pj,p0n,FW]
   grind
  grind
 ·split at h
  ·rename_i v hv;split at h
   ·rename_i Y hc;rw[ce] at h
    grind[oi,pj,w0A,FW]
   grind
  grind
 ·split at h
  ·rename_i f n g n' _ _ _ E _ j s Q;split at h
   ·rename_i x h4;split at h
    ·rename_i Te t aC;rw[ce] at h
     grind[oi,pj,j0p,FW]
    ·split at h
     ·rename_i Y h5;split at h
      ·rename_i z H W;rw[ce] at h;split at h
       ·rename_i b;rw[ba] at b
        grind[oi,pj,i0p,FW,nb]
       grind
      grind
     grind
   grind
  grind
 ·split at h
  ·rename_i j;split at h
   ·rename_i x s;split at h
    ·rename_i xs H Q;rw[ce] at h;split at h
     ·rename_i b;simp only[ba] at b
      grind[oi,pj,h0g,FW,nb,Nat.le_of_ble_eq_true]
     grind
    grind
   grind
  grind
 ·split at h
  ·rename_i id aD v T T2 j s;split at h
   ·rename_i _ _ _ E _ E' fr t l' aA t' m V H Q h4 h5;split at h
    ·rename_i x m' W h7;rw[ce] at h;split at h
     ·rename_i b;simp only[ba] at b;simp only[oi,pj] at h;obtain⟨rfl,rfl,rfl,_⟩:=h;obtain⟨e,rfl⟩:=DN h7;cases e;have e1:=nb b.1.1.1;have e2:=nb b.1.1.2;have e3:=nb b.1.2;have k:=nb b.2;subst e1; subst e2; subst k;obtain⟨u,F,e,y,w,c,e',hw,i⟩:=AX hE hp j;have i:c=[]:=i
      grind[n0Q]
     grind
    grind
   grind
  ·rename_i v T T2 j s;split at h
   ·rename_i _ _ _ E _ t m V H Q h5;split at h
    ·rename_i x W;rw[ce] at h;split at h
     ·rename_i b;simp only[ba] at b;simp only[oi,pj] at h;obtain⟨rfl,rfl,rfl,_⟩:=h;have k:=nb b.2;subst k;obtain⟨u,F,e,y,w,c,e',hw,i⟩:=AX hE hp j;have i:c=[]:=i;have y:u=_:=y
      grind[h0h,FW,nb]
     grind
    grind
   grind
  grind
 grind
theorem s0E(c:x9 X.P Γ)(S:Sat X G)(ho:G.o=st.o)(f:EnvR X.n G st.e a)(d:PathP p a){u:Op}{ty:TypeId}{q:Prop}{w:Nat×Ob}{l:List Nat}
  (h:Ce Γ st p u=some (q,w,l)) (W:q):Us X G a u ty w:=by
 unfold Ce at h;split at h
 ·split at h
  ·rename_i id i v V j g m;split at h
   ·rename_i T' cs F y r;rw[ce] at h;split at h
    ·rename_i b;rw[ba] at b;simp only[oi,pj] at h;obtain⟨_,rfl,_⟩:=h;exact m0t c S m (by grind) (D0 f d j) (D0 f d g) r (nb b.1) (Nat.le_of_ble_eq_true b.2)
    grind
   grind
  ·rename_i id Q k s i v V j g m;split at h
   ·rename_i E fr t l' x F y r;split at h
    ·rename_i z fl Y;rw[ce] at h;split at h
     ·rename_i b;simp only[ba] at b;simp only[oi,pj] at h;obtain⟨rfl,rfl,_⟩:=h;have H:=nb b.1.1.1;have T:=nb b.1.1.2;subst H; subst T;exact m0s c S m (by grind) (D0 f d j) (D0 f d g) r (nb b.1.2) (Nat.le_of_ble_eq_true b.2) W (by grind)
     grind
    grind
   grind
  grind
 grind
end
inductive Par
 | dat (t:Ty)
 | agg (t:Ty)
 | io (T:TypeId) (t:Ty)
 | fn (f:FuncId) (c:Ty)
 | nof (f:FuncId)
 | nil
 | os (E:TypeId) (t:Ty)
@[reducible] def N0h:Par->Type
  | .dat t=>j6 t
  | .agg t=>j6 t
  | .io _ t=>j6 t
  | .fn _ c=>j6 c
  | .nof _=>Unit
  | .nil=>Unit
  | .os _ t=>List (j6 t)
@[reducible] def s9:List Par->Type
  | []=>Unit
  | p :: r=>N0h p×s9 r
@[reducible] def B6:List Par->Type
  | []=>Unit
  | .io _ t :: _=>j6 t
  | _ :: r=>B6 r
structure FY(ps:List Par) where
 q:Prop
 r:AV
 z:B6 ps
structure Ct where
 f:FuncId
 ps:List Par
 res:s9 ps->FY ps
def ArgsR(K:Nat->Prop)(w:World):Option Nat->(ps:List Par)->s9 ps->List Value->Prop
 | go,[],_,vs=>vs=[]/\go=none
 | go,.dat t :: r,x,vs=>∃v us,vs=v :: us/\RT K w t [v] x.1/\ArgsR K w go r x.2 us
 | go,.agg t :: r,x,vs=>∃cs us,vs=.agg cs.toArray :: us/\RT K w t cs x.1/\ArgsR K w go r x.2 us
 | go,.fn f c :: r,x,vs=>∃cs us,vs=.func (.func f) #[] cs.toArray :: us/\RT K w c cs x.1/\ArgsR K w go r x.2 us
 | go,.nof f :: r,x,vs=>∃us,vs=.func (.func f) #[] #[] :: us/\ArgsR K w go r x.2 us
 | go,.nil :: r,x,vs=>∃us,vs=.pointer none :: us/\ArgsR K w go r x.2 us
 | go,.io T t :: r,x,vs=>∃b cs us,vs=.pointer (some ⟨b,0,none⟩) :: us/\go=some b/\¬K b/\Blk w b cs T/\RT K w t cs x.1/\ArgsR K w none r x.2 us
 | go,.os E t :: r,x,vs=>∃v cs us,vs=v :: us/\(∀b,go=some b->¬K b)/\v.oneCell'=true/\Own w E (sz t) go v x.1.length cs/\AllR (RT K w t) cs x.1/\ArgsR K w none r x.2 us
def F4:List Par->Bool
 | []=>false
 | .os _ _ :: _=>true
 | .dat _ :: r=>F4 r
 | .agg _ :: r=>F4 r
 | .fn _ _ :: r=>F4 r
 | .nof _ :: r=>F4 r
 | .nil :: r=>F4 r
 | .io _ _ :: r=>F4 r
def IOR(K:Nat->Prop)(w:World)(go:Option Nat):(ps:List Par)->B6 ps->Prop
 | [],_=>True
 | .io T t :: _,z=>∃b cs,go=some b/\Blk w b cs T/\RT K w t cs z
 | .dat _ :: r,z=>IOR K w go r z
 | .agg _ :: r,z=>IOR K w go r z
 | .fn _ _ :: r,z=>IOR K w go r z
 | .nof _ :: r,z=>IOR K w go r z
 | .nil :: r,z=>IOR K w go r z
 | .os _ _ :: r,z=>IOR K w go r z
/- The result: data lead Z9 K; each row that is handed over lies in a block of its own of the list, or has no block. -/
mutual
def ResR(K:Bool->Nat->Prop)(w:World):AV->Value->List (Option Nat)->Prop
 | .v x,u,gs=>u=x/\gs=[]
 | .d fr t x,u,gs=>RT (K fr) w t [u] x/\gs=[]
 | .agg xs,u,gs=>∃us:List Value,u=.agg us.toArray/\ResRs K w xs us gs
 | .tup xs,u,gs=>∃us:List Value,u=.tuple us.toArray/\ResRs K w xs us gs
 | .ob T xs,u,gs=>∃b us gs',gs=some b :: gs'/\u=.pointer (some ⟨b,0,none⟩)/\Blk w b us T/\ResRs K w xs us gs'
 | .ow T fr t xs,u,gs=>∃g cs,gs=[g]/\u.oneCell'=true/\Own w T (sz t) g u xs.length cs/\AllR (RT (K fr) w t) cs xs
 | _,_,_=>False
def ResRs(K:Bool->Nat->Prop)(w:World):List AV->List Value->List (Option Nat)->Prop
 | [],us,gs=>us=[]/\gs=[]
 | a :: r,us,gs=>∃u us' g1 g2,us=u :: us'/\gs=g1++g2/\ResR K w a u g1/\ResRs K w r us' g2
end
def CU:List (Option Nat)->Prop
 | []=>True
 | g :: r=>(∀b,g=some b->some b ∉ r)/\CU r
def NM(fr:Bool)(K:Nat->Prop)(w w':World)(gs:List (Option Nat))(k:Nat):Prop:=((fr=false/\K k)∨w.heap.size<=k)/\UFg w' w.heap.size k/\some k ∉ gs
def Ok(P:Program)(c:Ct):Prop:=Ar P c.f=true/\∀(x:s9 c.ps),(c.res x).q->∀(w:World) (vs:List Value) (go:Option Nat) (K:Nat->Prop),(∀k,K k->k<w.heap.size)->ArgsR K w go c.ps x vs ->
 Calls P c.f vs.toArray w fun en w'=>∃v gs,en=.returned v/\WE go w w'/\CU gs/\(∀b,some b∈gs->w.heap.size<=b∨(F4 c.ps=true/\go=some b))/\ResR (fun fr=>NM fr K w w' gs) w' (c.res x).r v gs /\
  IOR (fun k=>(K k∨w.heap.size<=k)/\UFg w' w.heap.size k/\some k ∉ gs/\go≠some k) w' go c.ps (c.res x).z
def Cf(o:List (Nat×Ob)):(p:Par)->AV->Option (N0h p×List Nat×Option Nat)
 | .dat t,a=>match F8 o 24 t [a] with
   | some (x,l,_)=>some (x,l,none)
   | none=>none
 | .agg t,.agg cs=>match F8 o 24 t cs with
   | some (x,l,_)=>some (x,l,none)
   | none=>none
 | .fn f c,.fn f' cs=>bif Nat.beq f f' then(match F8 o 24 c cs with
   | some (x,l,_)=>some (x,l,none)
   | none=>none) else none
 | .nof f,.fn f' []=>bif Nat.beq f f' then some ((),[],none) else none
 | .io T t,.ptr id 0=>match b9 o id with
   | some (.box T' cs)=>bif Nat.beq T T' then(match F8 o 24 t cs with
     | some (x,[],_)=>some (x,[],some id)
     | _=>none) else none
   | _=>none
 | .os E t,.os id ver=>match b9 o id with
   | some (.arr E' _ t' xs ver')=>bif Nat.beq E E'&&Nat.beq ver ver' then(match Y1 (.sl t') (.sl t) xs with
     | some x=>some (x,[],some id)
     | none=>none) else none
   | _=>none
 | .nil,.v (.pointer none)=>some ((),[],none)
 | _,_=>none
def L4(o:List (Nat×Ob)):(ps:List Par)->List AV->Option (s9 ps×List Nat×Option Nat)
 | [],[]=>some ((),[],none)
 | p :: r,a :: as'=>match Cf o p a with
   | some (x,l,i)=>match L4 o r as' with
     | some (y,m,j)=>match i,j with
       | none,j=>some ((x,y),l++m,j)
       | some i,none=>some ((x,y),l++m,some i)
       | _,_=>none
     | none=>none
   | none=>none
 | _,_=>none
theorem FZ{o:List (Nat×Ob)}:∀(n:Nat) {t:Ty} {cs:List AV} {x:j6 t} {l:List Nat} {fl:Bool},F8 o n t cs=some (x,l,fl)->∀id∈l,∃ob,b9 o id=some ob:=by
 intro n
 induction n with
 | zero=>grind[F8]
 | succ n i =>
   intro t cs x l fl h;have g:∀(t:Ty) (c:AV) (x:j6 t),AT o (F8 o n) t c=some (x,l,fl)->∀id∈l,∃ob,b9 o id=some ob:=by
    intro t c x h;unfold AT at h;split at h
    ·grind
    ·grind
    ·grind
    ·grind
    ·cases h
   have f:∀(t:Ty) (x:j6 t) (r:Option (j6 t×List Nat×Bool)),r=some (x,l,fl)->r=(match(generalizing:=false) cs with | [c]=>AT o (F8 o n) t c | _=>none)->∀id∈l,∃ob,b9 o id=some ob:=by
    intro t x r e d;rw[e] at d;have h:=d.symm;split at h
    ·grind
    ·cases h
   cases t with
   | pr a b =>
     unfold F8 at h
     grind
   | _=>exact f _ _ _ h rfl
def Y3(G:Gh)(ids:List Nat)(k:Nat):Prop:=G.K k∨∃id∈ids,G.γ id=some k
theorem JS{X:Cx}{G:Gh}(S:Sat X G){all:List Nat}(v:∀id∈all,∃ob,b9 G.o id=some ob):∀{ps:List Par} {as':List AV} {us:List Value} {x:s9 ps} {l:List Nat} {io:Option Nat},L4 G.o ps as'=some (x,l,io)->(∀id∈l,id∈all)->(∀i,io=some i->i ∉ all)->AVRs G as' us ->
  (∀id∈l,∃ob,b9 G.o id=some ob)/\∃go,ArgsR (Y3 G all) G.w go ps x us/\((io=none/\go=none)∨(∃id b T cs,io=some id/\go=some b/\b9 G.o id=some (.box T cs)/\G.γ id=some b)∨∃id E fr t xs ver,io=some id/\go=G.γ id/\b9 G.o id=some (.arr E fr t xs ver)/\F4 ps=true)
 | [],[],us,x,l,io,h,hl,hio,hA=>by
   simp only[L4,oi,pj] at h;obtain⟨_,rfl,rfl⟩:=h;exact⟨(fun id h=>by cases h),none,⟨hA,rfl⟩,.inl ⟨rfl,rfl⟩⟩
 | [],_ :: _,us,x,l,io,h,hl,hio,hA=>by grind[L4]
 | _ :: _,[],us,x,l,io,h,hl,hio,hA=>by grind[L4]
 | p :: r,a :: as',us,x,l,io,h,hl,hio,hA=>by
   obtain⟨u,q,rfl,F,aC⟩:=hA;have hK:∀k,G.K k->Y3 G all k:=fun k hk=>.inl hk;simp only[L4] at h;split at h
   ·rename_i x1 l1 i1 d;split at h
    ·rename_i y m j Y;have hx:x=(x1,y)/\l=l1++m/\((i1=none/\io=j)∨(∃i,i1=some i/\j=none/\io=some i)):=by
      split at h
      ·grind
      ·grind
      ·cases h
     obtain⟨rfl,rfl,n⟩:=hx;have aB:∀id∈l1,id∈all:=fun id P=>hl id (by grind);have hm:∀id∈m,id∈all:=fun id P=>hl id (by grind);have hB:∀id∈l1,∀b,G.γ id=some b->Y3 G all b:=fun id P b Q=>.inr ⟨id,aB id P,Q⟩;obtain⟨aI,go,V,s⟩:=JS S v Y hm (fun i hi=>by
      grind) aC
     have f:(∀id∈l1,∃ob,b9 G.o id=some ob)->∀id∈l1++m,∃ob,b9 G.o id=some ob:=fun h id P=>by
      grind
     unfold Cf at d;split at d
     ·split at d
      ·rename_i x0 l0 f0 z;simp only[oi,pj] at d;obtain⟨rfl,rfl,rfl⟩:=d;refine⟨f (FZ 24 z),go,⟨u,q,rfl,RT.up (DO S hK 24 z hB ⟨u,[],rfl,F,rfl⟩) (fun k h=>h.1),V⟩,?_⟩;rcases n with ⟨_,e⟩ | ⟨i',e,_⟩
       ·rw[e]; exact s
       grind
      grind
     ·split at d
      ·rename_i x0 l0 f0 z;simp only[oi,pj] at d;obtain⟨rfl,rfl,rfl⟩:=d;obtain⟨cs,rfl,g⟩:=F;refine⟨f (FZ 24 z),go,⟨cs,q,rfl,RT.up (DO S hK 24 z hB g) (fun k h=>h.1),V⟩,?_⟩;rcases n with ⟨_,e⟩ | ⟨i',e,_⟩
       ·rw[e]; exact s
       grind
      grind
     ·rw[ce] at d;split at d
      ·rename_i hf;split at d
       ·rename_i x0 l0 f0 z;simp only[oi,pj] at d;obtain⟨rfl,rfl,rfl⟩:=d;obtain⟨cs,rfl,g⟩:=F;refine⟨f (FZ 24 z),go,⟨cs,q,by simp_all,RT.up (DO S hK 24 z hB g) (fun k h=>h.1),V⟩,?_⟩;rcases n with ⟨_,e⟩ | ⟨i',e,_⟩
        ·rw[e]; exact s
        grind
       grind
      grind
     ·rw[ce] at d;split at d
      ·rename_i hf;simp only[oi,pj] at d;obtain⟨_,rfl,rfl⟩:=d;obtain⟨cs,rfl,g⟩:=F;have g:cs=[]:=g;subst g;refine⟨f (fun id h=>by cases h),go,⟨q,by simp_all,V⟩,?_⟩;rcases n with ⟨_,e⟩ | ⟨i',e,_⟩
       ·rw[e]; exact s
       grind
      grind
     ·rename_i T t id _;split at d
      ·rename_i T' cs H;rw[ce] at d;split at d
       ·rename_i hT;have hT:=nb hT;subst hT;split at d
        ·rename_i x0 f0 z;simp only[oi,pj] at d;obtain⟨rfl,rfl,rfl⟩:=d;rcases n with ⟨e,_⟩ | ⟨i',e,rfl,rfl⟩
         ·cases e
         cases e;obtain⟨_,b,Q,rfl⟩:=F;obtain⟨b',vs,W,g2,g3,g4⟩:=S.obs id _ H;rw[Q] at g2;cases g2;rcases s with ⟨_,rfl⟩ | ⟨_,_,_,_,e,_⟩ | ⟨_,_,_,_,_,_,e,_⟩
         ·refine⟨f (fun id h=>by cases h),some b,⟨b,vs,q,rfl,rfl,?_,g3,RT.up (DO S hK 24 z hB g4) (fun k h=>h.1),V⟩,.inr (.inl ⟨id,b,T,cs,rfl,rfl,H,W⟩)⟩;rintro(h | ⟨i2,Y,h3⟩)
          ·exact S.imm id _ b H W h
          ·obtain⟨aA,h4⟩:=v i2 Y;have:=S.inj i2 id _ _ b h4 H h3 W
           grind
         ·cases e
         grind
        grind
       grind
      grind
     ·rename_i E t id ver _;split at d
      ·rename_i E' fr t' xs aG H;rw[ce] at d;split at d
       ·rename_i Q;rw[ba] at Q;have e1:=nb Q.1;have e2:=nb Q.2;subst e1; subst e2;split at d
        ·rename_i x0 hc;simp only[oi,pj] at d;obtain⟨rfl,rfl,rfl⟩:=d;rcases n with ⟨e,_⟩ | ⟨i',e,rfl,rfl⟩
         ·cases e
         cases e;obtain⟨et,rfl⟩:=DN hc;cases et;obtain⟨aF,T1,aK,t1,aJ,aH,W,g2,g3⟩:=F;rw[H] at W;cases W;have F:=g3 rfl;obtain⟨cs,hO,aD,_⟩:=S.obs id _ H;rcases s with ⟨_,rfl⟩ | ⟨_,_,_,_,e,_⟩ | ⟨_,_,_,_,_,_,e,_⟩
         ·refine⟨f (fun id h=>by cases h),G.γ id,⟨u,cs,q,rfl,?_,aF,by grind,aD.mapR (fun c x h=>RT.up h (fun k hk=>.inl hk.1)),V⟩,.inr (.inr ⟨id,_,fr,_,_,_,rfl,rfl,H,rfl⟩)⟩;intro b hg;rintro(h | ⟨i2,Y,h3⟩)
          ·exact S.imm id _ b H hg h
          ·obtain⟨aA,h4⟩:=v i2 Y;have:=S.inj i2 id _ _ b h4 H h3 hg
           grind
         ·cases e
         grind
        grind
       grind
      grind
     ·simp only[oi,pj] at d;obtain⟨_,rfl,rfl⟩:=d;have F:u=.pointer none:=F;subst F;refine⟨f (fun id h=>by cases h),go,⟨q,rfl,V⟩,?_⟩;rcases n with ⟨_,e⟩ | ⟨i',e,_⟩
      ·rw[e]; exact s
      grind
     grind
    grind
   grind
end Go.Proofs.Xv
end
